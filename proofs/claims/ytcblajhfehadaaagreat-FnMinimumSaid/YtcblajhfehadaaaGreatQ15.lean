/-
 Shared texts (Q15).
-/
import Derived.Test.YtcblajhfehadaaaGreatQ14
import Derived.Test.YtcblajhfehadaaaGreatQ7
import Derived.Test.YtcblajhfehadaaaGreatQ2
import Derived.Lib.Overlaps
import Derived.Lib.AppendZerosOnto
import Derived.Shelf.Spec.SlicesInsert
import Derived.Laws.CopyOwn
import Derived.Test.YtcblajhfehadaaaGreatQ4
import Derived.Test.YtcblajhfehadaaaGreatQ8
set_option maxRecDepth 100000
set_option maxHeartbeats 4000000
namespace Go.Proofs.YtcblajhfehadaaaGreat
open Go.RowKit Go.Joins Go.SX
noncomputable def curC (p:Nat):List C:=[.cur p 0,.cur p 1,.cur p 2]
noncomputable def asCur (l:List C):Option Nat :=
 match l with
 | [.cur a i,.cur b j,.cur c k]=>bi (Nat.beq a b) (bi (Nat.beq a c) (bi (Nat.beq i 0) (bi (Nat.beq j 1) (bi (Nat.beq k 2) (some a) none) none) none) none) none
 | _=>none
theorem asCur_inv {l:List C} {p:Nat} (h:asCur l = some p):l = curC p:=by
 unfold asCur at h
 split at h
 ·obtain ⟨h1,h⟩:=bi_inv h
  obtain ⟨h2,h⟩:=bi_inv h
  obtain ⟨h3,h⟩:=bi_inv h
  obtain ⟨h4,h⟩:=bi_inv h
  obtain ⟨h5,h⟩:=bi_inv h
  injection h with h
  rw [← beq_inv h1,← beq_inv h2,beq_inv h3,beq_inv h4,beq_inv h5,h]
  rfl
 ·cases h
noncomputable def isCode (c:C):Bool:=match c with | .code=>true | _=>false
noncomputable def orNew (l:List V) (st:St):Option R :=
 ob (one l) fun c=>bi (isCode c) (alloc st (curC 0) pC) none
noncomputable def orBelow (drw:Drw) (l:List V) (st:St):Option R :=
 ob (two l) fun q=>ob (cPtr q.1) fun a=>ob (cInt q.2) fun i=>bi (Nat.beq a.2 0) (Int.casesOn i (fun m=>bi (Nat.ble 1 m) (bi (Nat.ble m 256)
  (ob (st.mem.get a.1) fun b=>ob (asCur b.cells) fun p =>
   some ⟨@Option.rec Nat (fun _=>V) (.s (.c (.dr 0 p m))) (fun x=>vI (Int.ofNat x)) (drw.tab p m),⟨st.mem.set a.1 (some ⟨curC (Nat.add p 1)⟩),st.nb,st.nt⟩,[a.1],some [a.1]⟩) none) none) (fun _=>none)) none
section
variable {K:Toks} {E F:Env} {w wr u:World} {st:St} {r:R} {x:Value}
theorem pre_below (hp:Pre K E w st r) (hb:Below w.heap.size w wr):Pre K E wr st r :=
 ⟨gi_grow hp.gi rfl rfl (fun k p s hk=>Nat.lt_of_lt_of_le (hp.gi.low k p s hk) hb.size) hb.size (fun k _ s hk _=>⟨k,s,hk⟩) (fun b hlt _=>hb.block b hlt),
  fun k b hi hk=>blk_kept (hp.blk k b hi hk) (.refl E) (fun p s hr=>hb.block p (hp.gi.low k p s hr)),hp.inj,hp.newB,hp.newT⟩
theorem out_behind (hb:Below w.heap.size w wr) (h:Out K E wr st r F u x):Out K E w st r F u x :=
 ⟨⟨h.step.le,h.step.newB,h.step.newT,h.step.os.trans hb.os,h.step.tape.trans hb.tape,h.step.output.trans hb.output,Nat.le_trans hb.size h.step.size,
  fun b hlt hn=>(h.step.kept b (Nat.lt_of_lt_of_le hlt hb.size) hn).trans (hb.block b hlt),fun k p s h1 h2 h3=>(h.step.fresh k p s h1 h2 h3).imp (fun g=>Nat.le_trans hb.size g) id,h.step.gi⟩,h.val,h.blk,h.inj⟩
theorem out_write {k0 g:Nat} {b1:Blk} {v:V} {rd:Option (List Nat)} {arr:Array Value} {ty sz:Nat} (hst:StOk st) (h0:k0 < st.nb)
 (hp:Pre K E w st ⟨v,⟨st.mem.set k0 (some b1),st.nb,st.nt⟩,[k0],rd⟩) (hrho:E.rho k0 = some (g,sz)) (hf:Frame (fun b=>b = g) w u)
 (hu:u.heap[g]? = some (.cells arr ty (0,0))) (hsz:arr.size = sz) (hr:RelF E b1.cells arr.toList) (hv:RelV E v x) :
 Out K E w st ⟨v,⟨st.mem.set k0 (some b1),st.nb,st.nt⟩,[k0],rd⟩ E u x:=by
 have hk8:k0 ≤ 8388608:=by have:=hst.nb;omega
 have hget:(T.set st.mem k0 (some b1)).get k0 = some b1:=by rw [get_set _ _ _ _ hk8,if_pos rfl]
 have only:∀ k,(k ∈ [k0] ∨ st.nb ≤ k∧k < st.nb) → k = k0:=by
  intro k hk
  rcases hk with hk | hk
  ·simpa using hk
  ·omega
 refine ⟨⟨.refl E,fun k h=>absurd rfl h,fun j h=>absurd rfl h,hf.os,hf.tape,hf.output,hf.size,fun b hlt hn=>hf.block b hlt (fun e=>?_),fun k p s h1 h2=>by have:k < st.nb:=h2;omega,?_⟩,hv,
  fun k b hk hg=>?_,fun k k' b b' p s s' hk hk' _ _ _ _=>?_⟩
 ·subst e;exact hn k0 (by simp) sz hrho
 ·refine gi_grow hp.gi rfl rfl (fun k p s hk=>Nat.lt_of_lt_of_le (hp.gi.low k p s hk) hf.size) hf.size (fun k _ s hk _=>⟨k,s,hk⟩) (fun b hlt hn=>hf.block b hlt (fun e=>?_))
  subst e;exact hn k0 sz hrho
 ·have e:=only k hk
  subst e
  have hg':(T.set st.mem k (some b1)).get k = some b:=hg
  rw [hget] at hg'
  injection hg' with hg'
  subst hg'
  exact ⟨g,sz,arr,ty,hrho,hu,hsz,hr⟩
 ·rw [only k hk,only k' hk']
theorem eff_write {k0:Nat} {b0 b1:Blk} {v:V} (hst:StOk st) (h0:st.mem.get k0 = some b0):Eff st ⟨v,⟨st.mem.set k0 (some b1),st.nb,st.nt⟩,[k0],some [k0]⟩:=by
 have hlt:=hst.lt h0
 have hk8:k0 ≤ 8388608:=by have:=hst.nb;omega
 refine ⟨Nat.le_refl _,Nat.le_refl _,fun k hk _=>?_,fun k hk=>?_,⟨hst.nb,fun k hk=>?_⟩,fun l hl k hk=>by injection hl with hl;rw [← hl];exact hk⟩
 ·show (T.set _ _ _).get k = _
  rw [get_set _ _ _ _ hk8,if_neg (fun e=>hk (by simp [e]))]
 ·simp at hk;subst hk;exact ⟨hlt,b0,h0⟩
 ·show (T.set _ _ _).get k = none
  rw [get_set _ _ _ _ hk8,if_neg (by have:st.nb ≤ k:=hk;omega)];exact hst.dom k hk
end
section
variable {val:X → Rat} {drw:Drw}
theorem cur_rel {E:Env} {A:Option Addr} {n c:Nat} {y:Nat → Int} (h:E.fix = fixOf A n c y) (p:Nat) :
 RelL E (curC p) [.slice A n c,.int .i64 (stp n y p).1,.int .i64 (stp n y p).2]:=by
 refine ⟨⟨?_,?_,?_⟩,⟨?_,?_,?_⟩,⟨?_,?_,?_⟩,trivial⟩ <;> first | (rw [h];rfl) | (intro a e;cases e)
theorem orNew_ok:OrcOne Tryz.prog (toks val drw) 57 orNew:=by
 intro vl st r hr hst
 obtain ⟨c,h1,hr⟩:=ob_inv hr
 obtain ⟨h2,hr⟩:=bi_inv hr
 obtain ⟨hb,rfl⟩:=alloc_inv hr
 refine ⟨eff_alloc hst hb,Tryz.call57,fun E w vs hrel hp=>?_⟩
 obtain ⟨v,rfl,hv⟩:=one_inv h1 hrel
 have hc:c = .code:=by
  unfold isCode at h2
  split at h2
  ·rfl
  ·cases h2
 rw [hc] at hv
 obtain ⟨hv,_,_⟩:=hv
 obtain ⟨G,hG,A,n,cp,y,hfix,hbe,hby,hn,hfoot,hdr⟩:=id hp.gi.base
 rw [hfix] at hv
 have hv':v = .slice A n cp:=hv
 subst hv'
 refine (eNew n cp A y hn hby w hbe).mono fun e u ⟨wr,hwr,he,hu⟩=>?_
 subst hu
 exact ⟨_,_,he,out_behind hwr (out_alloc hst hb (pre_below hp hwr) (ty:=156) (arr:=#[.slice A n cp,.int .i64 0,.int .i64 (hsh n y (min n 4000))]) rfl rfl rfl rfl
  (cur_rel hfix 0).toF ⟨_,_,addB_same _ _,rfl⟩)⟩
theorem stp_le (n:Nat) (y:Nat → Int):∀ p,(stp n y p).1 ≤ n
 | 0=>Nat.zero_le _
 | p + 1=>by
  have:=stp_le n y p
  show (if (stp n y p).1 < n then (stp n y p).1 + 1 else (stp n y p).1) ≤ n
  split <;> omega
theorem orBelow_ok:OrcOne Tryz.prog (toks val drw) 77 (orBelow drw):=by
 intro vl st r hr hst
 obtain ⟨⟨c1,c2⟩,h1,hr⟩:=ob_inv hr
 obtain ⟨⟨k0,o⟩,h2,hr⟩:=ob_inv hr
 obtain ⟨i,h3,hr⟩:=ob_inv hr
 obtain ⟨h4,hr⟩:=bi_inv hr
 cases i with
 | negSucc m=>cases hr
 | ofNat m =>
  obtain ⟨h5,hr⟩:=bi_inv hr
  obtain ⟨h6,hr⟩:=bi_inv hr
  obtain ⟨b,h7,hr⟩:=ob_inv hr
  obtain ⟨p,h8,hr⟩:=ob_inv hr
  injection hr with hr
  subst hr
  have h4':=beq_inv h4
  simp only at h4'
  subst h4'
  have h5':=ble_inv h5
  have h6':=ble_inv h6
  refine ⟨eff_write hst h7,Tryz.call77,fun E w vs hrel hp=>?_⟩
  obtain ⟨x1,x2,rfl,hv1,hv2⟩:=two_inv h1 hrel
  rw [cInt_inv h3] at hv2
  have hv2':x2 = .int .i64 m:=hv2
  rw [cPtr_inv h2] at hv1
  obtain ⟨g,s,hrho,hv1⟩:=hv1
  subst hv1 hv2'
  obtain ⟨g',s',arr,ty,hrho',hh,hsz,hrl⟩:=hp.blk k0 b (by simp [inR]) h7
  rw [hrho] at hrho'
  injection hrho' with hrho'
  injection hrho' with e1 e2
  subst e1 e2
  obtain ⟨G,hG,A,n,cp,y,hfix,hbe,hby,hn,hfoot,hdr⟩:=id hp.gi.base
  have hlt:=hp.gi.low _ _ _ hrho
  rw [asCur_inv h8] at hrl
  have hcell:∀ (o:Nat) (c:C) (v:Value),(curC p)[o]? = some c → (∀ x,RelC E c x → x = v) → w.cell? ⟨g,o,none⟩ = some v:=by
   intro o c v hc hx
   obtain ⟨x,h1,h2⟩:=hrl.get o c hc
   rw [cell_of hh,← hx x h2,← h1,Array.getElem?_toList]
  have hce:CE arr.size w g A n cp (stp n y p).1 (stp n y p).2:=by
   refine ⟨stp_le n y p,hcell 0 _ _ rfl ?_,hcell 1 _ _ rfl ?_,hcell 2 _ _ rfl ?_,fun o=>frozen_of_row _ _ _ _ _ hh,arr,ty,hh,rfl⟩ <;>
   ·rintro x ⟨hx,_⟩
    rw [hfix] at hx
    have hx':some _ = some x:=hx
    injection hx' with hx'
    exact hx'.symm
  have hne:n ≠ 0 → ∀ a,A = some a → a.block ≠ g:=fun hn0 a ha e=>by
   have:=(hG _ (hfoot hn0 a ha)).2 k0 arr.size
   rw [e] at this
   exact this (by rw [hsz];exact hrho)
  refine (eBelow arr.size g n cp (stp n y p).1 (stp n y p).2 A y m (by omega) (by omega) w hlt hn hby hne hbe hce).mono fun e u ⟨he,hc,hf⟩=>?_
  have hs1:nxt n ((stp n y p).1,(stp n y p).2) = stp n y (p + 1):=rfl
  rw [hs1] at hc
  obtain ⟨arr',ty',hh',hsz'⟩:=hc.row
  have hb:(nxtB n y (stp n y p)) % (m:Int) = ((E.fix.byte p % m:Nat):Int):=by
   rw [hfix]
   show _ = (((nxtB n y (stp n y p)).toNat % m:Nat):Int)
   rw [Int.natCast_emod,Int.toNat_of_nonneg (nxtB_in n y _).1]
  have he':e = .returned (.int .i64 ((E.fix.byte p % m:Nat):Int)):=by
   rw [he,← hb]
  refine ⟨_,E,he',out_write hst (hst.lt h7) hp hrho hf hh' (hsz'.trans hsz) ?_ ?_⟩
  ·have hcur:=cur_rel hfix (p + 1)
   have e3:∀ o v,u.cell? ⟨g,o,none⟩ = some v → arr'.toList[o]? = some v:=fun o v ho=>by rw [Array.getElem?_toList,← cell_of hh'];exact ho
   have a0:=e3 0 _ hc.sl
   have a1:=e3 1 _ hc.at_
   have a2:=e3 2 _ hc.hash
   match hl:arr'.toList,a0,a1,a2 with
   | u0 :: u1 :: u2 :: rest,a0,a1,a2 =>
    simp at a0 a1 a2
    subst a0 a1 a2
    exact ⟨hcur.1,hcur.2.1,hcur.2.2.1,trivial⟩
   | [],a0,_,_=>simp at a0
   | [_],_,a1,_=>simp at a1
   | [_,_],_,_,a2=>simp at a2
  ·cases hd:drw.tab p m with
   | none =>
    show Value.int .i64 _ = Value.int .i64 _
    rw [Int.zero_add]
   | some r =>
    have:=hdr.2 p m r hd
    show Value.int .i64 _ = Value.int .i64 _
    rw [this];rfl
end
theorem run_copyZ {P:Program} (w:World) (dT sT ty elem z:TypeId) (g o dLen dCap:Nat) (a:Addr) (sLen sCap:Nat) (cur:Array Value) (t:TypeId) (cs:List Value)
 (hu:P.underlying dT = some (.slice elem)) (hs:(P.info? elem).map (·.size) = some z)
 (hg:w.heap[g]? = some (.cells cur t (0,0))) (k:Nat) (hk:Nat.min sLen dLen = k) (hn:cs.length = k * z)
 (hsrc:∀ j v,cs[j]? = some v → w.cell? (a.add j) = some v) (hfit:o + cs.length ≤ cur.size) (h1:∀ v ∈ cs,v.oneCell' = true) :
 (Builtin.copy_ #[dT,sT] ty #[.slice (some ⟨g,o,none⟩) dLen dCap,.slice (some a) sLen sCap]).run P w =
  .ok (goInt k) (w.setRow g (cur.toList.take o ++ cs ++ cur.toList.drop (o + cs.length)).toArray):=by
 have hl:=run_loadCells_list (P:=P) w a cs hsrc
 have hst:=run_storeCells_at P g o t cs 0 cur w hg (by simpa using hfit) h1
 cases hq:P.info? elem with
 | none=>simp [hq] at hs
 | some i =>
  have hi:i.size = z:=by simpa [hq] using hs
  simp [Builtin.copy_,run_underlying hu,Builtin.lenOf,Builtin.firstCells,sizeOf,typeInfo,hq,hi,hk,← hn,hl,hst]
theorem edgeInfo:(Tryz.prog.info? 100).map (fun i=>(i.zero,i.size,i.bytes)) = some (some (.agg #[.int .i64 0,.int .i64 0,.int .i64 0,.int .i64 0]),4,32):=by kernel_rfl
structure IN (n:Nat) (res:List Value) (g cap:Nat) (u:World) (arr:Array Value):Prop where
 le:n ≤ cap
 row:∃ ty,u.heap[g]? = some (.cells arr ty (0,0))
 size:cap * 4 ≤ arr.size
 cells:arr.toList.take (n * 4) = res
 top:cap ≤ 9223372036854775807
theorem splice_take {α:Type} (X V Y R:List α) (a n:Nat) (hX:X.length = a) (hV:V.length = 4) (hn:a + 4 + Y.length = n) :
 ((((X ++ R).take a ++ V ++ (X ++ R).drop (a + V.length)).take (a + 4) ++ Y ++ ((X ++ R).take a ++ V ++ (X ++ R).drop (a + V.length)).drop (a + 4 + Y.length))).take n = X ++ V ++ Y:=by
 have e1:(X ++ R).take a = X:=List.take_left' hX
 rw [e1]
 have e2:(X ++ V ++ (X ++ R).drop (a + V.length)).take (a + 4) = X ++ V:=List.take_left' (by simp [hX,hV])
 rw [e2]
 exact List.take_left' (by simp [hX,hV];omega)
theorem ins_grow (b n c i vb vc:Nat) (cs vs:List Value) (w:World) (hi:i < n) (hnc:n ≤ c) (hroom:c < n + 1) (hbig:n ≤ 1000000)
 (hcl:cs.length = n * 4) (hvl:vs.length = 4)
 (hcs:∀ j v,cs[j]? = some v → w.cell? ⟨b,j,none⟩ = some v)
 (hvs:∀ j v,vs[j]? = some v → w.cell? ⟨vb,j,none⟩ = some v) (h1c:∀ v ∈ cs,v.oneCell' = true) (h1v:∀ v ∈ vs,v.oneCell' = true) :
 Calls Tryz.prog 200 #[.slice (some ⟨b,0,none⟩) n c,.int .i64 i,.slice (some ⟨vb,0,none⟩) 1 vc] w fun e u =>
  ∃ cap arr,e = .returned (.slice (some ⟨w.heap.size,0,none⟩) (n + 1) cap)∧IN (n + 1) (cs.take (i * 4) ++ vs ++ cs.drop (i * 4)) w.heap.size cap u arr∧Below w.heap.size w u:=by
 obtain ⟨i0,hi0,hz0,hzs,hzb⟩:=info_parts edgeInfo
 have hz3:(c:Int) < (n:Int) + 1:=by omega
 have hz2:¬ ((i:Int) = (n:Int)):=by omega
 have hsz:(Tryz.prog.info? 100).map (·.size) = some 4:=by rw [hi0];simp [hzs]
 have hbw:b < w.heap.size:=block_lt_of_cell (hcs 0 _ (List.getElem?_eq_getElem (by omega)))
 have hvw:vb < w.heap.size:=block_lt_of_cell (hvs 0 _ (List.getElem?_eq_getElem (by omega)))
 have hkk:(n:Int) + 1 - (i:Int) = ((n + 1 - i:Nat):Int):=by omega
 have hik:i + (n + 1 - i) = n + 1:=by omega
 have hold:(Builtin.firstCells i0.size i (.slice (some ⟨b,0,none⟩) i c)).run Tryz.prog w.drew = .ok (cs.take (i * 4)).toArray w.drew:=by
  rw [hzs]
  exact run_firstCells_some w.drew 4 i ⟨b,0,none⟩ i c (cs.take (i * 4)) (by rw [List.length_take];omega) (fun j v hj=>by
   rw [Addr.add_lit,Nat.zero_add]
   rw [List.getElem?_take] at hj
   split at hj
   ·exact hcs j v hj
   ·cases hj)
 have hnext:Builtin.nextslicecap (i + (n + 1 - i)) c * i0.bytes ≤ 281474976710656:=by
  rw [hzb,hik]
  have:=SX.next_le (n:=n + 1) (old:=c) (by omega) (by omega)
  omega
 have hrz:∀ ty,(Builtin.append_ #[97,3] ty #[.slice (some ⟨b,0,none⟩) i c,.int .i64 ((n:Int) + 1 - (i:Int))]).run Tryz.prog w =
  .ok (.slice (some ⟨w.heap.size,0,none⟩) (n + 1) (grownCap w (n + 1) c 100)) (w.drew.alloc (.cells ((cs.take (i * 4)).toArray ++ Builtin.zeroCells (Value.agg #[.int .i64 0,.int .i64 0,.int .i64 0,.int .i64 0]).cells (n + 1 - i) ++
   Builtin.zeroCells (Value.agg #[.int .i64 0,.int .i64 0,.int .i64 0,.int .i64 0]).cells (grownCap w (n + 1) c 100 - (n + 1))) 100)):=fun ty=>by
  have h:=Lib.run_append_grow_zeros w 97 3 ty 100 i0 _ .i64 .i64 Tryz.underlying97 Tryz.underlying3 hi0 hz0 (some ⟨b,0,none⟩) i c (cs.take (i * 4)) hold (n + 1 - i) (by omega) (by omega) (by omega) (by omega) (by rw [hzb];omega) hnext
  rw [hik] at h
  rw [hkk]
  exact h
 have hGn:n + 1 ≤ grownCap w (n + 1) c 100:=grownCap_ge w _ _ _
 have hG63:grownCap w (n + 1) c 100 ≤ 9223372036854775807:=by
  have:=grownCap_le_maxLen w (n + 1) c 100 (by unfold maxLen;omega)
  unfold maxLen at this
  omega
 obtain ⟨G,hG⟩:∃ G,G = grownCap w (n + 1) c 100:=⟨_,rfl⟩
 rw [← hG] at hrz hGn hG63
 obtain ⟨R,hR⟩:∃ R:List Value,R = (Builtin.zeroCells (Value.agg #[.int .i64 0,.int .i64 0,.int .i64 0,.int .i64 0]).cells (n + 1 - i) ++
  Builtin.zeroCells (Value.agg #[.int .i64 0,.int .i64 0,.int .i64 0,.int .i64 0]).cells (G - (n + 1))).toList:=⟨_,rfl⟩
 have hRl:R.length = (G - i) * 4:=by
  rw [hR]
  simp [Builtin.zeroCells,Value.cells]
  omega
 obtain ⟨ROW,hROW⟩:∃ ROW:Array Value,ROW = ((cs.take (i * 4)) ++ R).toArray:=⟨_,rfl⟩
 have hrow:(cs.take (i * 4)).toArray ++ Builtin.zeroCells (Value.agg #[.int .i64 0,.int .i64 0,.int .i64 0,.int .i64 0]).cells (n + 1 - i) ++
  Builtin.zeroCells (Value.agg #[.int .i64 0,.int .i64 0,.int .i64 0,.int .i64 0]).cells (G - (n + 1)) = ROW:=by
  apply Array.toList_inj.1
  rw [hROW,hR]
  simp
 rw [hrow] at hrz
 have hRs:ROW.size = G * 4:=by rw [hROW];simp [hRl,hcl];omega
 have hN:∀ W:World,W.heap = w.heap.push (.cells ROW 100) → W.heap[w.heap.size]? = some (.cells ROW 100 (0,0)):=fun W hW=>by rw [hW];simp
 obtain ⟨R1,hR1⟩:∃ R1:Array Value,R1 = (ROW.toList.take (i * 4) ++ vs ++ ROW.toList.drop (i * 4 + vs.length)).toArray:=⟨_,rfl⟩
 have hR1s:R1.size = G * 4:=by rw [hR1];simp [hvl,hRs];omega
 have hcpA:∀ (W:World),W.heap = w.heap.push (.cells ROW 100) → ∀ ty dc,(Builtin.copy_ #[97,97] ty #[.slice (some ⟨w.heap.size,i * 4,none⟩) (n + 1 - i) dc,.slice (some ⟨vb,0,none⟩) 1 vc]).run Tryz.prog W = .ok (goInt 1) (W.setRow w.heap.size R1):=fun W hW ty dc=>by
  rw [hR1]
  refine run_copyZ W _ _ ty 100 4 w.heap.size (i * 4) (n + 1 - i) dc ⟨vb,0,none⟩ 1 vc ROW _ vs Tryz.underlying97 hsz (hN W hW) 1 (by simp only [Nat.min_def];split <;> omega) (by omega) (fun j v hj=>?_) (by omega) h1v
  rw [Addr.add_lit,Nat.zero_add,World.cell?_of_block (w:=w) (by rw [hW,Array.getElem?_push,if_neg (show ¬ (vb = w.heap.size) by omega)])]
  exact hvs j v hj
 obtain ⟨R2,hR2⟩:∃ R2:Array Value,R2 = (R1.toList.take (i * 4 + 4) ++ cs.drop (i * 4) ++ R1.toList.drop (i * 4 + 4 + (cs.drop (i * 4)).length)).toArray:=⟨_,rfl⟩
 have hdl:(cs.drop (i * 4)).length = (n - i) * 4:=by rw [List.length_drop,hcl];omega
 have hR2s:R2.size = G * 4:=by rw [hR2];simp [hR1s,hcl];omega
 have hcpB:∀ (W:World),W.heap[w.heap.size]? = some (.cells R1 100 (0,0)) → W.heap[b]? = w.heap[b]? → ∀ ty dc sc,(Builtin.copy_ #[97,97] ty #[.slice (some ⟨w.heap.size,(i + 1) * 4,none⟩) (n + 1 - (i + 1)) dc,.slice (some ⟨b,i * 4,none⟩) (n - i) sc]).run Tryz.prog W = .ok (goInt ((n - i:Nat):Int)) (W.setRow w.heap.size R2):=fun W hW hWb ty dc sc=>by
  rw [hR2,show (i + 1) * 4 = i * 4 + 4 by omega]
  refine run_copyZ W _ _ ty 100 4 w.heap.size (i * 4 + 4) (n + 1 - (i + 1)) dc ⟨b,i * 4,none⟩ (n - i) sc R1 _ (cs.drop (i * 4)) Tryz.underlying97 hsz hW (n - i) (by simp only [Nat.min_def];split <;> omega) hdl (fun j v hj=>?_) (by omega) (fun v hv=>h1c v (List.mem_of_mem_drop hv))
  rw [Addr.add_lit,World.cell?_of_block (w:=w) hWb]
  rw [List.getElem?_drop] at hj
  exact hcs _ v hj
 have hE0:(w.alloc (.cells ROW 100)).drew.heap[w.heap.size]? = some (.cells ROW 100 (0,0)):=hN _ rfl
 have hE1:(((w.alloc (.cells ROW 100)).drew.setRow w.heap.size R1).drew).heap[w.heap.size]? = some (.cells R1 100 (0,0)):=setRow_heap _ _ ROW _ _ (0,0) hE0
 have hE2:(((w.alloc (.cells ROW 100)).drew.setRow w.heap.size R1).drew).heap[w.heap.size]? = some (.cells R1 100 (0,0))∧(((w.alloc (.cells ROW 100)).drew.setRow w.heap.size R1).drew).heap[b]? = w.heap[b]?:=by
  refine ⟨hE1,?_⟩
  refine (setRow_other (w.alloc (.cells ROW 100)).drew w.heap.size b R1 (by omega)).trans ?_
  show (w.heap.push _)[b]? = _
  rw [Array.getElem?_push,if_neg (by omega)]
 have HZ:=Lib.hid (show (((w.alloc (.cells ROW 100)).drew.setRow w.heap.size R1).drew.setRow w.heap.size R2).heap[w.heap.size]? = some (.cells R2 100 (0,0)) from setRow_heap _ _ R1 _ _ (0,0) hE1)
 have hcpB':=fun ty dc sc=>hcpB _ hE2.1 hE2.2 ty dc sc
 clear hcpB hE0 hE1 hE2
 have hGi:¬ (G = i):=by omega
 have hGim:¬ (G = i + 1):=by omega
 have hci:¬ (c = i):=by omega
 have hbN:b ≠ w.heap.size:=by omega
 have hw1:IntKind.i64.wrap ((i:Int) + 1) = (i:Int) + 1:=by rw [IntKind.wrap_i64];omega
 have hb1:(0:Int) ≤ (i:Int) + 1:=by omega
 have hin:i ≤ n:=by omega
 have htn:((i:Int) + 1).toNat = i + 1:=by omega
 have hb3:(i:Int) ≤ (n:Int):=by omega
 have mixed:Tryz.prog.follows .mixedOrders = true:=by kernel_rfl
 have HF:=Lib.hid (And.intro hROW (And.intro hR1 hR2))
 have HS:=Lib.hid hR2s
 have HL:=Lib.hid (And.intro hRl (show (cs.drop (i * 4)).length = (n - i) * 4 from hdl))
 clear hkk hik hold hR hRl hROW hR1 hR2 hrow hG hdl hnext hN hcs hvs h1c h1v
 go_enter Tryz.func200,Tryz.ntmps200
 go_wp2_with (first
  | (at_builtin;refine Lib.wpList_append_run _ rfl _ _ _ _ rfl _ _ rfl rfl _ _ (hrz _) ?_)
  | (refine wpList_copy_runI _ rfl _ _ 97 97 rfl _ _ rfl rfl (hcpA _ (by rfl) _ _) ?_))
 go_region_law_o (refine step_copy_runI rfl _ _ 97 97 rfl (.slice (some ⟨w.heap.size,(i + 1) * 4,none⟩) (n + 1 - (i + 1)) (G - (i + 1))) (.slice (some ⟨b,i * 4,none⟩) (n - i) (c - i)) (by simp [Act.eval,Act.put]) (by simp [Act.eval,Act.put]) (hcpB' 3 (G - (i + 1)) (c - i)) ?_)
 go_wp2
 go_ret
 obtain ⟨e1,e2,e3⟩:=HF.out
 refine ⟨G,R2,rfl,⟨hGn,⟨_,HZ.out⟩,by rw [HS.out];exact Nat.le_refl _,?_,hG63⟩,?_⟩
 ·have:=HL.out.2
  rw [e3,e2,e1]
  exact splice_take (cs.take (i * 4)) vs (cs.drop (i * 4)) R (i * 4) ((n + 1) * 4) (by rw [List.length_take];omega) hvl (by omega)
 ·exact below_setRow (Below.drew (below_setRow (Below.drew (below_alloc1 w _)) (Nat.le_refl _) _)) (Nat.le_refl _) _
theorem Frame.setRow {S:Nat → Prop} {a w:World} (h:Frame S a w) {g:Nat} (hg:S g) (cs:Array Value):Frame S a (w.setRow g cs) :=
 h.trans ⟨rfl,rfl,rfl,by simp,fun k _ hn=>setRow_other w g k cs (fun e=>hn (e ▸ hg))⟩
theorem splice_shift {α:Type} (C V Y:List α) (X:List α) (a n:Nat) (hX:C.take a = X) (hXl:X.length = a) (hV:V.length = 4) (hC:a + 4 ≤ C.length) (hn:a + 4 + Y.length = n) :
 ((C.take (a + 4) ++ Y ++ C.drop (a + 4 + Y.length)).take a ++ V ++ (C.take (a + 4) ++ Y ++ C.drop (a + 4 + Y.length)).drop (a + V.length)).take n = X ++ V ++ Y:=by
 have e1:(C.take (a + 4) ++ Y ++ C.drop (a + 4 + Y.length)).take a = X:=by
  rw [List.append_assoc,List.take_append_of_le_length (by simp;omega),List.take_take,show min a (a + 4) = a by omega,hX]
 have e2:(C.take (a + 4) ++ Y ++ C.drop (a + 4 + Y.length)).drop (a + V.length) = Y ++ C.drop (a + 4 + Y.length):=by
  rw [List.append_assoc,hV]
  exact List.drop_left' (by simp;omega)
 rw [e1,e2,← List.append_assoc]
 exact List.take_left' (by simp [hXl,hV];omega)
theorem ins_shift (b n c i vb vc bt vt:Nat) (cur varr:Array Value) (cs vs:List Value) (w:World) (hi:i < n) (hroom:n + 1 ≤ c) (hc63:c ≤ 9223372036854775807) (hvb:vb ≠ b)
 (hb:w.heap[b]? = some (.cells cur bt (0,0))) (hv:w.heap[vb]? = some (.cells varr vt (0,0))) (hsz4:c * 4 ≤ cur.size) (hcl:cur.toList.take (n * 4) = cs) (hvl:varr.toList.take 4 = vs) (hv4:4 ≤ varr.size)
 (h1c:∀ v ∈ cs,v.oneCell' = true) (h1v:∀ v ∈ vs,v.oneCell' = true) :
 Calls Tryz.prog 200 #[.slice (some ⟨b,0,none⟩) n c,.int .i64 i,.slice (some ⟨vb,0,none⟩) 1 vc] w fun e u =>
  ∃ arr,e = .returned (.slice (some ⟨b,0,none⟩) (n + 1) c)∧u.heap[b]? = some (.cells arr bt (0,0))∧arr.size = cur.size∧arr.toList.take ((n + 1) * 4) = cs.take (i * 4) ++ vs ++ cs.drop (i * 4)∧Frame (fun k=>k = b) w u∧u.heap.size = w.heap.size:=by
 obtain ⟨i0,hi0,hz0,hzs,hzb⟩:=info_parts edgeInfo
 have hsz:(Tryz.prog.info? 100).map (·.size) = some 4:=by rw [hi0];simp [hzs]
 have hz2:¬ ((i:Int) = (n:Int)):=by omega
 have hcl':cs.length = n * 4:=by rw [← hcl];simp;omega
 have hvl':vs.length = 4:=by rw [← hvl];simp;omega
 have hov:∀ lb cb,(callFunc 247 #[.slice (some ⟨vb,0,none⟩) 1 vc,.slice (some ⟨b,(i + 1) * 4,none⟩) lb cb]).run Tryz.prog w = .ok (.value (.bool false)) w:=fun lb cb=>by
  rw [run_callFunc_extern Tryz.func247 (by kernel_rfl) (by kernel_rfl) (by kernel_rfl) (e:=Extern.SlicesOverlaps.overlaps #[97,97] #[4]) (by kernel_rfl),
   Lib.run_overlaps_apart w 97 4 100 Tryz.underlying97 4 (fun w=>SX.run_szOf (by unfold SX.szOf;rw [hi0];exact congrArg some hzs) w) ⟨vb,0,none⟩ ⟨b,(i + 1) * 4,none⟩ 1 vc lb cb hvb vt bt varr.size cur.size (by simp [World.shape?,hv]) (by simp [World.shape?,hb]) (by omega) (frozen_of_row _ _ _ _ _ hv) (frozen_of_row _ _ _ _ _ hv)]
  rfl
 have hdl:(cs.drop (i * 4)).length = (n - i) * 4:=by rw [List.length_drop,hcl'];omega
 have mixed:Tryz.prog.follows .mixedOrders = true:=by kernel_rfl
 have hw1:IntKind.i64.wrap ((i:Int) + 1) = (i:Int) + 1:=by rw [IntKind.wrap_i64];omega
 have hb1:(0:Int) ≤ (i:Int) + 1:=by omega
 have hin:i ≤ n:=by omega
 have htn:((i:Int) + 1).toNat = i + 1:=by omega
 have hb2:¬ (c = i + 1):=by omega
 have hb3:(i:Int) ≤ (n:Int) + 1:=by omega
 have hb4:¬ (c = i):=by omega
 obtain ⟨R1,hR1⟩:∃ R1:Array Value,R1 = (cur.toList.take (i * 4 + 4) ++ cs.drop (i * 4) ++ cur.toList.drop (i * 4 + 4 + (cs.drop (i * 4)).length)).toArray:=⟨_,rfl⟩
 have hR1s:R1.size = cur.size:=by rw [hR1];simp [hcl'];omega
 have hcp1:∀ ty dc sc,(Builtin.copy_ #[97,97] ty #[.slice (some ⟨b,(i + 1) * 4,none⟩) (n + 1 - (i + 1)) dc,.slice (some ⟨b,i * 4,none⟩) (n + 1 - i) sc]).run Tryz.prog w.drew = .ok (goInt ((n - i:Nat):Int)) (w.drew.setRow b R1):=fun ty dc sc=>by
  rw [hR1,show (i + 1) * 4 = i * 4 + 4 by omega]
  refine run_copyZ w.drew _ _ ty 100 4 b (i * 4 + 4) (n + 1 - (i + 1)) dc ⟨b,i * 4,none⟩ (n + 1 - i) sc cur _ (cs.drop (i * 4)) Tryz.underlying97 hsz hb (n - i) (by simp only [Nat.min_def];split <;> omega) hdl (fun j v hj=>?_) (by omega) (fun v hv=>h1c v (List.mem_of_mem_drop hv))
  rw [Addr.add_lit,SX.cell_of (w:=w.drew) hb]
  rw [List.getElem?_drop,← hcl,List.getElem?_take] at hj
  split at hj
  ·simpa using hj
  ·cases hj
 obtain ⟨R2,hR2⟩:∃ R2:Array Value,R2 = (R1.toList.take (i * 4) ++ vs ++ R1.toList.drop (i * 4 + vs.length)).toArray:=⟨_,rfl⟩
 have hR2s:R2.size = cur.size:=by rw [hR2];simp [hR1s,hvl'];omega
 have hcp2:∀ (W:World),W.heap = (w.drew.setRow b R1).heap → ∀ ty dc,(Builtin.copy_ #[97,97] ty #[.slice (some ⟨b,i * 4,none⟩) (n + 1 - i) dc,.slice (some ⟨vb,0,none⟩) 1 vc]).run Tryz.prog W = .ok (goInt 1) (W.setRow b R2):=fun W hW ty dc=>by
  rw [hR2]
  refine run_copyZ W _ _ ty 100 4 b (i * 4) (n + 1 - i) dc ⟨vb,0,none⟩ 1 vc R1 bt vs Tryz.underlying97 hsz (by rw [hW];exact setRow_heap w.drew b cur R1 bt (0,0) hb) 1 (by simp only [Nat.min_def];split <;> omega) (by omega) (fun j v hj=>?_) (by omega) h1v
  have hv2:W.heap[vb]? = some (.cells varr vt (0,0)):=by rw [hW];exact (setRow_other w.drew b vb R1 hvb).trans hv
  rw [Addr.add_lit,SX.cell_of hv2,Nat.zero_add]
  rw [← hvl,List.getElem?_take] at hj
  split at hj
  ·simpa using hj
  ·cases hj
 have HS:=Lib.hid (And.intro hR2s (show (w.drew.setRow b R1).heap[b]? = some (.cells R1 bt (0,0)) from setRow_heap w.drew b cur R1 bt (0,0) hb))
 have HF:Hid (R2.toList.take ((n + 1) * 4) = cs.take (i * 4) ++ vs ++ cs.drop (i * 4)):=by
  refine Lib.hid ?_
  rw [hR2,hR1]
  refine splice_shift cur.toList vs (cs.drop (i * 4)) (cs.take (i * 4)) (i * 4) ((n + 1) * 4) ?_ (by rw [List.length_take];omega) hvl' (by simp;omega) (by omega)
  rw [← hcl,List.take_take,show min (i * 4) (n * 4) = i * 4 by omega]
 clear hb hv hR1 hR1s hR2 hR2s hdl hcl' hvl' hcl hvl h1c h1v
 go_enter Tryz.func200,Tryz.ntmps200
 go_wp2_with (simp only [hov])
 go_region_law_o (refine step_copy_runI rfl _ _ 97 97 rfl (.slice (some ⟨b,(i + 1) * 4,none⟩) (n + 1 - (i + 1)) (c - (i + 1))) (.slice (some ⟨b,i * 4,none⟩) (n + 1 - i) (c - i)) (by simp [Act.eval,Act.put]) (by simp [Act.eval,Act.put]) (hcp1 3 (c - (i + 1)) (c - i)) ?_)
 go_wp2_with (refine wpList_copy_runI _ rfl _ _ 97 97 rfl _ _ rfl rfl (hcp2 _ (by rfl) _ _) ?_)
 go_ret
 exact ⟨R2,rfl,setRow_heap _ b R1 R2 bt (0,0) HS.out.2,HS.out.1,HF.out,((Frame.refl _ w).drew.setRow (S:=fun k=>k = b) rfl R1).setRow (S:=fun k=>k = b) rfl R2,by simp⟩
theorem ins_end (base:Option Addr) (n c vb vc:Nat) (w w':World) (res:Value) (hn:base = none → n = 0∧c = 0) (hnc:n ≤ c) (hc63:c ≤ 9223372036854775807)
 (hrun:∀ ty,(Builtin.append_ #[97,97] ty #[.slice base n c,.slice (some ⟨vb,0,none⟩) 1 vc]).run Tryz.prog w = .ok res w') :
 Calls Tryz.prog 200 #[.slice base n c,.int .i64 n,.slice (some ⟨vb,0,none⟩) 1 vc] w fun e u=>e = .returned res∧u = w':=by
 have mixed:Tryz.prog.follows .mixedOrders = true:=by kernel_rfl
 go_enter Tryz.func200,Tryz.ntmps200
 cases base with
 | none =>
  obtain ⟨rfl,rfl⟩:=hn rfl
  go_wp2_with (at_builtin;refine Lib.wpList_append_run _ rfl _ _ _ _ rfl _ _ rfl rfl _ _ (hrun _) ?_)
  go_ret
  exact ⟨rfl,rfl⟩
 | some a =>
  obtain ⟨ab,ao,asp⟩:=a
  go_wp2_with (at_builtin;refine Lib.wpList_append_run _ rfl _ _ _ _ rfl _ _ rfl rfl _ _ (hrun _) ?_)
  all_goals (go_ret;exact ⟨rfl,rfl⟩)
noncomputable def insOld (st:St) (k n i vk:Nat) (vs:List C):Option R :=
 bi (Nat.ble (Nat.add st.nb 1) 8388608) (bi (Nat.beq k vk) none (bi (Nat.ble n 1000000) (bi (Nat.ble i n) (ob (st.mem.get k) fun b=>ob (takeN b.cells (Nat.mul n 4)) fun cs=>ob (takeN cs (Nat.mul i 4)) fun pre =>
  some ⟨.s (.c (.sl st.nb 0 (Nat.add n 1) 4)),⟨(st.mem.set k none).set st.nb (some ⟨app (app pre vs) (dropN cs (Nat.mul i 4))⟩),Nat.add st.nb 1,st.nt⟩,[k],some [k,vk]⟩) none) none)) none
noncomputable def insAt (c:C) (i vk:Nat) (vs:List C) (st:St):Option R :=
 match c with
 | .sl k _ n _=>insOld st k n i vk vs
 | _=>none
noncomputable def insLen (c:C):Option Nat :=
 match c with
 | .nsl=>some 0
 | .sl _ o n z=>bi (Nat.beq o 0) (bi (Nat.beq z 4) (some n) none) none
 | _=>none
noncomputable def insArg (c:C) (st:St):Option (Nat × List C) :=
 match c with
 | .sl k o n z=>bi (Nat.beq o 0) (bi (Nat.beq n 1) (bi (Nat.beq z 4) (ob (st.mem.get k) fun b=>ob (takeN b.cells 4) fun l=>some (k,l)) none) none) none
 | _=>none
noncomputable def orInsert (P:Program) (l:List V) (st:St):Option R :=
 match l with
 | [s,i,x]=>ob (vC s) fun c=>ob (vC i) fun ci=>ob (toN ci) fun i=>ob (vC x) fun cx=>ob (insArg cx st) fun q=>ob (insLen c) fun n =>
  bi (Nat.beq i n) (builtinV P .append [97,97] [.s (.c c),.s (.c cx)] st) (insAt c i q.1 q.2 st)
 | _=>none
def apOp (t:Nat):Oper:={ dst:=none,op:=.call { callee:=.builtin .append,args:=#[.tmp 0,.tmp 1],argTypes:=#[t,t] },type:=t,pos := "",after:=#[],guard:=none }
def apEv (c d:C):Ev:=fun x=>match x with
 | .tmp 0=>some (.s (.c c))
 | .tmp 1=>some (.s (.c d))
 | _=>none
theorem append_sound {P:Program} {t:Nat} {c d:C} {st:St} {r:R} (hst:StOk st) (h:builtinV P .append [t,t] [.s (.c c),.s (.c d)] st = some r) :
 Eff st r∧∀ (K:Toks) (E:Env) (w:World) (x y:Value),RelC E c x → RelC E d y → Pre K E w st r → ∃ v F u,(∀ ty,(Builtin.append_ #[t,t] ty #[x,y]).run P w = .ok v u)∧Out K E w st r F u v:=by
 have hs:=snd_append (P:=P) (fr:=apEv c d) (o:=apOp t) (c:={ callee:=.builtin .append,args:=#[.tmp 0,.tmp 1],argTypes:=#[t,t] }) hst rfl rfl rfl h
 refine ⟨hs.1,fun K E w x y hx hy hp=>?_⟩
 obtain ⟨v,F,u,hr,ho⟩:=hs.2 K E w ⟨#[x,y],[]⟩ (by
  intro z q hz
  unfold apEv at hz
  split at hz
  ·injection hz with hz;subst hz;exact hx
  ·injection hz with hz;subst hz;exact hy
  ·cases hz) hp
 refine ⟨v,F,u,fun ty=>?_,ho⟩
 have hb:=run_builtin (P:=P) (o:=apOp t) (c:={ callee:=.builtin .append,args:=#[.tmp 0,.tmp 1],argTypes:=#[t,t] }) (b:=.append) rfl rfl ⟨#[x,y],[]⟩ w
 unfold Runs at hr
 rw [hb] at hr
 have he:(Builtin.append_ #[t,t] ty #[x,y]).run P w = (Builtin.append_ #[t,t] t #[x,y]).run P w:=rfl
 have ea:(#[.tmp 0,.tmp 1]:Array Operand).map (Act.eval ⟨#[x,y],[]⟩) = #[x,y]:=by simp [Act.eval]
 simp only [ea,builtin,Sem.run_bind] at hr
 rw [show (apOp t).type = t from rfl] at hr
 rw [he]
 cases hq:(Builtin.append_ #[t,t] t #[x,y]).run P w with
 | ok a b =>
  rw [hq] at hr
  rcases hr with hr | ⟨hr,_⟩
  ·simp only [Result.andThen_ok,Sem.run_pure] at hr
   injection hr with h1 h2
   injection h1 with h1
   rw [h1,h2]
  ·simp only [Result.andThen_ok,Sem.run_pure] at hr
   injection hr with h1 h2
   cases h1
 | _ =>
  rw [hq] at hr
  rcases hr with hr | ⟨hr,_⟩ <;> cases hr
section
variable {K:Toks} {E F:Env} {w wr u:World} {st:St} {r:R} {x:Value}
theorem out_fresh {ty:Nat} {cs:List C} {v:V} {arr:Array Value} {rd:Option (List Nat)} {m':T Blk} {W:List Nat}
 (hm:m'.get st.nb = some ⟨cs⟩) (hW:∀ k ∈ W,m'.get k = none)
 (hp:Pre K E w st ⟨v,⟨m',st.nb + 1,st.nt⟩,W,rd⟩)
 (hb:Below w.heap.size w u) (hu:u.heap[w.heap.size]? = some (.cells arr ty (0,0)))
 (hr:RelF E cs arr.toList) (hv:RelV (E.addB st.nb (w.heap.size,arr.size)) v x) :
 Out K E w st ⟨v,⟨m',st.nb + 1,st.nt⟩,W,rd⟩ (E.addB st.nb (w.heap.size,arr.size)) u x:=by
 have hn:E.rho st.nb = none:=hp.newB st.nb (Nat.le_refl _) (Nat.lt_succ_self _)
 have hle:E.le (E.addB st.nb (w.heap.size,arr.size)):=addB_le hn
 have hsz:w.heap.size < u.heap.size:=(Array.getElem?_eq_some_iff.1 hu).1
 have hrho:∀ k p s,(E.addB st.nb (w.heap.size,arr.size)).rho k = some (p,s) → (k = st.nb∧p = w.heap.size) ∨ E.rho k = some (p,s):=by
  intro k p s hk
  by_cases e:k = st.nb
  ·subst e;rw [addB_same] at hk;injection hk with hk;injection hk with h1 h2;exact .inl ⟨rfl,h1.symm⟩
  ·rw [addB_other _ e] at hk;exact .inr hk
 have hnb:∀ k b,(k ∈ W ∨ st.nb ≤ k∧k < st.nb + 1) → m'.get k = some b → k = st.nb:=by
  intro k b hk hg
  rcases hk with hk | hk
  ·rw [hW k hk] at hg;cases hg
  ·omega
 refine ⟨⟨hle,fun k hk=>?_,fun j hj=>absurd rfl hj,hb.os,hb.tape,hb.output,hb.size,fun b hlt _=>hb.block b hlt,fun k p s h1 h2 h3=>?_,?_⟩,hv,fun k b hk hg=>?_,fun k k' b b' p s s' hk hk' hg hg' _ _=>?_⟩
 ·by_cases e:k = st.nb
  ·subst e;exact ⟨Nat.le_refl _,Nat.lt_succ_self _⟩
  ·rw [addB_other _ e] at hk;exact absurd rfl hk
 ·rcases hrho k p s h3 with ⟨_,rfl⟩ | h
  ·exact .inl (Nat.le_refl _)
  ·have:k = st.nb:=by have:k < st.nb + 1:=h2;omega
   subst this;rw [hn] at h;cases h
 ·refine gi_grow hp.gi rfl rfl (fun k p s hk=>?_) (by omega) (fun k p s hk hlt=>?_) (fun b hlt _=>hb.block b hlt)
  ·rcases hrho k p s hk with ⟨_,rfl⟩ | h
   ·omega
   ·have:=hp.gi.low k p s h;omega
  ·rcases hrho k p s hk with ⟨_,rfl⟩ | h
   ·omega
   ·exact ⟨k,s,h⟩
 ·have:=hnb k b hk hg
  subst this
  have hg':m'.get st.nb = some b:=hg
  rw [hm] at hg'
  injection hg' with hg';subst hg'
  exact ⟨w.heap.size,arr.size,arr,ty,addB_same _ _,hu,rfl,hr.mono hle⟩
 ·rw [hnb k b hk hg,hnb k' b' hk' hg']
theorem eff_move {k:Nat} {b:Blk} {cs:List C} {v:V} {l:List Nat} (hst:StOk st) (hnb:st.nb + 1 ≤ 8388608) (hk:st.mem.get k = some b) :
 Eff st ⟨v,⟨(st.mem.set k none).set st.nb (some ⟨cs⟩),st.nb + 1,st.nt⟩,[k],some (k :: l)⟩:=by
 have hlt:=hst.lt hk
 have hget:∀ (m0:T Blk) (k:Nat),(m0.set st.nb (some ⟨cs⟩)).get k = if k = st.nb then some ⟨cs⟩ else m0.get k:=fun m0 k=>get_set _ _ _ _ (by omega)
 have hgk:∀ k',(st.mem.set k none).get k' = if k' = k then none else st.mem.get k':=fun k'=>get_set _ _ _ _ (by have:=hst.nb;omega)
 refine ⟨Nat.le_succ _,Nat.le_refl _,fun k' h1 h2=>?_,fun k' h1=>?_,⟨hnb,fun k' h1=>?_⟩,fun l' hl k' hk'=>?_⟩
 ·show (T.set _ _ _).get k' = _
  have:k' < st.nb:=h2
  rw [hget,if_neg (by omega),hgk,if_neg (fun e=>h1 (by simp [e]))]
 ·simp at h1;subst h1;exact ⟨hlt,b,hk⟩
 ·show (T.set _ _ _).get k' = none
  have:st.nb + 1 ≤ k':=h1
  rw [hget,if_neg (by omega),hgk,if_neg (by omega)]
  exact hst.dom k' (by omega)
 ·injection hl with hl
  simp at hk';subst hk'
  rw [← hl];simp
theorem insArg_inv {c:C} {q:Nat × List C} (h:insArg c st = some q):∃ b,c = .sl q.1 0 1 4∧st.mem.get q.1 = some b∧takeN b.cells 4 = some q.2:=by
 unfold insArg at h
 split at h
 ·obtain ⟨h1,h⟩:=bi_inv h
  obtain ⟨h2,h⟩:=bi_inv h
  obtain ⟨h3,h⟩:=bi_inv h
  obtain ⟨b,h4,h⟩:=ob_inv h
  obtain ⟨l,h5,h⟩:=ob_inv h
  injection h with h
  subst h
  rw [beq_inv h1,beq_inv h2,beq_inv h3]
  exact ⟨b,rfl,h4,h5⟩
 ·cases h
theorem arg_rel {q:Nat × List C} {b:Blk} {v:Value} (hm:BlkOk E w q.1 b) (ht:takeN b.cells 4 = some q.2) (hv:RelC E (.sl q.1 0 1 4) v) :
 ∃ vb s vc varr vt,E.rho q.1 = some (vb,s)∧v = .slice (some ⟨vb,0,none⟩) 1 vc∧w.heap[vb]? = some (.cells varr vt (0,0))∧4 ≤ varr.size∧RelL E q.2 (varr.toList.take 4)∧varr.size = s:=by
 obtain ⟨vb,s,vc,hrho,rfl,h1,h2⟩:=hv
 obtain ⟨p,s',arr,ty,hrho',hh,hs,hr⟩:=hm
 rw [hrho] at hrho'
 injection hrho' with e;injection e with e1 e2
 subst e1 e2
 obtain ⟨e,hl⟩:=takeN_eq _ _ _ ht
 have hl':=hr.length
 simp only [Array.length_toList] at hl'
 exact ⟨vb,s,vc,arr,ty,hrho,rfl,hh,by omega,by rw [e];exact hr.take 4 hl,hs⟩
theorem rel_one:∀ {l:List C} {vs:List Value},RelL E l vs → ∀ v ∈ vs,v.oneCell' = true:=by
 intro l vs h v hv
 obtain ⟨i,hi⟩:=List.getElem?_of_mem hv
 have hil:i < l.length:=by
  have:=(List.getElem?_eq_some_iff.1 hi).1
  rw [h.length] at this
  exact this
 obtain ⟨q,hq,hrel⟩:=h.get i _ (List.getElem?_eq_getElem hil)
 rw [hi] at hq;injection hq with hq;subst hq
 have:=hrel.one
 cases v <;> first | rfl | exact absurd rfl (this.1 _) | exact absurd rfl (this.2 _)
theorem RelL.drop' {E:Env}:∀ (n:Nat) {l:List C} {vs:List Value},RelL E l vs → RelL E (l.drop n) (vs.drop n)
 | 0,_,_,h=>h
 | _ + 1,[],[],_=>trivial
 | n + 1,_ :: _,_ :: _,h=>RelL.drop' n h.2
theorem rel_of_take {E:Env} {l:List C} {vs:List Value} (n:Nat) (h:RelL E l (vs.take n)):RelF E l vs:=by
 have:=h.appendF (r:=[]) (us:=vs.drop n) trivial
 simpa using this
theorem insLen_inv {c:C} {n:Nat} (h:insLen c = some n):(c = .nsl∧n = 0) ∨ ∃ k,c = .sl k 0 n 4:=by
 unfold insLen at h
 split at h
 ·injection h with h;exact .inl ⟨rfl,h.symm⟩
 ·obtain ⟨h1,h⟩:=bi_inv h
  obtain ⟨h2,h⟩:=bi_inv h
  injection h with h
  rw [beq_inv h1,beq_inv h2,h]
  exact .inr ⟨_,rfl⟩
 ·cases h
theorem orInsert_ok:OrcOne Tryz.prog K 200 (orInsert Tryz.prog):=by
 intro vl st r hr hst
 unfold orInsert at hr
 split at hr
 ·rename_i sV iV xV
  obtain ⟨c,h1,hr⟩:=ob_inv hr
  obtain ⟨ci,h2,hr⟩:=ob_inv hr
  obtain ⟨i,h3,hr⟩:=ob_inv hr
  obtain ⟨cx,h4,hr⟩:=ob_inv hr
  obtain ⟨⟨vk,vs⟩,h5,hr⟩:=ob_inv hr
  obtain ⟨n,h6,hr⟩:=ob_inv hr
  obtain ⟨b,h7,h8,h9⟩:=insArg_inv h5
  simp only at h7 h8 h9
  subst h7
  have hargs:∀ {E:Env} {l:List Value},RelA E [sV,iV,xV] l → ∃ s x,l = [s,.int .i64 i,x]∧RelC E c s∧RelC E (.sl vk 0 1 4) x:=by
   intro E l hl
   match l,hl with
   | [s,j,x],⟨r1,r2,r3,_⟩ =>
    have r2':=vC_rel h2 r2
    rw [toN_inv h3] at r2'
    have r2'':j = .int .i64 i:=r2'
    exact ⟨s,x,by rw [r2''],vC_rel h1 r1,vC_rel h4 r3⟩
   | [],hl=>exact hl.elim
   | [_],hl=>exact hl.2.elim
   | [_,_],hl=>exact hl.2.2.elim
   | _ :: _ :: _ :: _ :: _,hl=>exact hl.2.2.2.elim
  cases hq:Nat.beq i n with
  | true =>
   rw [hq] at hr
   have hin:=beq_inv hq
   subst hin
   obtain ⟨g1,g2⟩:=append_sound hst hr
   refine ⟨g1,Tryz.call200,fun E w vl hrel hp=>?_⟩
   obtain ⟨s,x,rfl,rs,rx⟩:=hargs hrel
   obtain ⟨v,F,u,hrun,ho⟩:=g2 K E w s x rs rx hp
   obtain ⟨vb,sz,vc,hrho,rfl,_⟩:=id rx
   obtain ⟨base,cp,rfl,q1,q2,q3⟩:∃ base cp,s = .slice base i cp∧(base = none → i = 0∧cp = 0)∧i ≤ cp∧cp ≤ 9223372036854775807:=by
    rcases insLen_inv h6 with ⟨rfl,rfl⟩ | ⟨k,rfl⟩
    ·have rs':s = .slice none 0 0:=rs
     exact ⟨none,0,rs',fun _=>⟨rfl,rfl⟩,Nat.le_refl _,by omega⟩
    ·obtain ⟨p,sz',cp,_,rfl,e1,e2⟩:=rs
     exact ⟨_,cp,rfl,(fun h=>by cases h),e1,e2.2⟩
   refine (ins_end base i cp vb vc w u v q1 q2 q3 hrun).mono fun e u' ⟨he,hu⟩=>?_
   subst hu
   exact ⟨v,F,he,ho⟩
  | false =>
   rw [hq] at hr
   have hin:i ≠ n:=fun e=>by rw [e,Nat.beq_refl] at hq;cases hq
   rcases insLen_inv h6 with ⟨rfl,rfl⟩ | ⟨k,rfl⟩
   ·cases hr
   ·have hr':insOld st k n i vk vs = some r:=hr
    obtain ⟨a1,hr'⟩:=bi_inv hr'
    have a1':st.nb + 1 ≤ 8388608:=ble_inv a1
    cases hkv:Nat.beq k vk with
    | true=>rw [hkv] at hr';cases hr'
    | false =>
     rw [hkv] at hr'
     obtain ⟨a2,hr'⟩:=bi_inv (c:=Nat.ble n 1000000) hr'
     obtain ⟨a3,hr'⟩:=bi_inv hr'
     obtain ⟨b0,a4,hr'⟩:=ob_inv hr'
     obtain ⟨cs,a5,hr'⟩:=ob_inv hr'
     obtain ⟨pre,a6,hr'⟩:=ob_inv hr'
     injection hr' with hr'
     subst hr'
     have hne:k ≠ vk:=fun e=>by rw [e,Nat.beq_refl] at hkv;cases hkv
     have hilt:i < n:=by have:=ble_inv a3;omega
     have hn6:=ble_inv a2
     have hklt:=hst.lt a4
     rw [app_eq,app_eq,dropN_eq]
     refine ⟨eff_move hst a1' a4,Tryz.call200,fun E w vl hrel hp=>?_⟩
     obtain ⟨s,x,rfl,rs,rx⟩:=hargs hrel
     obtain ⟨p,sz,cp,hrho,rfl,hncp,hfit⟩:=rs
     obtain ⟨vb,vsz,vc,varr,vt,vrho,rfl,hvh,hv4,hvr,hvs⟩:=arg_rel (q:=(vk,vs)) (hp.blk vk b (by simp [inR]) h8) h9 rx
     obtain ⟨p',sz',cur,bt,hrho',hh,hsz,hrf⟩:=hp.blk k b0 (by simp [inR]) a4
     rw [hrho] at hrho'
     injection hrho' with e;injection e with e1 e2
     subst e1 e2
     have hvb:vb ≠ p:=fun e=>hne (hp.inj k vk b0 b p _ _ (by simp [inR]) (by simp [inR]) a4 h8 hrho (by rw [← e];exact vrho))
     obtain ⟨ecs,lcs⟩:=takeN_eq _ _ _ a5
     obtain ⟨epre,lpre⟩:=takeN_eq _ _ _ a6
     have hmul:n.mul 4 = n * 4:=rfl
     have hmul2:i.mul 4 = i * 4:=rfl
     rw [hmul] at ecs lcs
     rw [hmul2] at epre lpre
     have hcr:RelL E cs (cur.toList.take (n * 4)):=by rw [ecs];exact hrf.take _ lcs
     have hcl:(cur.toList.take (n * 4)).length = n * 4:=by rw [hcr.length,ecs,List.length_take];omega
     have hnew:RelL E (pre ++ vs ++ cs.drop (i * 4)) ((cur.toList.take (n * 4)).take (i * 4) ++ varr.toList.take 4 ++ (cur.toList.take (n * 4)).drop (i * 4)):=by
      rw [epre]
      exact ((hcr.toF.take (i * 4) lpre).append hvr).append (RelL.drop' _ hcr)
     have hget:∀ (m0:T Blk) (q:Blk) (k:Nat),(m0.set st.nb (some q)).get k = if k = st.nb then some q else m0.get k:=fun m0 q k=>get_set _ _ _ _ (by omega)
     have hgk:∀ k',(st.mem.set k none).get k' = if k' = k then none else st.mem.get k':=fun k'=>get_set _ _ _ _ (by omega)
     have one1:=rel_one hcr
     have one2:=rel_one hvr
     by_cases hroom:n + 1 ≤ cp
     ·refine (ins_shift p n cp i vb vc bt vt cur varr _ _ w hilt hroom hfit.2 hvb hh hvh (by omega) rfl rfl hv4 one1 one2).mono fun e u ⟨arr,he,hu,hus,huc,huf,hul⟩=>?_
      refine ⟨_,E.addB st.nb (p,arr.size),he,out_again (k0:=k) (p:=p) (by rw [hget,if_pos rfl]) (by rw [hget,if_neg (by omega),hgk,if_pos rfl]) (by rw [hus,hsz];exact hrho) hp hu hul (fun b hb=>?_) huf.os huf.tape huf.output ?_ ⟨_,_,cp,addB_same _ _,rfl,hroom,by rw [hus,hsz];exact hfit.1,hfit.2⟩⟩
      ·by_cases hlt:b < w.heap.size
       ·exact huf.block b hlt hb
       ·rw [Array.getElem?_eq_none (by omega),Array.getElem?_eq_none (by omega)]
      ·exact rel_of_take ((n + 1) * 4) (by rw [huc];exact hnew)
     ·refine (ins_grow p n cp i vb vc (cur.toList.take (n * 4)) (varr.toList.take 4) w hilt hncp (by omega) hn6 hcl (by simp;omega) (fun j v hj=>?_) (fun j v hj=>?_) one1 one2).mono fun e u ⟨cap,arr,he,hI,hb⟩=>?_
      ·rw [cell_of hh,← Array.getElem?_toList]
       rw [List.getElem?_take] at hj
       split at hj
       ·exact hj
       ·cases hj
      ·rw [cell_of hvh,← Array.getElem?_toList]
       rw [List.getElem?_take] at hj
       split at hj
       ·exact hj
       ·cases hj
      ·obtain ⟨ty,hrow⟩:=hI.row
       refine ⟨_,_,he,out_fresh (arr:=arr) (by rw [hget,if_pos rfl]) (fun k' hk'=>?_) hp hb hrow (rel_of_take ((n + 1) * 4) (by rw [hI.cells];exact hnew)) ⟨_,_,cap,addB_same _ _,rfl,hI.le,by have:=hI.size;omega,hI.top⟩⟩
       simp at hk';subst hk'
       rw [hget,if_neg (by omega),hgk,if_pos rfl]
 ·cases hr
end
end Go.Proofs.YtcblajhfehadaaaGreat
namespace Go.SX
theorem bi3 {c d:Bool} (h:bi c d false = true):c = true∧d = true:=by cases c <;> first | (cases h;done) | exact ⟨rfl,h⟩
noncomputable def eqX (a b:X):Bool:=bi (Nat.beq a.kd b.kd) (bi (Nat.beq a.den b.den) (eqM a.ps b.ps) false) false
theorem eqX_inv {a b:X} (h:eqX a b = true):a = b:=by
 obtain ⟨h1,h⟩:=bi3 h
 obtain ⟨h2,h3⟩:=bi3 h
 cases a;cases b
 simp only at h1 h2 h3
 rw [beq_inv h1,beq_inv h2,eqM_inv h3]
noncomputable def eqC (a b:C):Bool :=
 match a,b with
 | .bool a,.bool b=>bi a b (bi b false true)
 | .int a,.int b=>ibeq a b
 | .u64 a,.u64 b=>Nat.beq a b
 | .sl k o n z,.sl k' o' n' z'=>bi (Nat.beq k k') (bi (Nat.beq o o') (bi (Nat.beq n n') (Nat.beq z z') false) false) false
 | .nsl,.nsl=>true
 | .ptr k o,.ptr k' o'=>bi (Nat.beq k k') (Nat.beq o o') false
 | .nptr,.nptr=>true
 | .nfn,.nfn=>true
 | .cell j i x,.cell j' i' x'=>bi (Nat.beq j j') (bi (Nat.beq i i') (eqX x x') false) false
 | .code,.code=>true
 | .cur p i,.cur p' i'=>bi (Nat.beq p p') (Nat.beq i i') false
 | .small,.small=>true
 | .rg a b,.rg c d=>bi (ibeq a c) (ibeq b d) false
 | .dr a p n,.dr b q m=>bi (ibeq a b) (bi (Nat.beq p q) (Nat.beq n m) false) false
 | _,_=>false
theorem eqC_inv {a b:C} (h:eqC a b = true):a = b:=by
 unfold eqC at h
 split at h
 ·rename_i a b;cases a <;> cases b <;> first | rfl | cases h
 ·rw [ibeq_eq,beq_iff_eq] at h;rw [h]
 ·rw [beq_inv h]
 ·obtain ⟨h1,h⟩:=bi3 h
  obtain ⟨h2,h⟩:=bi3 h
  obtain ⟨h3,h⟩:=bi3 h
  rw [beq_inv h1,beq_inv h2,beq_inv h3,beq_inv h]
 ·rfl
 ·obtain ⟨h1,h⟩:=bi3 h;rw [beq_inv h1,beq_inv h]
 ·rfl
 ·rfl
 ·obtain ⟨h1,h⟩:=bi3 h
  obtain ⟨h2,h⟩:=bi3 h
  rw [beq_inv h1,beq_inv h2,eqX_inv h]
 ·rfl
 ·obtain ⟨h1,h⟩:=bi3 h;rw [beq_inv h1,beq_inv h]
 ·rfl
 ·obtain ⟨h1,h⟩:=bi3 h
  rw [ibeq_eq,beq_iff_eq] at h1 h
  rw [h1,h]
 ·obtain ⟨h1,h⟩:=bi3 h
  obtain ⟨h2,h⟩:=bi3 h
  rw [ibeq_eq,beq_iff_eq] at h1
  rw [h1,beq_inv h2,beq_inv h]
 ·cases h
noncomputable def eqL {α:Type} (f:α → α → Bool) (l:List α):List α → Bool :=
 @List.rec α (fun _=>List α → Bool) (fun r=>List.casesOn r true (fun _ _=>false)) (fun a _ ih r=>List.casesOn r false (fun b r=>bi (f a b) (ih r) false)) l
theorem eqL_inv {α:Type} {f:α → α → Bool} (hf:∀ a b,f a b = true → a = b):∀ {l r:List α},eqL f l r = true → l = r
 | [],[],_=>rfl
 | [],_ :: _,h=>by cases h
 | _ :: _,[],h=>by cases h
 | a :: l,b :: r,h=>by
  have h':bi (f a b) (eqL f l r) false = true:=h
  obtain ⟨h1,h2⟩:=bi3 h'
  rw [hf a b h1,eqL_inv hf h2]
noncomputable def eqS (a b:S):Bool:=match a,b with
 | .c x,.c y=>eqC x y
 | .agg l,.agg r=>eqL eqC l r
 | _,_=>false
theorem eqS_inv {a b:S} (h:eqS a b = true):a = b:=by
 unfold eqS at h
 split at h
 ·rw [eqC_inv h]
 ·rw [eqL_inv (fun _ _=>eqC_inv) h]
 ·cases h
noncomputable def eqV (a b:V):Bool:=match a,b with
 | .s x,.s y=>eqS x y
 | .tup l,.tup r=>eqL eqS l r
 | _,_=>false
theorem eqV_inv {a b:V} (h:eqV a b = true):a = b:=by
 unfold eqV at h
 split at h
 ·rw [eqS_inv h]
 ·rw [eqL_inv (fun _ _=>eqS_inv) h]
 ·cases h
/-! ### Other numbers -/
abbrev BM:=Nat → Option Nat
abbrev TM:=Nat → X → Option (Nat × X)
noncomputable def mvP (f:BM) (l:List (Nat × Nat)):Option (List (Nat × Nat)) :=
 @List.rec (Nat × Nat) (fun _=>Option (List (Nat × Nat))) (some []) (fun p _ ih=>ob (f p.1) fun k=>ob ih fun r=>some ((k,p.2) :: r)) l
noncomputable def mvC (f:BM) (g:TM) (c:C):Option C :=
 match c with
 | .sl k o n z=>ob (f k) fun k=>some (.sl k o n z)
 | .ptr k o=>ob (f k) fun k=>some (.ptr k o)
 | .cell j i x=>ob (g j x) fun p=>some (.cell p.1 i p.2)
 | .fn n l=>ob (mvP f l) fun l=>some (.fn n l)
 | c=>some c
noncomputable def mvS (f:BM) (g:TM) (s:S):Option S :=
 match s with
 | .c x=>ob (mvC f g x) fun y=>some (.c y)
 | .agg l=>ob (mapO (mvC f g) l) fun r=>some (.agg r)
noncomputable def mvV (f:BM) (g:TM) (v:V):Option V :=
 match v with
 | .s x=>ob (mvS f g x) fun y=>some (.s y)
 | .tup l=>ob (mapO (mvS f g) l) fun r=>some (.tup r)
structure Mv (f:BM) (g:TM) (E F:Env):Prop where
 rho:∀ k k' b,f k = some k' → E.rho k = some b → F.rho k' = some b
 sig:∀ j x p cs,g j x = some p → E.sig j = some cs → cs.x = x → F.sig p.1 = some ⟨cs.cs,p.2⟩
 fix:F.fix = E.fix
section
variable {f:BM} {g:TM} {E F:Env}
theorem mvP_rel (h:Mv f g E F):∀ {l l':List (Nat × Nat)} {vs:List Value},mvP f l = some l' → RelP E l vs → RelP F l' vs
 | [],l',[],hl,r=>by
  have hl':some [] = some l':=hl
  injection hl' with hl';subst hl';trivial
 | (k,o) :: l,l',v :: vs,hl,r=>by
  have hl':ob (f k) (fun k=>ob (mvP f l) fun r=>some ((k,o) :: r)) = some l':=hl
  obtain ⟨k',h1,hl'⟩:=ob_inv hl'
  obtain ⟨q,h2,hl'⟩:=ob_inv hl'
  injection hl' with hl'
  subst hl'
  obtain ⟨⟨b,s,e1,e2⟩,r⟩:=r
  exact ⟨⟨b,s,h.rho _ _ _ h1 e1,e2⟩,mvP_rel h h2 r⟩
 | [],_,_ :: _,_,r=>r.elim
 | (_,_) :: _,_,[],_,r=>r.elim
theorem mvC_rel (h:Mv f g E F) {c c':C} {v:Value} (hc:mvC f g c = some c') (r:RelC E c v):RelC F c' v:=by
 unfold mvC at hc
 split at hc
 ·obtain ⟨k',h1,hc⟩:=ob_inv hc
  injection hc with hc
  subst hc
  obtain ⟨b,s,c,h2,h3⟩:=r
  exact ⟨b,s,c,h.rho _ _ _ h1 h2,h3⟩
 ·obtain ⟨k',h1,hc⟩:=ob_inv hc
  injection hc with hc
  subst hc
  obtain ⟨b,s,h2,h3⟩:=r
  exact ⟨b,s,h.rho _ _ _ h1 h2,h3⟩
 ·obtain ⟨p,h1,hc⟩:=ob_inv hc
  injection hc with hc
  subst hc
  obtain ⟨cs,h2,⟨h3,h4⟩,h5⟩:=r
  exact ⟨_,h.sig _ _ _ _ h1 h2 h3,⟨rfl,h4⟩,h5⟩
 ·obtain ⟨l,h1,hc⟩:=ob_inv hc
  injection hc with hc
  subst hc
  obtain ⟨vs,h2,h3⟩:=r
  exact ⟨vs,h2,mvP_rel h h1 h3⟩
 ·injection hc with hc
  subst hc
  rename_i n1 n2 n3 n4
  cases c <;> first | exact r | (exact absurd rfl (n1 _ _ _ _)) | (exact absurd rfl (n2 _ _)) | (exact absurd rfl (n3 _ _ _)) | (exact absurd rfl (n4 _ _)) | skip
  ·obtain ⟨h1,h2⟩:=r
   exact ⟨by rw [h.fix];exact h1,h2⟩
  ·obtain ⟨h1,h2⟩:=r
   exact ⟨by rw [h.fix];exact h1,h2⟩
  ·have r':v = .int .i64 (_ + ((E.fix.byte _ % _:Nat):Int)):=r
   show v = .int .i64 (_ + ((F.fix.byte _ % _:Nat):Int))
   rw [h.fix];exact r'
theorem mvL_rel (h:Mv f g E F):∀ {l l':List C} {vs:List Value},mapO (mvC f g) l = some l' → RelL E l vs → RelL F l' vs
 | [],l',[],hl,r=>by
  have hl':some [] = some l':=hl
  injection hl' with hl';subst hl';trivial
 | c :: l,l',v :: vs,hl,r=>by
  have hl':ob (mvC f g c) (fun b=>ob (mapO (mvC f g) l) fun r=>some (b :: r)) = some l':=hl
  obtain ⟨b,h1,hl'⟩:=ob_inv hl'
  obtain ⟨q,h2,hl'⟩:=ob_inv hl'
  injection hl' with hl'
  subst hl'
  exact ⟨mvC_rel h h1 r.1,mvL_rel h h2 r.2⟩
 | [],_,_ :: _,_,r=>r.elim
 | _ :: _,_,[],_,r=>r.elim
theorem mvF_rel (h:Mv f g E F):∀ {l l':List C} {vs:List Value},mapO (mvC f g) l = some l' → RelF E l vs → RelF F l' vs
 | [],l',vs,hl,r=>by
  have hl':some [] = some l':=hl
  injection hl' with hl';subst hl';trivial
 | c :: l,l',v :: vs,hl,r=>by
  have hl':ob (mvC f g c) (fun b=>ob (mapO (mvC f g) l) fun r=>some (b :: r)) = some l':=hl
  obtain ⟨b,h1,hl'⟩:=ob_inv hl'
  obtain ⟨q,h2,hl'⟩:=ob_inv hl'
  injection hl' with hl'
  subst hl'
  exact ⟨mvC_rel h h1 r.1,mvF_rel h h2 r.2⟩
 | _ :: _,_,[],_,r=>r.elim
theorem mvS_rel (h:Mv f g E F) {s s':S} {v:Value} (hs:mvS f g s = some s') (r:RelS E s v):RelS F s' v:=by
 cases s with
 | c x =>
  obtain ⟨y,h1,hs⟩:=ob_inv hs
  injection hs with hs;subst hs
  exact mvC_rel h h1 r
 | agg l =>
  obtain ⟨y,h1,hs⟩:=ob_inv hs
  injection hs with hs;subst hs
  obtain ⟨arr,e,r⟩:=r
  exact ⟨arr,e,mvL_rel h h1 r⟩
theorem mvT_rel (h:Mv f g E F):∀ {l l':List S} {vs:List Value},mapO (mvS f g) l = some l' → RelT E l vs → RelT F l' vs
 | [],l',[],hl,r=>by
  have hl':some [] = some l':=hl
  injection hl' with hl';subst hl';trivial
 | c :: l,l',v :: vs,hl,r=>by
  have hl':ob (mvS f g c) (fun b=>ob (mapO (mvS f g) l) fun r=>some (b :: r)) = some l':=hl
  obtain ⟨b,h1,hl'⟩:=ob_inv hl'
  obtain ⟨q,h2,hl'⟩:=ob_inv hl'
  injection hl' with hl'
  subst hl'
  exact ⟨mvS_rel h h1 r.1,mvT_rel h h2 r.2⟩
 | [],_,_ :: _,_,r=>r.elim
 | _ :: _,_,[],_,r=>r.elim
theorem mvV_rel (h:Mv f g E F) {v v':V} {x:Value} (hv:mvV f g v = some v') (r:RelV E v x):RelV F v' x:=by
 cases v with
 | s y =>
  obtain ⟨z,h1,hv⟩:=ob_inv hv
  injection hv with hv;subst hv
  exact mvS_rel h h1 r
 | tup l =>
  obtain ⟨z,h1,hv⟩:=ob_inv hv
  injection hv with hv;subst hv
  obtain ⟨arr,e,r⟩:=r
  exact ⟨arr,e,mvT_rel h h1 r⟩
end
structure Un (f:BM) (g:TM) (E F:Env):Prop where
 rho:∀ k k' b,f k = some k' → F.rho k' = some b → E.rho k = some b
 sig:∀ j x p cs,g j x = some p → F.sig p.1 = some cs → cs.x = p.2 → E.sig j = some ⟨cs.cs,x⟩
 fix:E.fix = F.fix
section
variable {f:BM} {g:TM} {E F:Env}
theorem unP_rel (h:Un f g E F):∀ {l l':List (Nat × Nat)} {vs:List Value},mvP f l = some l' → RelP F l' vs → RelP E l vs
 | [],l',vs,hl,r=>by
  have hl':some [] = some l':=hl
  injection hl' with hl';subst hl'
  match vs,r with
  | [],_=>trivial
  | _ :: _,r=>exact r.elim
 | (k,o) :: l,l',vs,hl,r=>by
  have hl':ob (f k) (fun k=>ob (mvP f l) fun r=>some ((k,o) :: r)) = some l':=hl
  obtain ⟨k',h1,hl'⟩:=ob_inv hl'
  obtain ⟨q,h2,hl'⟩:=ob_inv hl'
  injection hl' with hl'
  subst hl'
  match vs,r with
  | v :: vs,⟨⟨b,s,e1,e2⟩,r⟩=>exact ⟨⟨b,s,h.rho _ _ _ h1 e1,e2⟩,unP_rel h h2 r⟩
  | [],r=>exact r.elim
theorem unC_rel (h:Un f g E F) {c c':C} {v:Value} (hc:mvC f g c = some c') (r:RelC F c' v):RelC E c v:=by
 unfold mvC at hc
 split at hc
 ·obtain ⟨k',h1,hc⟩:=ob_inv hc
  injection hc with hc
  subst hc
  obtain ⟨b,s,c,h2,h3⟩:=r
  exact ⟨b,s,c,h.rho _ _ _ h1 h2,h3⟩
 ·obtain ⟨k',h1,hc⟩:=ob_inv hc
  injection hc with hc
  subst hc
  obtain ⟨b,s,h2,h3⟩:=r
  exact ⟨b,s,h.rho _ _ _ h1 h2,h3⟩
 ·obtain ⟨p,h1,hc⟩:=ob_inv hc
  injection hc with hc
  subst hc
  obtain ⟨cs,h2,⟨h3,h4⟩,h5⟩:=r
  exact ⟨_,h.sig _ _ _ _ h1 h2 h3,⟨rfl,h4⟩,h5⟩
 ·obtain ⟨l,h1,hc⟩:=ob_inv hc
  injection hc with hc
  subst hc
  obtain ⟨vs,h2,h3⟩:=r
  exact ⟨vs,h2,unP_rel h h1 h3⟩
 ·injection hc with hc
  subst hc
  rename_i n1 n2 n3 n4
  cases c <;> first | exact r | (exact absurd rfl (n1 _ _ _ _)) | (exact absurd rfl (n2 _ _)) | (exact absurd rfl (n3 _ _ _)) | (exact absurd rfl (n4 _ _)) | skip
  ·obtain ⟨h1,h2⟩:=r
   exact ⟨by rw [h.fix];exact h1,h2⟩
  ·obtain ⟨h1,h2⟩:=r
   exact ⟨by rw [h.fix];exact h1,h2⟩
  ·have r':v = .int .i64 (_ + ((F.fix.byte _ % _:Nat):Int)):=r
   show v = .int .i64 (_ + ((E.fix.byte _ % _:Nat):Int))
   rw [h.fix];exact r'
theorem unL_rel (h:Un f g E F):∀ {l l':List C} {vs:List Value},mapO (mvC f g) l = some l' → RelL F l' vs → RelL E l vs
 | [],l',vs,hl,r=>by
  have hl':some [] = some l':=hl
  injection hl' with hl';subst hl'
  match vs,r with
  | [],_=>trivial
  | _ :: _,r=>exact r.elim
 | c :: l,l',vs,hl,r=>by
  have hl':ob (mvC f g c) (fun b=>ob (mapO (mvC f g) l) fun r=>some (b :: r)) = some l':=hl
  obtain ⟨b,h1,hl'⟩:=ob_inv hl'
  obtain ⟨q,h2,hl'⟩:=ob_inv hl'
  injection hl' with hl'
  subst hl'
  match vs,r with
  | v :: vs,r=>exact ⟨unC_rel h h1 r.1,unL_rel h h2 r.2⟩
  | [],r=>exact r.elim
theorem unF_rel (h:Un f g E F):∀ {l l':List C} {vs:List Value},mapO (mvC f g) l = some l' → RelF F l' vs → RelF E l vs
 | [],l',vs,hl,r=>trivial
 | c :: l,l',vs,hl,r=>by
  have hl':ob (mvC f g c) (fun b=>ob (mapO (mvC f g) l) fun r=>some (b :: r)) = some l':=hl
  obtain ⟨b,h1,hl'⟩:=ob_inv hl'
  obtain ⟨q,h2,hl'⟩:=ob_inv hl'
  injection hl' with hl'
  subst hl'
  match vs,r with
  | v :: vs,r=>exact ⟨unC_rel h h1 r.1,unF_rel h h2 r.2⟩
  | [],r=>exact r.elim
theorem unSt_rel (h:Un f g E F) {s s':S} {v:Value} (hs:mvS f g s = some s') (r:RelS F s' v):RelS E s v:=by
 cases s with
 | c x =>
  obtain ⟨y,h1,hs⟩:=ob_inv hs
  injection hs with hs;subst hs
  exact unC_rel h h1 r
 | agg l =>
  obtain ⟨y,h1,hs⟩:=ob_inv hs
  injection hs with hs;subst hs
  obtain ⟨arr,e,r⟩:=r
  exact ⟨arr,e,unL_rel h h1 r⟩
theorem unT_rel (h:Un f g E F):∀ {l l':List S} {vs:List Value},mapO (mvS f g) l = some l' → RelT F l' vs → RelT E l vs
 | [],l',vs,hl,r=>by
  have hl':some [] = some l':=hl
  injection hl' with hl';subst hl'
  match vs,r with
  | [],_=>trivial
  | _ :: _,r=>exact r.elim
 | c :: l,l',vs,hl,r=>by
  have hl':ob (mvS f g c) (fun b=>ob (mapO (mvS f g) l) fun r=>some (b :: r)) = some l':=hl
  obtain ⟨b,h1,hl'⟩:=ob_inv hl'
  obtain ⟨q,h2,hl'⟩:=ob_inv hl'
  injection hl' with hl'
  subst hl'
  match vs,r with
  | v :: vs,r=>exact ⟨unSt_rel h h1 r.1,unT_rel h h2 r.2⟩
  | [],r=>exact r.elim
theorem unV_rel (h:Un f g E F) {v v':V} {x:Value} (hv:mvV f g v = some v') (r:RelV F v' x):RelV E v x:=by
 cases v with
 | s y =>
  obtain ⟨z,h1,hv⟩:=ob_inv hv
  injection hv with hv;subst hv
  exact unSt_rel h h1 r
 | tup l =>
  obtain ⟨z,h1,hv⟩:=ob_inv hv
  injection hv with hv;subst hv
  obtain ⟨arr,e,r⟩:=r
  exact ⟨arr,e,unT_rel h h1 r⟩
theorem unA_rel (h:Un f g E F):∀ {l l':List V} {vs:List Value},mapO (mvV f g) l = some l' → RelA F l' vs → RelA E l vs
 | [],l',vs,hl,r=>by
  have hl':some [] = some l':=hl
  injection hl' with hl';subst hl'
  match vs,r with
  | [],_=>trivial
  | _ :: _,r=>exact r.elim
 | c :: l,l',vs,hl,r=>by
  have hl':ob (mvV f g c) (fun b=>ob (mapO (mvV f g) l) fun r=>some (b :: r)) = some l':=hl
  obtain ⟨b,h1,hl'⟩:=ob_inv hl'
  obtain ⟨q,h2,hl'⟩:=ob_inv hl'
  injection hl' with hl'
  subst hl'
  match vs,r with
  | v :: vs,r=>exact ⟨unV_rel h h1 r.1,unA_rel h h2 r.2⟩
  | [],r=>exact r.elim
end
end Go.SX
namespace Go.Proofs.YtcblajhfehadaaaGreat
open Go.RowKit Go.Joins Go.SX
abbrev Cells:=List (Nat × List C)
noncomputable def memT (m0:Cells):T Blk:=@List.rec (Nat × List C) (fun _=>T Blk) .lf (fun p _ ih=>ih.set p.1 (some ⟨p.2⟩)) m0
noncomputable def allB {α:Type} (f:α → Bool) (l:List α):Bool:=@List.rec α (fun _=>Bool) true (fun a _ ih=>bi (f a) ih false) l
noncomputable def hasB (m:T Blk) (p:Nat × List C):Bool:=@Option.rec Blk (fun _=>Bool) false (fun b=>eqL eqC b.cells p.2) (m.get p.1)
noncomputable def keyIn (k:Nat) (l:Cells):Bool:=@List.rec (Nat × List C) (fun _=>Bool) false (fun p _ ih=>bi (Nat.beq p.1 k) true ih) l
noncomputable def nodupK (l:Cells):Bool:=@List.rec (Nat × List C) (fun _=>Bool) true (fun p l ih=>bi (keyIn p.1 l) false ih) l
noncomputable def idx (k:Nat) (l:Cells):Nat → Option Nat:=@List.rec (Nat × List C) (fun _=>Nat → Option Nat) (fun _=>none) (fun p _ ih n=>bi (Nat.beq p.1 k) (some n) (ih (Nat.add n 1))) l
noncomputable def placeF (f:BM) (g:TM) (l:Cells):Nat → T Blk → Option (T Blk) :=
 @List.rec (Nat × List C) (fun _=>Nat → T Blk → Option (T Blk)) (fun _ m=>some m) (fun p _ ih n m=>ob (mapO (mvC f g) p.2) fun cs=>ih (Nat.add n 1) (m.set n (some ⟨cs⟩))) l
theorem allB_inv {α:Type} {f:α → Bool}:∀ {l:List α},allB f l = true → ∀ a ∈ l,f a = true
 | [],_,a,ha=>by simp at ha
 | b :: l,h,a,ha=>by
  have h':bi (f b) (allB f l) false = true:=h
  obtain ⟨h1,h2⟩:=bi3 h'
  rcases List.mem_cons.1 ha with e | ha
  ·rw [e];exact h1
  ·exact allB_inv h2 a ha
theorem hasB_inv {m:T Blk} {p:Nat × List C} (h:hasB m p = true):m.get p.1 = some ⟨p.2⟩:=by
 unfold hasB at h
 cases hq:m.get p.1 with
 | none=>rw [hq] at h;cases h
 | some b =>
  rw [hq] at h
  have e:=eqL_inv (fun _ _=>eqC_inv) h
  rw [← e]
theorem hasB_at {m:T Blk} {k:Nat} {cs:List C} (h:hasB m (k,cs) = true):m.get k = some ⟨cs⟩:=hasB_inv (p:=(k,cs)) h
theorem bi_flip {c d:Bool} (h:bi c false d = true):c = false∧d = true:=by cases c <;> first | (cases h;done) | exact ⟨rfl,h⟩
theorem ble_false {a b:Nat} (h:Nat.ble a b = false):b < a:=by
 by_cases g:a ≤ b
 ·rw [Nat.ble_eq_true_of_le g] at h;cases h
 ·omega
theorem beq_false' {a b:Nat} (h:Nat.beq a b = false):a ≠ b:=fun e=>by rw [e,Nat.beq_refl] at h;cases h
theorem memT_get:∀ {m0:Cells} {nb0:Nat},nb0 ≤ 8388608 → (∀ p ∈ m0,p.1 < nb0) → ∀ k b,(memT m0).get k = some b → ∃ p ∈ m0,p.1 = k∧b = ⟨p.2⟩
 | [],_,_,_,k,b,h=>by
  have h':(T.lf:T Blk).get k = some b:=h
  cases h'
 | p :: m0,nb0,hb,hd,k,b,h=>by
  have h':(T.set (memT m0) p.1 (some ⟨p.2⟩)).get k = some b:=h
  rw [get_set _ _ _ _ (by have:=hd p (by simp);omega)] at h'
  split at h'
  ·rename_i e
   injection h' with h'
   exact ⟨p,by simp,e.symm,h'.symm⟩
  ·obtain ⟨q,h1,h2⟩:=memT_get hb (fun q hq=>hd q (by simp [hq])) k b h'
   exact ⟨q,by simp [h1],h2⟩
theorem keyIn_false {k:Nat}:∀ {l:Cells},keyIn k l = false → ∀ p ∈ l,p.1 ≠ k
 | [],_,p,hp=>by simp at hp
 | q :: l,h,p,hp=>by
  have h':bi (Nat.beq q.1 k) true (keyIn k l) = false:=h
  cases hq:Nat.beq q.1 k with
  | true=>rw [hq] at h';cases h'
  | false =>
   rw [hq] at h'
   rcases List.mem_cons.1 hp with e | hp
   ·rw [e];exact beq_false' hq
   ·exact keyIn_false h' p hp
theorem nodup_inv:∀ {l:Cells},nodupK l = true → ∀ (i j:Nat) (p q:Nat × List C),l[i]? = some p → l[j]? = some q → p.1 = q.1 → i = j
 | [],_,i,_,p,_,h1,_,_=>by simp at h1
 | a :: l,h,i,j,p,q,h1,h2,h3=>by
  have h':bi (keyIn a.1 l) false (nodupK l) = true:=h
  obtain ⟨g1,g2⟩:=bi_flip h'
  have hk:=keyIn_false g1
  cases i with
  | zero =>
   cases j with
   | zero=>rfl
   | succ j =>
    simp at h1 h2
    exact absurd (by rw [h1];exact h3.symm) (hk q (List.mem_of_getElem? h2))
  | succ i =>
   cases j with
   | zero =>
    simp at h1 h2
    exact absurd (by rw [h2];exact h3) (hk p (List.mem_of_getElem? h1))
   | succ j =>
    simp at h1 h2
    rw [nodup_inv g2 i j p q h1 h2 h3]
theorem idx_inv {k:Nat}:∀ {l:Cells} {n m:Nat},idx k l n = some m → ∃ i p,l[i]? = some p∧p.1 = k∧m = n + i
 | [],_,_,h=>by cases h
 | q :: l,n,m,h=>by
  have h':bi (Nat.beq q.1 k) (some n) (idx k l (Nat.add n 1)) = some m:=h
  cases hq:Nat.beq q.1 k with
  | true =>
   rw [hq] at h'
   injection h' with h'
   exact ⟨0,q,rfl,beq_inv hq,by omega⟩
  | false =>
   rw [hq] at h'
   obtain ⟨i,p,h1,h2,h3⟩:=idx_inv h'
   have:Nat.add n 1 = n + 1:=rfl
   exact ⟨i + 1,p,by simpa using h1,h2,by omega⟩
theorem placeF_get {f:BM} {g:TM}:∀ {l:Cells} {n:Nat} {m m':T Blk},placeF f g l n m = some m' → n + l.length ≤ 8388608 →
 (∀ k,(k < n ∨ n + l.length ≤ k) → m'.get k = m.get k)∧∀ i p,l[i]? = some p → ∃ cs,mapO (mvC f g) p.2 = some cs∧m'.get (n + i) = some ⟨cs⟩
 | [],n,m,m',h,_=>by
  have h':some m = some m':=h
  injection h' with h';subst h'
  exact ⟨fun _ _=>rfl,fun i p hp=>by simp at hp⟩
 | q :: l,n,m,m',h,hb=>by
  have h':ob (mapO (mvC f g) q.2) (fun cs=>placeF f g l (Nat.add n 1) (m.set n (some ⟨cs⟩))) = some m':=h
  obtain ⟨cs,h1,h'⟩:=ob_inv h'
  have hl:(q :: l).length = l.length + 1:=rfl
  have hs:Nat.add n 1 = n + 1:=rfl
  rw [hs] at h'
  obtain ⟨g1,g2⟩:=placeF_get h' (by omega)
  have hget:∀ k,(m.set n (some ⟨cs⟩)).get k = if k = n then some ⟨cs⟩ else m.get k:=fun k=>get_set _ _ _ _ (by omega)
  refine ⟨fun k hk=>?_,fun i p hp=>?_⟩
  ·rw [g1 k (by omega),hget,if_neg (by omega)]
  ·cases i with
   | zero =>
    simp at hp
    subst hp
    exact ⟨cs,h1,by rw [Nat.add_zero,g1 n (by omega),hget,if_pos rfl]⟩
   | succ i =>
    obtain ⟨cs',h2,h3⟩:=g2 i p (by simpa using hp)
    exact ⟨cs',h2,by rw [show n + (i + 1) = n + 1 + i by omega];exact h3⟩
structure Kept (call:CallFn) (f:Nat) (a0:List V) (m0:Cells) (nb0 nt0 nt1:Nat) (v:V) (res:Cells):Prop where
 b8:nb0 ≤ 8388608
 low:∀ p ∈ m0,p.1 < nb0
 run:∃ r,call f a0 ⟨memT m0,nb0,nt0⟩ = some r∧r.v = v∧r.w = []∧r.st.nt = nt1∧∀ p ∈ res,nb0 ≤ p.1∧p.1 < r.st.nb∧r.st.mem.get p.1 = some ⟨p.2⟩
 dup:nodupK res = true
noncomputable def keptIn (m0:Cells) (nb0:Nat):Bool:=bi (Nat.ble nb0 8388608) (allB (fun p=>bi (Nat.ble nb0 p.1) false true) m0) false
noncomputable def keptR (nb0 nt1:Nat) (v:V) (res:Cells) (o:Option R):Bool :=
 @Option.rec R (fun _=>Bool) false (fun r=>bi (eqV r.v v) (bi (nilB r.w) (bi (Nat.beq r.st.nt nt1) (bi (nodupK res) (allB (fun p=>bi (Nat.ble nb0 p.1) (bi (Nat.ble r.st.nb p.1) false (hasB r.st.mem p)) false) res) false) false) false) false) o
theorem kept_of {call:CallFn} {f:Nat} {a0:List V} {m0:Cells} {nb0 nt0 nt1:Nat} {v:V} {res:Cells} (h1:keptIn m0 nb0 = true) (h2:keptR nb0 nt1 v res (call f a0 ⟨memT m0,nb0,nt0⟩) = true) :
 Kept call f a0 m0 nb0 nt0 nt1 v res:=by
 obtain ⟨i1,i2⟩:=bi3 h1
 cases hq:call f a0 ⟨memT m0,nb0,nt0⟩ with
 | none=>rw [hq] at h2;cases h2
 | some r =>
  rw [hq] at h2
  obtain ⟨j1,h2⟩:=bi3 h2
  obtain ⟨j2,h2⟩:=bi3 h2
  obtain ⟨j3,h2⟩:=bi3 h2
  obtain ⟨j4,j5⟩:=bi3 h2
  refine ⟨ble_inv i1,fun p hp=>ble_false (bi_flip (allB_inv i2 p hp)).1,⟨r,hq,eqV_inv j1,?_,beq_inv j3,fun p hp=>?_⟩,j4⟩
  ·cases hw:r.w with
   | nil=>rfl
   | cons a l=>rw [hw] at j2;cases j2
  ·obtain ⟨g1,g2⟩:=bi3 (allB_inv j5 p hp)
   obtain ⟨g3,g4⟩:=bi_flip g2
   exact ⟨ble_inv g1,ble_false g3,hasB_inv g4⟩
noncomputable def outB (nb0:Nat) (β:List Nat) (res:Cells) (nb k:Nat):Option Nat:=bi (Nat.ble nb0 k) (idx k res nb) (nth β k)
noncomputable def tokM (nt0:Nat) (τ:List (Nat × X)) (ξ:List X) (x0:Nat → X) (nt t:Nat) (x:X):Option (Nat × X) :=
 bi (eqX x (x0 t)) (bi (Nat.ble nt0 t) (ob (nth ξ (Nat.sub t nt0)) fun y=>some (Nat.add nt (Nat.sub t nt0),y)) (nth τ t)) none
noncomputable def nodupN (l:List Nat):Bool:=@List.rec Nat (fun _=>Bool) true (fun a l ih=>bi (memb l a) false ih) l
noncomputable def hasM (f:BM) (g:TM) (m:T Blk) (p:Nat × List C):Bool:=@Option.rec (Nat × List C) (fun _=>Bool) false (fun q=>hasB m q) (ob (f p.1) fun k=>ob (mapO (mvC f g) p.2) fun cs=>some (k,cs))
noncomputable def reloc (a0:List V) (m0:Cells) (nb0 nt0:Nat) (v:V) (res:Cells) (x0:Nat → X) (β:List Nat) (τ:List (Nat × X)) (ξ:List X) (vl:List V) (st:St):Option R :=
 ob (mapO (mvV (nth β) (tokM nt0 τ [] x0 st.nt)) a0) fun a=>bi (eqL eqV a vl) (bi (Nat.ble (len β) nb0) (bi (nodupN β) (bi (allB (hasM (nth β) (tokM nt0 τ [] x0 st.nt) st.mem) m0) (bi (Nat.ble (Nat.add st.nb (len res)) 8388608)
  (ob (mvV (outB nb0 β res st.nb) (tokM nt0 τ ξ x0 st.nt) v) fun v'=>ob (placeF (outB nb0 β res st.nb) (tokM nt0 τ ξ x0 st.nt) res st.nb st.mem) fun m'=>some ⟨v',⟨m',Nat.add st.nb (len res),Nat.add st.nt (len ξ)⟩,[],none⟩) none) none) none) none) none
theorem memb_inv {l:List Nat} {n:Nat}:memb l n = false → n ∉ l:=by
 induction l with
 | nil=>intro _ h;simp at h
 | cons a l ih =>
  intro h hm
  have h':bi (Nat.beq a n) true (memb l n) = false:=h
  cases hq:Nat.beq a n with
  | true=>rw [hq] at h';cases h'
  | false =>
   rw [hq] at h'
   rcases List.mem_cons.1 hm with e | hm
   ·exact beq_false' hq e.symm
   ·exact ih h' hm
theorem nodupN_inv:∀ {l:List Nat},nodupN l = true → ∀ (i j k:Nat),l[i]? = some k → l[j]? = some k → i = j
 | [],_,i,_,k,h1,_=>by simp at h1
 | a :: l,h,i,j,k,h1,h2=>by
  have h':bi (memb l a) false (nodupN l) = true:=h
  obtain ⟨g1,g2⟩:=bi_flip h'
  have hk:=memb_inv g1
  cases i with
  | zero =>
   cases j with
   | zero=>rfl
   | succ j =>
    simp at h1 h2
    subst h1
    exact absurd (List.mem_of_getElem? h2) hk
  | succ i =>
   cases j with
   | zero =>
    simp at h1 h2
    subst h2
    exact absurd (List.mem_of_getElem? h1) hk
   | succ j =>
    simp at h1 h2
    rw [nodupN_inv g2 i j k h1 h2]
theorem tokM_inv {nt0:Nat} {τ:List (Nat × X)} {ξ:List X} {x0:Nat → X} {nt t:Nat} {x:X} {p:Nat × X} (h:tokM nt0 τ ξ x0 nt t x = some p) :
 x = x0 t∧((t < nt0∧τ[t]? = some p) ∨ (∃ i y,t = nt0 + i∧ξ[i]? = some y∧p = (nt + i,y))):=by
 obtain ⟨h1,h⟩:=bi_inv h
 refine ⟨eqX_inv h1,?_⟩
 cases hq:Nat.ble nt0 t with
 | true =>
  rw [hq] at h
  obtain ⟨y,h2,h⟩:=ob_inv h
  injection h with h
  rw [nth_eq] at h2
  have:=ble_inv hq
  exact .inr ⟨t - nt0,y,by omega,h2,h.symm⟩
 | false =>
  rw [hq] at h
  have h:nth τ t = some p:=h
  rw [nth_eq] at h
  exact .inl ⟨ble_false hq,h⟩
section
variable {P:Program} {val0 val:X → Rat} {drw:Drw}
theorem tval_move {v0 v1:X → Rat} {j j':Nat} {G:List Nat} {w:World} {cs:Array Value} {x y:X} (hx:x.kd ≠ 1) (hy:y.kd ≠ 1) (he:v0 x = v1 y) (h:TVal v1 j G w ⟨cs,y⟩):TVal v0 j' G w ⟨cs,x⟩:=by
 unfold TVal at *
 simp only at h ⊢
 rw [if_neg hy] at h
 rw [if_neg hx,he];exact h
open Classical in
theorem reloc_ok {call:CallFn} (hcall:CallOk P (toks val0 drw) call) {f:Nat} {a0:List V} {m0:Cells} {nb0 nt0:Nat} {v:V} {res:Cells} {x0:Nat → X} {β:List Nat} {τ:List (Nat × X)} {ξ:List X} {vl:List V} {st:St} {r:R}
 (hk:Kept call f a0 m0 nb0 nt0 (nt0 + ξ.length) v res) (hx0:∀ t,(x0 t).kd ≠ 1)
 (hτ:∀ t p,t < nt0 → τ[t]? = some p → p.2.kd ≠ 1∧val0 (x0 t) = val p.2) (hξ:∀ i y,ξ[i]? = some y → y.kd ≠ 1∧val0 (x0 (nt0 + i)) = val y)
 (h:reloc a0 m0 nb0 nt0 v res x0 β τ ξ vl st = some r) (hst:StOk st) :
 Eff st r∧(∀ vs w,(callFunc f vs).run P w = .ok (.enter f vs) w) ∧
  ∀ E w vs,RelA E vl vs → Pre (toks val drw) E w st r → Calls P f vs.toArray w fun e u=>∃ v F,e = .returned v∧Out (toks val drw) E w st r F u v:=by
 obtain ⟨hb8,hlow,⟨r0,hq,hv0,hw0,hnt0,hres⟩,hdup⟩:=hk
 have hst0:StOk ⟨memT m0,nb0,nt0⟩:=by
  refine ⟨hb8,fun k hk=>?_⟩
  show (memT m0).get k = none
  cases hg:(memT m0).get k with
  | none=>rfl
  | some b =>
   obtain ⟨p,h1,h2,_⟩:=memT_get hb8 hlow k b hg
   have:=hlow p h1
   have:nb0 ≤ k:=hk
   omega
 obtain ⟨heff0,henter,hsound⟩:=hcall f a0 _ r0 hq hst0
 have hnb0:=heff0.ok.nb
 obtain ⟨a,c0,h⟩:=ob_inv h
 obtain ⟨c1,h⟩:=bi_inv h
 obtain ⟨c2,h⟩:=bi_inv h
 obtain ⟨c3,h⟩:=bi_inv h
 obtain ⟨c4,h⟩:=bi_inv h
 obtain ⟨c5,h⟩:=bi_inv h
 obtain ⟨v',c6,h⟩:=ob_inv h
 obtain ⟨m',c7,h⟩:=ob_inv h
 injection h with h
 subst h
 have c1':=eqL_inv (fun _ _=>eqV_inv) c1
 subst c1'
 have c2':β.length ≤ nb0:=by have:=ble_inv c2;rw [len_eq] at this;exact this
 have c5':st.nb + res.length ≤ 8388608:=by have:=ble_inv c5;rw [len_eq] at this;exact this
 have hnth:∀ k,nth β k = β[k]?:=fun k=>nth_eq β k
 have hinj:∀ i j k,nth β i = some k → nth β j = some k → i = j:=fun i j k h1 h2=>nodupN_inv c3 i j k (by rw [← hnth];exact h1) (by rw [← hnth];exact h2)
 have c4':∀ p ∈ m0,∃ k cs,nth β p.1 = some k∧mapO (mvC (nth β) (tokM nt0 τ [] x0 st.nt)) p.2 = some cs∧st.mem.get k = some ⟨cs⟩:=by
  intro p hp
  have:=allB_inv c4 p hp
  unfold hasM at this
  cases hk:nth β p.1 with
  | none=>rw [hk] at this;cases this
  | some k =>
   rw [hk] at this
   have this:@Option.rec (Nat × List C) (fun _=>Bool) false (fun q=>hasB st.mem q) (ob (mapO (mvC (nth β) (tokM nt0 τ [] x0 st.nt)) p.2) fun cs=>some (k,cs)) = true:=this
   cases hc:mapO (mvC (nth β) (tokM nt0 τ [] x0 st.nt)) p.2 with
   | none=>rw [hc] at this;cases this
   | some cs =>
    rw [hc] at this
    exact ⟨k,cs,rfl,rfl,hasB_at this⟩
 obtain ⟨p1,p2⟩:=placeF_get c7 c5'
 rw [len_eq,len_eq]
 refine ⟨⟨Nat.le_add_right _ _,Nat.le_add_right _ _,fun k _ hk=>p1 k (.inl hk),fun k hk=>by simp at hk,⟨c5',fun k hk=>?_⟩,fun l hl=>by cases hl⟩,henter,fun E w vs hrel hp=>?_⟩
 ·show m'.get k = none
  have:st.nb + res.length ≤ k:=hk
  rw [p1 k (.inr this)]
  exact hst.dom k (by omega)
 ·-- the small world's environment: all other blocks lie behind H
  obtain ⟨H,hH1,hH2⟩:∃ H:Nat,nb0 ≤ H∧r0.st.nb ≤ H:=⟨8388608,hb8,hnb0⟩
  let E0:Env:={ rho:=fun k=>if H ≤ k then E.rho (k - H) else (nth β k).bind E.rho,sig:=fun t=>if t < nt0 then (τ[t]?).bind fun p=>(E.sig p.1).bind fun cs=>if cs.x = p.2 then some ⟨cs.cs,x0 t⟩ else none else none,fix:=E.fix }
  have hE0lo:∀ k,k < H → E0.rho k = (nth β k).bind E.rho:=fun k hk=>by
   show (if H ≤ k then E.rho (k - H) else (nth β k).bind E.rho) = _
   rw [if_neg (by omega)]
  have hE0hi:∀ k,E0.rho (H + k) = E.rho k:=fun k=>by
   show (if H ≤ H + k then E.rho (H + k - H) else (nth β (H + k)).bind E.rho) = _
   rw [if_pos (by omega),show H + k - H = k by omega]
  have hE0:∀ k b,E0.rho k = some b → ∃ k',(k < H → nth β k = some k')∧E.rho k' = some b:=by
   intro k b hk
   by_cases hlt:k < H
   ·rw [hE0lo k hlt] at hk
    cases hn:nth β k with
    | none=>rw [hn] at hk;cases hk
    | some k'=>rw [hn] at hk;exact ⟨k',fun _=>rfl,hk⟩
   ·have:=hE0hi (k - H)
    rw [show H + (k - H) = k by omega,hk] at this
    exact ⟨k - H,fun h=>absurd h hlt,this.symm⟩
  have hβ:∀ k k',nth β k = some k' → k < nb0:=fun k k' hk=>by
   rw [hnth] at hk
   have:=(List.getElem?_eq_some_iff.1 hk).1
   omega
  have hsig0:∀ t c,E0.sig t = some c → ∃ p cs,t < nt0∧τ[t]? = some p∧E.sig p.1 = some cs∧cs.x = p.2∧c = ⟨cs.cs,x0 t⟩:=by
   intro t c hc
   have hc':(if t < nt0 then (τ[t]?).bind fun p=>(E.sig p.1).bind fun cs=>if cs.x = p.2 then some ⟨cs.cs,x0 t⟩ else none else none) = some c:=hc
   split at hc'
   ·rename_i hlt
    cases hp:τ[t]? with
    | none=>rw [hp] at hc';cases hc'
    | some p =>
     rw [hp] at hc'
     have hc':((E.sig p.1).bind fun cs=>if cs.x = p.2 then some ⟨cs.cs,x0 t⟩ else none) = some c:=hc'
     cases hs:E.sig p.1 with
     | none=>rw [hs] at hc';cases hc'
     | some cs =>
      rw [hs] at hc'
      have hc':(if cs.x = p.2 then some (⟨cs.cs,x0 t⟩:TokD) else none) = some c:=hc'
      split at hc'
      ·rename_i hx
       injection hc' with hc'
       exact ⟨p,cs,hlt,rfl,hs,hx,hc'.symm⟩
      ·cases hc'
   ·cases hc'
  have hun:Un (nth β) (tokM nt0 τ [] x0 st.nt) E0 E:=by
   refine ⟨fun k k' b hk hb=>?_,fun t x p cs hg hs hx=>?_,rfl⟩
   ·rw [hE0lo k (by have:=hβ k k' hk;omega),hk];exact hb
   ·obtain ⟨e,h1 | ⟨i,y,_,h2,_⟩⟩:=tokM_inv hg
    ·show (if t < nt0 then (τ[t]?).bind fun p=>(E.sig p.1).bind fun cs=>if cs.x = p.2 then some (⟨cs.cs,x0 t⟩:TokD) else none else none) = _
     rw [if_pos h1.1,h1.2]
     show ((E.sig p.1).bind fun cs=>if cs.x = p.2 then some (⟨cs.cs,x0 t⟩:TokD) else none) = _
     rw [hs]
     show (if cs.x = p.2 then some (⟨cs.cs,x0 t⟩:TokD) else none) = _
     rw [if_pos hx,e]
    ·simp at h2
  have hm0:∀ k b,(memT m0).get k = some b → ∃ p ∈ m0,p.1 = k∧b = ⟨p.2⟩:=fun k b hg=>memT_get hb8 hlow k b hg
  have hpre:Pre (toks val0 drw) E0 w ⟨memT m0,nb0,nt0⟩ r0:=by
   refine ⟨⟨fun k p s hk=>?_,fun t c hc=>?_,?_⟩,fun k b _ hg=>?_,fun k k' b b' p s s' _ _ hg hg' hk hk'=>?_,fun k hk hk2=>?_,fun j h1 h2=>?_⟩
   ·obtain ⟨k',_,h2⟩:=hE0 k _ hk
    exact hp.gi.low k' p s h2
   ·obtain ⟨p,cs,hlt,hp1,hs,hx,rfl⟩:=hsig0 t c hc
    obtain ⟨G,hG,hT⟩:=hp.gi.tok _ _ hs
    refine ⟨G,fun b hb=>⟨(hG b hb).1,fun k s hk=>?_⟩,?_⟩
    ·obtain ⟨k',_,h2⟩:=hE0 k _ hk
     exact (hG b hb).2 k' s h2
    ·obtain ⟨g1,g2⟩:=hτ t p hlt hp1
     have hT:TVal val p.1 G w cs:=hT
     obtain ⟨cc,cx⟩:=cs
     simp only at hx
     subst hx
     exact tval_move (j':=0) (hx0 t) g1 g2 hT
   ·obtain ⟨G,hG,hB⟩:=hp.gi.base
    exact ⟨G,fun b hb=>⟨(hG b hb).1,fun k s hk=>by obtain ⟨k',_,h2⟩:=hE0 k _ hk;exact (hG b hb).2 k' s h2⟩,hB⟩
   ·obtain ⟨q,h1,h2,h3⟩:=hm0 k b hg
    obtain ⟨k',cs,g1,g2,g3⟩:=c4' q h1
    obtain ⟨p,s,arr,ty,e1,e2,e3,e4⟩:=hp.blk k' _ trivial g3
    refine ⟨p,s,arr,ty,?_,e2,e3,?_⟩
    ·rw [hE0lo k (by rw [← h2];have:=hlow q h1;omega),← h2,g1];exact e1
    ·rw [h3];exact unF_rel hun g2 e4
   ·obtain ⟨q,h1,h2,h3⟩:=hm0 k b hg
    obtain ⟨q',h1',h2',h3'⟩:=hm0 k' b' hg'
    obtain ⟨j,cs,g1,g2,g3⟩:=c4' q h1
    obtain ⟨j',cs',g1',g2',g3'⟩:=c4' q' h1'
    obtain ⟨l,l1,l2⟩:=hE0 k _ hk
    obtain ⟨l',l1',l2'⟩:=hE0 k' _ hk'
    have lk:=hlow q h1
    have lk':=hlow q' h1'
    rw [h2] at g1 lk
    rw [h2'] at g1' lk'
    replace l1:=l1 (by omega)
    replace l1':=l1' (by omega)
    rw [g1] at l1
    rw [g1'] at l1'
    injection l1 with l1
    injection l1' with l1'
    subst l1
    subst l1'
    have:=hp.inj _ _ _ _ p s s' trivial trivial g3 g3' l2 l2'
    subst this
    exact hinj _ _ _ g1 g1'
   ·have h1:nb0 ≤ k:=hk
    have h2:k < r0.st.nb:=hk2
    rw [hE0lo k (by omega),hnth,List.getElem?_eq_none (by omega)];rfl
   ·have:nt0 ≤ j:=h1
    show (if j < nt0 then _ else none) = none
    rw [if_neg (by omega)]
  refine (hsound E0 w vs (unA_rel hun c0 hrel) hpre).mono fun e u ⟨x,F0,he,ho⟩=>?_
  have hF0:∀ k,k < nb0 → F0.rho k = E0.rho k:=by
   intro k hk
   by_cases g:F0.rho k = E0.rho k
   ·exact g
   ·have:=(ho.step.newB k g).1
    have:nb0 ≤ k:=this
    omega
  have hF0hi:∀ k,F0.rho (H + k) = E.rho k:=by
   intro k
   rw [← hE0hi k]
   by_cases g:F0.rho (H + k) = E0.rho (H + k)
   ·exact g
   ·have:=(ho.step.newB _ g).2
    omega
  have hF0s:∀ t,t < nt0 → F0.sig t = E0.sig t:=by
   intro t ht
   by_cases g:F0.sig t = E0.sig t
   ·exact g
   ·have:=(ho.step.newT t g).1
    have:nt0 ≤ t:=this
    omega
  let F:Env:={ rho:=fun k=>if st.nb ≤ k then (match res[k - st.nb]? with | some p=>F0.rho p.1 | none=>E.rho k) else E.rho k,
               sig:=fun j=>if st.nt ≤ j then (match ξ[j - st.nt]? with | some y=>(F0.sig (nt0 + (j - st.nt))).bind fun cs=>if cs.x = x0 (nt0 + (j - st.nt)) then some ⟨cs.cs,y⟩ else none | none=>E.sig j) else E.sig j,
               fix:=E.fix }
  have hFlo:∀ k,k < st.nb → F.rho k = E.rho k:=fun k hk=>by
   show (if st.nb ≤ k then _ else E.rho k) = _
   rw [if_neg (by omega)]
  have hFnew:∀ (i:Nat) (p:Nat × List C),res[i]? = some p → F.rho (st.nb + i) = F0.rho p.1:=fun i p hi=>by
   show (if st.nb ≤ st.nb + i then (match res[st.nb + i - st.nb]? with | some p=>F0.rho p.1 | none=>E.rho (st.nb + i)) else E.rho (st.nb + i)) = _
   rw [if_pos (by omega),show st.nb + i - st.nb = i by omega,hi]
  have hFhi:∀ k,st.nb + res.length ≤ k → F.rho k = E.rho k:=fun k hk=>by
   show (if st.nb ≤ k then (match res[k - st.nb]? with | some p=>F0.rho p.1 | none=>E.rho k) else E.rho k) = _
   rw [if_pos (by omega),List.getElem?_eq_none (by omega)]
  have hSlo:∀ j,j < st.nt → F.sig j = E.sig j:=fun j hj=>by
   show (if st.nt ≤ j then _ else E.sig j) = _
   rw [if_neg (by omega)]
  have hSnew:∀ (i:Nat) (y:X),ξ[i]? = some y → F.sig (st.nt + i) = (F0.sig (nt0 + i)).bind fun cs=>if cs.x = x0 (nt0 + i) then some ⟨cs.cs,y⟩ else none:=fun i y hi=>by
   show (if st.nt ≤ st.nt + i then (match ξ[st.nt + i - st.nt]? with | some y=>(F0.sig (nt0 + (st.nt + i - st.nt))).bind fun cs=>if cs.x = x0 (nt0 + (st.nt + i - st.nt)) then some (⟨cs.cs,y⟩:TokD) else none | none=>E.sig (st.nt + i)) else E.sig (st.nt + i)) = _
   rw [if_pos (by omega),show st.nt + i - st.nt = i by omega,hi]
  have hShi:∀ j,st.nt + ξ.length ≤ j → F.sig j = E.sig j:=fun j hj=>by
   show (if st.nt ≤ j then (match ξ[j - st.nt]? with | some y=>(F0.sig (nt0 + (j - st.nt))).bind fun cs=>if cs.x = x0 (nt0 + (j - st.nt)) then some (⟨cs.cs,y⟩:TokD) else none | none=>E.sig j) else E.sig j) = _
   rw [if_pos (by omega),List.getElem?_eq_none (by omega)]
  have hcase:∀ k q,F.rho k = some q → E.rho k = some q ∨ ∃ i p,res[i]? = some p∧k = st.nb + i∧F0.rho p.1 = some q:=by
   intro k q hk
   by_cases g1:k < st.nb
   ·rw [hFlo k g1] at hk;exact .inl hk
   ·by_cases g2:st.nb + res.length ≤ k
    ·rw [hFhi k g2] at hk;exact .inl hk
    ·have hi:k - st.nb < res.length:=by omega
     have:=hFnew (k - st.nb) _ (List.getElem?_eq_getElem hi)
     rw [show st.nb + (k - st.nb) = k by omega] at this
     exact .inr ⟨k - st.nb,_,List.getElem?_eq_getElem hi,by omega,by rw [← this];exact hk⟩
  have hEnew:∀ (i:Nat) (p:Nat × List C),res[i]? = some p → E.rho (st.nb + i) = none:=fun i p hi=>by
   have:=(List.getElem?_eq_some_iff.1 hi).1
   exact hp.newB _ (Nat.le_add_right _ _) (by show st.nb + i < st.nb + res.length;omega)
  have hEnewT:∀ (i:Nat) (y:X),ξ[i]? = some y → E.sig (st.nt + i) = none:=fun i p hi=>by
   have:=(List.getElem?_eq_some_iff.1 hi).1
   exact hp.newT _ (Nat.le_add_right _ _) (by show st.nt + i < st.nt + ξ.length;omega)
  have hhigh:∀ (i:Nat) (p:Nat × List C) (q s:Nat),res[i]? = some p → F0.rho p.1 = some (q,s) → w.heap.size ≤ q:=by
   intro i p q s hi hq
   obtain ⟨g1,g2,_⟩:=hres p (List.mem_of_getElem? hi)
   rcases ho.step.fresh p.1 q s g1 g2 hq with h | ⟨k0,hk0,_⟩
   ·exact h
   ·rw [hw0] at hk0;simp at hk0
  have hkept:∀ b,b < w.heap.size → u.heap[b]? = w.heap[b]?:=fun b hb=>ho.step.kept b hb (fun k hk=>by rw [hw0] at hk;simp at hk)
  have hmv:Mv (outB nb0 β res st.nb) (tokM nt0 τ ξ x0 st.nt) F0 F:=by
   refine ⟨fun k k' b hk hb=>?_,fun t y p cs hg hs hx=>?_,ho.step.le.fix.symm⟩
   ·unfold outB at hk
    cases hq:Nat.ble nb0 k with
    | true =>
     rw [hq] at hk
     obtain ⟨i,p,h1,h2,h3⟩:=idx_inv hk
     rw [h3,hFnew i p h1,h2];exact hb
    | false =>
     rw [hq] at hk
     have hk:nth β k = some k':=hk
     have hlt:=ble_false hq
     rw [hF0 k hlt] at hb
     obtain ⟨k2,g1,g2⟩:=hE0 k _ hb
     replace g1:=g1 (by omega)
     rw [hk] at g1
     injection g1 with g1
     subst g1
     have he2:F.rho k' = E.rho k':=by
      by_cases l1:k' < st.nb
      ·exact hFlo _ l1
      ·by_cases l2:st.nb + res.length ≤ k'
       ·exact hFhi _ l2
       ·have:=hEnew (k' - st.nb) _ (List.getElem?_eq_getElem (show k' - st.nb < res.length by omega))
        rw [show st.nb + (k' - st.nb) = k' by omega,g2] at this
        cases this
     rw [he2];exact g2
   ·obtain ⟨e,h1 | ⟨i,z,h1,h2,h3⟩⟩:=tokM_inv hg
    ·rw [hF0s t h1.1] at hs
     obtain ⟨p',cs',_,k1,k2,k3,k4⟩:=hsig0 t _ hs
     rw [h1.2] at k1
     injection k1 with k1
     subst k1
     have hlt:F.sig p.1 = E.sig p.1:=by
      by_cases g1:p.1 < st.nt
      ·exact hSlo _ g1
      ·by_cases g2:st.nt + ξ.length ≤ p.1
       ·exact hShi _ g2
       ·have:=hEnewT (p.1 - st.nt) _ (List.getElem?_eq_getElem (show p.1 - st.nt < ξ.length by omega))
        rw [show st.nt + (p.1 - st.nt) = p.1 by omega,k2] at this
        cases this
     rw [hlt,k2,k4]
     obtain ⟨cc,cx⟩:=cs'
     simp only at k3
     subst k3
     rfl
    ·subst h3
     rw [hSnew i z h2]
     rw [h1] at hs e
     rw [hs]
     show (if cs.x = x0 (nt0 + i) then some (⟨cs.cs,z⟩:TokD) else none) = _
     rw [if_pos (by rw [hx];exact e)]
  have hle:E.le F:=by
   refine ⟨fun k b hk=>?_,fun j c hj=>?_,rfl⟩
   ·by_cases g1:k < st.nb
    ·rw [hFlo k g1];exact hk
    ·by_cases g2:st.nb + res.length ≤ k
     ·rw [hFhi k g2];exact hk
     ·have:=hEnew (k - st.nb) _ (List.getElem?_eq_getElem (show k - st.nb < res.length by omega))
      rw [show st.nb + (k - st.nb) = k by omega,hk] at this
      cases this
   ·by_cases g1:j < st.nt
    ·rw [hSlo j g1];exact hj
    ·by_cases g2:st.nt + ξ.length ≤ j
     ·rw [hShi j g2];exact hj
     ·have:=hEnewT (j - st.nt) _ (List.getElem?_eq_getElem (show j - st.nt < ξ.length by omega))
      rw [show st.nt + (j - st.nt) = j by omega,hj] at this
      cases this
  have hfar:∀ (G:List Nat),(∀ b ∈ G,b < w.heap.size∧∀ k s,E.rho k ≠ some (b,s)) → ∀ b ∈ G,b < u.heap.size∧∀ k s,F.rho k ≠ some (b,s):=by
   intro G hG b hb
   obtain ⟨h1,h2⟩:=hG b hb
   refine ⟨Nat.lt_of_lt_of_le h1 ho.step.size,fun k s hk=>?_⟩
   rcases hcase k _ hk with h | ⟨i,q,g1,g2,g3⟩
   ·exact h2 k s h
   ·have:=hhigh i q b s g1 g3
    omega
  refine ⟨x,F,he,⟨hle,fun k hk=>?_,fun j hj=>?_,ho.step.os,ho.step.tape,ho.step.output,ho.step.size,fun b hb _=>hkept b hb,fun k p s h1 h2 h3=>?_,?_⟩,?_,fun k b hk hg=>?_,fun k k' b b' p s s' hk hk' hg hg' h3 h4=>?_⟩
  ·show st.nb ≤ k∧k < st.nb + res.length
   refine ⟨?_,?_⟩
   ·by_cases g:st.nb ≤ k
    ·exact g
    ·exact absurd (hFlo k (by omega)) hk
   ·by_cases g:k < st.nb + res.length
    ·exact g
    ·exact absurd (hFhi k (by omega)) hk
  ·show st.nt ≤ j∧j < st.nt + ξ.length
   refine ⟨?_,?_⟩
   ·by_cases g:st.nt ≤ j
    ·exact g
    ·exact absurd (hSlo j (by omega)) hj
   ·by_cases g:j < st.nt + ξ.length
    ·exact g
    ·exact absurd (hShi j (by omega)) hj
  ·have h1':st.nb ≤ k:=h1
   have h2':k < st.nb + res.length:=h2
   have hi:k - st.nb < res.length:=by omega
   have:=hFnew (k - st.nb) _ (List.getElem?_eq_getElem hi)
   rw [show st.nb + (k - st.nb) = k by omega,h3] at this
   exact .inl (hhigh _ _ _ _ (List.getElem?_eq_getElem hi) this.symm)
  ·refine ⟨fun k p s hk=>?_,fun j c hj=>?_,?_⟩
   ·rcases hcase k _ hk with h | ⟨i,q,h1,h2,h3⟩
    ·exact Nat.lt_of_lt_of_le (hp.gi.low k p s h) ho.step.size
    ·exact ho.step.gi.low _ _ _ h3
   ·by_cases g:st.nt ≤ j∧j < st.nt + ξ.length
    ·have hi:j - st.nt < ξ.length:=by omega
     have:=hSnew (j - st.nt) _ (List.getElem?_eq_getElem hi)
     rw [show st.nt + (j - st.nt) = j by omega,hj] at this
     cases hs:F0.sig (nt0 + (j - st.nt)) with
     | none=>rw [hs] at this;cases this
     | some cs =>
      rw [hs] at this
      have this:some c = if cs.x = x0 (nt0 + (j - st.nt)) then some (⟨cs.cs,ξ[j - st.nt]⟩:TokD) else none:=this
      split at this
      ·rename_i hx
       injection this with this
       subst this
       obtain ⟨G,hG,hT⟩:=ho.step.gi.tok _ _ hs
       refine ⟨G,fun b hb=>⟨(hG b hb).1,fun k s hk=>?_⟩,?_⟩
       ·rcases hcase k _ hk with h | ⟨i,q,g1,g2,g3⟩
        ·exact (hG b hb).2 (H + k) s (by rw [hF0hi k];exact h)
        ·exact (hG b hb).2 _ s g3
       ·obtain ⟨e1,e2⟩:=hξ _ _ (List.getElem?_eq_getElem hi)
        have hT:TVal val0 0 G u cs:=hT
        obtain ⟨cc,cx⟩:=cs
        simp only at hx
        subst hx
        exact tval_move (j':=0) e1 (hx0 _) e2.symm hT
      ·cases this
    ·have hj':E.sig j = some c:=by
      by_cases g1:j < st.nt
      ·rw [← hSlo j g1];exact hj
      ·rw [← hShi j (by omega)];exact hj
     obtain ⟨G,hG,hT⟩:=hp.gi.tok j c hj'
     exact ⟨G,hfar G hG,(toks val drw).stab j G w u c (fun b hb=>hkept b (hG b hb).1) hT⟩
   ·obtain ⟨G,hG,hB⟩:=hp.gi.base
    exact ⟨G,hfar G hG,(toks val drw).bstab _ G w u (fun b hb=>hkept b (hG b hb).1) hB⟩
  ·have:=ho.val
   rw [hv0] at this
   exact mvV_rel hmv c6 this
  ·have hk2:st.nb ≤ k∧k < st.nb + res.length:=by
    rcases hk with hk | hk
    ·simp at hk
    ·exact hk
   have hi:k - st.nb < res.length:=by omega
   obtain ⟨cs,h1,h2⟩:=p2 (k - st.nb) _ (List.getElem?_eq_getElem hi)
   rw [show st.nb + (k - st.nb) = k by omega] at h2
   have hg':m'.get k = some b:=hg
   rw [h2] at hg'
   injection hg' with hg'
   subst hg'
   obtain ⟨g1,g2,g3⟩:=hres _ (List.getElem_mem hi)
   obtain ⟨q,s,arr,ty,e1,e2,e3,e4⟩:=ho.blk _ _ (.inr ⟨g1,g2⟩) g3
   refine ⟨q,s,arr,ty,?_,e2,e3,mvF_rel hmv h1 e4⟩
   have:=hFnew (k - st.nb) _ (List.getElem?_eq_getElem hi)
   rw [show st.nb + (k - st.nb) = k by omega] at this
   rw [this];exact e1
  ·have hk2:st.nb ≤ k∧k < st.nb + res.length:=by
    rcases hk with hk | hk
    ·simp at hk
    ·exact hk
   have hk3:st.nb ≤ k'∧k' < st.nb + res.length:=by
    rcases hk' with hk | hk
    ·simp at hk
    ·exact hk
   have hi:k - st.nb < res.length:=by omega
   have hi':k' - st.nb < res.length:=by omega
   have e1:=hFnew (k - st.nb) _ (List.getElem?_eq_getElem hi)
   have e2:=hFnew (k' - st.nb) _ (List.getElem?_eq_getElem hi')
   rw [show st.nb + (k - st.nb) = k by omega,h3] at e1
   rw [show st.nb + (k' - st.nb) = k' by omega,h4] at e2
   obtain ⟨g1,g2,g3⟩:=hres _ (List.getElem_mem hi)
   obtain ⟨g1',g2',g3'⟩:=hres _ (List.getElem_mem hi')
   have:=ho.inj _ _ _ _ p s s' (.inr ⟨g1,g2⟩) (.inr ⟨g1',g2'⟩) g3 g3' e1.symm e2.symm
   have:=nodup_inv hdup _ _ _ _ (List.getElem?_eq_getElem hi) (List.getElem?_eq_getElem hi') this
   omega
end
end Go.Proofs.YtcblajhfehadaaaGreat
