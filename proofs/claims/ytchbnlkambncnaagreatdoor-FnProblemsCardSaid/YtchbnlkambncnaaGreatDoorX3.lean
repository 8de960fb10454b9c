/-
 Shared texts (X3).
-/
import Derived.Test.YtchbnlkambncnaaGreatDoorX2
import Derived.LoopN
namespace Go.SX
section
variable {P:Program} {fr:Ev} {st:St} {o:Oper} {K:Toks}
theorem isSlice_run {ts:List Nat} {l:List V} {r:R} (h:builtinV P .len ts l st = some r) :
 ∃ t us e c,ts = t :: us∧P.underlying t = some (.slice e)∧one l = some c∧lenV st c = some r:=by
 cases ts with
 | nil=>cases h
 | cons t us =>
  have h':ob (P.underlying t) (fun d=>bi (isSlice d) (ob (one l) (lenV st)) none) = some r:=h
  obtain ⟨d,h1,h'⟩:=ob_inv h'
  obtain ⟨h2,h'⟩:=bi_inv h'
  obtain ⟨e,rfl⟩:=isSlice_inv h2
  obtain ⟨c,h3,h'⟩:=ob_inv h'
  exact ⟨t,us,e,c,rfl,h1,h3,h'⟩
theorem run_copyQ (w:World) (dT sT ty elem z:TypeId) (g o dLen dCap:Nat) (a:Addr) (sLen sCap:Nat) (cur:Array Value) (t:TypeId) (cs:List Value)
 (hu:P.underlying dT = some (.slice elem)) (hs:(P.info? elem).map (·.size) = some z)
 (hg:w.heap[g]? = some (.cells cur t (0,0))) (k:Nat) (hk:Nat.min sLen dLen = k) (hn:cs.length = k * z)
 (hsrc:∀ j v,cs[j]? = some v → w.cell? (a.add j) = some v) (hfit:o + cs.length ≤ cur.size) (h1:∀ v ∈ cs,v.oneCell' = true) :
 (Builtin.copy_ #[dT,sT] ty #[.slice (some ⟨g,o,none⟩) dLen dCap,.slice (some a) sLen sCap]).run P w =
  .ok (goInt k) (w.setRow g (cur.toList.take o ++ cs ++ cur.toList.drop (o + cs.length)).toArray):=by
 have hl:=run_loadCells_list (P:=P) w a cs hsrc
 have hst:=run_storeCells_at (P:=P) g o t cs 0 cur w hg (by simpa using hfit) h1
 cases hq:P.info? elem with
 | none=>simp [hq] at hs
 | some i =>
  have hi:i.size = z:=by simpa [hq] using hs
  simp [Builtin.copy_,run_underlying hu,Builtin.lenOf,Builtin.firstCells,sizeOf,typeInfo,hq,hi,hk,← hn,hl,hst]
theorem snd_copy {c:Call} {l:List V} {r:R} (hst:StOk st) (ho:o.op = .call c) (hb:c.callee = .builtin .copy) (ha:args fr c.args.toList = some l)
 (h:builtinV P .copy c.argTypes.toList l st = some r):Sound P fr st o r:=by
 obtain ⟨p,h1,h⟩:=ob_inv (show ob (two l) (fun p=>List.casesOn c.argTypes.toList none fun t _=>ob (P.underlying t) fun d=>ob (dSlice d) fun e=>copyV P st e p.1 p.2) = some r from h)
 obtain ⟨t,us,hts,h⟩:∃ t us,c.argTypes.toList = t :: us∧(ob (P.underlying t) fun d=>ob (dSlice d) fun e=>copyV P st e p.1 p.2) = some r:=by
  cases hq:c.argTypes.toList with
  | nil=>rw [hq] at h;cases h
  | cons t us=>rw [hq] at h;exact ⟨t,us,rfl,h⟩
 obtain ⟨d,hu,h⟩:=ob_inv h
 obtain ⟨e,he,h⟩:=ob_inv h
 rw [dSlice_inv he] at hu
 have hrun:∀ (a:Act) (E:Env) (w:World),EvOk E fr a → ∃ s x,c.args.map a.eval = #[s,x]∧RelC E p.1 s∧RelC E p.2 x:=by
  intro a E w hf
  obtain ⟨s,x,hsx,r1,r2⟩:=two_inv h1 (args_rel hf ha)
  exact ⟨s,x,toArr (by simpa using hsx),r1,r2⟩
 have hty:∃ sT rest,c.argTypes.toList = t :: rest∧True:=⟨t,us,hts,trivial⟩
 unfold copyV at h
 split at h
 ·rename_i k so n z k' so' n' z' hp1 hp2
  obtain ⟨sz,hsz,h⟩:=ob_inv h
  obtain ⟨g1,k1⟩:=bi_inv h
  obtain ⟨g2,k2⟩:=bi_inv k1
  obtain ⟨g3,k3⟩:=bi_inv k2
  clear k1 k2 h
  have g1:=beq_inv g1
  have g2:=beq_inv g2
  have g3:1 ≤ z:=ble_inv g3
  subst g1;subst g2
  have hinfo:(P.info? e).map (·.size) = some sz:=by
   obtain ⟨i,hi,hz⟩:=ob_inv hsz
   injection hz with hz
   rw [hi,← hz];rfl
  obtain ⟨m,hm,hmd⟩:∃ m,m = bi (Nat.ble n' n) n' n∧Nat.min n' n = m:=by
   refine ⟨_,rfl,?_⟩
   show min n' n = _
   rw [bi_eq,Nat.min_def]
   by_cases q:n' ≤ n
   ·rw [if_pos q,if_pos (Nat.ble_eq_true_of_le q)]
   ·rw [if_neg q,if_neg (fun e=>q (ble_inv e))]
  rw [← hm] at k3
  have hmn:m ≤ n∧m ≤ n':=by
   have:min n' n = m:=hmd
   omega
  clear hm
  cases h0:Nat.beq m 0 with
  | true =>
   have h:bi (Nat.beq m 0) (pureV st (vI 0)) (ob (st.mem.get k') fun b=>ob (takeN (dropN b.cells so') (Nat.mul m sz)) (copyC st k so m k')) = some r:=k3
   rw [h0] at h
   have h:some (⟨vI 0,st,[],some []⟩:R) = some r:=h
   injection h with h
   subst h
   have hm0:=beq_inv h0
   subst hm0
   refine sound_pure hst fun E w a hf=>?_
   obtain ⟨x,y,hargs,r1,r2⟩:=hrun a E w hf
   rw [hp1] at r1
   rw [hp2] at r2
   obtain ⟨b,s,cp,hrho,rfl,_⟩:=r1
   obtain ⟨b',s',cp',hrho',rfl,_⟩:=r2
   refine ⟨.int .i64 0,?_,rfl⟩
   rw [run_builtin ho hb,hargs]
   have ht0:c.argTypes[0]? = some t:=by rw [← Array.getElem?_toList,hts];rfl
   cases hq:P.info? e with
   | none=>simp [hq] at hinfo
   | some i =>
    simp [builtin,Builtin.copy_,ht0,run_underlying hu,Builtin.lenOf,Builtin.firstCells,sizeOf,typeInfo,hq,hmd,loadCells,loadCellsFrom,storeCells,goInt]
  | false =>
   have h:bi (Nat.beq m 0) (pureV st (vI 0)) (ob (st.mem.get k') fun b=>ob (takeN (dropN b.cells so') (Nat.mul m sz)) (copyC st k so m k')) = some r:=k3
   rw [h0] at h
   obtain ⟨b2,h2,h⟩:=ob_inv (show ob (st.mem.get k') (fun b=>ob (takeN (dropN b.cells so') (Nat.mul m sz)) (copyC st k so m k')) = some r from h)
   obtain ⟨cs,h3,h⟩:=ob_inv h
   obtain ⟨b1,h4,h⟩:=ob_inv h
   obtain ⟨ds,h5,h⟩:=ob_inv h
   injection h with h
   have hm1:m ≠ 0:=fun e=>by rw [e] at h0;cases h0
   rw [dropN_eq] at h3
   obtain ⟨hcs,hle⟩:=takeN_eq _ _ _ h3
   have hle:m * sz ≤ (b2.cells.drop so').length:=hle
   have hcl:cs.length = m * sz:=by
    rw [hcs,List.length_take]
    have:Nat.mul m sz = m * sz:=rfl
    rw [this];omega
   have hpos:0 < m * sz:=Nat.mul_pos (by omega) g3
   obtain ⟨hds,hbound'⟩:=setAll_eq _ _ _ _ h5
   have hbound:=hbound' (fun e=>by rw [e] at hcl;simp at hcl;omega)
   have hlt:=hst.lt h4
   have hk8:k ≤ 8388608:=by have:=hst.nb;omega
   have hget:∀ i,(T.set st.mem k (some ⟨ds⟩)).get i = if i = k then some ⟨ds⟩ else st.mem.get i:=fun i=>get_set _ _ _ _ hk8
   subst h
   refine ⟨⟨Nat.le_refl _,Nat.le_refl _,fun i hi _=>?_,fun i hi=>?_,⟨hst.nb,fun i hi=>?_⟩,fun l hl i hi=>?_⟩,fun K E w a hf hp=>?_⟩
   ·show (T.set _ _ _).get i = _
    rw [hget,if_neg (fun e=>hi (by simp [e]))]
   ·simp at hi;subst hi;exact ⟨hlt,b1,h4⟩
   ·show (T.set _ _ _).get i = none
    rw [hget,if_neg (by have:st.nb ≤ i:=hi;omega)];exact hst.dom i hi
   ·injection hl with hl
    rw [← hl]
    simp at hi
    simp [hi]
   ·obtain ⟨x,y,hargs,r1,r2⟩:=hrun a E w hf
    rw [hp1] at r1
    rw [hp2] at r2
    obtain ⟨q,sz1,cp,hrho,rfl,hc1,hc2,hc3⟩:=r1
    obtain ⟨q',sz2,cp',hrho',rfl,hd1,hd2,hd3⟩:=r2
    obtain ⟨q1,s1,arr,bt,e1,hh,hsz1,hr⟩:=hp.blk k b1 (by simp [inR]) h4
    obtain ⟨q2,s2,arr2,bt2,e2,hh2,hsz2,hr2⟩:=hp.blk k' b2 (by simp [inR]) h2
    rw [hrho] at e1;injection e1 with e1;injection e1 with e1 e1';subst e1;subst e1'
    rw [hrho'] at e2;injection e2 with e2;injection e2 with e2 e2';subst e2;subst e2'
    have hrel:RelL E cs ((arr2.toList.drop so').take (m * sz)):=by
     rw [hcs];exact (hr2.drop so').take (m * sz) hle
    have hvl:=hrel.length
    have hsrc:∀ j v,((arr2.toList.drop so').take (m * sz))[j]? = some v → w.cell? (Addr.add ⟨q',so',none⟩ j) = some v:=by
     intro j v hj
     rw [add_none,cell_of hh2]
     rw [List.getElem?_take] at hj
     split at hj
     ·rw [List.getElem?_drop] at hj;simpa using hj
     ·simp at hj
    have hal:=hr.length
    have hfit:so + ((arr2.toList.drop so').take (m * sz)).length ≤ arr.size:=by
     simp only [Array.length_toList] at hal
     omega
    have hone:∀ v ∈ (arr2.toList.drop so').take (m * sz),v.oneCell' = true:=by
     intro v hv
     obtain ⟨i,hi⟩:=List.getElem?_of_mem hv
     have hil:i < cs.length:=by
      have:=(List.getElem?_eq_some_iff.1 hi).1
      omega
     obtain ⟨u,hu',hrelc⟩:=hrel.get i _ (List.getElem?_eq_getElem hil)
     rw [hi] at hu';injection hu' with hu';subst hu'
     have:=hrelc.one
     cases v <;> first | rfl | exact absurd rfl (this.1 _) | exact absurd rfl (this.2 _)
    have ht0:c.argTypes[0]? = some t:=by rw [← Array.getElem?_toList,hts];rfl
    have hcopy:=run_copyQ (P:=P) w t t o.type e sz q so n cp ⟨q',so',none⟩ n' cp' arr bt _ hu hinfo hh m hmd (by rw [hvl,hcl]) hsrc hfit hone
    have hce:(Builtin.copy_ c.argTypes o.type #[.slice (some ⟨q,so,none⟩) n cp,.slice (some ⟨q',so',none⟩) n' cp']) = (Builtin.copy_ #[t,t] o.type #[.slice (some ⟨q,so,none⟩) n cp,.slice (some ⟨q',so',none⟩) n' cp']):=by
     unfold Builtin.copy_
     rw [ht0];rfl
    rw [← hce] at hcopy
    obtain ⟨u,hu1,g1,g2,g3,g4,g5,arr',g6,g7,g8⟩:∃ u:World,Runs P o a w (.int .i64 (Int.ofNat m)) u∧u.os = w.os∧u.tape = w.tape∧u.output = w.output∧u.heap.size = w.heap.size∧(∀ i,i ≠ q → u.heap[i]? = w.heap[i]?) ∧
     ∃ arr',u.heap[q]? = some (.cells arr' bt (0,0))∧arr'.size = arr.size∧RelF E ds arr'.toList:=by
     refine ⟨w.setRow q (arr.toList.take so ++ (arr2.toList.drop so').take (m * sz) ++ arr.toList.drop (so + ((arr2.toList.drop so').take (m * sz)).length)).toArray,.inl ?_,rfl,rfl,rfl,by simp,fun i hi=>setRow_other w q i _ hi,_,setRow_heap w q arr _ bt (0,0) hh,?_,?_⟩
     ·rw [run_builtin ho hb,hargs]
      simp only [builtin,Sem.run_bind,hcopy,Result.andThen_ok]
      rfl
     ·simp;omega
     ·rw [hds]
      simpa [SX.put] using hr.put hrel hbound
    refine ⟨_,E,u,hu1,⟨.refl E,fun k h=>absurd rfl h,fun j h=>absurd rfl h,g1,g2,g3,by omega,fun i hi hW=>?_,fun i p' s' a1 a2 _=>?_,?_⟩,rfl,fun i b' hi hg=>?_,fun i i' b' b'' p' s' s'' hi hi' _ _ _ _=>?_⟩
    ·exact g5 i (fun e=>by subst e;exact hW k (by simp) _ hrho)
    ·have:i < st.nb:=a2
     omega
    ·refine gi_grow hp.gi rfl rfl (fun k p' s' hk=>by rw [g4];exact hp.gi.low k p' s' hk) (by omega) (fun k p' s' hk _=>⟨k,s',hk⟩) (fun i hi hno=>g5 i (fun e=>by subst e;exact hno _ _ hrho))
    ·have e:i = k:=by
      rcases hi with hi | hi
      ·simpa using hi
      ·have:i < st.nb:=hi.2
       omega
     subst e
     have hg':(T.set st.mem i (some ⟨ds⟩)).get i = some b':=hg
     rw [hget,if_pos rfl] at hg'
     injection hg' with hg';subst hg'
     exact ⟨q,_,arr',bt,hrho,g6,by omega,g8⟩
    ·have e:i = k:=by
      rcases hi with hi | hi
      ·simpa using hi
      ·have:i < st.nb:=hi.2
       omega
     have e':i' = k:=by
      rcases hi' with hi | hi
      ·simpa using hi
      ·have:i' < st.nb:=hi.2
       omega
     rw [e,e']
 ·cases h
theorem snd_builtin {c:Call} {b:Builtin} {l:List V} {r:R} (hst:StOk st) (ho:o.op = .call c) (hb:c.callee = .builtin b) (ha:args fr c.args.toList = some l)
 (h:builtinV P b c.argTypes.toList l st = some r):Sound P fr st o r:=by
 have hargs:∀ (a:Act) (vs:List Value),c.args.toList.map a.eval = vs → c.args.map a.eval = vs.toArray:=fun a vs e=>toArr (by simpa using e)
 cases b with
 | len =>
  obtain ⟨t,us,e,x,hts,hu,h1,h2⟩:=isSlice_run h
  obtain ⟨v,rfl,hv⟩:=lenV_run hu h2
  refine ⟨eff_pure hst v _,fun K E w a hf hp=>?_⟩
  obtain ⟨y,hy,hr⟩:=one_inv h1 (args_rel hf ha)
  obtain ⟨u,hu',hvu⟩:=hv E hp.gi.code y hr o.type c.argTypes w (by rw [← Array.getElem?_toList,hts];rfl)
  refine ⟨u,E,w,.inl ?_,out_pure hp.gi hvu⟩
  rw [run_builtin ho hb,hargs a _ hy]
  simp only [builtin,Sem.run_bind,hu',Result.andThen_ok]
  rfl
 | append=>exact snd_append hst ho hb ha h
 | copy=>exact snd_copy hst ho hb ha h
 | min =>
  obtain ⟨v,rfl,hv⟩:=minV_run (P:=P) (mx:=false) h
  refine sound_pure hst fun E w a hf=>?_
  obtain ⟨u,hu,hvu⟩:=hv E _ (args_rel hf ha) c.argTypes o.type w
  refine ⟨u,?_,hvu⟩
  rw [run_builtin ho hb,hargs a _ rfl]
  simp only [Bool.false_eq_true,if_false] at hu
  simp only [builtin,Sem.run_bind,hu,Result.andThen_ok]
  rfl
 | max =>
  obtain ⟨v,rfl,hv⟩:=minV_run (P:=P) (mx:=true) h
  refine sound_pure hst fun E w a hf=>?_
  obtain ⟨u,hu,hvu⟩:=hv E _ (args_rel hf ha) c.argTypes o.type w
  refine ⟨u,?_,hvu⟩
  rw [run_builtin ho hb,hargs a _ rfl]
  simp only [if_true] at hu
  simp only [builtin,Sem.run_bind,hu,Result.andThen_ok]
  rfl
 | _=>cases h
def CallOk (P:Program) (K:Toks) (call:CallFn):Prop :=
 ∀ f vl st r,call f vl st = some r → StOk st → Eff st r∧(∀ vs w,(callFunc f vs).run P w = .ok (.enter f vs) w) ∧
  ∀ E w vs,RelA E vl vs → Pre K E w st r → Calls P f vs.toArray w fun e u=>∃ v F,e = .returned v∧Out K E w st r F u v
def SoundW (P:Program) (K:Toks) (fr:Ev) (st:St) (o:Oper) (r:R):Prop :=
 Eff st r∧∀ E w a,EvOk E fr a → Pre K E w st r → ∀ (next:Act → World → Prop) (Q:Exit → Act → World → Prop),(∀ v F u,Out K E w st r F u v → next (a.put o.dst v) u) → o.wp P a w next Q
theorem Sound.w {r:R} (h:Sound P fr st o r):SoundW P K fr st o r:=by
 refine ⟨h.1,fun E w a hf hp next Q hn=>?_⟩
 obtain ⟨v,F,u,hr,ho⟩:=h.2 K E w a hf hp
 unfold Oper.wp
 rcases hr with hr | ⟨hr,rfl⟩
 ·rw [hr];exact hn v F u ho
 ·rw [hr];exact hn undef F u ho
theorem op_sound {call:CallFn} (hcall:CallOk P K call) {r:R} (hst:StOk st) (h:evOp o.op P call fr st = some r):SoundW P K fr st o r:=by
 cases ho:o.op <;> rw [ho] at h <;> first | (cases h;done) | skip
 case move x=>exact (snd_move hst (.inl ho) h).w
 case assign x=>exact (snd_move hst (.inr ho) h).w
 case pick c a b=>exact (snd_pick hst ho h).w
 case alloc t=>exact (snd_alloc hst ho h).w
 case box t x=>exact (snd_box hst ho h).w
 case build t ps=>exact (snd_build hst ho h).w
 case buildSlice t n ps=>exact (snd_buildSlice hst ho h).w
 case load t a=>exact (snd_load hst ho h).w
 case store t a x=>exact (snd_store hst ho h).w
 case nilCheck x=>exact (snd_nil hst ho h).w
 case binOp op t x y t'=>exact (snd_bin hst ho h).w
 case unOp op t x=>exact (snd_un hst ho h).w
 case convert s d x=>exact (snd_convert hst ho h).w
 case makeFunc f first caps=>exact (snd_makeFunc hst ho h).w
 case makeSlice t l c=>exact (snd_makeSlice hst ho h).w
 case slice t x lo hi mx =>
  cases mx with
  | none=>exact (snd_slice hst ho h).w
  | some m=>cases h
 case fieldAddr t x f=>exact (snd_fieldAddr hst ho h).w
 case field t x f=>exact (snd_field hst ho h).w
 case indexAddr t x i=>exact (snd_indexAddr hst ho h).w
 case index t x i=>exact (snd_index hst ho h).w
 case extract x i=>exact (snd_extract hst ho h).w
 case call c =>
  obtain ⟨l,h1,h⟩:=ob_inv h
  cases hc:c.callee with
  | builtin b=>rw [hc] at h;exact (snd_builtin hst ho hc h1 h).w
  | invoke x m=>rw [hc] at h;cases h
  | value f =>
   rw [hc] at h
   obtain ⟨x,h2,h⟩:=ob_inv h
   obtain ⟨g,h3,hfin⟩:=ob_inv h
   rw [app_eq] at hfin
   obtain ⟨heff,henter,hc'⟩:=hcall _ _ _ _ hfin hst
   refine ⟨heff,fun E w a hf hp next Q hn=>?_⟩
   have hfn:=opC_rel hf h2
   rw [cFn_inv h3] at hfn
   obtain ⟨vs,hfv,hcap⟩:=hfn
   have hrun:(execOp a.eval o).run P w = .ok (.enter g.1 (c.args.map a.eval ++ vs)) w:=by
    unfold execOp;rw [ho]
    simp only [resolve,hc,Deferred.ofValue,hfv,Sem.run_bind,Sem.run_pure,Result.andThen_ok,invoke,henter,Array.empty_append]
   have hrel:RelA E (l ++ capV g.2) (c.args.map a.eval ++ vs).toList:=by
    rw [Array.toList_append,Array.toList_map]
    exact (args_rel hf h1).append (capV_rel hcap)
   have:=hc' E w _ hrel hp
   rw [Array.toArray_toList] at this
   unfold Oper.wp
   rw [hrun]
   refine Calls.mono this fun e u he=>?_
   obtain ⟨v,F,rfl,ho⟩:=he
   exact hn v F u ho
end
end Go.SX
namespace Go.SX
structure Inv (K:Toks) (E0:Env) (w0:World) (st0:St) (E:Env) (w:World) (st:St) (W:List Nat):Prop where
 step:Step K E0 w0 E w W st0.nb st.nb st0.nt st.nt
 blk:∀ k b,st.mem.get k = some b → BlkOk E w k b
 inj:∀ k k' b b' p s s',st.mem.get k = some b → st.mem.get k' = some b' → E.rho k = some (p,s) → E.rho k' = some (p,s') → k = k'
 ok:StOk st
 nb:st0.nb ≤ st.nb
 nt:st0.nt ≤ st.nt
 same:∀ k,k < st0.nb → k ∉ W → st.mem.get k = st0.mem.get k
 live:∀ k ∈ W,k < st0.nb∧∃ b,st0.mem.get k = some b
def Free (E:Env) (st:St) (nb nt:Nat):Prop:=(∀ k,st.nb ≤ k → k < nb → E.rho k = none)∧(∀ j,st.nt ≤ j → j < nt → E.sig j = none)
section
variable {P:Program} {K:Toks} {E0 E:Env} {w0 w:World} {st0 st:St} {W:List Nat}
theorem below_nil (lo:Nat) (r:List Nat):below lo [] r = r:=rfl
theorem below_cons (lo a:Nat) (l r:List Nat):below lo (a :: l) r = if a < lo then a :: below lo l r else below lo l r:=by
 show bi (Nat.ble (a + 1) lo) (a :: below lo l r) (below lo l r) = _
 rw [bi_eq];simp only [Nat.ble_eq,Nat.add_one_le_iff]
theorem mem_below (lo:Nat) (r:List Nat) (k:Nat):∀ l:List Nat,k ∈ below lo l r ↔ (k ∈ l∧k < lo) ∨ k ∈ r
 | []=>by rw [below_nil];simp
 | a :: l=>by
  rw [below_cons]
  have ih:=mem_below lo r k l
  by_cases h:a < lo
  ·rw [if_pos h,List.mem_cons,ih,List.mem_cons]
   constructor
   ·rintro (rfl | ⟨h1,h2⟩ | h1)
    ·exact .inl ⟨.inl rfl,h⟩
    ·exact .inl ⟨.inr h1,h2⟩
    ·exact .inr h1
   ·rintro (⟨rfl | h1,h2⟩ | h1)
    ·exact .inl rfl
    ·exact .inr (.inl ⟨h1,h2⟩)
    ·exact .inr (.inr h1)
  ·rw [if_neg h,ih,List.mem_cons]
   constructor
   ·rintro (⟨h1,h2⟩ | h1)
    ·exact .inl ⟨.inr h1,h2⟩
    ·exact .inr h1
   ·rintro (⟨rfl | h1,h2⟩ | h1)
    ·exact absurd h2 h
    ·exact .inl ⟨h1,h2⟩
    ·exact .inr h1
theorem inv_start (hg:GI K E w) (hb:∀ k b,st.mem.get k = some b → BlkOk E w k b)
 (hi:∀ k k' b b' p s s',st.mem.get k = some b → st.mem.get k' = some b' → E.rho k = some (p,s) → E.rho k' = some (p,s') → k = k') (hst:StOk st):Inv K E w st E w st [] :=
 ⟨.refl hg _ _ _,hb,hi,hst,Nat.le_refl _,Nat.le_refl _,fun _ _ _=>rfl,fun _ h=>by simp at h⟩
theorem inv_pre {r:R} {nb nt:Nat} (h:Inv K E0 w0 st0 E w st W) (hf:Free E0 st0 nb nt) (h1:r.st.nb ≤ nb) (h2:r.st.nt ≤ nt):Pre K E w st r:=by
 refine ⟨h.step.gi,fun k b _ hb=>h.blk k b hb,fun k k' b b' p s s' _ _ a1 a2 a3 a4=>h.inj k k' b b' p s s' a1 a2 a3 a4,fun k a1 a2=>?_,fun j a1 a2=>?_⟩
 ·by_cases e:E.rho k = E0.rho k
  ·rw [e];exact hf.1 k (by have:=h.nb;omega) (by omega)
  ·have:=(h.step.newB k e).2;omega
 ·by_cases e:E.sig j = E0.sig j
  ·rw [e];exact hf.2 j (by have:=h.nt;omega) (by omega)
  ·have:=(h.step.newT j e).2;omega
theorem rho_old {F:Env} {u:World} {r:R} {v:Value} (ho:Out K E w st r F u v) {k:Nat} (hk:k < st.nb):F.rho k = E.rho k:=by
 by_cases e:F.rho k = E.rho k
 ·exact e
 ·have:=(ho.step.newB k e).1;omega
theorem inv_step {F:Env} {u:World} {r:R} {v:Value} (h:Inv K E0 w0 st0 E w st W) (he:Eff st r) (ho:Out K E w st r F u v) :
 Inv K E0 w0 st0 F u r.st (below st0.nb r.w W):=by
 have hold:∀ {k:Nat},k < st.nb → F.rho k = E.rho k:=fun hk=>rho_old ho hk
 have hplace:∀ k b p s,st.mem.get k = some b → k ∉ r.w → E.rho k = some (p,s) → u.heap[p]? = w.heap[p]?:=by
  intro k b p s hk hw hp
  refine ho.step.kept p (h.step.gi.low k p s hp) fun k' hk' s' hp'=>?_
  obtain ⟨_,b',hb'⟩:=he.live k' hk'
  have:=h.inj k k' b b' p s s' hk hb' hp hp'
  subst this;exact hw hk'
 have hkind:∀ k b,r.st.mem.get k = some b → (k ∈ r.w ∨ st.nb ≤ k∧k < r.st.nb) ∨ (k ∉ r.w∧k < st.nb∧st.mem.get k = some b):=by
  intro k b hb
  have hlt:=he.ok.lt hb
  by_cases h1:k ∈ r.w
  ·exact .inl (.inl h1)
  ·by_cases h2:st.nb ≤ k
   ·exact .inl (.inr ⟨h2,hlt⟩)
   ·have h3:k < st.nb:=by omega
    exact .inr ⟨h1,h3,by rw [← he.same k h1 h3];exact hb⟩
 have hmix:∀ k k' b b' p s s',(k ∈ r.w ∨ st.nb ≤ k∧k < r.st.nb) → (k' ∉ r.w∧k' < st.nb∧st.mem.get k' = some b') → r.st.mem.get k = some b → F.rho k = some (p,s) → F.rho k' = some (p,s') → k = k':=by
  intro k k' b b' p s s' hk hk' hb hp hp'
  obtain ⟨a1,a2,a3⟩:=hk'
  rw [hold a2] at hp'
  rcases hk with hk | hk
  ·obtain ⟨c1,b0,c2⟩:=he.live k hk
   rw [hold c1] at hp
   exact h.inj k k' b0 b' p s s' c2 a3 hp hp'
  ·rcases ho.step.fresh k p s hk.1 hk.2 hp with hf | ⟨k0,hk0,s0,hp0⟩
   ·have:=h.step.gi.low k' p s' hp';omega
   ·obtain ⟨_,b0,c2⟩:=he.live k0 hk0
    have:=h.inj k0 k' b0 b' p s0 s' c2 a3 hp0 hp'
    subst this;exact absurd hk0 a1
 refine ⟨⟨h.step.le.trans ho.step.le,fun k hk=>?_,fun j hj=>?_,ho.step.os.trans h.step.os,ho.step.tape.trans h.step.tape,ho.step.output.trans h.step.output,Nat.le_trans h.step.size ho.step.size,
  fun b hb hW=>?_,fun k p s h1 h2 h3=>?_,ho.step.gi⟩,fun k b hb=>?_,fun k k' b b' p s s' hb hb' hp hp'=>?_,he.ok,Nat.le_trans h.nb he.nb,Nat.le_trans h.nt he.nt,fun k h1 h2=>?_,fun k hk=>?_⟩
 ·by_cases e:F.rho k = E.rho k
  ·have:=h.step.newB k (by rw [← e];exact hk)
   have:=he.nb;omega
  ·have:=ho.step.newB k e
   have:=h.nb;omega
 ·by_cases e:F.sig j = E.sig j
  ·have:=h.step.newT j (by rw [← e];exact hj)
   have:=he.nt;omega
  ·have:=ho.step.newT j e
   have:=h.nt;omega
 ·have hb1:=h.step.kept b hb (fun k hk s=>hW k ((mem_below _ _ _ _).2 (.inr hk)) s)
  rw [← hb1]
  refine ho.step.kept b (by have:=h.step.size;omega) fun k hk s hp=>?_
  obtain ⟨c1,_⟩:=he.live k hk
  by_cases hlo:k < st0.nb
  ·by_cases e:E.rho k = E0.rho k
   ·exact hW k ((mem_below _ _ _ _).2 (.inl ⟨hk,hlo⟩)) s (by rw [← e];exact hp)
   ·have:=(h.step.newB k e).1;omega
  ·rcases h.step.fresh k b s (by omega) c1 hp with hf | ⟨k0,hk0,s0,hp0⟩
   ·omega
   ·exact hW k0 ((mem_below _ _ _ _).2 (.inr hk0)) s0 hp0
 ·by_cases hlt:k < st.nb
  ·rw [hold hlt] at h3
   rcases h.step.fresh k p s h1 hlt h3 with hf | ⟨k0,hk0,s0,hp0⟩
   ·exact .inl hf
   ·exact .inr ⟨k0,(mem_below _ _ _ _).2 (.inr hk0),s0,hp0⟩
  ·rcases ho.step.fresh k p s (by omega) h2 h3 with hf | ⟨k0,hk0,s0,hp0⟩
   ·exact .inl (Nat.le_trans h.step.size hf)
   ·obtain ⟨c1,_⟩:=he.live k0 hk0
    by_cases hlo:k0 < st0.nb
    ·by_cases e:E.rho k0 = E0.rho k0
     ·exact .inr ⟨k0,(mem_below _ _ _ _).2 (.inl ⟨hk0,hlo⟩),s0,by rw [← e];exact hp0⟩
     ·have:=(h.step.newB k0 e).1;omega
    ·rcases h.step.fresh k0 p s0 (by omega) c1 hp0 with hf | ⟨k1,hk1,s1,hp1⟩
     ·exact .inl hf
     ·exact .inr ⟨k1,(mem_below _ _ _ _).2 (.inr hk1),s1,hp1⟩
 ·rcases hkind k b hb with hk | ⟨a1,a2,a3⟩
  ·exact ho.blk k b hk hb
  ·exact blk_kept (h.blk k b a3) ho.step.le fun p s hp=>hplace k b p s a3 a1 hp
 ·rcases hkind k b hb with hk | hk <;> rcases hkind k' b' hb' with hk' | hk'
  ·exact ho.inj k k' b b' p s s' hk hk' hb hb' hp hp'
  ·exact hmix k k' b b' p s s' hk hk' hb hp hp'
  ·exact (hmix k' k b' b p s' s hk' hk hb' hp' hp).symm
  ·rw [hold hk.2.1] at hp
   rw [hold hk'.2.1] at hp'
   exact h.inj k k' b b' p s s' hk.2.2 hk'.2.2 hp hp'
 ·have hn:k ∉ r.w∧k ∉ W:=⟨fun hk=>h2 ((mem_below _ _ _ _).2 (.inl ⟨hk,h1⟩)),fun hk=>h2 ((mem_below _ _ _ _).2 (.inr hk))⟩
  rw [he.same k hn.1 (by have:=h.nb;omega),h.same k h1 hn.2]
 ·rcases (mem_below _ _ _ _).1 hk with ⟨hk,hlo⟩ | hk
  ·obtain ⟨_,b,hb⟩:=he.live k hk
   by_cases hW:k ∈ W
   ·exact h.live k hW
   ·exact ⟨hlo,b,by rw [← h.same k hlo hW];exact hb⟩
  ·exact h.live k hk
theorem inv_out {v:V} {x:Value} (h:Inv K E0 w0 st0 E w st W) (hv:RelV E v x):Eff st0 ⟨v,st,W,none⟩∧Out K E0 w0 st0 ⟨v,st,W,none⟩ E w x :=
 ⟨⟨h.nb,h.nt,fun k h1 h2=>h.same k h2 h1,h.live,h.ok,fun l hl=>by cases hl⟩,
  h.step,hv,fun k b _ hb=>h.blk k b hb,fun k k' b b' p s s' _ _ a1 a2 a3 a4=>h.inj k k' b b' p s s' a1 a2 a3 a4⟩
theorem put_size (a:Act) (d:Option Nat) (v:Value):(a.put d v).tmps.size = a.tmps.size:=by cases d <;> simp [Act.put]
theorem put_def (a:Act) (d:Option Nat) (v:Value):(a.put d v).defers = a.defers:=by cases d <;> rfl
theorem frame_put {fr:Fr} {a:Act} {F:Env} {v:V} {x:Value} {d:Option Nat} {N:Nat} (hf:FrOk F fr a) (hv:RelV F v x) (hd:∀ t,d = some t → t < N) (hN:N ≤ a.tmps.size) (hN2:N ≤ 1000000) :
 FrOk F (setD fr d v) (a.put d x):=by
 cases d with
 | none=>exact hf
 | some t =>
  have ht:=hd t rfl
  intro s y hs
  have hs':(T.set fr t (some v)).get s = some y:=hs
  rw [get_set _ _ _ _ (by omega)] at hs'
  by_cases e:s = t
  ·subst e
   rw [if_pos rfl] at hs'
   injection hs' with hs';subst hs'
   exact ⟨x,by simp [Act.put,Array.getElem?_setIfInBounds_self_of_lt (by omega:s < a.tmps.size)],hv⟩
  ·rw [if_neg e] at hs'
   obtain ⟨u,h1,h2⟩:=hf s y hs'
   refine ⟨u,?_,h2⟩
   simp only [Act.put]
   rw [Array.getElem?_setIfInBounds_ne (fun h=>e h.symm)]
   exact h1
theorem dOk_cons {N:Nat} {o:Oper} {l:List Oper} (h:dOk N (o :: l) = true):(∀ t,o.dst = some t → t < N)∧dOk N l = true:=by
 have h':bi (@Option.rec Nat (fun _=>Bool) true (fun t=>Nat.ble (Nat.add t 1) N) o.dst) (dOk N l) false = true:=h
 cases hd:o.dst with
 | none=>rw [hd] at h';exact ⟨fun t ht=>(by cases ht),h'⟩
 | some t =>
  rw [hd] at h'
  cases hq:Nat.ble (Nat.add t 1) N
  ·have:bi (Nat.ble (Nat.add t 1) N) (dOk N l) false = true:=h'
   rw [hq] at this;cases this
  ·have:bi (Nat.ble (Nat.add t 1) N) (dOk N l) false = true:=h'
   rw [hq] at this
   exact ⟨fun s hs=>by injection hs with hs;subst hs;exact ble_inv hq,this⟩
theorem want_sound' {fr:Fr} {a:Act} {ops:Array Oper} {o:Oper} {b:Bool}
 (hf:∀ q p d v,o.guard = some q → ops[q.1]? = some p → p.dst = some d → fr.get d = some v → ∃ u,a.tmps[d]? = some u∧RelV E v u) (h:want fr ops.toList o.guard = some b):Region.wanted o (yielded ops a.tmps) = b:=by
 unfold Region.wanted
 cases hg:o.guard with
 | none =>
  rw [hg] at h
  have h':some true = some b:=h
  injection h'
 | some q =>
  rw [hg] at h
  have h':ob (nth ops.toList q.1) (fun p=>ob p.dst fun d=>ob (fr.get d) (wantX q.2)) = some b:=h
  obtain ⟨p,h1,h'⟩:=ob_inv h'
  obtain ⟨d,h2,h'⟩:=ob_inv h'
  obtain ⟨v,h3,h4⟩:=ob_inv h'
  rw [nth_eq] at h1
  have h1':ops[q.1]? = some p:=by simpa using h1
  obtain ⟨u,hu,hr⟩:=hf q p d v hg h1' h2 h3
  obtain ⟨qi,qt⟩:=q
  show (yielded ops a.tmps qi == some qt) = b
  have hy:yielded ops a.tmps qi = match some u with | some (.bool b)=>some b | _=>none:=by
   unfold yielded
   rw [h1']
   simp only [Option.bind_some,h2,hu]
   cases u <;> rfl
  rw [hy]
  unfold wantX at h4
  split at h4
  ·rename_i c
   have hr':u = .bool c:=hr
   subst hr'
   injection h4 with h4
   rw [← h4]
   cases c <;> cases qt <;> rfl
  ·injection h4 with h4
   obtain ⟨arr,rfl,_⟩:=hr
   rw [← h4];rfl
  ·cases h4
theorem want_sound {fr:Fr} {a:Act} {ops:Array Oper} {o:Oper} {b:Bool} (hf:FrOk E fr a) (h:want fr ops.toList o.guard = some b):Region.wanted o (yielded ops a.tmps) = b :=
 want_sound' (fun _ _ d v _ _ _ hv=>hf d v hv) h
end
end Go.SX
namespace Go.SX
def toExit:Ex → Exit
 | .normal=>.normal
 | .exit i=>.exit i
 | .ret=>.ret
def PInv (lo:Nat) (m0:Nat → Option Blk) (st:St) (W:List Nat):Prop:=(∀ k,k < lo → k ∉ W → st.mem.get k = m0 k)∧∀ k ∈ W,k < lo∧∃ b,m0 k = some b
structure PS (lo:Nat) (st:St) (W:List Nat) (st':St) (W':List Nat):Prop where
 ok:StOk st'
 p:lo ≤ st.nb → ∀ m0,PInv lo m0 st W → PInv lo m0 st' W'
theorem PS.refl {lo:Nat} {st:St} {W:List Nat} (h:StOk st):PS lo st W st W:=⟨h,fun _ _ h=>h⟩
theorem PS.trans {lo:Nat} {st st1 st2:St} {W W1 W2:List Nat} (h:PS lo st W st1 W1) (g:PS lo st1 W1 st2 W2) (hn:st.nb ≤ st1.nb):PS lo st W st2 W2 :=
 ⟨g.ok,fun hl m0 hp=>g.p (by omega) m0 (h.p hl m0 hp)⟩
theorem PS.op {lo:Nat} {st:St} {W:List Nat} {r:R} (h:Eff st r):PS lo st W r.st (below lo r.w W):=by
 refine ⟨h.ok,fun hl m0 hp=>⟨fun k hk hw=>?_,fun k hk=>?_⟩⟩
 ·rw [mem_below] at hw
  rw [h.same k (fun hh=>hw (.inl ⟨hh,hk⟩)) (by omega)]
  exact hp.1 k hk (fun hh=>hw (.inr hh))
 ·rw [mem_below] at hk
  rcases hk with ⟨hk,hlo⟩ | hk
  ·obtain ⟨_,b,hb⟩:=h.live k hk
   by_cases hw:k ∈ W
   ·exact hp.2 k hw
   ·exact ⟨hlo,b,by rw [← hp.1 k hlo hw];exact hb⟩
  ·exact hp.2 k hk
def Good (K:Toks) (lo N:Nat) (fr:Fr) (st:St) (W:List Nat) (z:Z) (wp:(Exit → Act → World → Prop) → Act → World → Prop):Prop :=
 (st.nb ≤ z.st.nb∧st.nt ≤ z.st.nt∧PS lo st W z.st z.w)∧∀ E0 w0 st0,lo = st0.nb → ∀ E w a,Inv K E0 w0 st0 E w st W → FrOk E fr a → N ≤ a.tmps.size → Free E0 st0 z.st.nb z.st.nt →
  ∀ Q:Exit → Act → World → Prop,(∀ E' w' a',Inv K E0 w0 st0 E' w' z.st z.w → FrOk E' z.fr a' → N ≤ a'.tmps.size → a'.defers = a.defers → Q (toExit z.e) a' w') → wp Q a w
theorem Free.le {E:Env} {st:St} {nb nt nb' nt':Nat} (h:Free E st nb nt) (h1:nb' ≤ nb) (h2:nt' ≤ nt):Free E st nb' nt' :=
 ⟨fun k a b=>h.1 k a (by omega),fun j a b=>h.2 j a (by omega)⟩
section
variable {P:Program} {K:Toks} {call:CallFn} {lo N fuel:Nat}
theorem evOps_sound (hcall:CallOk P K call) (hN:N ≤ 1000000) (ops:Array Oper):∀ (l:List Oper) (i:Nat),ops.toList.drop i = l → dOk N l = true →
 ∀ fr st W z,evOps P call lo ops.toList l fr st W = some z → StOk st → z.e = .normal∧Good K lo N fr st W z (fun Q=>wpOps P ops Q (List.range' i l.length))
 | [],i,hd,_,fr,st,W,z,h,hst=>by
  have h':some (⟨.normal,fr,st,W⟩:Z) = some z:=h
  injection h' with h';subst h'
  refine ⟨rfl,⟨Nat.le_refl _,Nat.le_refl _,.refl hst⟩,fun E0 w0 st0 hlo E w a hi hf ha _ Q hQ=>?_⟩
  exact hQ E w a hi hf ha rfl
 | o :: l,i,hd,hok,fr,st,W,z,h,hst=>by
  obtain ⟨hdst,hok⟩:=dOk_cons hok
  have h':ob (want fr ops.toList o.guard) (fun b=>bi b
   (ob (evOp o.op P call (opnd fr) st) fun r=>evOps P call lo ops.toList l (setD fr o.dst r.v) r.st (below lo r.w W))
   (evOps P call lo ops.toList l (setD fr o.dst (.tup [])) st W)) = some z:=h
  obtain ⟨b,h1,h'⟩:=ob_inv h'
  have hoi:ops[i]? = some o:=by
   have:ops.toList[i]? = some o:=by rw [← Nat.add_zero i,← List.getElem?_drop,hd];rfl
   simpa using this
  have hdrop:ops.toList.drop (i + 1) = l:=by rw [← List.drop_drop,hd];rfl
  have hrange:List.range' i (o :: l).length = i :: List.range' (i + 1) l.length:=rfl
  cases b with
  | false =>
   obtain ⟨he,⟨n1,n2,n3⟩,hg⟩:=evOps_sound hcall hN ops l (i + 1) hdrop hok _ _ _ _ h' hst
   refine ⟨he,⟨n1,n2,n3⟩,fun E0 w0 st0 hlo E w a hi hf ha hfree Q hQ=>?_⟩
   show wpOps P ops Q (List.range' i (o :: l).length) a w
   rw [hrange,wpOps_cons]
   unfold wpOp
   rw [hoi]
   simp only [want_sound hf h1,Bool.false_eq_true,if_false]
   have hu:RelV E (.tup []) undef:=⟨#[],rfl,trivial⟩
   exact hg E0 w0 st0 hlo E w _ hi (frame_put hf hu hdst ha hN) (by rw [put_size];exact ha) hfree Q (fun E' w' a' b1 b2 b3 b4=>hQ E' w' a' b1 b2 b3 (by rw [b4,put_def]))
  | true =>
   obtain ⟨r,h2,h3⟩:=ob_inv h'
   obtain ⟨heff,hw⟩:=op_sound (K:=K) hcall hst h2
   obtain ⟨he,⟨n1,n2,n3⟩,hg⟩:=evOps_sound hcall hN ops l (i + 1) hdrop hok _ _ _ _ h3 heff.ok
   have m1:=heff.nb
   have m2:=heff.nt
   refine ⟨he,⟨by omega,by omega,(PS.op heff).trans n3 m1⟩,fun E0 w0 st0 hlo E w a hi hf ha hfree Q hQ=>?_⟩
   show wpOps P ops Q (List.range' i (o :: l).length) a w
   rw [hrange,wpOps_cons]
   unfold wpOp
   rw [hoi]
   simp only [want_sound hf h1,if_true]
   left
   refine hw E w a hf.ev (inv_pre hi hfree n1 n2) _ _ fun v F u ho=>?_
   have hinv:=inv_step hi heff ho
   rw [← hlo] at hinv
   exact hg E0 w0 st0 hlo F u _ hinv (frame_put (hf.mono ho.step.le) ho.val hdst ha hN) (by rw [put_size];exact ha) hfree Q (fun E' w' a' b1 b2 b3 b4=>hQ E' w' a' b1 b2 b3 (by rw [b4,put_def]))
theorem loopZ_sound {c:Code} {f:Fr → St → List Nat → Option Z}
 (hc:∀ fr st W z,f fr st W = some z → StOk st → Good K lo N fr st W z (fun Q=>c.wp P Q)) :
 ∀ (n:Nat) fr st W z,loopZ f n fr st W = some z → StOk st → Good K lo N fr st W z (fun Q=>Code.rounds P c Q n)
 | 0,fr,st,W,z,h,_=>by cases h
 | n + 1,fr,st,W,z,h,hst=>by
  have h':ob (f fr st W) (fun z=>Ex.casesOn z.e (loopZ f n z.fr z.st z.w) (fun _=>some z) (some z)) = some z:=h
  obtain ⟨y,h1,h'⟩:=ob_inv h'
  obtain ⟨⟨n1,n2,n3⟩,hg⟩:=hc _ _ _ _ h1 hst
  cases he:y.e with
  | normal =>
   rw [he] at h'
   obtain ⟨⟨m1,m2,m3⟩,hg'⟩:=loopZ_sound hc n _ _ _ _ h' n3.ok
   refine ⟨⟨by omega,by omega,n3.trans m3 n1⟩,fun E0 w0 st0 hlo E w a hi hf ha hfree Q hQ=>?_⟩
   refine hg E0 w0 st0 hlo E w a hi hf ha (hfree.le m1 m2) _ fun E' w' a' b1 b2 b3 b4=>?_
   rw [he]
   exact hg' E0 w0 st0 hlo E' w' a' b1 b2 b3 hfree Q (fun E'' w'' a'' c1 c2 c3 c4=>hQ E'' w'' a'' c1 c2 c3 (c4.trans b4))
  | exit id =>
   rw [he] at h'
   have h'':some y = some z:=h'
   injection h'' with h'';subst h''
   refine ⟨⟨n1,n2,n3⟩,fun E0 w0 st0 hlo E w a hi hf ha hfree Q hQ=>?_⟩
   refine hg E0 w0 st0 hlo E w a hi hf ha hfree _ fun E' w' a' b1 b2 b3 b4=>?_
   have:=hQ E' w' a' b1 b2 b3 b4
   rw [he] at this ⊢
   exact this
  | ret =>
   rw [he] at h'
   have h'':some y = some z:=h'
   injection h'' with h'';subst h''
   refine ⟨⟨n1,n2,n3⟩,fun E0 w0 st0 hlo E w a hi hf ha hfree Q hQ=>?_⟩
   refine hg E0 w0 st0 hlo E w a hi hf ha hfree _ fun E' w' a' b1 b2 b3 b4=>?_
   have:=hQ E' w' a' b1 b2 b3 b4
   rw [he] at this ⊢
   exact this
end
end Go.SX
namespace Go.SX
section
variable {P:Program} {call:CallFn} {st:St} {ev ev':Ev}
theorem opS_congr {x:Operand} (h:ev x = ev' x):opS ev x = opS ev' x:=by unfold opS;rw [h]
theorem opC_congr {x:Operand} (h:ev x = ev' x):opC ev x = opC ev' x:=by unfold opC;rw [h]
theorem args_congr:∀ {l:List Operand},(∀ x ∈ l,ev x = ev' x) → args ev l = args ev' l
 | [],_=>rfl
 | x :: l,h=>by
  show ob (ev x) (fun v=>ob (args ev l) fun r=>some (v :: r)) = ob (ev' x) (fun v=>ob (args ev' l) fun r=>some (v :: r))
  rw [h x (by simp),args_congr fun y hy=>h y (by simp [hy])]
theorem ptrs_congr:∀ {l:List Operand},(∀ x ∈ l,ev x = ev' x) → ptrs ev l = ptrs ev' l
 | [],_=>rfl
 | x :: l,h=>by
  show ob (opC ev x) (fun c=>ob (cPtr c) fun p=>ob (ptrs ev l) fun r=>some (p :: r)) = ob (opC ev' x) (fun c=>ob (cPtr c) fun p=>ob (ptrs ev' l) fun r=>some (p :: r))
  rw [opC_congr (h x (by simp)),ptrs_congr fun y hy=>h y (by simp [hy])]
theorem parts_congr:∀ {l:List (Nat × Operand)},(∀ x ∈ l.map (·.2),ev x = ev' x) → parts ev l = parts ev' l
 | [],_=>rfl
 | x :: l,h=>by
  show ob (opS ev x.2) (fun s=>ob (parts ev l) fun r=>some ((x.1,s) :: r)) = ob (opS ev' x.2) (fun s=>ob (parts ev' l) fun r=>some ((x.1,s) :: r))
  rw [opS_congr (h x.2 (by simp)),parts_congr fun y hy=>h y (by simp at hy ⊢;exact .inr hy)]
theorem bound_congr {x:Option Operand} {d:Nat} (h:∀ y ∈ x.toList,ev y = ev' y):bound ev x d = bound ev' x d:=by
 cases x with
 | none=>rfl
 | some y =>
  show ob (opC ev y) toN = ob (opC ev' y) toN
  rw [opC_congr (h y (by simp))]
theorem evOp_congr (op:Op) (h:∀ x ∈ op.operands.toList,ev x = ev' x):evOp op P call ev st = evOp op P call ev' st:=by
 cases op <;> first | rfl | skip
 case move x=>show ob (ev x) (pureV st) = _;rw [h x (by simp [Op.operands])];rfl
 case assign x=>show ob (ev x) (pureV st) = _;rw [h x (by simp [Op.operands])];rfl
 case pick c a b =>
  show opPick ev c a b st = opPick ev' c a b st
  unfold opPick
  rw [opC_congr (h c (by simp [Op.operands]))]
  congr 1;funext x
  cases x <;> first | rfl | skip
  rename_i t
  cases t
  ·show ob (ev b) _ = ob (ev' b) _;rw [h b (by simp [Op.operands])]
  ·show ob (ev a) _ = ob (ev' a) _;rw [h a (by simp [Op.operands])]
 case box t x=>show ob (opS ev x) _ = ob (opS ev' x) _;rw [opS_congr (h x (by simp [Op.operands]))]
 case build t ps =>
  show opBuild P t ev ps.toList st = opBuild P t ev' ps.toList st
  unfold opBuild
  rw [parts_congr fun x hx=>h x (by simpa [Op.operands] using hx)]
 case buildSlice t n ps =>
  show opBuildSlice P t n ev ps.toList st = opBuildSlice P t n ev' ps.toList st
  unfold opBuildSlice
  rw [parts_congr fun x hx=>h x (by simpa [Op.operands] using hx)]
 case load t a=>show opLoad P t ev a st = opLoad P t ev' a st;unfold opLoad;rw [opC_congr (h a (by simp [Op.operands]))]
 case store t a x=>show opStore P t ev a x st = opStore P t ev' a x st;unfold opStore;rw [opC_congr (h a (by simp [Op.operands])),opS_congr (h x (by simp [Op.operands]))]
 case nilCheck x=>show ob (opC ev x) _ = ob (opC ev' x) _;rw [opC_congr (h x (by simp [Op.operands]))]
 case binOp op t x y t'=>show opBin P op t ev x y st = opBin P op t ev' x y st;unfold opBin;rw [opC_congr (h x (by simp [Op.operands])),opC_congr (h y (by simp [Op.operands]))]
 case unOp op t x=>show ob (opC ev x) _ = ob (opC ev' x) _;rw [opC_congr (h x (by simp [Op.operands]))]
 case convert s d x=>show opConvert P s d ev x st = opConvert P s d ev' x st;unfold opConvert;rw [opC_congr (h x (by simp [Op.operands]))]
 case makeFunc f first caps =>
  show opMakeFunc f first.toList caps.toList ev st = opMakeFunc f first.toList caps.toList ev' st
  unfold opMakeFunc
  rw [ptrs_congr fun x hx=>h x (by simp [Op.operands];exact .inr (by simpa using hx))]
 case makeSlice t l c=>show opMakeSlice P t ev l c st = opMakeSlice P t ev' l c st;unfold opMakeSlice;rw [opC_congr (h l (by simp [Op.operands])),opC_congr (h c (by simp [Op.operands]))]
 case slice t x lo hi mx =>
  cases mx with
  | some m=>rfl
  | none =>
   show opSlice P t ev x lo hi st = opSlice P t ev' x lo hi st
   unfold opSlice
   have hl:∀ d,bound ev lo d = bound ev' lo d:=fun d=>bound_congr fun y hy=>h y (by simp only [Op.operands];simp at hy ⊢;simp [hy])
   have hh:∀ d,bound ev hi d = bound ev' hi d:=fun d=>bound_congr fun y hy=>h y (by simp only [Op.operands];simp at hy ⊢;simp [hy])
   rw [opC_congr (h x (by simp [Op.operands]))]
   simp only [hl,hh]
 case fieldAddr t x f=>show opFieldAddr P t ev x f st = opFieldAddr P t ev' x f st;unfold opFieldAddr;rw [opC_congr (h x (by simp [Op.operands]))]
 case field t x f=>show opField P t ev x f st = opField P t ev' x f st;unfold opField;rw [opS_congr (h x (by simp [Op.operands]))]
 case indexAddr t x i=>show opIndexAddr P t ev x i st = opIndexAddr P t ev' x i st;unfold opIndexAddr;rw [opC_congr (h x (by simp [Op.operands])),opC_congr (h i (by simp [Op.operands]))]
 case index t x i=>show opIndex P t ev x i st = opIndex P t ev' x i st;unfold opIndex;rw [opS_congr (h x (by simp [Op.operands])),opC_congr (h i (by simp [Op.operands]))]
 case extract x i=>show opExtract ev x i st = opExtract ev' x i st;unfold opExtract;rw [h x (by simp [Op.operands])]
 case call c =>
  show opCall P call ev c st = opCall P call ev' c st
  unfold opCall
  rw [args_congr fun x hx=>h x (by simp only [Op.operands,Call.operands];simp at hx ⊢;exact .inr hx)]
  congr 1;funext l
  cases hc:c.callee <;> first | rfl | skip
  rename_i f
  show ob (opC ev f) _ = ob (opC ev' f) _
  rw [opC_congr (h f (by simp [Op.operands,Call.operands,hc]))]
end
end Go.SX
namespace Go.SX
theorem binds_eq (e:Edge):Region.binds .any e = binds e:=by
 unfold Region.binds binds
 cases e.ground <;> rfl
theorem orEdges_spec {acc:List Nat}:∀ {l:List Edge} {m:Nat},orEdges acc l = some m →
 (∀ e ∈ l,binds e = true → e.on < acc.length)∧∀ j,m.testBit j = true → ∃ e ∈ l,binds e = true∧(j = e.on ∨ ∃ me,acc[e.on]? = some me∧me.testBit j = true)
 | [],m,h=>by
  have h':some 0 = some m:=h
  injection h' with h';subst h'
  simp
 | e :: l,m,h=>by
  have h':bi (binds e) (ob (orEdges acc l) fun s=>ob (nth acc e.on) fun m=>some (Nat.lor s (Nat.lor (Nat.pow 2 e.on) m))) (orEdges acc l) = some m:=h
  cases hb:binds e with
  | false =>
   rw [hb] at h'
   obtain ⟨h1,h2⟩:=orEdges_spec h'
   refine ⟨fun x hx hbx=>?_,fun j hj=>?_⟩
   ·rcases List.mem_cons.1 hx with rfl | hx
    ·rw [hb] at hbx;cases hbx
    ·exact h1 x hx hbx
   ·obtain ⟨x,hx,r⟩:=h2 j hj
    exact ⟨x,List.mem_cons_of_mem _ hx,r⟩
  | true =>
   rw [hb] at h'
   obtain ⟨s,g1,h'⟩:=ob_inv h'
   obtain ⟨me,g2,h'⟩:=ob_inv h'
   injection h' with h';subst h'
   rw [nth_eq] at g2
   obtain ⟨h1,h2⟩:=orEdges_spec g1
   refine ⟨fun x hx hbx=>?_,fun j hj=>?_⟩
   ·rcases List.mem_cons.1 hx with rfl | hx
    ·exact (List.getElem?_eq_some_iff.1 g2).1
    ·exact h1 x hx hbx
   ·have hj':(s ||| ((2 ^ e.on) ||| me)).testBit j = true:=hj
    rw [Nat.testBit_or,Nat.testBit_or,Bool.or_eq_true,Bool.or_eq_true] at hj'
    rcases hj' with hj' | hj' | hj'
    ·obtain ⟨x,hx,r⟩:=h2 j hj'
     exact ⟨x,List.mem_cons_of_mem _ hx,r⟩
    ·rw [Nat.testBit_two_pow] at hj'
     have h3:e.on = j:=by simpa using hj'
     exact ⟨e,by simp,hb,.inl h3.symm⟩
    ·exact ⟨e,by simp,hb,.inr ⟨me,g2,hj'⟩⟩
theorem masks_spec:∀ {l:List Oper} {acc ms:List Nat},masks l acc = some ms →
 (∃ r,ms = acc ++ r∧r.length = l.length)∧∀ i o,l[i]? = some o → ∃ m,ms[acc.length + i]? = some m∧orEdges (ms.take (acc.length + i)) o.after.toList = some m
 | [],acc,ms,h=>by
  have h':some acc = some ms:=h
  injection h' with h';subst h'
  exact ⟨⟨[],by simp,rfl⟩,fun i o hi=>by simp at hi⟩
 | o :: l,acc,ms,h=>by
  have h':ob (orEdges acc o.after.toList) (fun m=>masks l (app acc [m])) = some ms:=h
  obtain ⟨m,h1,h2⟩:=ob_inv h'
  rw [app_eq] at h2
  obtain ⟨⟨r,hr,hl⟩,hs⟩:=masks_spec h2
  refine ⟨⟨m :: r,by rw [hr];simp,by simp [hl]⟩,fun i x hi=>?_⟩
  cases i with
  | zero =>
   simp at hi;subst hi
   refine ⟨m,by rw [hr];simp,?_⟩
   rw [hr]
   have:((acc ++ [m]) ++ r).take (acc.length + 0) = acc:=by simp
   rw [this];exact h1
  | succ i =>
   obtain ⟨m',g1,g2⟩:=hs i x (by simpa using hi)
   have e:(acc ++ [m]).length + i = acc.length + (i + 1):=by simp;omega
   rw [e] at g1 g2
   exact ⟨m',g1,g2⟩
theorem mask_closed {ops:Array Oper} {ms:List Nat} (hm:masks ops.toList [] = some ms) (D:Nat → Prop)
 (hD:∀ i o,ops[i]? = some o → D i → ∀ e ∈ o.after,Region.binds .any e = true → D e.on) :
 ∀ (i:Nat) (o:Oper) (m:Nat),ops[i]? = some o → ms[i]? = some m → (∀ e ∈ o.after,Region.binds .any e = true → D e.on) → ∀ j,m.testBit j = true → D j:=by
 intro i
 induction i using Nat.strongRecOn with
 | _ i ih =>
  intro o m ho hmi hr j hj
  obtain ⟨_,hs⟩:=masks_spec hm
  obtain ⟨m',g1,g2⟩:=hs i o (by simpa using ho)
  simp only [List.length_nil,Nat.zero_add] at g1 g2
  rw [hmi] at g1;injection g1 with g1;subst g1
  obtain ⟨h1,h2⟩:=orEdges_spec g2
  obtain ⟨e,he,hb,hcase⟩:=h2 j hj
  have heo:D e.on:=hr e (by simpa using he) (by rw [binds_eq];exact hb)
  rcases hcase with rfl | ⟨me,hme,hbit⟩
  ·exact heo
  ·have hlt:=h1 e he hb
   rw [List.length_take] at hlt
   have hlt':e.on < i:=by omega
   rw [List.getElem?_take,if_pos hlt'] at hme
   have hlen:ms.length = ops.size:=by
    obtain ⟨⟨r,hr',hl⟩,_⟩:=masks_spec hm
    rw [hr'];simpa using hl
   have hon:e.on < ops.size:=by
    have:=(List.getElem?_eq_some_iff.1 hme).1
    omega
   exact ih e.on hlt' _ me (Array.getElem?_eq_getElem hon) hme (hD e.on _ (Array.getElem?_eq_getElem hon) heo) j hbit
theorem edge_lt {ops:Array Oper} {ms:List Nat} (hm:masks ops.toList [] = some ms) {i:Nat} {o:Oper} (ho:ops[i]? = some o):∀ e ∈ o.after,Region.binds .any e = true → e.on < i:=by
 intro e he hb
 obtain ⟨_,hs⟩:=masks_spec hm
 obtain ⟨m',g1,g2⟩:=hs i o (by simpa using ho)
 obtain ⟨h1,_⟩:=orEdges_spec g2
 have:=h1 e (by simpa using he) (by rw [← binds_eq];exact hb)
 rw [List.length_take] at this
 simp at this;omega
theorem slots_spec {ops:Array Oper} {x:Oper} {mask:Nat}:∀ {l:List Oper} {j:Nat},slots ops x mask l j = true → ∀ i y,l[i]? = some y → mask.testBit (j + i) = true ∨ Oper.apart ops x y = true
 | [],j,_,i,y,hy=>by simp at hy
 | z :: l,j,h,i,y,hy=>by
  have h':bi (Nat.testBit mask j) (slots ops x mask l (j + 1)) (bi (Oper.apart ops x z) (slots ops x mask l (j + 1)) false) = true:=h
  have h2:(mask.testBit j = true ∨ Oper.apart ops x z = true)∧slots ops x mask l (j + 1) = true:=by
   cases hq:Nat.testBit mask j
   ·rw [hq] at h'
    cases hz:Oper.apart ops x z
    ·rw [hz] at h';cases h'
    ·rw [hz] at h';exact ⟨.inr rfl,h'⟩
   ·rw [hq] at h';exact ⟨.inl rfl,h'⟩
  cases i with
  | zero=>simp at hy;subst hy;exact h2.1
  | succ i =>
   have:=slots_spec h2.2 i y (by simpa using hy)
   rwa [show j + 1 + i = j + (i + 1) by omega] at this
theorem slotsAll_spec {ops:Array Oper}:∀ {l:List Oper} {ms:List Nat} {bf:List Oper},slotsAll ops l ms bf = true → ∀ i x m,l[i]? = some x → ms[i]? = some m →
 ∀ j y,(bf ++ l)[j]? = some y → j < bf.length + i → m.testBit j = true ∨ Oper.apart ops x y = true
 | [],ms,bf,_,i,x,m,hx,_,j,y,_,_=>by simp at hx
 | z :: l,[],bf,h,i,x,m,_,hm,j,y,_,_=>by simp at hm
 | z :: l,m0 :: ms,bf,h,i,x,m,hx,hm,j,y,hy,hj=>by
  have h':bi (slots ops z m0 bf 0) (slotsAll ops l ms (app bf [z])) false = true:=h
  have h2:slots ops z m0 bf 0 = true∧slotsAll ops l ms (app bf [z]) = true:=by
   cases hq:slots ops z m0 bf 0
   ·rw [hq] at h';cases h'
   ·rw [hq] at h';exact ⟨rfl,h'⟩
  cases i with
  | zero =>
   simp at hx hm;subst hx;subst hm
   have hjl:j < bf.length:=by omega
   rw [List.getElem?_append_left hjl] at hy
   have:=slots_spec h2.1 j y hy
   simpa using this
  | succ i =>
   rw [app_eq] at h2
   have:=slotsAll_spec h2.2 i x m (by simpa using hx) (by simpa using hm) j y (by simpa using hy) (by simp;omega)
   exact this
theorem memb_eq:∀ (l:List Nat) (n:Nat),memb l n = true ↔ n ∈ l
 | [],n=>by show (false = true) ↔ _;simp
 | a :: l,n=>by
  show bi (Nat.beq a n) true (memb l n) = true ↔ _
  rw [bi_eq,beq_dec]
  by_cases e:a = n
  ·simp [e]
  ·have ih:=memb_eq l n
   have e':¬ n = a:=fun h=>e h.symm
   simp [e,e',ih]
theorem disj_spec:∀ {l r:List Nat},disj l r = true → ∀ k ∈ l,k ∉ r
 | [],r,_,k,hk=>by simp at hk
 | a :: l,r,h,k,hk=>by
  have h':bi (memb r a) false (disj l r) = true:=h
  have h2:memb r a = false∧disj l r = true:=by
   cases hq:memb r a
   ·rw [hq] at h';exact ⟨rfl,h'⟩
   ·rw [hq] at h';cases h'
  rcases List.mem_cons.1 hk with rfl | hk
  ·intro hr
   have:=(memb_eq r k).2 hr
   rw [h2.1] at this;cases this
  ·exact disj_spec h2.2 k hk
theorem outside_spec {a b:Nat}:∀ {l:List Nat},outside a b l = true → ∀ k ∈ l,¬ (a ≤ k∧k < b)
 | [],_,k,hk=>by simp at hk
 | x :: l,h,k,hk=>by
  have h':bi (Nat.ble (x + 1) a) (outside a b l) (bi (Nat.ble b x) (outside a b l) false) = true:=h
  have h2:¬ (a ≤ x∧x < b)∧outside a b l = true:=by
   cases hq:Nat.ble (x + 1) a
   ·rw [hq] at h'
    cases hz:Nat.ble b x
    ·rw [hz] at h';cases h'
    ·rw [hz] at h'
     have:=ble_inv hz
     exact ⟨by omega,h'⟩
   ·rw [hq] at h'
    have:=ble_inv hq
    exact ⟨by omega,h'⟩
  rcases List.mem_cons.1 hk with rfl | hk
  ·exact h2.1
  ·exact outside_spec h2.2 k hk
theorem clear_spec {f:En → Bool} {mask:Nat}:∀ {l:List En},clear f mask l = true → ∀ e ∈ l,mask.testBit e.i = false → f e = true
 | [],_,e,he,_=>by simp at he
 | x :: l,h,e,he,hb=>by
  have h':bi (Nat.testBit mask x.i) (clear f mask l) (bi (f x) (clear f mask l) false) = true:=h
  have h2:(mask.testBit x.i = true ∨ f x = true)∧clear f mask l = true:=by
   cases hq:Nat.testBit mask x.i
   ·rw [hq] at h'
    cases hz:f x
    ·rw [hz] at h';cases h'
    ·rw [hz] at h';exact ⟨.inr rfl,h'⟩
   ·rw [hq] at h';exact ⟨.inl rfl,h'⟩
  rcases List.mem_cons.1 he with rfl | he
  ·rcases h2.1 with h3 | h3
   ·rw [hb] at h3;cases h3
   ·exact h3
  ·exact clear_spec h2.2 e he hb
theorem nilB_iff {α:Type} (l:List α):nilB l = true ↔ l = []:=by
 cases l with
 | nil=>show (true = true) ↔ _;simp
 | cons a l=>show (false = true) ↔ _;simp
theorem clashR_spec {rd:Option (List Nat)} {e:En} (h:clashR rd e = true):∀ k,inR rd k → k ∉ e.w∧¬ (e.a ≤ k∧k < e.b):=by
 cases rd with
 | none=>cases h
 | some l =>
  have h':bi (disj l e.w) (outside e.a e.b l) false = true:=h
  have h2:disj l e.w = true∧outside e.a e.b l = true:=by
   cases hq:disj l e.w
   ·rw [hq] at h';cases h'
   ·rw [hq] at h';exact ⟨rfl,h'⟩
  exact fun k hk=>⟨disj_spec h2.1 k hk,outside_spec h2.2 k hk⟩
theorem clashW_spec {w:List Nat} {e:En} (h:clashW w e = true):∀ k ∈ w,¬ inR e.rd k:=by
 unfold clashW at h
 cases hr:e.rd with
 | none =>
  rw [hr] at h
  have h':nilB w = true:=h
  rw [nilB_iff] at h'
  subst h'
  intro k hk;simp at hk
 | some l =>
  rw [hr] at h
  exact fun k hk=>disj_spec (l:=w) (r:=l) h k hk
theorem hidden_spec {mask:Nat}:∀ {l:List En} {r:List Nat},hidden mask l = some r →
 (∀ e ∈ l,mask.testBit e.i = false → (∀ k ∈ e.w,k ∈ r)∧∀ k,e.a ≤ k → k < e.b → k ∈ r)∧∀ k ∈ r,∃ e ∈ l,k ∈ e.w ∨ (k = e.a∧e.a < e.b)
 | [],r,h=>by
  have h':some [] = some r:=h
  injection h' with h';subst h'
  simp
 | x :: l,r,h=>by
  have h':ob (hidden mask l) (fun r=>bi (Nat.testBit mask x.i) (some r) (bi (Nat.beq x.a x.b) (some (app x.w r)) (bi (Nat.beq (x.a + 1) x.b) (some (x.a :: app x.w r)) none))) = some r:=h
  obtain ⟨q,h1,h2⟩:=ob_inv h'
  obtain ⟨g1,g2⟩:=hidden_spec h1
  cases hq:Nat.testBit mask x.i with
  | true =>
   rw [hq] at h2
   have h2':some q = some r:=h2
   injection h2' with h2';subst h2'
   refine ⟨fun e he hb=>?_,fun k hk=>?_⟩
   ·rcases List.mem_cons.1 he with rfl | he
    ·rw [hq] at hb;cases hb
    ·exact g1 e he hb
   ·obtain ⟨e,he,r⟩:=g2 k hk
    exact ⟨e,List.mem_cons_of_mem _ he,r⟩
  | false =>
   rw [hq] at h2
   rw [app_eq] at h2
   cases ha:Nat.beq x.a x.b with
   | true =>
    rw [ha] at h2
    have h2':some (x.w ++ q) = some r:=h2
    injection h2' with h2';subst h2'
    have hab:=beq_inv ha
    refine ⟨fun e he hb=>?_,fun k hk=>?_⟩
    ·rcases List.mem_cons.1 he with rfl | he
     ·exact ⟨fun k hk=>by simp [hk],fun k k1 k2=>by omega⟩
     ·obtain ⟨c1,c2⟩:=g1 e he hb
      exact ⟨fun k hk=>by simp [c1 k hk],fun k k1 k2=>by simp [c2 k k1 k2]⟩
    ·rcases List.mem_append.1 hk with hk | hk
     ·exact ⟨x,by simp,.inl hk⟩
     ·obtain ⟨e,he,r⟩:=g2 k hk
      exact ⟨e,List.mem_cons_of_mem _ he,r⟩
   | false =>
    rw [ha] at h2
    obtain ⟨hb1,h2⟩:=bi_inv (c:=Nat.beq (x.a + 1) x.b) h2
    injection h2 with h2;subst h2
    have hab:=beq_inv hb1
    refine ⟨fun e he hb=>?_,fun k hk=>?_⟩
    ·rcases List.mem_cons.1 he with rfl | he
     ·exact ⟨fun k hk=>by simp [hk],fun k k1 k2=>by have:k = e.a:=by omega
                                                    simp [this]⟩
     ·obtain ⟨c1,c2⟩:=g1 e he hb
      exact ⟨fun k hk=>by simp [c1 k hk],fun k k1 k2=>by simp [c2 k k1 k2]⟩
    ·rcases List.mem_cons.1 hk with rfl | hk
     ·exact ⟨x,by simp,.inr ⟨rfl,by omega⟩⟩
     ·rcases List.mem_append.1 hk with hk | hk
      ·exact ⟨x,by simp,.inl hk⟩
      ·obtain ⟨e,he,r⟩:=g2 k hk
       exact ⟨e,List.mem_cons_of_mem _ he,r⟩
theorem delAll_get {m:T Blk}:∀ {l:List Nat},(∀ k ∈ l,k ≤ 8388608) → ∀ k,(delAll l m).get k = if k ∈ l then none else m.get k
 | [],_,k=>by show m.get k = _;simp
 | a :: l,h,k=>by
  show ((delAll l m).set a none).get k = _
  rw [get_set _ _ _ _ (h a (by simp)),delAll_get (fun x hx=>h x (by simp [hx]))]
  by_cases e:k = a
  ·simp [e]
  ·simp [e]
theorem restore_get {m0 m:T Blk}:∀ {l:List Nat},(∀ k ∈ l,k ≤ 8388608) → ∀ k,(restore l m0 m).get k = if k ∈ l then m0.get k else m.get k
 | [],_,k=>by show m.get k = _;simp
 | a :: l,h,k=>by
  show ((restore l m0 m).set a (m0.get a)).get k = _
  rw [get_set _ _ _ _ (h a (by simp)),restore_get (fun x hx=>h x (by simp [hx]))]
  by_cases e:k = a
  ·subst e;simp
  ·simp [e]
end Go.SX
namespace Go.SX
structure Dat where
 ex:Bool
 r:R
 sti:St
def WOk (s:SA):Prop:=∀ e ∈ s.ew,(∀ k ∈ e.w,k < s.st.nb)∧e.b ≤ s.st.nb
structure StepD (P:Program) (call:CallFn) (lo:Nat) (all:List Oper) (o:Oper) (m i:Nat) (s s':SA) (d:Dat):Prop where
 want:want s.fr all o.guard = some d.ex
 skip:d.ex = false → s'.fr = setD s.fr o.dst (.tup [])∧s'.st = s.st∧s'.w = s.w
 ev:d.ex = true → evOp o.op P call (opnd s.fr) d.sti = some d.r
 stok:d.ex = true → StOk d.sti∧d.sti.nb = s.st.nb∧d.sti.nt = s.st.nt
 sub:d.ex = true → ∀ k b,d.sti.mem.get k = some b → s.st.mem.get k = some b
 res:d.ex = true → s'.fr = setD s.fr o.dst d.r.v∧s'.w = below lo d.r.w s.w∧s'.st.nb = d.r.st.nb∧s'.st.nt = d.r.st.nt
 new:d.ex = true → ∀ k,(k ∈ d.r.w ∨ s.st.nb ≤ k) → s'.st.mem.get k = d.r.st.mem.get k
 old:d.ex = true → ∀ k,k ∉ d.r.w → k < s.st.nb → s'.st.mem.get k = s.st.mem.get k
 rd:d.ex = true → ∀ e ∈ s.ew,m.testBit e.i = false → ∀ k,inR d.r.rd k → (∃ b,d.sti.mem.get k = some b) → k ∉ e.w∧¬ (e.a ≤ k∧k < e.b)
 wr:d.ex = true → ∀ e ∈ s.es,m.testBit e.i = false → ∀ k ∈ d.r.w,¬ inR e.rd k
 noteR:d.ex = true → (∃ k,inR d.r.rd k) → ∃ e ∈ s'.es,e.i = i∧∀ k,inR d.r.rd k → inR e.rd k
 noteW:d.ex = true → (∃ k,k ∈ d.r.w ∨ (s.st.nb ≤ k∧k < d.r.st.nb)) → ∃ e ∈ s'.ew,e.i = i∧e.w = d.r.w∧e.a = s.st.nb∧e.b = d.r.st.nb
 es:∀ e ∈ s.es,e ∈ s'.es
 ew:∀ e ∈ s.ew,e ∈ s'.ew
 eff:d.ex = true → Eff d.sti d.r
 ok:StOk s'.st
 wok:WOk s'
section
variable {P:Program} {K:Toks} {call:CallFn} {lo N:Nat}
theorem noteW_mem {i nb:Nat} {rd:Option (List Nat)} {r:R} {ew:List En}:(∀ e ∈ ew,e ∈ noteW i nb rd r ew)∧(∀ e ∈ noteW i nb rd r ew,e ∈ ew ∨ e = ⟨i,rd,r.w,nb,r.st.nb⟩) ∧
 ((∃ k,k ∈ r.w ∨ (nb ≤ k∧k < r.st.nb)) → (⟨i,rd,r.w,nb,r.st.nb⟩:En) ∈ noteW i nb rd r ew):=by
 unfold noteW
 cases h1:nilB r.w with
 | false =>
  show (∀ e ∈ ew,e ∈ (⟨i,rd,r.w,nb,r.st.nb⟩:En) :: ew)∧_∧(_ → _ ∈ (⟨i,rd,r.w,nb,r.st.nb⟩:En) :: ew)
  exact ⟨fun e he=>List.mem_cons_of_mem _ he,fun e he=>(List.mem_cons.1 he).symm,fun _=>by simp⟩
 | true =>
  rw [nilB_iff] at h1
  cases h2:Nat.beq r.st.nb nb with
  | false=>exact ⟨fun e he=>List.mem_cons_of_mem _ he,fun e he=>(List.mem_cons.1 he).symm,fun _=>List.mem_cons_self⟩
  | true =>
   have:=beq_inv h2
   refine ⟨fun e he=>he,fun e he=>.inl he,fun ⟨k,hk⟩=>?_⟩
   rcases hk with hk | hk
   ·rw [h1] at hk;simp at hk
   ·omega
theorem clearW {_b:Bool} {w:List Nat} {m:Nat} {es:List En} (h:bi (nilB w) true (clear (clashW w) m es) = true):∀ e ∈ es,m.testBit e.i = false → ∀ k ∈ w,¬ inR e.rd k:=by
 cases hn:nilB w with
 | true =>
  rw [nilB_iff] at hn;subst hn
  intro e _ _ k hk;simp at hk
 | false =>
  rw [hn] at h
  exact fun e he hb=>clashW_spec (clear_spec h e he hb)
theorem anyStep_inv (hcall:CallOk P K call) {all:List Oper} {o:Oper} {m i:Nat} {s s':SA} (h:anyStep P call lo all o m i s = some s') (hst:StOk s.st) (hw:WOk s) :
 ∃ d,StepD P call lo all o m i s s' d:=by
 obtain ⟨b,h1,h⟩:=ob_inv h
 cases b with
 | false =>
  have h':some (⟨s.es,s.ew,setD s.fr o.dst (.tup []),s.st,s.w⟩:SA) = some s':=h
  injection h' with h';subst h'
  exact ⟨⟨false,⟨.tup [],s.st,[],none⟩,s.st⟩,h1,fun _=>⟨rfl,rfl,rfl⟩,fun e=>(by cases e),fun e=>(by cases e),fun e=>(by cases e),fun e=>(by cases e),fun e=>(by cases e),fun e=>(by cases e),fun e=>(by cases e),fun e=>(by cases e),
   fun e=>(by cases e),fun e=>(by cases e),fun _ he=>he,fun _ he=>he,fun e=>(by cases e),hst,hw⟩
 | true =>
  cases hc:isCall o.op with
  | true =>
   rw [hc] at h
   obtain ⟨hd,g1,h⟩:=ob_inv h
   obtain ⟨r,g2,h⟩:=ob_inv h
   obtain ⟨g3,h⟩:=bi_inv h
   injection h with h
   obtain ⟨q1,q2⟩:=hidden_spec g1
   have hle:∀ k ∈ hd,k ≤ 8388608:=by
    intro k hk
    obtain ⟨e,he,hk'⟩:=q2 k hk
    obtain ⟨w1,w2⟩:=hw e he
    have:=hst.nb
    rcases hk' with hk' | ⟨rfl,hlt⟩
    ·have:=w1 k hk';omega
    ·omega
   have hsti:StOk (⟨delAll hd s.st.mem,s.st.nb,s.st.nt⟩:St):=⟨hst.nb,fun k hk=>by
    show (delAll hd s.st.mem).get k = none
    rw [delAll_get hle];split
    ·rfl
    ·exact hst.dom k hk⟩
   obtain ⟨heff,_⟩:=op_sound (K:=K) hcall hsti g2
   have hget:∀ k,(delAll hd s.st.mem).get k = if k ∈ hd then none else s.st.mem.get k:=delAll_get hle
   have hget':∀ k,(restore hd s.st.mem r.st.mem).get k = if k ∈ hd then s.st.mem.get k else r.st.mem.get k:=restore_get hle
   have hnew:∀ k,k ∈ hd → k < s.st.nb:=by
    intro k hk
    obtain ⟨e,he,hk'⟩:=q2 k hk
    obtain ⟨w1,w2⟩:=hw e he
    rcases hk' with hk' | ⟨rfl,hlt⟩
    ·exact w1 k hk'
    ·omega
   have hwn:∀ k ∈ r.w,k ∉ hd:=by
    intro k hk hh
    obtain ⟨_,b,hb⟩:=heff.live k hk
    have hb':(delAll hd s.st.mem).get k = some b:=hb
    rw [hget,if_pos hh] at hb';cases hb'
   subst h
   obtain ⟨nw1,nw2,nw3⟩:=noteW_mem (i:=i) (nb:=s.st.nb) (rd:=none) (r:=r) (ew:=s.ew)
   refine ⟨⟨true,r,⟨delAll hd s.st.mem,s.st.nb,s.st.nt⟩⟩,h1,fun e=>(by cases e),fun _=>g2,fun _=>⟨hsti,rfl,rfl⟩,fun _ k b hk=>?_,fun _=>⟨rfl,rfl,rfl,rfl⟩,fun _ k hk=>?_,fun _ k hk hlt=>?_,
    fun _ e he hb k _ hl=>?_,fun _=>clearW (_b:=true) g3,fun _ _=>⟨_,List.mem_cons_self,rfl,fun _ _=>trivial⟩,fun _ hk=>⟨_,nw3 hk,rfl,rfl,rfl,rfl⟩,fun e he=>List.mem_cons_of_mem _ he,nw1,fun _=>heff,?_,fun e he=>?_⟩
   ·have hk':(delAll hd s.st.mem).get k = some b:=hk
    rw [hget] at hk'
    split at hk'
    ·cases hk'
    ·exact hk'
   ·show (restore hd s.st.mem r.st.mem).get k = r.st.mem.get k
    rw [hget']
    rcases hk with hk | hk
    ·rw [if_neg (hwn k hk)]
    ·rw [if_neg (fun hh=>by have:=hnew k hh;omega)]
   ·show (restore hd s.st.mem r.st.mem).get k = s.st.mem.get k
    rw [hget']
    by_cases hh:k ∈ hd
    ·rw [if_pos hh]
    ·rw [if_neg hh,heff.same k hk hlt]
     show (delAll hd s.st.mem).get k = _
     rw [hget,if_neg hh]
   ·obtain ⟨c1,c2⟩:=q1 e he hb
    obtain ⟨b,hb'⟩:=hl
    have hb'':(delAll hd s.st.mem).get k = some b:=hb'
    rw [hget] at hb''
    by_cases hh:k ∈ hd
    ·rw [if_pos hh] at hb'';cases hb''
    ·exact ⟨fun hk=>hh (c1 k hk),fun hk=>hh (c2 k hk.1 hk.2)⟩
   ·refine ⟨heff.ok.nb,fun k hk=>?_⟩
    show (restore hd s.st.mem r.st.mem).get k = none
    have hk':r.st.nb ≤ k:=hk
    have:=heff.nb
    have h2:s.st.nb ≤ r.st.nb:=this
    rw [hget',if_neg (fun hh=>by have:=hnew k hh;omega)]
    exact heff.ok.dom k hk'
   ·have h2:s.st.nb ≤ r.st.nb:=heff.nb
    rcases nw2 e he with he | rfl
    ·obtain ⟨w1,w2⟩:=hw e he
     exact ⟨fun k hk=>by have:=w1 k hk;show k < r.st.nb;omega,by show e.b ≤ r.st.nb;omega⟩
    ·refine ⟨fun k hk=>?_,Nat.le_refl _⟩
     have:=(heff.live k hk).1
     have h3:k < s.st.nb:=this
     show k < r.st.nb;omega
  | false =>
   rw [hc] at h
   obtain ⟨r,g2,h⟩:=ob_inv h
   obtain ⟨g1,h⟩:=bi_inv h
   obtain ⟨g3,h⟩:=bi_inv h
   injection h with h
   obtain ⟨heff,_⟩:=op_sound (K:=K) hcall hst g2
   subst h
   obtain ⟨nw1,nw2,nw3⟩:=noteW_mem (i:=i) (nb:=s.st.nb) (rd:=r.rd) (r:=r) (ew:=s.ew)
   refine ⟨⟨true,r,s.st⟩,h1,fun e=>(by cases e),fun _=>g2,fun _=>⟨hst,rfl,rfl⟩,fun _ k b hk=>hk,fun _=>⟨rfl,rfl,rfl,rfl⟩,fun _ k _=>rfl,fun _ k hk hlt=>heff.same k hk hlt,
    fun _ e he hb k hk _=>clashR_spec (clear_spec g1 e he hb) k hk,fun _=>clearW (_b:=true) g3,fun _ hk=>?_,fun _ hk=>⟨_,nw3 hk,rfl,rfl,rfl,rfl⟩,fun e he=>?_,nw1,fun _=>heff,heff.ok,fun e he=>?_⟩
   ·show ∃ e ∈ SX.noteR i s.st.nb r s.es,_
    unfold SX.noteR
    obtain ⟨k,hk⟩:=hk
    cases hr:r.rd with
    | none=>exact ⟨_,List.mem_cons_self,rfl,fun _ _=>trivial⟩
    | some l =>
     rw [hr] at hk
     cases hn:nilB l with
     | true=>rw [nilB_iff] at hn;subst hn;simp [inR] at hk
     | false =>
      refine ⟨⟨i,some l,r.w,s.st.nb,r.st.nb⟩,?_,rfl,fun k hk=>hk⟩
      show _ ∈ bi (nilB l) s.es _
      rw [hn];exact List.mem_cons_self
   ·show e ∈ SX.noteR i s.st.nb r s.es
    unfold SX.noteR
    cases hr:r.rd with
    | none=>exact List.mem_cons_of_mem _ he
    | some l =>
     show e ∈ bi (nilB l) s.es _
     cases hn:nilB l with
     | true=>exact he
     | false=>exact List.mem_cons_of_mem _ he
   ·have h2:s.st.nb ≤ r.st.nb:=heff.nb
    rcases nw2 e he with he | rfl
    ·obtain ⟨w1,w2⟩:=hw e he
     exact ⟨fun k hk=>by have:=w1 k hk;show k < r.st.nb;omega,by show e.b ≤ r.st.nb;omega⟩
    ·refine ⟨fun k hk=>?_,Nat.le_refl _⟩
     have h3:k < s.st.nb:=(heff.live k hk).1
     show k < r.st.nb;omega
theorem evAny_trace (hcall:CallOk P K call) {all:List Oper}:∀ (l:List Oper) (ms:List Nat) (i:Nat) (s s':SA),evAny P call lo all l ms i s = some s' → StOk s.st → WOk s →
 ∃ f:Nat → SA,f 0 = s∧f l.length = s'∧∀ j o,l[j]? = some o → ∃ m d,ms[j]? = some m∧StepD P call lo all o m (i + j) (f j) (f (j + 1)) d
 | [],ms,i,s,s',h,_,_=>by
  have h':some s = some s':=h
  injection h' with h'
  exact ⟨fun _=>s,rfl,h',fun j o hj=>by simp at hj⟩
 | o :: l,[],i,s,s',h,_,_=>by cases h
 | o :: l,m :: ms,i,s,s',h,hst,hw=>by
  have h':ob (anyStep P call lo all o m i s) (fun s1=>evAny P call lo all l ms (i + 1) s1) = some s':=h
  obtain ⟨s1,h1,h2⟩:=ob_inv h'
  obtain ⟨d,hd⟩:=anyStep_inv hcall h1 hst hw
  obtain ⟨f,f0,fl,fs⟩:=evAny_trace hcall l ms (i + 1) s1 s' h2 hd.ok hd.wok
  refine ⟨fun j=>match j with | 0=>s | j + 1=>f j,rfl,fl,fun j x hj=>?_⟩
  cases j with
  | zero =>
   simp at hj;subst hj
   exact ⟨m,d,rfl,by show StepD P call lo all o m (i + 0) s (f 0) d;rw [f0];exact hd⟩
  | succ j =>
   obtain ⟨m',d',g1,g2⟩:=fs j x (by simpa using hj)
   exact ⟨m',d',by simpa using g1,by rw [show i + (j + 1) = i + 1 + j by omega];exact g2⟩
end
end Go.SX
namespace Go.SX
structure Tr (P:Program) (call:CallFn) (lo N:Nat) (ops:Array Oper) (ms:List Nat) (f:Nat → SA) (d:Nat → Dat):Prop where
 step:∀ (j:Nat) (o:Oper),ops[j]? = some o → ∃ m,ms[j]? = some m∧StepD P call lo ops.toList o m j (f j) (f (j + 1)) (d j)
 masks:masks ops.toList [] = some ms
 slots:∀ (i:Nat) (x:Oper) (m:Nat),ops[i]? = some x → ms[i]? = some m → ∀ (j:Nat) (y:Oper),ops[j]? = some y → j < i → m.testBit j = true ∨ Oper.apart ops x y = true
 dst:∀ (i:Nat) (o:Oper) (t:Nat),ops[i]? = some o → o.dst = some t → t < N
 ok0:StOk (f 0).st
def Mod (f:Nat → SA) (d:Nat → Dat) (i k:Nat):Prop:=(d i).ex = true∧(k ∈ (d i).r.w ∨ (f i).st.nb ≤ k∧k < (f (i + 1)).st.nb)
section
variable {P:Program} {K:Toks} {call:CallFn} {lo N:Nat} {ops:Array Oper} {ms:List Nat} {f:Nat → SA} {d:Nat → Dat}
theorem Tr.at (T:Tr P call lo N ops ms f d) {j:Nat} (hj:j < ops.size):∃ o m,ops[j]? = some o∧ms[j]? = some m∧StepD P call lo ops.toList o m j (f j) (f (j + 1)) (d j):=by
 obtain ⟨m,h1,h2⟩:=T.step j _ (Array.getElem?_eq_getElem hj)
 exact ⟨_,m,Array.getElem?_eq_getElem hj,h1,h2⟩
theorem Tr.ok (T:Tr P call lo N ops ms f d):∀ i,i ≤ ops.size → StOk (f i).st
 | 0,_=>T.ok0
 | i + 1,h=>by
  obtain ⟨o,m,_,_,hs⟩:=T.at (j:=i) (by omega)
  exact hs.ok
theorem StepD.nb {o:Oper} {m i:Nat} {s s':SA} {d:Dat} (h:StepD P call lo ops.toList o m i s s' d):s.st.nb ≤ s'.st.nb∧s.st.nt ≤ s'.st.nt:=by
 cases he:d.ex with
 | false=>obtain ⟨_,h2,_⟩:=h.skip he;rw [h2];exact ⟨Nat.le_refl _,Nat.le_refl _⟩
 | true =>
  obtain ⟨_,_,h3,h4⟩:=h.res he
  obtain ⟨_,h5,h6⟩:=h.stok he
  have h7:=h.eff he
  rw [h3,h4,← h5,← h6]
  exact ⟨h7.nb,h7.nt⟩
theorem Tr.mono (T:Tr P call lo N ops ms f d) {i:Nat}:∀ {j:Nat},i ≤ j → j ≤ ops.size → (f i).st.nb ≤ (f j).st.nb∧(f i).st.nt ≤ (f j).st.nt∧(∀ e ∈ (f i).es,e ∈ (f j).es)∧(∀ e ∈ (f i).ew,e ∈ (f j).ew):=by
 intro j
 induction j with
 | zero=>intro h _;have:i = 0:=by omega
         subst this;exact ⟨Nat.le_refl _,Nat.le_refl _,fun _ h=>h,fun _ h=>h⟩
 | succ j ih =>
  intro h hj
  by_cases e:i = j + 1
  ·subst e;exact ⟨Nat.le_refl _,Nat.le_refl _,fun _ h=>h,fun _ h=>h⟩
  ·obtain ⟨h1,h2,h3,h4⟩:=ih (by omega) (by omega)
   obtain ⟨o,m,_,_,hs⟩:=T.at (j:=j) (by omega)
   obtain ⟨h5,h6⟩:=hs.nb
   exact ⟨by omega,by omega,fun e he=>hs.es e (h3 e he),fun e he=>hs.ew e (h4 e he)⟩
theorem Tr.wmono (T:Tr P call lo N ops ms f d) {i:Nat}:∀ {j:Nat},i ≤ j → j ≤ ops.size → ∀ k ∈ (f i).w,k ∈ (f j).w:=by
 intro j
 induction j with
 | zero=>intro h _;have:i = 0:=by omega
         subst this;exact fun _ h=>h
 | succ j ih =>
  intro h hj k hk
  by_cases e:i = j + 1
  ·subst e;exact hk
  ·have h1:=ih (by omega) (by omega) k hk
   obtain ⟨o,m,_,_,hs⟩:=T.at (j:=j) (by omega)
   cases he:(d j).ex with
   | false=>obtain ⟨_,_,h3⟩:=hs.skip he;rw [h3];exact h1
   | true=>obtain ⟨_,h2,_⟩:=hs.res he;rw [h2];exact (mem_below _ _ _ _).2 (.inr h1)
theorem Tr.wof (T:Tr P call lo N ops ms f d) {i:Nat} (hi:i < ops.size) (he:(d i).ex = true) {k:Nat} (hk:k ∈ (d i).r.w) (hlo:k < lo):k ∈ (f ops.size).w:=by
 obtain ⟨o,m,_,_,hs⟩:=T.at hi
 obtain ⟨_,h2,_⟩:=hs.res he
 refine T.wmono (i:=i + 1) (by omega) (Nat.le_refl _) k ?_
 rw [h2]
 exact (mem_below _ _ _ _).2 (.inl ⟨hk,hlo⟩)
theorem Tr.keep (T:Tr P call lo N ops ms f d) {i k:Nat} (hi:i < ops.size) (h:¬ Mod f d i k):(f (i + 1)).st.mem.get k = (f i).st.mem.get k:=by
 obtain ⟨o,m,_,_,hs⟩:=T.at hi
 cases he:(d i).ex with
 | false=>obtain ⟨_,h2,_⟩:=hs.skip he;rw [h2]
 | true =>
  by_cases hk:k < (f i).st.nb
  ·exact hs.old he k (fun hw=>h ⟨he,.inl hw⟩) hk
  ·have h1:¬ k < (f (i + 1)).st.nb:=fun hlt=>h ⟨he,.inr ⟨by omega,hlt⟩⟩
   rw [(T.ok (i + 1) (by omega)).dom k (by omega),(T.ok i (by omega)).dom k (by omega)]
theorem Tr.keeps (T:Tr P call lo N ops ms f d) {p k:Nat}:∀ {q:Nat},p ≤ q → q ≤ ops.size → (∀ j,p ≤ j → j < q → ¬ Mod f d j k) → (f q).st.mem.get k = (f p).st.mem.get k:=by
 intro q
 induction q with
 | zero=>intro h _ _;have:p = 0:=by omega
         subst this;rfl
 | succ q ih =>
  intro h hq hm
  by_cases e:p = q + 1
  ·subst e;rfl
  ·rw [T.keep (by omega) (hm q (by omega) (by omega)),ih (by omega) (by omega) fun j a b=>hm j a (by omega)]
theorem Tr.same (T:Tr P call lo N ops ms f d) {L:Nat → Prop} {k p q:Nat} (hp:p ≤ ops.size) (hq:q ≤ ops.size)
 (p1:∀ j,j < p → Mod f d j k → L j) (p2:∀ j,p ≤ j → j < ops.size → Mod f d j k → ¬ L j)
 (q1:∀ j,j < q → Mod f d j k → L j) (q2:∀ j,q ≤ j → j < ops.size → Mod f d j k → ¬ L j):(f p).st.mem.get k = (f q).st.mem.get k:=by
 rcases Nat.le_total p q with h | h
 ·exact (T.keeps h hq fun j a b hm=>p2 j a (by omega) hm (q1 j b hm)).symm
 ·exact T.keeps h hp fun j a b hm=>q2 j a (by omega) hm (p1 j b hm)
theorem Tr.keepF (T:Tr P call lo N ops ms f d) (hN:N ≤ 1000000) {i t:Nat} (hi:i < ops.size) (h:∀ o:Oper,ops[i]? = some o → o.dst ≠ some t):(f (i + 1)).fr.get t = (f i).fr.get t:=by
 obtain ⟨o,m,ho,_,hs⟩:=T.at hi
 have key:∀ v,(setD (f i).fr o.dst v).get t = (f i).fr.get t:=by
  intro v
  cases hd:o.dst with
  | none=>rfl
  | some s =>
   show (SX.T.set (f i).fr s (some v)).get t = _
   have:=T.dst i o s ho hd
   rw [get_set _ _ _ _ (by omega),if_neg (fun e=>h o ho (by rw [hd,e]))]
 cases he:(d i).ex with
 | false=>obtain ⟨h1,_⟩:=hs.skip he;rw [h1,key]
 | true=>obtain ⟨h1,_⟩:=hs.res he;rw [h1,key]
theorem Tr.keepsF (T:Tr P call lo N ops ms f d) (hN:N ≤ 1000000) {p t:Nat}:∀ {q:Nat},p ≤ q → q ≤ ops.size → (∀ (j:Nat) (o:Oper),p ≤ j → j < q → ops[j]? = some o → o.dst ≠ some t) → (f q).fr.get t = (f p).fr.get t:=by
 intro q
 induction q with
 | zero=>intro h _ _;have:p = 0:=by omega
         subst this;rfl
 | succ q ih =>
  intro h hq hm
  by_cases e:p = q + 1
  ·subst e;rfl
  ·rw [T.keepF hN (by omega) (fun o ho=>hm q o (by omega) (by omega) ho),ih (by omega) (by omega) fun j o a b=>hm j o a (by omega)]
theorem Tr.sameF (T:Tr P call lo N ops ms f d) (hN:N ≤ 1000000) {L:Nat → Prop} {t p q:Nat} (hp:p ≤ ops.size) (hq:q ≤ ops.size)
 (p1:∀ (j:Nat) (o:Oper),j < p → ops[j]? = some o → o.dst = some t → L j) (p2:∀ (j:Nat) (o:Oper),p ≤ j → ops[j]? = some o → o.dst = some t → ¬ L j)
 (q1:∀ (j:Nat) (o:Oper),j < q → ops[j]? = some o → o.dst = some t → L j) (q2:∀ (j:Nat) (o:Oper),q ≤ j → ops[j]? = some o → o.dst = some t → ¬ L j):(f p).fr.get t = (f q).fr.get t:=by
 rcases Nat.le_total p q with h | h
 ·exact (T.keepsF hN h hq fun j o a b ho hd=>p2 j o a ho hd (q1 j o b ho hd)).symm
 ·exact T.keepsF hN h hp fun j o a b ho hd=>q2 j o a ho hd (p1 j o b ho hd)
theorem Tr.apartR (T:Tr P call lo N ops ms f d) {i j:Nat} {m:Nat} (hj:j < i) (hi:i < ops.size) (hm:ms[i]? = some m) (hb:m.testBit j = false) (hei:(d i).ex = true) {k:Nat}
 (hr:inR (d i).r.rd k) (hl:∃ b,(d i).sti.mem.get k = some b):¬ Mod f d j k:=by
 rintro ⟨hej,hk⟩
 obtain ⟨oj,mj,_,_,hsj⟩:=T.at (j:=j) (by omega)
 obtain ⟨oi,mi,_,hmi,hsi⟩:=T.at hi
 rw [hm] at hmi;injection hmi with hmi;subst hmi
 obtain ⟨_,_,hnb,_⟩:=hsj.res hej
 obtain ⟨e,he,e1,e2,e3,e4⟩:=hsj.noteW hej ⟨k,by rw [← hnb];exact hk⟩
 have he':=(T.mono (i:=j + 1) (j:=i) (by omega) (by omega)).2.2.2 e he
 obtain ⟨h1,h2⟩:=hsi.rd hei e he' (by rw [e1];exact hb) k hr hl
 rcases hk with hk | hk
 ·exact h1 (by rw [e2];exact hk)
 ·exact h2 (by rw [e3,e4,← hnb];exact hk)
theorem Tr.apartW (T:Tr P call lo N ops ms f d) {i j:Nat} {m:Nat} (hj:j < i) (hi:i < ops.size) (hm:ms[i]? = some m) (hb:m.testBit j = false) (hei:(d i).ex = true) (hej:(d j).ex = true) {k:Nat}
 (hk:k ∈ (d i).r.w):¬ inR (d j).r.rd k:=by
 intro hr
 obtain ⟨oj,mj,_,_,hsj⟩:=T.at (j:=j) (by omega)
 obtain ⟨oi,mi,_,hmi,hsi⟩:=T.at hi
 rw [hm] at hmi;injection hmi with hmi;subst hmi
 obtain ⟨e,he,e1,e2⟩:=hsj.noteR hej ⟨k,hr⟩
 have he':=(T.mono (i:=j + 1) (j:=i) (by omega) (by omega)).2.2.1 e he
 exact hsi.wr hei e he' (by rw [e1];exact hb) k hk (e2 k hr)
theorem Tr.wread (T:Tr P call lo N ops ms f d) {i:Nat} (hi:i < ops.size) (he:(d i).ex = true) {k:Nat} (hk:k ∈ (d i).r.w):inR (d i).r.rd k∧(∃ b,(d i).sti.mem.get k = some b)∧k < (f i).st.nb:=by
 obtain ⟨oi,mi,_,hmi,hs⟩:=T.at hi
 have heff:=hs.eff he
 obtain ⟨h1,h2⟩:=heff.live k hk
 obtain ⟨_,h3,_⟩:=hs.stok he
 refine ⟨?_,h2,by omega⟩
 cases hr:(d i).r.rd with
 | none=>trivial
 | some l=>exact heff.rdw l hr k hk
def Closed (ops:Array Oper) (L:Nat → Prop):Prop:=∀ (i:Nat) (o:Oper),ops[i]? = some o → L i → ∀ e ∈ o.after,Region.binds .any e = true → L e.on
theorem Tr.back (T:Tr P call lo N ops ms f d) {L:Nat → Prop} (hL:Closed ops L) {i j m:Nat} {o:Oper} (ho:ops[i]? = some o) (hm:ms[i]? = some m) (hb:m.testBit j = true)
 (hr:∀ e ∈ o.after,Region.binds .any e = true → L e.on):L j:=mask_closed T.masks L hL i o m ho hm hr j hb
section ready
variable {L:Nat → Prop} {i:Nat} {o:Oper}
theorem Tr.reads (T:Tr P call lo N ops ms f d) (hL:Closed ops L) (ho:ops[i]? = some o) (hr:∀ e ∈ o.after,Region.binds .any e = true → L e.on) (hn:¬ L i) (he:(d i).ex = true) {k:Nat}
 (hk:inR (d i).r.rd k) (hl:∃ b,(d i).sti.mem.get k = some b):(∀ j,j < i → Mod f d j k → L j)∧(∀ j,i ≤ j → j < ops.size → Mod f d j k → ¬ L j):=by
 have hi:i < ops.size:=(Array.getElem?_eq_some_iff.1 ho).1
 obtain ⟨oi,mi,hoi,hmi,hs⟩:=T.at hi
 refine ⟨fun j hj hm=>?_,fun j hj hjn hm hLj=>?_⟩
 ·cases hb:mi.testBit j with
  | true=>exact T.back hL ho hmi hb hr
  | false=>exact absurd hm (T.apartR hj hi hmi hb he hk hl)
 ·by_cases e:j = i
  ·subst e;exact hn hLj
  ·obtain ⟨oj,mj,hoj,hmj,hsj⟩:=T.at hjn
   cases hb:mj.testBit i with
   | true=>exact hn (T.back hL hoj hmj hb (hL j oj hoj hLj))
   | false =>
    obtain ⟨hej,hk2⟩:=hm
    rcases hk2 with hk2 | hk2
    ·exact T.apartW (by omega) hjn hmj hb hej he hk2 hk
    ·obtain ⟨b,hb'⟩:=hl
     obtain ⟨hst,hnb,_⟩:=hs.stok he
     have:=hst.lt hb'
     have:=(T.mono (i:=i) (j:=j) (by omega) (by omega)).1
     omega
theorem Tr.news (T:Tr P call lo N ops ms f d) (hL:Closed ops L) (ho:ops[i]? = some o) (hn:¬ L i) {k:Nat}
 (hk:(f i).st.nb ≤ k∧k < (f (i + 1)).st.nb):(∀ j,j < i → ¬ Mod f d j k)∧(∀ j,i < j → j < ops.size → Mod f d j k → ¬ L j):=by
 have hi:i < ops.size:=(Array.getElem?_eq_some_iff.1 ho).1
 refine ⟨fun j hj hm=>?_,fun j hj hjn hm hLj=>?_⟩
 ·obtain ⟨hej,hm⟩:=hm
  rcases hm with hm | hm
  ·have:=(T.wread (by omega) hej hm).2.2
   have:=(T.mono (i:=j) (j:=i) (by omega) (by omega)).1
   omega
  ·have:=(T.mono (i:=j + 1) (j:=i) (by omega) (by omega)).1
   omega
 ·obtain ⟨oj,mj,hoj,hmj,hsj⟩:=T.at hjn
  cases hb:mj.testBit i with
  | true=>exact hn (T.back hL hoj hmj hb (hL j oj hoj hLj))
  | false =>
   obtain ⟨hej,hm⟩:=hm
   rcases hm with hm | hm
   ·obtain ⟨c1,c2,_⟩:=T.wread hjn hej hm
    refine T.apartR hj hjn hmj hb hej c1 c2 ⟨?_,.inr hk⟩
    cases hx:(d i).ex with
    | true=>rfl
    | false =>
     obtain ⟨oi,mi,_,_,hs⟩:=T.at hi
     obtain ⟨_,h2,_⟩:=hs.skip hx
     rw [h2] at hk;omega
   ·have:=(T.mono (i:=i + 1) (j:=j) (by omega) (by omega)).1
    omega
theorem Tr.looks (T:Tr P call lo N ops ms f d) (hL:Closed ops L) (ho:ops[i]? = some o) (hr:∀ e ∈ o.after,Region.binds .any e = true → L e.on) (hn:¬ L i) {t:Nat} (ht:t ∈ o.looksAt ops) :
 (∀ (j:Nat) (p:Oper),j < i → ops[j]? = some p → p.dst = some t → L j)∧(∀ (j:Nat) (p:Oper),i ≤ j → ops[j]? = some p → p.dst = some t → ¬ L j):=by
 have hi:i < ops.size:=(Array.getElem?_eq_some_iff.1 ho).1
 obtain ⟨oi,mi,hoi,hmi,hs⟩:=T.at hi
 refine ⟨fun j p hj hp hd=>?_,fun j p hj hp hd hLj=>?_⟩
 ·rcases T.slots i o mi ho hmi j p hp hj with hb | ha
  ·exact T.back hL ho hmi hb hr
  ·exact absurd ht ((Oper.apart_spec ha).2.2 t hd)
 ·by_cases e:j = i
  ·subst e;exact hn hLj
  ·have hjn:j < ops.size:=(Array.getElem?_eq_some_iff.1 hp).1
   obtain ⟨oj,mj,hoj,hmj,hsj⟩:=T.at hjn
   rw [hp] at hoj;injection hoj with hoj;subst hoj
   rcases T.slots j p mj hp hmj i o ho (by omega) with hb | ha
   ·exact hn (T.back hL hp hmj hb (hL j p hp hLj))
   ·exact (Oper.apart_spec ha).1 t hd ht
theorem Tr.dsts (T:Tr P call lo N ops ms f d) (hL:Closed ops L) (ho:ops[i]? = some o) (hr:∀ e ∈ o.after,Region.binds .any e = true → L e.on) (hn:¬ L i) {t:Nat} (ht:o.dst = some t) :
 (∀ (j:Nat) (p:Oper),j < i → ops[j]? = some p → p.dst = some t → L j)∧(∀ (j:Nat) (p:Oper),i < j → ops[j]? = some p → p.dst = some t → ¬ L j):=by
 have hi:i < ops.size:=(Array.getElem?_eq_some_iff.1 ho).1
 obtain ⟨oi,mi,hoi,hmi,hs⟩:=T.at hi
 refine ⟨fun j p hj hp hd=>?_,fun j p hj hp hd hLj=>?_⟩
 ·rcases T.slots i o mi ho hmi j p hp hj with hb | ha
  ·exact T.back hL ho hmi hb hr
  ·exact absurd hd ((Oper.apart_spec ha).2.1 t ht)
 ·have hjn:j < ops.size:=(Array.getElem?_eq_some_iff.1 hp).1
  obtain ⟨oj,mj,hoj,hmj,hsj⟩:=T.at hjn
  rw [hp] at hoj;injection hoj with hoj;subst hoj
  rcases T.slots j p mj hp hmj i o ho hj with hb | ha
  ·exact hn (T.back hL hp hmj hb (hL j p hp hLj))
  ·exact (Oper.apart_spec ha).2.1 t hd ht
end ready
end
end Go.SX
