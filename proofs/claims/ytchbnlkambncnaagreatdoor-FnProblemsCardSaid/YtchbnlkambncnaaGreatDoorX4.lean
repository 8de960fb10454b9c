/-
 Shared texts (X4).
-/
import Derived.Test.YtchbnlkambncnaaGreatDoorX3
import Derived.Test.YtchbnlkambncnaaGreatDoorProg
import Derived.WalkKit
import Derived.WalkSpells
import Derived.WalkLawsBesides
import Derived.BigQuiet
import Derived.Deep.QuietTactic
import Derived.Deep.Draws
import Derived.Deep.OwnRows
import Derived.Lib.Hide
import Derived.StillTailTactics
import Derived.Deep.Slices
import Derived.Lib.SmallJoins
namespace Go.SX
structure RI (K:Toks) (E0:Env) (w0:World) (st0:St) (ops:Array Oper) (f:Nat → SA) (d:Nat → Dat) (N:Nat) (dl:List Deferred) (L:Nat → Prop) (E:Env) (w:World) (a:Act):Prop where
 closed:Closed ops L
 step:Step K E0 w0 E w (f ops.size).w st0.nb (f ops.size).st.nb st0.nt (f ops.size).st.nt
 mem:∃ m:Nat → Option Blk,(∀ k,∃ p,p ≤ ops.size∧(∀ j,j < p → Mod f d j k → L j)∧(∀ j,p ≤ j → j < ops.size → Mod f d j k → ¬ L j)∧m k = (f p).st.mem.get k)∧(∀ k b,m k = some b → BlkOk E w k b) ∧
  ∀ k k' b b' p s s',m k = some b → m k' = some b' → E.rho k = some (p,s) → E.rho k' = some (p,s') → k = k'
 tmp:∀ t:Nat,∃ p,p ≤ ops.size∧(∀ (j:Nat) (o:Oper),j < p → ops[j]? = some o → o.dst = some t → L j)∧(∀ (j:Nat) (o:Oper),p ≤ j → ops[j]? = some o → o.dst = some t → ¬ L j) ∧
  ∀ v,(f p).fr.get t = some v → ∃ u,a.tmps[t]? = some u∧RelV E v u
 free:∀ i,i < ops.size → ¬ L i → (∀ k,(f i).st.nb ≤ k → k < (f (i + 1)).st.nb → E.rho k = none)∧(∀ j,(f i).st.nt ≤ j → j < (f (i + 1)).st.nt → E.sig j = none)
 size:N ≤ a.tmps.size
 defs:a.defers = dl
section
variable {P:Program} {K:Toks} {call:CallFn} {N:Nat} {ops:Array Oper} {ms:List Nat} {f:Nat → SA} {d:Nat → Dat} {E0:Env} {w0:World} {st0:St} {dl:List Deferred}
open Classical in
theorem ri_step (hcall:CallOk P K call) (hN:N ≤ 1000000) (T:Tr P call st0.nb N ops ms f d) (hst0:st0.nb ≤ (f 0).st.nb∧st0.nt ≤ (f 0).st.nt) {L L':Nat → Prop} {E:Env} {w:World} {a:Act} (h:RI K E0 w0 st0 ops f d N dl L E w a)
 {i:Nat} {o:Oper} (ho:ops[i]? = some o) (hn:¬ L i) (hr:∀ e ∈ o.after,Region.binds .any e = true → L e.on) (hL':∀ j,L' j ↔ L j ∨ j = i)
 {next:Act → World → Prop} {Q:Exit → Act → World → Prop} (hnext:∀ E' w' a',RI K E0 w0 st0 ops f d N dl L' E' w' a' → next a' w'):wpOp P ops Q i next a w:=by
 have hi:i < ops.size:=(Array.getElem?_eq_some_iff.1 ho).1
 obtain ⟨o',m,ho',hm,hs⟩:=T.at hi
 rw [ho] at ho';injection ho' with ho';subst ho'
 have hdst:∀ t:Nat,o.dst = some t → t < N:=fun t ht=>T.dst i o t ho ht
 have hclosed':Closed ops L':=by
  intro j p hp hLj e he hb
  rw [hL']
  rcases (hL' j).1 hLj with hLj | rfl
  ·exact .inl (h.closed j p hp hLj e he hb)
  ·rw [ho] at hp;injection hp with hp;subst hp
   exact .inl (hr e he hb)
 have hslot:∀ t:Nat,t ∈ o.looksAt ops → ∀ v,(f i).fr.get t = some v → ∃ u,a.tmps[t]? = some u∧RelV E v u:=by
  intro t ht v hv
  obtain ⟨p,p1,p2,p3,p4⟩:=h.tmp t
  obtain ⟨q1,q2⟩:=T.looks h.closed ho hr hn ht
  have:=T.sameF hN p1 (Nat.le_of_lt hi) p2 p3 q1 q2
  exact p4 v (by rw [this];exact hv)
 have hwant:Region.wanted o (yielded ops a.tmps) = (d i).ex:=by
  refine want_sound' (E:=E) (fun q p t v hq hp ht hv=>hslot t ?_ v hv) hs.want
  unfold Oper.looksAt
  rw [List.mem_append]
  right
  rw [hq]
  simp [hp,ht]
 have htmp:∀ (F:Env) (v:V) (x:Value),E.le F → (f (i + 1)).fr = setD (f i).fr o.dst v → RelV F v x →
  ∀ t:Nat,∃ p,p ≤ ops.size∧(∀ (j:Nat) (o:Oper),j < p → ops[j]? = some o → o.dst = some t → L' j)∧(∀ (j:Nat) (o:Oper),p ≤ j → ops[j]? = some o → o.dst = some t → ¬ L' j) ∧
   ∀ v,(f p).fr.get t = some v → ∃ u,(a.put o.dst x).tmps[t]? = some u∧RelV F v u:=by
  intro F v x hle hf hx t
  by_cases ht:o.dst = some t
  ·obtain ⟨q1,q2⟩:=T.dsts h.closed ho hr hn ht
   refine ⟨i + 1,hi,fun j p hj hp hd=>?_,fun j p hj hp hd=>?_,fun y hy=>?_⟩
   ·rw [hL']
    by_cases e:j = i
    ·exact .inr e
    ·exact .inl (q1 j p (by omega) hp hd)
   ·rw [hL']
    rintro (hLj | e)
    ·exact q2 j p (by omega) hp hd hLj
    ·omega
   ·rw [hf,ht] at hy
    have hy':(SX.T.set (f i).fr t (some v)).get t = some y:=hy
    have:=hdst t ht
    rw [get_set _ _ _ _ (by omega),if_pos rfl] at hy'
    injection hy' with hy';subst hy'
    rw [ht]
    have hsz:=h.size
    exact ⟨x,by simp [Act.put,Array.getElem?_setIfInBounds_self_of_lt (by omega:t < a.tmps.size)],hx⟩
  ·obtain ⟨p,p1,p2,p3,p4⟩:=h.tmp t
   refine ⟨p,p1,fun j q hj hq hd=>(hL' j).2 (.inl (p2 j q hj hq hd)),fun j q hj hq hd=>?_,fun y hy=>?_⟩
   ·rw [hL']
    rintro (hLj | e)
    ·exact p3 j q hj hq hd hLj
    ·subst e
     rw [ho] at hq;injection hq with hq;subst hq
     exact ht hd
   ·obtain ⟨u,h1,h2⟩:=p4 y hy
    refine ⟨u,?_,h2.mono hle⟩
    cases hd:o.dst with
    | none=>exact h1
    | some s =>
     simp only [Act.put]
     rw [Array.getElem?_setIfInBounds_ne (fun e=>ht (by rw [hd,e]))]
     exact h1
 unfold wpOp
 rw [ho]
 cases hex:(d i).ex with
 | false =>
  simp only [hwant,hex,Bool.false_eq_true,if_false]
  obtain ⟨s1,s2,s3⟩:=hs.skip hex
  refine hnext E w _ ⟨hclosed',h.step,?_,htmp E (.tup []) undef (.refl E) s1 ⟨#[],rfl,trivial⟩,fun j hj hLj=>h.free j hj (fun hl=>hLj ((hL' j).2 (.inl hl))),by rw [put_size];exact h.size,by rw [put_def];exact h.defs⟩
  obtain ⟨m0,m1,m2,m3⟩:=h.mem
  refine ⟨m0,fun k=>?_,m2,m3⟩
  obtain ⟨p,p1,p2,p3,p4⟩:=m1 k
  refine ⟨p,p1,fun j hj hmd=>(hL' j).2 (.inl (p2 j hj hmd)),fun j hj hjn hmd=>?_,p4⟩
  rw [hL']
  rintro (hLj | e)
  ·exact p3 j hj hjn hmd hLj
  ·rw [e] at hmd
   have:=hmd.1
   rw [hex] at this;cases this
 | true =>
  simp only [hwant,hex,if_true]
  left
  obtain ⟨hstok,hnb,hnt⟩:=hs.stok hex
  obtain ⟨r1,r2,r3,r4⟩:=hs.res hex
  have heff:=hs.eff hex
  let ev':Ev:=fun x=>if x ∈ o.op.operands.toList then opnd (f i).fr x else none
  have hev:evOp o.op P call ev' (d i).sti = some (d i).r:=by
   rw [← hs.ev hex]
   exact evOp_congr _ fun x hx=>by show (if x ∈ o.op.operands.toList then opnd (f i).fr x else none) = _;rw [if_pos hx]
  have hevok:EvOk E ev' a:=by
   intro x v hx
   have hx':(if x ∈ o.op.operands.toList then opnd (f i).fr x else none) = some v:=hx
   split at hx'
   ·rename_i hmem
    cases x with
    | tmp t =>
     obtain ⟨u,h1,h2⟩:=hslot t (by
      unfold Oper.looksAt
      rw [List.mem_append]
      left
      rw [List.mem_filterMap]
      exact ⟨.tmp t,hmem,rfl⟩) v hx'
     have:a.eval (.tmp t) = u:=by simp [Act.eval,h1]
     rw [this];exact h2
    | const c =>
     have h':ob (ofConst c) (fun s=>some (V.s s)) = some v:=hx'
     obtain ⟨s,h1,h'⟩:=ob_inv h'
     injection h' with h';subst h';exact ofConst_rel E h1
    | func g =>
     have h':some (V.s (.c (.fn g []))) = some v:=hx'
     injection h' with h';subst h';exact ⟨#[],rfl,trivial⟩
    | global g=>cases hx'
   ·cases hx'
  obtain ⟨_,hw⟩:=op_sound (K:=K) hcall hstok hev
  obtain ⟨m0,m1,m2,m3⟩:=h.mem
  have hread:∀ k b,inR (d i).r.rd k → (d i).sti.mem.get k = some b → m0 k = some b:=by
   intro k b hk hb
   obtain ⟨p,p1,p2,p3,p4⟩:=m1 k
   obtain ⟨q1,q2⟩:=T.reads h.closed ho hr hn hex hk ⟨b,hb⟩
   rw [p4,T.same p1 (Nat.le_of_lt hi) p2 p3 q1 q2]
   exact hs.sub hex k b hb
  have hpre:Pre K E w (d i).sti (d i).r:=by
   refine ⟨h.step.gi,fun k b hk hb=>m2 k b (hread k b hk hb),fun k k' b b' p s s' hk hk' hb hb'=>m3 k k' b b' p s s' (hread k b hk hb) (hread k' b' hk' hb'),fun k h1 h2=>?_,fun j h1 h2=>?_⟩
   ·exact (h.free i hi hn).1 k (by omega) (by omega)
   ·exact (h.free i hi hn).2 j (by omega) (by omega)
  refine hw E w a hevok hpre _ _ fun v F u hout=>?_
  have hwl:∀ k ∈ (d i).r.w,∃ b,m0 k = some b∧k < (f i).st.nb:=by
   intro k hk
   obtain ⟨c1,⟨b,c2⟩,c3⟩:=T.wread hi hex hk
   exact ⟨b,hread k b c1 c2,c3⟩
  have hrho:∀ k,¬ ((f i).st.nb ≤ k∧k < (f (i + 1)).st.nb) → F.rho k = E.rho k:=by
   intro k hk
   by_cases e:F.rho k = E.rho k
   ·exact e
   ·have:=hout.step.newB k e
    omega
  have hsig:∀ j,¬ ((f i).st.nt ≤ j∧j < (f (i + 1)).st.nt) → F.sig j = E.sig j:=by
   intro k hk
   by_cases e:F.sig k = E.sig k
   ·exact e
   ·have:=hout.step.newT k e
    omega
  have hbase:=T.mono (i:=0) (j:=i) (by omega) (by omega)
  have hlast:=T.mono (i:=i + 1) (j:=ops.size) (by omega) (Nat.le_refl _)
  have hall:=(T.mono (i:=i) (j:=ops.size) (by omega) (Nat.le_refl _)).1
  refine hnext F u _ ⟨hclosed',⟨h.step.le.trans hout.step.le,fun k hk=>?_,fun j hj=>?_,hout.step.os.trans h.step.os,hout.step.tape.trans h.step.tape,hout.step.output.trans h.step.output,Nat.le_trans h.step.size hout.step.size,
   fun b hb hW=>?_,fun k p s h1 h2 h3=>?_,hout.step.gi⟩,?_,htmp F (d i).r.v v hout.step.le r1 hout.val,fun j hj hLj=>?_,by rw [put_size];exact h.size,by rw [put_def];exact h.defs⟩
  ·by_cases e:F.rho k = E.rho k
   ·exact h.step.newB k (by rw [← e];exact hk)
   ·have:=hout.step.newB k e
    have:=hst0.1
    omega
  ·by_cases e:F.sig j = E.sig j
   ·exact h.step.newT j (by rw [← e];exact hj)
   ·have:=hout.step.newT j e
    have:=hst0.2
    omega
  ·have hb1:=h.step.kept b hb hW
   rw [← hb1]
   refine hout.step.kept b (by have:=h.step.size;omega) fun k hk s hp=>?_
   obtain ⟨b0,_,hkl⟩:=hwl k hk
   by_cases hlo:k < st0.nb
   ·by_cases e:E.rho k = E0.rho k
    ·exact hW k (T.wof hi hex hk hlo) s (by rw [← e];exact hp)
    ·have:=(h.step.newB k e).1;omega
   ·rcases h.step.fresh k b s (by omega) (by omega) hp with hf | ⟨k0,hk0,s0,hp0⟩
    ·omega
    ·exact hW k0 hk0 s0 hp0
  ·by_cases hnew:(f i).st.nb ≤ k∧k < (f (i + 1)).st.nb
   ·rcases hout.step.fresh k p s (by omega) (by omega) h3 with hf | ⟨k0,hk0,s0,hp0⟩
    ·exact .inl (Nat.le_trans h.step.size hf)
    ·obtain ⟨b0,_,hkl⟩:=hwl k0 hk0
     by_cases hlo:k0 < st0.nb
     ·by_cases e:E.rho k0 = E0.rho k0
      ·exact .inr ⟨k0,T.wof hi hex hk0 hlo,s0,by rw [← e];exact hp0⟩
      ·have:=(h.step.newB k0 e).1;omega
     ·exact h.step.fresh k0 p s0 (by omega) (by omega) hp0
   ·rw [hrho k hnew] at h3
    exact h.step.fresh k p s h1 h2 h3
  ·-- memory
   refine ⟨fun k=>if Mod f d i k then (f (i + 1)).st.mem.get k else m0 k,fun k=>?_,fun k b hb=>?_,fun k k' b b' p s s' hb hb' hp hp'=>?_⟩
   ·by_cases hmod:Mod f d i k
    ·have hq:(∀ j,j < i → Mod f d j k → L j)∧(∀ j,i < j → j < ops.size → Mod f d j k → ¬ L j):=by
      rcases hmod.2 with hk | hk
      ·obtain ⟨c1,c2,_⟩:=T.wread hi hex hk
       obtain ⟨q1,q2⟩:=T.reads h.closed ho hr hn hex c1 c2
       exact ⟨q1,fun j a1 a2=>q2 j (by omega) a2⟩
      ·obtain ⟨q1,q2⟩:=T.news h.closed ho hn hk
       exact ⟨fun j a1 a2=>absurd a2 (q1 j a1),q2⟩
     refine ⟨i + 1,hi,fun j hj hm=>?_,fun j hj hjn hm=>?_,by simp only [hmod,if_true]⟩
     ·rw [hL']
      by_cases e:j = i
      ·exact .inr e
      ·exact .inl (hq.1 j (by omega) hm)
     ·rw [hL']
      rintro (hLj | e)
      ·exact hq.2 j (by omega) hjn hm hLj
      ·omega
    ·obtain ⟨p,p1,p2,p3,p4⟩:=m1 k
     refine ⟨p,p1,fun j hj hmd=>(hL' j).2 (.inl (p2 j hj hmd)),fun j hj hjn hmd=>?_,by simp only [hmod,if_false];exact p4⟩
     rw [hL']
     rintro (hLj | e)
     ·exact p3 j hj hjn hmd hLj
     ·rw [e] at hmd;exact hmod hmd
   ·by_cases hmod:Mod f d i k
    ·simp only [hmod,if_true] at hb
     rw [hs.new hex k (hmod.2.imp id (fun h=>h.1))] at hb
     exact hout.blk k b (hmod.2.imp id (fun h=>by omega)) hb
    ·simp only [hmod,if_false] at hb
     refine blk_kept (m2 k b hb) hout.step.le fun p s hp=>?_
     refine hout.step.kept p (h.step.gi.low k p s hp) fun k' hk' s' hp'=>?_
     obtain ⟨b0,hb0,_⟩:=hwl k' hk'
     have:=m3 k k' b b0 p s s' hb hb0 hp hp'
     subst this
     exact hmod ⟨hex,.inl hk'⟩
   ·have hmix:∀ k k' b' p s s',Mod f d i k → ¬ Mod f d i k' → m0 k' = some b' → F.rho k = some (p,s) → F.rho k' = some (p,s') → (∃ b,(d i).r.st.mem.get k = some b) → k = k':=by
     intro k k' b' p s s' hmod hmod' hb' hp hp' _
     have hk'n:¬ ((f i).st.nb ≤ k'∧k' < (f (i + 1)).st.nb):=fun hh=>hmod' ⟨hex,.inr hh⟩
     rw [hrho k' hk'n] at hp'
     rcases hmod.2 with hk | hk
     ·obtain ⟨b0,hb0,hlt⟩:=hwl k hk
      rw [hrho k (by omega)] at hp
      exact m3 k k' b0 b' p s s' hb0 hb' hp hp'
     ·rcases hout.step.fresh k p s (by omega) (by omega) hp with hf | ⟨k0,hk0,s0,hp0⟩
      ·have:=h.step.gi.low k' p s' hp';omega
      ·obtain ⟨b0,hb0,_⟩:=hwl k0 hk0
       have:=m3 k0 k' b0 b' p s0 s' hb0 hb' hp0 hp'
       subst this;exact absurd ⟨hex,.inl hk0⟩ hmod'
    by_cases hmod:Mod f d i k <;> by_cases hmod':Mod f d i k'
    ·simp only [hmod,hmod',if_true] at hb hb'
     rw [hs.new hex k (hmod.2.imp id (fun h=>h.1))] at hb
     rw [hs.new hex k' (hmod'.2.imp id (fun h=>h.1))] at hb'
     exact hout.inj k k' b b' p s s' (hmod.2.imp id (fun h=>by omega)) (hmod'.2.imp id (fun h=>by omega)) hb hb' hp hp'
    ·simp only [hmod,hmod',if_true,if_false] at hb hb'
     rw [hs.new hex k (hmod.2.imp id (fun h=>h.1))] at hb
     exact hmix k k' b' p s s' hmod hmod' hb' hp hp' ⟨b,hb⟩
    ·simp only [hmod,hmod',if_true,if_false] at hb hb'
     rw [hs.new hex k' (hmod'.2.imp id (fun h=>h.1))] at hb'
     exact (hmix k' k b p s' s hmod' hmod hb hp' hp ⟨b',hb'⟩).symm
    ·simp only [hmod,hmod',if_false] at hb hb'
     rw [hrho k (fun hh=>hmod ⟨hex,.inr hh⟩)] at hp
     rw [hrho k' (fun hh=>hmod' ⟨hex,.inr hh⟩)] at hp'
     exact m3 k k' b b' p s s' hb hb' hp hp'
  ·have hji:j ≠ i:=fun e=>hLj ((hL' j).2 (.inr e))
   obtain ⟨g1,g2⟩:=h.free j hj (fun hl=>hLj ((hL' j).2 (.inl hl)))
   have hdis:∀ k,(f j).st.nb ≤ k → k < (f (j + 1)).st.nb → ¬ ((f i).st.nb ≤ k∧k < (f (i + 1)).st.nb):=by
    intro k a1 a2 a3
    rcases Nat.lt_or_gt_of_ne hji with hlt | hlt
    ·have:=(T.mono (i:=j + 1) (j:=i) (by omega) (by omega)).1;omega
    ·have:=(T.mono (i:=i + 1) (j:=j) (by omega) (by omega)).1;omega
   have hdis':∀ k,(f j).st.nt ≤ k → k < (f (j + 1)).st.nt → ¬ ((f i).st.nt ≤ k∧k < (f (i + 1)).st.nt):=by
    intro k a1 a2 a3
    rcases Nat.lt_or_gt_of_ne hji with hlt | hlt
    ·have:=(T.mono (i:=j + 1) (j:=i) (by omega) (by omega)).2.1;omega
    ·have:=(T.mono (i:=i + 1) (j:=j) (by omega) (by omega)).2.1;omega
   exact ⟨fun k a1 a2=>by rw [hrho k (hdis k a1 a2)];exact g1 k a1 a2,fun k a1 a2=>by rw [hsig k (hdis' k a1 a2)];exact g2 k a1 a2⟩
end
end Go.SX
namespace Go.SX
theorem countP_less {p q:Nat → Bool}:∀ {l:List Nat} {i:Nat},(∀ x ∈ l,q x = true → p x = true) → i ∈ l → p i = true → q i = false → l.countP q < l.countP p
 | [],i,_,hi,_,_=>by simp at hi
 | a :: l,i,h,hi,hp,hq=>by
  have hle:l.countP q ≤ l.countP p:=List.countP_mono_left fun x hx hqx=>h x (by simp [hx]) hqx
  rcases List.mem_cons.1 hi with rfl | hi
  ·rw [List.countP_cons_of_neg (by simp [hq]),List.countP_cons_of_pos hp]
   omega
  ·have ih:=countP_less (fun x hx=>h x (by simp [hx])) hi hp hq
   by_cases ha:q a = true
   ·rw [List.countP_cons_of_pos ha,List.countP_cons_of_pos (h a (by simp) ha)];omega
   ·rw [List.countP_cons_of_neg ha,List.countP_cons]
    split <;> omega
section
variable {P:Program} {K:Toks} {call:CallFn} {N:Nat} {ops:Array Oper} {ms:List Nat} {f:Nat → SA} {d:Nat → Dat} {E0:Env} {w0:World} {st0:St} {dl:List Deferred}
theorem Tr.pinv {lo:Nat} (T:Tr P call lo N ops ms f d) (hst0:lo ≤ (f 0).st.nb) (m0:Nat → Option Blk) (h0:PInv lo m0 (f 0).st (f 0).w):∀ i,i ≤ ops.size → PInv lo m0 (f i).st (f i).w:=by
 intro i
 induction i with
 | zero=>intro _;exact h0
 | succ i ih =>
  intro hi
  obtain ⟨g1,g2⟩:=ih (by omega)
  obtain ⟨o,m,_,_,hs⟩:=T.at (j:=i) (by omega)
  have hmono:=(T.mono (i:=0) (j:=i) (by omega) (by omega)).1
  cases hex:(d i).ex with
  | false =>
   obtain ⟨_,s2,s3⟩:=hs.skip hex
   rw [s2,s3];exact ⟨g1,g2⟩
  | true =>
   obtain ⟨_,s2,_⟩:=hs.res hex
   refine ⟨fun k hk hw=>?_,fun k hk=>?_⟩
   ·rw [s2,mem_below] at hw
    have hw1:k ∉ (d i).r.w:=fun hh=>hw (.inl ⟨hh,hk⟩)
    rw [hs.old hex k hw1 (by omega),g1 k hk (fun hh=>hw (.inr hh))]
   ·rw [s2,mem_below] at hk
    rcases hk with ⟨hk,hlo⟩ | hk
    ·by_cases hw:k ∈ (f i).w
     ·exact g2 k hw
     ·obtain ⟨_,⟨b,hb⟩,_⟩:=T.wread (by omega) hex hk
      exact ⟨hlo,b,by rw [← g1 k hlo hw];exact hs.sub hex k b hb⟩
    ·exact g2 k hk
theorem ri_end (hN:N ≤ 1000000) (T:Tr P call st0.nb N ops ms f d) {L:Nat → Prop} {E:Env} {w:World} {a:Act} (h:RI K E0 w0 st0 ops f d N dl L E w a) (hall:∀ i,i < ops.size → L i)
 (hst0:st0.nb ≤ (f 0).st.nb∧st0.nt ≤ (f 0).st.nt) (hsame:∀ k,k < st0.nb → k ∉ (f 0).w → (f 0).st.mem.get k = st0.mem.get k) (hlive:∀ k ∈ (f 0).w,k < st0.nb∧∃ b,st0.mem.get k = some b) :
 Inv K E0 w0 st0 E w (f ops.size).st (f ops.size).w∧FrOk E (f ops.size).fr a:=by
 obtain ⟨m0,m1,m2,m3⟩:=h.mem
 have hm:∀ k,m0 k = (f ops.size).st.mem.get k:=by
  intro k
  obtain ⟨p,p1,p2,p3,p4⟩:=m1 k
  rw [p4]
  exact (T.keeps p1 (Nat.le_refl _) fun j a1 a2 hmd=>p3 j a1 a2 hmd (hall j a2)).symm
 have hind:=T.pinv hst0.1 st0.mem.get ⟨hsame,hlive⟩
 obtain ⟨g1,g2⟩:=hind ops.size (Nat.le_refl _)
 have hmono:=T.mono (i:=0) (j:=ops.size) (by omega) (Nat.le_refl _)
 refine ⟨⟨h.step,fun k b hb=>m2 k b (by rw [hm];exact hb),fun k k' b b' p s s' hb hb'=>m3 k k' b b' p s s' (by rw [hm];exact hb) (by rw [hm];exact hb'),T.ok _ (Nat.le_refl _),by omega,by omega,g1,g2⟩,fun t v hv=>?_⟩
 obtain ⟨p,p1,p2,p3,p4⟩:=h.tmp t
 refine p4 v ?_
 rw [← T.keepsF hN p1 (Nat.le_refl _) fun j o a1 a2 hj hd=>p3 j o a1 hj hd (hall j a2)]
 exact hv
theorem region_wp (hcall:CallOk P K call) (hN:N ≤ 1000000) (T:Tr P call st0.nb N ops ms f d)
 (hst0:st0.nb ≤ (f 0).st.nb∧st0.nt ≤ (f 0).st.nt) (hsame:∀ k,k < st0.nb → k ∉ (f 0).w → (f 0).st.mem.get k = st0.mem.get k) (hlive:∀ k ∈ (f 0).w,k < st0.nb∧∃ b,st0.mem.get k = some b)
 {Q:Exit → Act → World → Prop} (hQ:∀ E' w' a',Inv K E0 w0 st0 E' w' (f ops.size).st (f ops.size).w → FrOk E' (f ops.size).fr a' → N ≤ a'.tmps.size → a'.defers = dl → Q .normal a' w') :
 ∀ (fuel:Nat) (listed:Array Bool) (E:Env) (w:World) (a:Act),listed.size = ops.size → (List.range ops.size).countP (fun i=>!listed.getD i false) ≤ fuel →
  RI K E0 w0 st0 ops f d N dl (fun j=>listed.getD j false = true) E w a → wpAny P .any ops Q fuel listed a w:=by
 intro fuel
 have hend:∀ (listed:Array Bool) (E:Env) (w:World) (a:Act),RI K E0 w0 st0 ops f d N dl (fun j=>listed.getD j false = true) E w a → (∀ i,i < ops.size → listed.getD i false = true) → Q .normal a w:=by
  intro listed E w a h hall
  obtain ⟨h1,h2⟩:=ri_end hN T h hall hst0 hsame hlive
  exact hQ E w a h1 h2 h.size h.defs
 have hun:∀ (listed:Array Bool) (i:Nat),listed.size = ops.size → i < ops.size → ¬ listed.getD i false = true → listed.getD i true = false:=by
  intro listed i hsz hi hn
  have hi':i < listed.size:=by omega
  simp only [Array.getD,hi',dif_pos] at hn ⊢
  simpa using hn
 induction fuel with
 | zero =>
  intro listed E w a hsz hc h
  have hall:∀ i,i < ops.size → listed.getD i false = true:=by
   intro i hi
   have h0:(List.range ops.size).countP (fun i=>!listed.getD i false) = 0:=by omega
   rw [List.countP_eq_zero] at h0
   have:=h0 i (by simpa using hi)
   simpa using this
  refine ⟨?_,hend listed E w a h hall⟩
  rw [List.eq_nil_iff_forall_not_mem]
  intro i hmem
  obtain ⟨h1,o,ho,_⟩:=mem_ready.1 hmem
  have hi:=(Array.getElem?_eq_some_iff.1 ho).1
  have:=hall i hi
  have hi':i < listed.size:=by omega
  simp only [Array.getD,hi',dif_pos] at h1 this
  rw [h1] at this;cases this
 | succ fuel ih =>
  intro listed E w a hsz hc h
  refine ⟨fun hnil=>?_,fun i hmem=>?_⟩
  ·refine hend listed E w a h fun i=>?_
   induction i using Nat.strongRecOn with
   | _ i ihi =>
    intro hi
    refine Classical.byContradiction fun hn=>?_
    have:i ∈ Region.ready .any ops listed:=by
     rw [mem_ready]
     refine ⟨hun listed i hsz hi hn,ops[i],Array.getElem?_eq_getElem hi,fun e he hb=>?_⟩
     have hlt:=edge_lt T.masks (Array.getElem?_eq_getElem hi) e he hb
     exact ihi e.on hlt (by omega)
    rw [hnil] at this;cases this
  ·obtain ⟨h1,o,ho,hr⟩:=mem_ready.1 hmem
   have hi:=(Array.getElem?_eq_some_iff.1 ho).1
   have hi':i < listed.size:=by omega
   have hn:¬ listed.getD i false = true:=by
    simp only [Array.getD,hi',dif_pos] at h1 ⊢
    rw [h1];simp
   have hset:∀ j,(listed.setIfInBounds i true).getD j false = true ↔ listed.getD j false = true ∨ j = i:=by
    intro j
    by_cases e:j = i
    ·subst e
     simp only [or_true,iff_true]
     simp [Array.getD,hi']
    ·rw [getD_set_ne false (fun h=>e h.symm)]
     simp [e]
   refine ri_step hcall hN T hst0 h ho hn hr hset fun E' w' a' h'=>ih _ E' w' a' (by simp [hsz]) ?_ h'
   have hlt:=countP_less (p:=fun i=>!listed.getD i false) (q:=fun j=>!(listed.setIfInBounds i true).getD j false) (l:=List.range ops.size) (i:=i) (fun x _ hx=>by
    cases hb:listed.getD x false with
    | false=>rfl
    | true =>
     have:=(hset x).2 (.inl hb)
     simp only [this] at hx;cases hx) (by simpa using hi) (by cases hb:listed.getD i false with
    | false=>rfl
    | true=>exact absurd hb hn) (by simp only [(hset i).2 (.inr rfl)];rfl)
   omega
theorem region_any (hcall:CallOk P K call) (hmix:P.follows .mixedOrders = true) (hN:N ≤ 1000000) {lo:Nat} (hreg:regOk ops = some ms) (hok:dOk N ops.toList = true) {fr:Fr} {st:St} {W:List Nat} {s':SA}
 (h:evAny P call lo ops.toList ops.toList ms 0 ⟨[],[],fr,st,W⟩ = some s') (hst:StOk st) (id:Nat) :
 Good K lo N fr st W ⟨.normal,s'.fr,s'.st,s'.w⟩ (fun Q=>(Code.region id ops true).wp P Q):=by
 obtain ⟨f,f0,fl,fs⟩:=evAny_trace hcall _ _ _ _ _ h hst (fun e he=>by simp at he)
 obtain ⟨ms',hm1,hm2⟩:=ob_inv hreg
 obtain ⟨hm3,hm4⟩:=bi_inv hm2
 injection hm4 with hm4
 rw [hm4] at hm1 hm3
 have hd:∀ j,∃ d:Dat,∀ o,ops[j]? = some o → ∃ m,ms[j]? = some m∧StepD P call lo ops.toList o m j (f j) (f (j + 1)) d:=by
  intro j
  by_cases hj:j < ops.size
  ·obtain ⟨m,d,h1,h2⟩:=fs j ops[j] (by simp)
   refine ⟨d,fun o ho=>⟨m,h1,?_⟩⟩
   rw [Array.getElem?_eq_getElem hj] at ho
   injection ho with ho;subst ho
   rw [Nat.zero_add] at h2;exact h2
  ·exact ⟨⟨false,⟨.tup [],⟨.lf,0,0⟩,[],none⟩,⟨.lf,0,0⟩⟩,fun o ho=>absurd (Array.getElem?_eq_some_iff.1 ho).1 hj⟩
 obtain ⟨d,hd⟩:=Classical.axiomOfChoice hd
 have hdst:∀ (l:List Oper),dOk N l = true → ∀ (i:Nat) (o:Oper) (t:Nat),l[i]? = some o → o.dst = some t → t < N:=by
  intro l
  induction l with
  | nil=>intro _ i o t hi;simp at hi
  | cons x l ih =>
   intro hx i o t hi ht
   obtain ⟨g1,g2⟩:=dOk_cons hx
   cases i with
   | zero=>simp at hi;subst hi;exact g1 t ht
   | succ i=>exact ih g2 i o t (by simpa using hi) ht
 have T:Tr P call lo N ops ms f d:=by
  refine ⟨hd,hm1,fun i x m hx hmi j y hy hji=>?_,fun i o t ho ht=>hdst _ hok i o t (by simpa using ho) ht,by rw [f0];exact hst⟩
  exact slotsAll_spec hm3 i x m (by simpa using hx) hmi j y (by simpa using hy) (by simpa using hji)
 have fl':f ops.size = s':=by simpa using fl
 have hmono:=T.mono (i:=0) (j:=ops.size) (by omega) (Nat.le_refl _)
 rw [f0,fl'] at hmono
 have hmb:st.nb ≤ s'.st.nb:=hmono.1
 have hmt:st.nt ≤ s'.st.nt:=hmono.2.1
 refine ⟨⟨hmono.1,hmono.2.1,by rw [← fl'];exact T.ok _ (Nat.le_refl _),fun hl m0 hp=>by
  have:=T.pinv (by rw [f0];exact hl) m0 (by rw [f0];exact hp) ops.size (Nat.le_refl _)
  rw [fl'] at this;exact this⟩,fun E0 w0 st0 hlo E w a hi hf ha hfree Q hQ=>?_⟩
 subst hlo
 refine wp_region_any hmix ?_
 have hfree1:∀ k,st.nb ≤ k → k < s'.st.nb → E.rho k = none:=by
  intro k a1 a2
  by_cases e:E.rho k = E0.rho k
  ·rw [e];exact hfree.1 k (by have:=hi.nb;omega) a2
  ·have:=(hi.step.newB k e).2;omega
 have hfree2:∀ k,st.nt ≤ k → k < s'.st.nt → E.sig k = none:=by
  intro k a1 a2
  by_cases e:E.sig k = E0.sig k
  ·rw [e];exact hfree.2 k (by have:=hi.nt;omega) a2
  ·have:=(hi.step.newT k e).2;omega
 have hW:∀ k ∈ W,k ∈ (f ops.size).w:=by
  have:=T.wmono (i:=0) (j:=ops.size) (by omega) (Nat.le_refl _)
  rw [f0] at this;exact this
 refine region_wp (K:=K) (E0:=E0) (w0:=w0) (st0:=st0) (dl:=a.defers) hcall hN T (by rw [f0];exact ⟨hi.nb,hi.nt⟩) (by rw [f0];exact hi.same) (by rw [f0];exact hi.live)
  (fun E' w' a' b1 b2 b3 b4=>hQ E' w' a' (by rw [fl'] at b1;exact b1) (by rw [fl'] at b2;exact b2) b3 b4) ops.size _ E _ a (by simp) (by
   have:=List.countP_le_length (p:=fun i=>!(Array.replicate ops.size false).getD i false) (l:=List.range ops.size)
   simpa using this) ?_
 have hnone:∀ j,¬ (Array.replicate ops.size false).getD j false = true:=by
  intro j
  simp only [Array.getD]
  split
  ·simp
  ·simp
 refine ⟨fun i o ho hl=>absurd hl (hnone i),⟨hi.step.le,fun k hk=>?_,fun j hj=>?_,hi.step.os,hi.step.tape,hi.step.output,hi.step.size,fun b hb hWn=>hi.step.kept b hb fun k hk=>hWn k (hW k hk),fun k p s h1 h2 h3=>?_,?_⟩,
  ⟨fun k=>(f 0).st.mem.get k,fun k=>⟨0,by omega,fun j hj=>by omega,fun j _ _ _=>hnone j,rfl⟩,fun k b hb=>?_,fun k k' b b' p s s' hb hb'=>?_⟩,
  fun t=>⟨0,by omega,fun j o hj=>by omega,fun j o _ _ _=>hnone j,fun v hv=>?_⟩,fun i hi' _=>⟨fun k a1 a2=>?_,fun j a1 a2=>?_⟩,ha,rfl⟩
 ·rw [fl']
  have:=hi.step.newB k hk;omega
 ·rw [fl']
  have:=hi.step.newT j hj;omega
 ·rw [fl'] at h2
  by_cases hk:k < st.nb
  ·rcases hi.step.fresh k p s h1 hk h3 with hf | ⟨k0,hk0,s0,hp0⟩
   ·exact .inl hf
   ·exact .inr ⟨k0,hW k0 hk0,s0,hp0⟩
  ·rw [hfree1 k (by omega) h2] at h3;cases h3
 ·exact gi_grow hi.step.gi rfl rfl hi.step.gi.low (Nat.le_refl _) (fun k p s hk _=>⟨k,s,hk⟩) (fun _ _ _=>rfl)
 ·rw [f0] at hb;exact hi.blk k b hb
 ·rw [f0] at hb hb';exact hi.inj k k' b b' p s s' hb hb'
 ·rw [f0] at hv;exact hf t v hv
 ·have h1:=(T.mono (i:=0) (j:=i) (by omega) (by omega)).1
  have h2:=(T.mono (i:=i + 1) (j:=ops.size) (by omega) (Nat.le_refl _)).1
  rw [f0] at h1;rw [fl'] at h2
  have h1':st.nb ≤ (f i).st.nb:=h1
  exact hfree1 k (by omega) (by omega)
 ·have h1:=(T.mono (i:=0) (j:=i) (by omega) (by omega)).2.1
  have h2:=(T.mono (i:=i + 1) (j:=ops.size) (by omega) (Nat.le_refl _)).2.1
  rw [f0] at h1;rw [fl'] at h2
  have h1':st.nt ≤ (f i).st.nt:=h1
  exact hfree2 j (by omega) (by omega)
end
end Go.SX
namespace Go.SX
section
variable {P:Program} {K:Toks} {call:CallFn} {lo N fuel:Nat}
theorem Good.mono {fr:Fr} {st:St} {W:List Nat} {z:Z} {wp wp':(Exit → Act → World → Prop) → Act → World → Prop} (h:Good K lo N fr st W z wp) (hw:∀ Q a w,wp Q a w → wp' Q a w):Good K lo N fr st W z wp' :=
 ⟨h.1,fun E0 w0 st0 hlo E w a hi hf ha hfree Q hQ=>hw _ _ _ (h.2 E0 w0 st0 hlo E w a hi hf ha hfree Q hQ)⟩
theorem evCode_sound (hcall:CallOk P K call) (hmix:P.follows .mixedOrders = true) (hN:N ≤ 1000000):∀ (c:Code),codeOk N c = true →
 ∀ fr st W z,evCode P call lo fuel c fr st W = some z → StOk st → Good K lo N fr st W z (fun Q=>c.wp P Q):=by
 have simple:∀ (c:Code) (e:Ex) (fr:Fr) (st:St) (W:List Nat) (z:Z),some (⟨e,fr,st,W⟩:Z) = some z → StOk st → (∀ (Q:Exit → Act → World → Prop) a w,Q (toExit e) a w → c.wp P Q a w) → Good K lo N fr st W z (fun Q=>c.wp P Q):=by
  intro c e fr st W z h hst hw
  injection h with h;subst h
  exact ⟨⟨Nat.le_refl _,Nat.le_refl _,.refl hst⟩,fun E0 w0 st0 hlo E w a hi hf ha hfree Q hQ=>hw Q a w (hQ E w a hi hf ha rfl)⟩
 intro c
 induction c with
 | skip=>intro _ fr st W z h hst;exact simple _ .normal fr st W z h hst fun Q a w=>wp_skip
 | label l=>intro _ fr st W z h hst;exact simple _ .normal fr st W z h hst fun Q a w=>wp_label
 | exit i=>intro _ fr st W z h hst;exact simple _ (.exit i) fr st W z h hst fun Q a w=>wp_exit
 | ret=>intro _ fr st W z h hst;exact simple _ .ret fr st W z h hst fun Q a w=>wp_ret
 | goto l=>intro _ fr st W z h _;cases h
 | scope b _=>intro _ fr st W z h _;cases h
 | refuse s=>intro _ fr st W z h _;cases h
 | rangeFunc x ps y b _ _=>intro _ fr st W z h _;cases h
 | region id ops draw =>
  intro hok fr st W z h hst
  cases draw with
  | false =>
   have h':evOps P call lo ops.toList ops.toList fr st W = some z:=h
   obtain ⟨he,hg⟩:=evOps_sound hcall hN ops ops.toList 0 rfl hok fr st W z h' hst
   refine hg.mono fun Q a w hw=>wp_region ?_
   rw [List.range_eq_range']
   simpa using hw
  | true =>
   have h':ob (regOk ops) (fun ms=>ob (evAny P call lo ops.toList ops.toList ms 0 ⟨[],[],fr,st,W⟩) fun s=>some ⟨.normal,s.fr,s.st,s.w⟩) = some z:=h
   obtain ⟨ms,h1,h'⟩:=ob_inv h'
   obtain ⟨s,h2,h3⟩:=ob_inv h'
   injection h3 with h3;subst h3
   exact region_any hcall hmix hN h1 hok h2 hst id
 | seq x y ihx ihy =>
  intro hok fr st W z h hst
  have hok':bi (codeOk N x) (codeOk N y) false = true:=hok
  have hok2:codeOk N x = true∧codeOk N y = true:=by
   cases hq:codeOk N x
   ·rw [hq] at hok';cases hok'
   ·rw [hq] at hok';exact ⟨rfl,hok'⟩
  have h':ob (evCode P call lo fuel x fr st W) (fun z=>seqZ z (evCode P call lo fuel y)) = some z:=h
  obtain ⟨z1,h1,h2⟩:=ob_inv h'
  have hg1:=ihx hok2.1 fr st W z1 h1 hst
  obtain ⟨⟨n1,n2,n3⟩,g1⟩:=hg1
  cases he:z1.e with
  | normal =>
   unfold seqZ at h2
   rw [he] at h2
   have h2':evCode P call lo fuel y z1.fr z1.st z1.w = some z:=h2
   obtain ⟨⟨m1,m2,m3⟩,g2⟩:=ihy hok2.2 _ _ _ z h2' n3.ok
   refine ⟨⟨by omega,by omega,n3.trans m3 n1⟩,fun E0 w0 st0 hlo E w a hi hf ha hfree Q hQ=>wp_seq ?_⟩
   refine g1 E0 w0 st0 hlo E w a hi hf ha (hfree.le m1 m2) _ fun E' w' a' b1 b2 b3 b4=>?_
   rw [he]
   exact g2 E0 w0 st0 hlo E' w' a' b1 b2 b3 hfree Q fun E'' w'' a'' c1 c2 c3 c4=>hQ E'' w'' a'' c1 c2 c3 (c4.trans b4)
  | exit i =>
   unfold seqZ at h2
   rw [he] at h2
   have h2':some z1 = some z:=h2
   injection h2' with h2';subst h2'
   refine ⟨⟨n1,n2,n3⟩,fun E0 w0 st0 hlo E w a hi hf ha hfree Q hQ=>wp_seq ?_⟩
   refine g1 E0 w0 st0 hlo E w a hi hf ha hfree _ fun E' w' a' b1 b2 b3 b4=>?_
   have:=hQ E' w' a' b1 b2 b3 b4
   rw [he] at this ⊢
   exact this
  | ret =>
   unfold seqZ at h2
   rw [he] at h2
   have h2':some z1 = some z:=h2
   injection h2' with h2';subst h2'
   refine ⟨⟨n1,n2,n3⟩,fun E0 w0 st0 hlo E w a hi hf ha hfree Q hQ=>wp_seq ?_⟩
   refine g1 E0 w0 st0 hlo E w a hi hf ha hfree _ fun E' w' a' b1 b2 b3 b4=>?_
   have:=hQ E' w' a' b1 b2 b3 b4
   rw [he] at this ⊢
   exact this
 | cond c x y ihx ihy =>
  intro hok fr st W z h hst
  have hok':bi (codeOk N x) (codeOk N y) false = true:=hok
  have hok2:codeOk N x = true∧codeOk N y = true:=by
   cases hq:codeOk N x
   ·rw [hq] at hok';cases hok'
   ·rw [hq] at hok';exact ⟨rfl,hok'⟩
  have h':ob (opC (opnd fr) c) (fun v=>match v with
   | .bool t=>bi t (evCode P call lo fuel x fr st W) (evCode P call lo fuel y fr st W)
   | _=>none) = some z:=h
  obtain ⟨v,h1,h2⟩:=ob_inv h'
  cases v with
  | bool t =>
   cases t with
   | true =>
    obtain ⟨p1,p2⟩:=ihx hok2.1 fr st W z h2 hst
    exact ⟨p1,fun E0 w0 st0 hlo E w a hi hf ha hfree Q hQ=>wp_cond_true (opC_rel hf.ev h1) (p2 E0 w0 st0 hlo E w a hi hf ha hfree Q hQ)⟩
   | false =>
    obtain ⟨p1,p2⟩:=ihy hok2.2 fr st W z h2 hst
    exact ⟨p1,fun E0 w0 st0 hlo E w a hi hf ha hfree Q hQ=>wp_cond_false (opC_rel hf.ev h1) (p2 E0 w0 st0 hlo E w a hi hf ha hfree Q hQ)⟩
  | _=>cases h2
 | block id b ih =>
  intro hok fr st W z h hst
  have h':ob (evCode P call lo fuel b fr st W) (blockZ id) = some z:=h
  obtain ⟨z1,h1,h2⟩:=ob_inv h'
  obtain ⟨⟨n1,n2,n3⟩,g1⟩:=ih hok fr st W z1 h1 hst
  unfold blockZ at h2
  cases he:z1.e with
  | normal =>
   rw [he] at h2
   have h2':some z1 = some z:=h2
   injection h2' with h2';subst h2'
   refine ⟨⟨n1,n2,n3⟩,fun E0 w0 st0 hlo E w a hi hf ha hfree Q hQ=>wp_block (g1 E0 w0 st0 hlo E w a hi hf ha hfree _ fun E' w' a' b1 b2 b3 b4=>?_)⟩
   have:=hQ E' w' a' b1 b2 b3 b4
   rw [he] at this ⊢
   exact this
  | ret =>
   rw [he] at h2
   have h2':some z1 = some z:=h2
   injection h2' with h2';subst h2'
   refine ⟨⟨n1,n2,n3⟩,fun E0 w0 st0 hlo E w a hi hf ha hfree Q hQ=>wp_block (g1 E0 w0 st0 hlo E w a hi hf ha hfree _ fun E' w' a' b1 b2 b3 b4=>?_)⟩
   have:=hQ E' w' a' b1 b2 b3 b4
   rw [he] at this ⊢
   exact this
  | exit i =>
   rw [he] at h2
   have h2':bi (Nat.beq i id) (some ⟨.normal,z1.fr,z1.st,z1.w⟩) (some z1) = some z:=h2
   rw [beq_dec] at h2'
   by_cases hid:i = id
   ·rw [show decide (i = id) = true by simp [hid]] at h2'
    have h3:some (⟨.normal,z1.fr,z1.st,z1.w⟩:Z) = some z:=h2'
    injection h3 with h3;subst h3
    refine ⟨⟨n1,n2,n3.ok,n3.p⟩,fun E0 w0 st0 hlo E w a hi hf ha hfree Q hQ=>wp_block (g1 E0 w0 st0 hlo E w a hi hf ha hfree _ fun E' w' a' b1 b2 b3 b4=>?_)⟩
    have:=hQ E' w' a' b1 b2 b3 b4
    rw [he]
    simp only [toExit,Exit.inBlock,hid,if_true]
    exact this
   ·rw [show decide (i = id) = false by simp [hid]] at h2'
    have h3:some z1 = some z:=h2'
    injection h3 with h3;subst h3
    refine ⟨⟨n1,n2,n3⟩,fun E0 w0 st0 hlo E w a hi hf ha hfree Q hQ=>wp_block (g1 E0 w0 st0 hlo E w a hi hf ha hfree _ fun E' w' a' b1 b2 b3 b4=>?_)⟩
    have:=hQ E' w' a' b1 b2 b3 b4
    rw [he] at this ⊢
    simp only [toExit,Exit.inBlock,hid,if_false]
    exact this
 | loop b ih =>
  intro hok fr st W z h hst
  have h':loopZ (evCode P call lo fuel b) fuel fr st W = some z:=h
  exact (loopZ_sound (fun fr st W z h hst=>ih hok fr st W z h hst) fuel fr st W z h' hst).mono fun Q a w hw=>wp_loop_rounds fuel hw
theorem enter_get:∀ (vl:List V) (i:Nat) (fr:Fr) (t:Nat),i + vl.length ≤ 8388608 → (enter vl i fr).get t = if i ≤ t∧t < i + vl.length then vl[t - i]? else fr.get t
 | [],i,fr,t,_=>by
  show fr.get t = _
  rw [if_neg (by simp)]
 | v :: vl,i,fr,t,h=>by
  show (enter vl (i + 1) (fr.set i (some v))).get t = _
  simp only [List.length_cons] at h
  rw [enter_get vl (i + 1) _ t (by omega)]
  by_cases h1:i + 1 ≤ t∧t < i + 1 + vl.length
  ·have h2:i ≤ t∧t < i + (vl.length + 1):=by omega
   rw [if_pos h1,if_pos (by simpa using h2)]
   have:t - i = (t - (i + 1)) + 1:=by omega
   rw [this];simp
  ·rw [if_neg h1,get_set _ _ _ _ (by omega)]
   by_cases e:t = i
   ·subst e
    rw [if_pos rfl,if_pos (by simp)]
    simp
   ·rw [if_neg e,if_neg (by simp;omega)]
theorem RelA.length {E:Env}:∀ {l:List V} {vs:List Value},RelA E l vs → vs.length = l.length
 | [],[],_=>rfl
 | _ :: _,_ :: _,⟨_,b⟩=>by simp [RelA.length b]
 | [],_ :: _,x=>x.elim
 | _ :: _,[],x=>x.elim
theorem RelA.get {E:Env}:∀ {l:List V} {vs:List Value} (n:Nat) (c:V),RelA E l vs → l[n]? = some c → ∃ v,vs[n]? = some v∧RelV E c v
 | [],[],n,c,_,h=>by simp at h
 | a :: l,v :: vs,0,c,⟨r,_⟩,h=>by simp at h;subst h;exact ⟨v,rfl,r⟩
 | a :: l,v :: vs,n + 1,c,⟨_,r⟩,h=>by
  simp at h
  obtain ⟨u,h1,h2⟩:=RelA.get n c r h
  exact ⟨u,by simpa using h1,h2⟩
 | [],_ :: _,_,_,x,_=>x.elim
 | _ :: _,[],_,_,x,_=>x.elim
theorem unS_rel {E:Env}:∀ {l:List V} {r:List S} {vs:List Value},unS l = some r → RelA E l vs → RelT E r vs
 | [],r,[],h,_=>by
  have h':some [] = some r:=h
  injection h' with h';subst h';trivial
 | v :: l,r,x :: vs,h,⟨a,b⟩=>by
  have h':ob (vS v) (fun s=>ob (unS l) fun r=>some (s :: r)) = some r:=h
  obtain ⟨s,h1,h'⟩:=ob_inv h'
  obtain ⟨q,h2,h3⟩:=ob_inv h'
  injection h3 with h3;subst h3
  exact ⟨vS_rel h1 a,unS_rel h2 b⟩
 | [],_,_ :: _,_,x=>x.elim
 | _ :: _,_,[],_,x=>x.elim
def resF (tmps:Array Value):ResultVar → Sem Value
 | .tmp t=>pure (tmps.getD t undef)
 | .cell a t=>do loadVar t (← asAddr (tmps.getD a undef))
theorem results_eq (fn:Func) (tmps:Array Value):results fn tmps = (do let vs ← fn.results.mapM (resF tmps);pure (if h:vs.size = 1 then vs[0] else .tuple vs)):=by
 unfold results
 congr 1
theorem res1_run {E:Env} {w:World} {fr:Fr} {st:St} {a:Act} {r:ResultVar} {v:V} (hf:FrOk E fr a) (hb:∀ k b,st.mem.get k = some b → BlkOk E w k b) (h:res1 P fr st r = some v) :
 ∃ u,(resF a.tmps r).run P w = .ok u w∧RelV E v u:=by
 cases r with
 | tmp t =>
  obtain ⟨u,h1,h2⟩:=hf t v h
  exact ⟨u,by simp [resF,h1],h2⟩
 | cell x t =>
  obtain ⟨y,h1,h⟩:=ob_inv h
  obtain ⟨c,h2,h⟩:=ob_inv h
  obtain ⟨p,h3,h⟩:=ob_inv h
  obtain ⟨b,h4,h⟩:=ob_inv h
  obtain ⟨s,h5,h6⟩:=ob_inv h
  injection h6 with h6;subst h6
  obtain ⟨u,g1,g2⟩:=hf x y h1
  have hc:=vC_rel h2 g2
  rw [cPtr_inv h3] at hc
  obtain ⟨q,n,hq,rfl⟩:=hc
  obtain ⟨q',n',arr,ty,hq',hh,_,hr⟩:=hb _ _ h4
  rw [hq] at hq';injection hq' with hq';injection hq' with e1 e2;subst e1;subst e2
  obtain ⟨u,hv,hs⟩:=run_loadVar (P:=P) (t:=t) hh hr h5
  refine ⟨u,?_,hs⟩
  simp [resF,g1,asAddr,hv]
theorem resV_run {E:Env} {w:World} {fr:Fr} {st:St} {a:Act} (hf:FrOk E fr a) (hb:∀ k b,st.mem.get k = some b → BlkOk E w k b):∀ {l:List ResultVar} {vs:List V},resV P fr st l = some vs →
 ∃ us:List Value,(l.mapM (resF a.tmps)).run P w = .ok us w∧RelA E vs us
 | [],vs,h=>by
  have h':some [] = some vs:=h
  injection h' with h';subst h'
  exact ⟨[],by simp,trivial⟩
 | r :: l,vs,h=>by
  have h':ob (res1 P fr st r) (fun v=>ob (resV P fr st l) fun vs=>some (v :: vs)) = some vs:=h
  obtain ⟨v,h1,h'⟩:=ob_inv h'
  obtain ⟨q,h2,h3⟩:=ob_inv h'
  injection h3 with h3;subst h3
  obtain ⟨u,g1,g2⟩:=res1_run hf hb h1
  obtain ⟨us,g3,g4⟩:=resV_run hf hb h2
  refine ⟨u :: us,?_,g2,g4⟩
  simp only [List.mapM_cons,Sem.run_bind,g1,Result.andThen_ok,g3,Sem.run_pure]
theorem tupV_rel {E:Env} {l:List V} {v:V} {us:List Value} (h:tupV l = some v) (hr:RelA E l us):∃ x,(if h:us.toArray.size = 1 then us.toArray[0] else .tuple us.toArray) = x∧RelV E v x:=by
 unfold tupV at h
 split at h
 ·rename_i y
  injection h with h;subst h
  match us,hr with
  | [u],hr=>exact ⟨u,by simp,hr.1⟩
  | [],hr=>exact hr.elim
  | _ :: _ :: _,hr=>exact hr.2.elim
 ·rename_i hne
  obtain ⟨r,h1,h2⟩:=ob_inv h
  injection h2 with h2;subst h2
  refine ⟨_,rfl,?_⟩
  have hlen:=hr.length
  have h1n:¬ us.toArray.size = 1:=by
   intro e
   simp at e
   rw [e] at hlen
   match l,hlen with
   | [y],_=>exact hne y rfl
  rw [dif_neg h1n]
  exact ⟨_,rfl,by simpa using unS_rel h1 hr⟩
structure ProgOk (P:Program):Prop where
 mix:P.follows .mixedOrders = true
 name:∀ (f:Nat) (fn:Func),P.funcs[f]? = some fn → (fn.name == "runtime.NumGoroutine") = false
theorem enter_run (hP:ProgOk P) {f:Nat} {fn:Func} {c:Code} (hf:P.funcs[f]? = some fn) (hb:fn.body = some c) (vs:Array Value) (w:World):(callFunc f vs).run P w = .ok (.enter f vs) w:=by
 have hne:¬ fn.name = "runtime.NumGoroutine":=by
  have:=hP.name f fn hf
  simpa using this
 unfold callFunc
 simp [hf,hne,hb]
theorem runFn_ok (hP:ProgOk P) (hcall:CallOk P K call) {f:Nat} {vl:List V} {st:St} {r:R} (h:runFn P call fuel f vl st = some r) (hst:StOk st) :
 Eff st r∧(∀ vs w,(callFunc f vs).run P w = .ok (.enter f vs) w) ∧
 ∀ E w vs,RelA E vl vs → Pre K E w st r → Calls P f vs.toArray w fun e u=>∃ v F,e = .returned v∧Out K E w st r F u v:=by
 obtain ⟨fn,h1,h⟩:=ob_inv h
 obtain ⟨c,h2,h⟩:=ob_inv h
 obtain ⟨h3,h⟩:=bi_inv h
 obtain ⟨h4,h⟩:=bi_inv h
 obtain ⟨h5,h⟩:=bi_inv h
 obtain ⟨z,h6,h7⟩:=ob_inv h
 have hN:fn.ntmps ≤ 1000000:=ble_inv h3
 have hlen:vl.length ≤ fn.ntmps:=by rw [← len_eq];exact ble_inv h5
 obtain ⟨⟨n1,n2,n3⟩,hg⟩:=evCode_sound (K:=K) (N:=fn.ntmps) hcall hP.mix hN c h4 _ _ _ _ h6 hst
 have hfin:(z.e = .normal ∨ z.e = .ret)∧finish P fn z = some r:=by
  unfold leave at h7
  cases he:z.e <;> rw [he] at h7
  ·exact ⟨.inl rfl,h7⟩
  ·cases h7
  ·exact ⟨.inr rfl,h7⟩
 obtain ⟨hze,h8⟩:=hfin
 obtain ⟨vs0,h9,h8⟩:=ob_inv h8
 obtain ⟨v,h10,h11⟩:=ob_inv h8
 injection h11 with h11
 have hframe:∀ E (vs:List Value),RelA E vl vs → FrOk E (enter vl 0 .lf) { tmps:=vs.toArray ++ Array.replicate (fn.ntmps - vs.toArray.size) undef,defers:=[] }:=by
  intro E vs hr t y hy
  have hl:=hr.length
  rw [enter_get vl 0 _ t (by omega)] at hy
  split at hy
  ·rename_i hlt
   obtain ⟨u,hu,hrel⟩:=hr.get (t - 0) y hy
   refine ⟨u,?_,hrel⟩
   rw [Nat.sub_zero] at hu
   have hlt':t < vs.toArray.size:=by simp;omega
   rw [Array.getElem?_append_left hlt']
   simpa using hu
  ·have:(T.lf:Fr).get t = none:=rfl
   rw [this] at hy;cases hy
 have hp0:=n3.p (Nat.le_refl _) st.mem.get ⟨fun k _ _=>rfl,fun k hk=>by simp at hk⟩
 refine ⟨by rw [← h11];exact ⟨n1,n2,fun k a1 a2=>hp0.1 k a2 a1,hp0.2,n3.ok,fun l hl=>by cases hl⟩,fun vs w=>enter_run hP h1 h2 vs w,fun E w vs hr hp=>?_⟩
 refine calls_of_wp h1 h2 ?_
 have hinv:Inv K E w st E w st []:=inv_start hp.gi (fun k b hb=>hp.blk k b (by rw [← h11];trivial) hb)
  (fun k k' b b' p s s' hb hb'=>hp.inj k k' b b' p s s' (by rw [← h11];trivial) (by rw [← h11];trivial) hb hb') hst
 have hfree:Free E st z.st.nb z.st.nt:=by
  have a1:=hp.newB
  have a2:=hp.newT
  rw [← h11] at a1 a2
  exact ⟨a1,a2⟩
 refine hg E w st rfl E w _ hinv (hframe E vs hr) (by simp;omega) hfree _ fun E' w' a' b1 b2 b3 b4=>?_
 obtain ⟨us,g1,g2⟩:=resV_run (P:=P) b2 b1.blk h9
 obtain ⟨x,hx,hv⟩:=tupV_rel h10 g2
 have hres:(results fn a'.tmps).run P w' = .ok x w':=by
  rw [results_eq,Sem.run_bind,Array.mapM_eq_mapM_toList,Sem.run_map]
  rw [g1]
  simp only [Result.andThen_ok,Sem.run_pure]
  rw [← hx]
 obtain ⟨o1,o2⟩:=inv_out b1 hv
 have hb:a'.defers = []∧∃ v,(results fn a'.tmps).run P w' = .ok v w'∧∃ x F,Ending.returned v = .returned x∧Out K E w st r F w' x :=
  ⟨b4,x,hres,x,E',rfl,by rw [← h11];exact o2⟩
 rcases hze with he | he
 ·rw [he];exact hb
 ·rw [he];exact hb
def OrcOk (P:Program) (K:Toks) (orc:Nat → Option (List V → St → Option R)):Prop :=
 ∀ f g,orc f = some g → ∀ vl st r,g vl st = some r → StOk st → Eff st r∧(∀ vs w,(callFunc f vs).run P w = .ok (.enter f vs) w) ∧
  ∀ E w vs,RelA E vl vs → Pre K E w st r → Calls P f vs.toArray w fun e u=>∃ v F,e = .returned v∧Out K E w st r F u v
theorem evCall_ok (hP:ProgOk P) {orc:Nat → Option (List V → St → Option R)} (ho:OrcOk P K orc) (fuel:Nat):∀ d,CallOk P K (evCall P orc fuel d)
 | 0=>fun f vl st r h=>by cases h
 | d + 1=>fun f vl st r h hst=>by
  have h':@Option.rec (List V → St → Option R) (fun _=>Option R) (runFn P (evCall P orc fuel d) fuel f vl st) (fun g=>g vl st) (orc f) = some r:=h
  cases hg:orc f with
  | none =>
   rw [hg] at h'
   exact runFn_ok hP (evCall_ok hP ho fuel d) h' hst
  | some g =>
   rw [hg] at h'
   exact ho f g hg vl st r h' hst
end
end Go.SX
namespace Go.Proofs.YtchbnlkambncnaaGreatDoor
namespace FE
def val:List Int → Int
 | []=>0
 | x :: l=>x + 1000000000 * val l
def Dig (l:List Int):Prop:=∀ x ∈ l,0 ≤ x∧x < 1000000000
theorem val_nil:val [] = 0:=rfl
theorem val_cons (x:Int) (l:List Int):val (x :: l) = x + 1000000000 * val l:=rfl
theorem Dig.nil:Dig []:=fun _ h=>by cases h
theorem Dig.cons {x:Int} {l:List Int} (h0:0 ≤ x) (h1:x < 1000000000) (h:Dig l):Dig (x :: l):=by
 intro y hy
 rcases List.mem_cons.1 hy with rfl | hy
 ·exact ⟨h0,h1⟩
 ·exact h y hy
theorem Dig.head {x:Int} {l:List Int} (h:Dig (x :: l)):0 ≤ x∧x < 1000000000:=h x (by simp)
theorem Dig.tail {x:Int} {l:List Int} (h:Dig (x :: l)):Dig l:=fun y hy=>h y (by simp [hy])
theorem Dig.append {a b:List Int} (ha:Dig a) (hb:Dig b):Dig (a ++ b):=by
 intro x hx
 rcases List.mem_append.1 hx with h | h
 ·exact ha x h
 ·exact hb x h
theorem Dig.take {a:List Int} (h:Dig a) (n:Nat):Dig (a.take n):=fun x hx=>h x (List.mem_of_mem_take hx)
theorem Dig.drop {a:List Int} (h:Dig a) (n:Nat):Dig (a.drop n):=fun x hx=>h x (List.mem_of_mem_drop hx)
theorem Dig.get {a:List Int} (h:Dig a) (i:Nat) (hi:i < a.length):0 ≤ a[i]∧a[i] < 1000000000:=h _ (List.getElem_mem hi)
theorem Dig.getD {a:List Int} (h:Dig a) (i:Nat):0 ≤ a.getD i 0∧a.getD i 0 < 1000000000:=by
 rw [List.getD_eq_getElem?_getD]
 by_cases hi:i < a.length
 ·rw [List.getElem?_eq_getElem hi];exact h.get i hi
 ·rw [List.getElem?_eq_none (by omega)];simp
theorem Dig.set {a:List Int} (h:Dig a) (i:Nat) {x:Int} (h0:0 ≤ x) (h1:x < 1000000000):Dig (a.set i x):=by
 intro y hy
 rcases List.mem_or_eq_of_mem_set hy with h' | rfl
 ·exact h y h'
 ·exact ⟨h0,h1⟩
theorem Dig.replicate (n:Nat):Dig (List.replicate n 0):=by
 intro x hx
 rw [List.eq_of_mem_replicate hx];omega
def bp (n:Nat):Int:=1000000000 ^ n
theorem bp_zero:bp 0 = 1:=by simp [bp]
theorem bp_succ (n:Nat):bp (n + 1) = 1000000000 * bp n:=by simp [bp,Int.pow_succ,Int.mul_comm]
theorem bp_pos (n:Nat):0 < bp n:=Int.pow_pos (by omega)
theorem bp_add (m n:Nat):bp (m + n) = bp m * bp n:=by simp [bp,Int.pow_add]
theorem bp_mono {m n:Nat} (h:m ≤ n):bp m ≤ bp n:=by
 obtain ⟨k,rfl⟩:=Nat.exists_eq_add_of_le h
 rw [bp_add]
 have:=bp_pos m
 have:=bp_pos k
 calc bp m = bp m * 1:=by simp
  _ ≤ bp m * bp k:=Int.mul_le_mul_of_nonneg_left (by omega) (by omega)
theorem val_append (a b:List Int):val (a ++ b) = val a + bp a.length * val b:=by
 induction a with
 | nil=>simp [val,bp_zero]
 | cons x a ih =>
  simp only [List.cons_append,val_cons,ih,List.length_cons,bp_succ]
  grind
theorem val_nonneg {l:List Int} (h:Dig l):0 ≤ val l:=by
 induction l with
 | nil=>simp [val]
 | cons x l ih =>
  have:=h.head
  have:=ih h.tail
  rw [val_cons];omega
theorem val_lt {l:List Int} (h:Dig l):val l < bp l.length:=by
 induction l with
 | nil=>simp [val,bp_zero]
 | cons x l ih =>
  have:=h.head
  have:=ih h.tail
  rw [val_cons,List.length_cons,bp_succ];omega
theorem val_replicate (n:Nat):val (List.replicate n 0) = 0:=by
 induction n with
 | zero=>rfl
 | succ n ih=>rw [List.replicate_succ,val_cons,ih];rfl
theorem val_take_succ (l:List Int) (i:Nat) (hi:i < l.length):val (l.take (i + 1)) = val (l.take i) + bp i * l[i]:=by
 rw [List.take_succ_eq_append_getElem hi,val_append,val_cons,val_nil,List.length_take]
 rw [Nat.min_eq_left (by omega)];simp
theorem val_take_drop (l:List Int) (i:Nat) (hi:i ≤ l.length):val l = val (l.take i) + bp i * val (l.drop i):=by
 conv=>lhs;rw [← List.take_append_drop i l]
 rw [val_append,List.length_take,Nat.min_eq_left hi]
theorem val_set (l:List Int) (i:Nat) (x:Int) (hi:i < l.length):val (l.set i x) = val l + bp i * (x - l[i]):=by
 induction l generalizing i with
 | nil=>simp at hi
 | cons y l ih =>
  cases i with
  | zero=>simp only [List.set_cons_zero,val_cons,bp_zero,List.getElem_cons_zero];omega
  | succ i =>
   have:=ih i (by simpa using hi)
   simp only [List.set_cons_succ,val_cons,List.getElem_cons_succ,this,bp_succ]
   grind
def Top (l:List Int):Prop:=∀ h:l ≠ [],l.getLast h ≠ 0
theorem Top.nil:Top []:=fun h=>absurd rfl h
theorem Top.tail {x:Int} {l:List Int} (h:Top (x :: l)):Top l:=by
 intro hl
 have:=h (by simp)
 rwa [List.getLast_cons hl] at this
theorem val_pos {l:List Int} (hd:Dig l) (ht:Top l) (hl:l ≠ []):0 < val l:=by
 induction l with
 | nil=>exact absurd rfl hl
 | cons x l ih =>
  have h1:=hd.head
  rw [val_cons]
  by_cases hn:l = []
  ·subst hn
   have:=ht (by simp)
   simp at this
   rw [val_nil];omega
  ·have:=ih hd.tail ht.tail hn
   omega
theorem val_eq_zero {l:List Int} (hd:Dig l) (ht:Top l):val l = 0 ↔ l = []:=by
 constructor
 ·intro h
  by_cases hl:l = []
  ·exact hl
  ·have:=val_pos hd ht hl;omega
 ·rintro rfl;rfl
theorem val_inj {a b:List Int} (ha:Dig a) (hat:Top a) (hb:Dig b) (hbt:Top b) (h:val a = val b):a = b:=by
 induction a generalizing b with
 | nil=>exact ((val_eq_zero hb hbt).1 (by rw [← h];rfl)).symm
 | cons x a ih =>
  cases b with
  | nil=>exact (val_eq_zero ha hat).1 (by rw [h];rfl)
  | cons y b =>
   rw [val_cons,val_cons] at h
   have h1:=ha.head
   have h2:=hb.head
   have hxy:x = y:=by omega
   have hab:val a = val b:=by omega
   rw [hxy,ih ha.tail hat.tail hb.tail hbt.tail hab]
def toL (n:Nat):List Int:=if h:n = 0 then [] else ((n % 1000000000:Nat):Int) :: toL (n / 1000000000)
termination_by n
decreasing_by omega
theorem toL_zero:toL 0 = []:=by rw [toL];simp
theorem toL_pos {n:Nat} (h:n ≠ 0):toL n = ((n % 1000000000:Nat):Int) :: toL (n / 1000000000):=by rw [toL];simp [h]
theorem toL_dig (n:Nat):Dig (toL n):=by
 induction n using Nat.strongRecOn with
 | _ n ih =>
  by_cases h:n = 0
  ·subst h;rw [toL_zero];exact Dig.nil
  ·rw [toL_pos h]
   exact Dig.cons (by omega) (by omega) (ih _ (by omega))
theorem val_toL (n:Nat):val (toL n) = n:=by
 induction n using Nat.strongRecOn with
 | _ n ih =>
  by_cases h:n = 0
  ·subst h;rw [toL_zero];rfl
  ·rw [toL_pos h,val_cons,ih _ (by omega)];omega
theorem toL_eq_nil {n:Nat}:toL n = [] ↔ n = 0:=by
 constructor
 ·intro h
  have:=val_toL n
  rw [h,val_nil] at this;omega
 ·rintro rfl;exact toL_zero
theorem toL_top (n:Nat):Top (toL n):=by
 induction n using Nat.strongRecOn with
 | _ n ih =>
  by_cases h:n = 0
  ·subst h;rw [toL_zero];exact Top.nil
  ·intro hl
   have hrest:=ih (n / 1000000000) (by omega)
   have e:=toL_pos h
   by_cases hn:toL (n / 1000000000) = []
   ·have h0:=toL_eq_nil.1 hn
    simp only [e,hn,List.getLast_singleton]
    omega
   ·have:=hrest hn
    simp only [e]
    rwa [List.getLast_cons hn]
theorem toL_val {l:List Int} (hd:Dig l) (ht:Top l):toL (val l).toNat = l:=by
 refine val_inj (toL_dig _) (toL_top _) hd ht ?_
 rw [val_toL]
 have:=val_nonneg hd
 omega
theorem eq_toL {l:List Int} {n:Nat} (hd:Dig l) (ht:Top l) (hv:val l = n):l = toL n:=by
 rw [← toL_val hd ht,hv];simp
theorem val_ge {l:List Int} (hd:Dig l) (ht:Top l) (hl:l ≠ []):bp (l.length - 1) ≤ val l:=by
 induction l with
 | nil=>exact absurd rfl hl
 | cons x l ih =>
  have h1:=hd.head
  rw [val_cons]
  by_cases hn:l = []
  ·subst hn
   have:=ht (by simp)
   simp at this
   simp [val_nil,bp_zero];omega
  ·have:=ih hd.tail ht.tail hn
   have hlen:l.length ≠ 0:=by simpa using hn
   rw [List.length_cons,Nat.add_sub_cancel]
   have e:l.length = (l.length - 1) + 1:=by omega
   rw [e,bp_succ];omega
theorem len_le_iff {l:List Int} (hd:Dig l) (ht:Top l) (k:Nat):l.length ≤ k ↔ val l < bp k:=by
 constructor
 ·intro h
  have:=val_lt hd
  have:=bp_mono h
  omega
 ·intro h
  by_cases hl:l = []
  ·subst hl;simp
  ·have h1:=val_ge hd ht hl
   by_cases hk:l.length ≤ k
   ·exact hk
   ·have:=bp_mono (show k ≤ l.length - 1 by omega)
    omega
theorem toL_len_le (n k:Nat):(toL n).length ≤ k ↔ (n:Int) < bp k:=by
 rw [len_le_iff (toL_dig n) (toL_top n),val_toL]
def trim:List Int → List Int
 | []=>[]
 | x :: l=>if x = 0∧trim l = [] then [] else x :: trim l
theorem val_trim (l:List Int):val (trim l) = val l:=by
 induction l with
 | nil=>rfl
 | cons x l ih =>
  simp only [trim]
  split
  ·rename_i h
   rw [val_cons,← ih,h.2,h.1];rfl
  ·rw [val_cons,ih,val_cons]
theorem dig_trim {l:List Int} (h:Dig l):Dig (trim l):=by
 induction l with
 | nil=>exact Dig.nil
 | cons x l ih =>
  simp only [trim]
  split
  ·exact Dig.nil
  ·exact Dig.cons h.head.1 h.head.2 (ih h.tail)
theorem top_trim (l:List Int):Top (trim l):=by
 induction l with
 | nil=>exact Top.nil
 | cons x l ih =>
  simp only [trim]
  split
  ·exact Top.nil
  ·rename_i h
   intro hl
   by_cases hn:trim l = []
   ·simp only [hn,List.getLast_singleton]
    intro hx;exact h ⟨hx,hn⟩
   ·rw [List.getLast_cons hn];exact ih hn
theorem trim_snoc_zero (l:List Int):trim (l ++ [0]) = trim l:=by
 induction l with
 | nil=>rfl
 | cons x l ih=>simp only [List.cons_append,trim,ih]
theorem trim_snoc_ne (l:List Int) {x:Int} (hx:x ≠ 0):trim (l ++ [x]) = l ++ [x]:=by
 induction l with
 | nil=>simp [trim,hx]
 | cons y l ih=>simp [trim,ih]
theorem trim_eq {l:List Int} {n:Nat} (hd:Dig l) (hv:val l = n):trim l = toL n :=
 eq_toL (dig_trim hd) (top_trim l) (by rw [val_trim,hv])
def NatOk (l:List Int):Prop:=l.length ≤ 60∧Dig l∧Top l
theorem NatOk.toL {l:List Int} (h:NatOk l):l = toL (val l).toNat:=(toL_val h.2.1 h.2.2).symm
end FE
namespace FE
theorem val_take_succ' (l:List Int) (i:Nat):val (l.take (i + 1)) = val (l.take i) + bp i * l.getD i 0:=by
 by_cases hi:i < l.length
 ·rw [val_take_succ l i hi];simp [hi]
 ·rw [List.take_of_length_le (by omega),List.take_of_length_le (by omega)]
  simp [List.getElem?_eq_none (show l.length ≤ i by omega)]
theorem val_snoc (l:List Int) (x:Int):val (l ++ [x]) = val l + bp l.length * x:=by
 rw [val_append,val_cons,val_nil];simp
theorem Dig.snoc {l:List Int} {x:Int} (h:Dig l) (h0:0 ≤ x) (h1:x < 1000000000):Dig (l ++ [x]):=h.append (Dig.cons h0 h1 Dig.nil)
theorem top_snoc (l:List Int) {x:Int} (hx:x ≠ 0):Top (l ++ [x]):=by
 intro h;simpa using hx
theorem top_of_ge {l:List Int} (hd:Dig l) (h:l ≠ [] → bp (l.length - 1) ≤ val l):Top l:=by
 intro hl
 rcases List.eq_nil_or_concat l with rfl | ⟨l',x,rfl⟩
 ·exact absurd rfl hl
 ·intro h0
  have h1:=h hl
  simp at h0
  subst h0
  rw [List.concat_eq_append,val_snoc] at h1
  have h2:=val_lt (l:=l') (fun y hy=>hd y (by simp [hy]))
  simp at h1
  omega
theorem bp_mul_succ (k:Nat) (x:Int):bp (k + 1) * x = bp k * (1000000000 * x):=by rw [bp_succ];grind
theorem addStep {X Y zs:List Int} {k:Nat} {cy s:Int} (hz:zs.length = k) (hd:Dig zs) (hv:val zs + bp k * cy = val (X.take k) + val (Y.take k))
 (hs:s = X.getD k 0 + cy + Y.getD k 0) :
 Dig (zs ++ [s % 1000000000])∧val (zs ++ [s % 1000000000]) + bp (k + 1) * (s / 1000000000) = val (X.take (k + 1)) + val (Y.take (k + 1)):=by
 refine ⟨hd.snoc (by omega) (by omega),?_⟩
 rw [val_snoc,hz,val_take_succ',val_take_succ',bp_mul_succ]
 have e:s % 1000000000 + 1000000000 * (s / 1000000000) = s:=by omega
 have:bp k * (s % 1000000000) + bp k * (1000000000 * (s / 1000000000)) = bp k * s:=by rw [← Int.mul_add,e]
 rw [hs] at this ⊢
 grind
theorem addEnd {X Y zs:List Int} (hX:Dig X) (hXt:Top X) (hY:Dig Y) (hYX:Y.length ≤ X.length) (hz:zs.length = X.length) (hd:Dig zs) {cy:Int}
 (hv:val zs + bp X.length * cy = val (X.take X.length) + val (Y.take X.length)) (h0:0 ≤ cy) (h1:cy ≤ 1) :
 (if 0 < cy then zs ++ [cy] else zs) = toL (val X + val Y).toNat:=by
 rw [List.take_of_length_le (Nat.le_refl _),List.take_of_length_le hYX] at hv
 have hx0:=val_nonneg hX
 have hy0:=val_nonneg hY
 split
 ·refine eq_toL (hd.snoc h0 (by omega)) (top_snoc _ (by omega)) ?_
  rw [val_snoc,hz,hv];omega
 ·have hc:cy = 0:=by omega
  subst hc
  simp at hv
  refine eq_toL hd (top_of_ge hd fun hn=>?_) (by rw [hv];omega)
  rw [hz,hv]
  by_cases hX0:X = []
  ·subst hX0;simp at hz;exact absurd hz hn
  ·have:=val_ge hX hXt hX0;omega
theorem getD_set (l:List Int) (i j:Nat) (x:Int):(l.set i x).getD j 0 = if i = j∧i < l.length then x else l.getD j 0:=by
 simp only [List.getD_eq_getElem?_getD,List.getElem?_set]
 by_cases h:i = j
 ·subst h
  by_cases hi:i < l.length
  ·simp [hi]
  ·simp [hi]
 ·simp [h]
theorem val_set' (l:List Int) (i:Nat) (x:Int) (hi:i < l.length):val (l.set i x) = val l + bp i * (x - l.getD i 0):=by
 rw [val_set l i x hi];simp [hi]
theorem mul_bound {x y:Int} (hx:0 ≤ x∧x < 1000000000) (hy:0 ≤ y∧y ≤ 1000000000):0 ≤ x * y∧x * y ≤ 999999999 * y∧x * y ≤ 1000000000 * x:=by
 refine ⟨Int.mul_nonneg hx.1 hy.1,Int.mul_le_mul_of_nonneg_right (by omega) hy.1,?_⟩
 rw [Int.mul_comm 1000000000]
 exact Int.mul_le_mul_of_nonneg_left hy.2 hx.1
theorem divStep {xs zs:List Int} {j:Nat} {r d t:Int} (hd:0 < d) (hr0:0 ≤ r) (hrd:r < d) (hxs:Dig xs) (hj:j < xs.length) (hzl:zs.length = xs.length) (hz:Dig zs)
 (h0:zs.getD j 0 = 0) (hv:val xs = d * val zs + bp (j + 1) * r + val (xs.take (j + 1))) (ht:t = r * 1000000000 + xs.getD j 0) :
 0 ≤ t / d∧t / d < 1000000000∧Dig (zs.set j (t / d))∧val xs = d * val (zs.set j (t / d)) + bp j * (t % d) + val (xs.take j):=by
 have hx:=hxs.getD j
 have q0:0 ≤ t / d:=Int.ediv_nonneg (by omega) (by omega)
 have q1:t / d < 1000000000:=by
  refine Int.ediv_lt_of_lt_mul hd ?_
  have:r * 1000000000 ≤ (d - 1) * 1000000000:=by omega
  omega
 refine ⟨q0,q1,hz.set j q0 q1,?_⟩
 rw [val_set' _ _ _ (by omega),h0,hv,val_take_succ',bp_mul_succ]
 have e:d * (t / d) + t % d = t:=Int.mul_ediv_add_emod t d
 have:bp j * (d * (t / d)) + bp j * (t % d) = bp j * t:=by rw [← Int.mul_add,e]
 rw [ht] at this ⊢
 grind
theorem scaleStep {xs zs:List Int} {k:Nat} {cy by_ t:Int} (hz:Dig zs) (hk:k < zs.length) (h0:zs.getD k 0 = 0) (hcy:0 ≤ cy) (hcb:cy ≤ by_) (hb:by_ < 1000000000) (hxs:Dig xs)
 (hv:val zs + bp k * cy = val (xs.take k) * by_) (ht:t = cy + xs.getD k 0 * by_) :
 Dig (zs.set k (t % 1000000000))∧val (zs.set k (t % 1000000000)) + bp (k + 1) * (t / 1000000000) = val (xs.take (k + 1)) * by_∧0 ≤ t / 1000000000∧t / 1000000000 ≤ by_:=by
 have hx:=hxs.getD k
 have hm:=mul_bound hx ⟨show 0 ≤ by_ by omega,by omega⟩
 refine ⟨hz.set k (by omega) (by omega),?_,by omega,by omega⟩
 rw [val_set' _ _ _ hk,h0,val_take_succ',bp_mul_succ]
 have e:t % 1000000000 + 1000000000 * (t / 1000000000) = t:=by omega
 have:bp k * (t % 1000000000) + bp k * (1000000000 * (t / 1000000000)) = bp k * t:=by rw [← Int.mul_add,e]
 rw [ht] at this ⊢
 grind
theorem mulStep {ys zs:List Int} {i k:Nat} {x cy t S:Int} (hz:Dig zs) (hik:i + k < zs.length) (hx:0 ≤ x∧x < 1000000000) (hys:Dig ys) (hcy:0 ≤ cy) (hcb:cy < 1000000000)
 (hv:val zs + bp (i + k) * cy = S + bp i * (x * val (ys.take k))) (ht:t = zs.getD (i + k) 0 + x * ys.getD k 0 + cy) :
 Dig (zs.set (i + k) (t % 1000000000))∧val (zs.set (i + k) (t % 1000000000)) + bp (i + (k + 1)) * (t / 1000000000) = S + bp i * (x * val (ys.take (k + 1)))∧0 ≤ t / 1000000000∧t / 1000000000 < 1000000000:=by
 have hy:=hys.getD k
 have hzz:=hz.getD (i + k)
 have hm:=mul_bound hx ⟨hy.1,by omega⟩
 refine ⟨hz.set _ (by omega) (by omega),?_,by omega,by omega⟩
 rw [val_set' _ _ _ hik,val_take_succ',show i + (k + 1) = (i + k) + 1 by omega,bp_mul_succ]
 have e:t % 1000000000 + 1000000000 * (t / 1000000000) = t:=by omega
 have h1:bp (i + k) * (t % 1000000000) + bp (i + k) * (1000000000 * (t / 1000000000)) = bp (i + k) * t:=by rw [← Int.mul_add,e]
 have h2:=bp_add i k
 rw [ht] at h1 ⊢
 grind
theorem mulRow {xs ys zs:List Int} {i:Nat} {cy:Int} (hz:Dig zs) (him:i + ys.length < zs.length) (h0:zs.getD (i + ys.length) 0 = 0) (hcy:0 ≤ cy) (hcb:cy < 1000000000)
 (hv:val zs + bp (i + ys.length) * cy = val (xs.take i) * val ys + bp i * (xs.getD i 0 * val (ys.take ys.length))) :
 Dig (zs.set (i + ys.length) (zs.getD (i + ys.length) 0 + cy))∧val (zs.set (i + ys.length) (zs.getD (i + ys.length) 0 + cy)) = val (xs.take (i + 1)) * val ys:=by
 rw [h0]
 refine ⟨hz.set _ (by omega) (by omega),?_⟩
 rw [val_set' _ _ _ him,h0,val_take_succ']
 rw [List.take_of_length_le (Nat.le_refl _)] at hv
 grind
theorem subStep {xs ys zs:List Int} {k:Nat} {bo t:Int} (hz:zs.length = k) (hd:Dig zs) (hxs:Dig xs) (hys:Dig ys) (hb:bo = 0 ∨ bo = 1)
 (hv:val zs = val (xs.take k) - val (ys.take k) + bp k * bo) (ht:t = xs.getD k 0 - bo - ys.getD k 0) :
 Dig (zs ++ [if t < 0 then t + 1000000000 else t])∧val (zs ++ [if t < 0 then t + 1000000000 else t]) = val (xs.take (k + 1)) - val (ys.take (k + 1)) + bp (k + 1) * (if t < 0 then 1 else 0):=by
 have hx:=hxs.getD k
 have hy:=hys.getD k
 refine ⟨hd.snoc (by split <;> omega) (by split <;> omega),?_⟩
 rw [val_snoc,hz,val_take_succ',val_take_succ',hv,bp_mul_succ,ht]
 split <;> grind
theorem subEnd {xs ys zs:List Int} (hxd:Dig xs) (hyx:ys.length ≤ xs.length) (hz:zs.length = xs.length) (hd:Dig zs) {bo:Int} (hb:bo = 0 ∨ bo = 1)
 (hv:val zs = val (xs.take xs.length) - val (ys.take xs.length) + bp xs.length * bo) (hle:val ys ≤ val xs):trim zs = toL (val xs - val ys).toNat:=by
 rw [List.take_of_length_le (Nat.le_refl _),List.take_of_length_le hyx] at hv
 have h1:=val_lt hd
 have h2:=val_lt hxd
 rw [hz] at h1
 rcases hb with rfl | rfl
 ·exact trim_eq hd (by rw [hv];omega)
 ·omega
theorem set_mid (P l:List Int) (k:Nat) (t:Int) (hP:P.length = k) (hk:k < l.length):(P ++ l.drop k).set k t = (P ++ [t]) ++ l.drop (k + 1):=by
 rw [List.set_append_right _ _ (by omega),hP,Nat.sub_self,List.drop_eq_getElem_cons hk,List.set_cons_zero]
 simp
theorem getD_mid (P l:List Int) (k:Nat) (hP:P.length = k) (_hk:k < l.length):(P ++ l.drop k).getD k 0 = l.getD k 0:=by
 rw [List.getD_eq_getElem?_getD,List.getElem?_append_right (by omega),hP,Nat.sub_self,List.getElem?_drop]
 simp
theorem takeStep {ws vs zs:List Int} {k:Nat} {bo by_ t b2 t2:Int} (hz:zs.length = k) (hd:Dig zs) (hws:Dig ws) (hvs:Dig vs) (hb0:0 ≤ bo) (hb1:bo < 1000000000) (hby:0 ≤ by_∧by_ < 1000000000)
 (hv:val zs - bp k * bo = val (ws.take k) - by_ * val (vs.take k)) (ht:t = ws.getD k 0 - bo - vs.getD k 0 * by_) (hb2:b2 = if t < 0 then (-t + 1000000000 - 1) / 1000000000 else 0) (ht2:t2 = if t < 0 then t + b2 * 1000000000 else t) :
 Dig (zs ++ [t2])∧val (zs ++ [t2]) - bp (k + 1) * b2 = val (ws.take (k + 1)) - by_ * val (vs.take (k + 1))∧0 ≤ b2∧b2 < 1000000000:=by
 have hx:=hws.getD k
 have hy:=hvs.getD k
 have hm:=mul_bound hy ⟨hby.1,by omega⟩
 generalize hp:vs.getD k 0 * by_ = p at *
 have hp2:p ≤ 999999998000000001:=by omega
 have ht2':0 ≤ t2∧t2 < 1000000000:=by
  subst ht2 hb2
  split <;> omega
 have hb2':0 ≤ b2∧b2 < 1000000000:=by
  subst hb2
  split <;> omega
 refine ⟨hd.snoc ht2'.1 ht2'.2,?_,hb2'.1,hb2'.2⟩
 have e:t2 = t + 1000000000 * b2:=by
  subst ht2 hb2
  split <;> omega
 rw [val_snoc,hz,val_take_succ',val_take_succ',bp_mul_succ,e,ht,← hp]
 grind
theorem addBackStep {ws vs zs:List Int} {k:Nat} {cy t:Int} (hz:zs.length = k) (hd:Dig zs) (hws:Dig ws) (hvs:Dig vs) (hc0:0 ≤ cy) (hc1:cy ≤ 1)
 (hv:val zs + bp k * cy = val (ws.take k) + val (vs.take k)) (ht:t = ws.getD k 0 + cy + vs.getD k 0) :
 Dig (zs ++ [t % 1000000000])∧val (zs ++ [t % 1000000000]) + bp (k + 1) * (t / 1000000000) = val (ws.take (k + 1)) + val (vs.take (k + 1))∧0 ≤ t / 1000000000∧t / 1000000000 ≤ 1:=by
 have hx:=hws.getD k
 have hy:=hvs.getD k
 have h:=addStep hz hd hv ht
 exact ⟨h.1,h.2,by omega,by omega⟩
theorem takeEnd {ws vs zs:List Int} {n:Nat} {bo q t:Int} (hz:zs.length = n) (hd:Dig zs) (hws:Dig ws) (hvn:vs.length = n) (hb0:0 ≤ bo)
 (hv:val zs - bp n * bo = val (ws.take n) - q * val (vs.take n)) (hlo:- bp n ≤ val (ws.take (n + 1)) - q * val vs) (ht:t = ws.getD n 0 - bo) :
 -1 ≤ t∧t < 1000000000∧(t < 0 → Dig (zs ++ [t + 1000000000])∧val (zs ++ [t + 1000000000]) = val (ws.take (n + 1)) - q * val vs + bp (n + 1) * 1) ∧
  (0 ≤ t → Dig (zs ++ [t])∧val (zs ++ [t]) = val (ws.take (n + 1)) - q * val vs + bp (n + 1) * 0):=by
 have hx:=hws.getD n
 have h1:=val_lt hd
 have h2:=bp_pos n
 rw [hz] at h1
 rw [List.take_of_length_le (l:=vs) (by omega)] at hv
 have e:val (ws.take (n + 1)) - q * val vs = val zs + bp n * t:=by
  rw [val_take_succ',ht];grind
 rw [e] at hlo ⊢
 have ht1:-1 ≤ t:=by
  rcases Int.lt_or_le t (-1) with h | h
  ·exfalso
   have:=Int.mul_le_mul_of_nonneg_left (show t ≤ -2 by omega) (show 0 ≤ bp n by omega)
   omega
  ·exact h
 refine ⟨ht1,by omega,fun h=>⟨hd.snoc (by omega) (by omega),?_⟩,fun h=>⟨hd.snoc h (by omega),?_⟩⟩
 ·rw [val_snoc,hz,bp_mul_succ];grind
 ·rw [val_snoc,hz];grind
theorem addBackEnd {ws vs zs:List Int} {n:Nat} {cy:Int} (hvn:vs.length ≤ n) (hv:val zs + bp n * cy = val (ws.take n) + val (vs.take n)):val zs + bp n * cy = val (ws.take n) + val vs:=by
 rwa [List.take_of_length_le (l:=vs) hvn] at hv
end FE
open Go.RowKit
theorem ret_int {k:IntKind} {a b:Int} (h:a = b):Ending.returned (.int k a) = .returned (.int k b):=by rw [h]
theorem ret_bool {a b:Bool} (h:a = b):Ending.returned (.bool a) = .returned (.bool b):=by rw [h]
def RI (w:World) (A:Option Addr) (xs:List Int):Prop :=
 xs ≠ [] → ∃ b off,A = some ⟨b,off,none⟩∧b < w.heap.size∧∀ i,i < xs.length → w.cell? ⟨b,off + i,none⟩ = some (.int .i64 (xs.getD i 0))
theorem RI.below {w w':World} {A:Option Addr} {xs:List Int} {B:Nat} (h:RI w A xs) (hb:Below B w w') (hB:∀ a,A = some a → xs ≠ [] → a.block < B):RI w' A xs:=by
 intro hx
 obtain ⟨b,off,rfl,hlt,hc⟩:=h hx
 refine ⟨b,off,rfl,Nat.lt_of_lt_of_le hlt hb.size,fun i hi=>?_⟩
 rw [hb.cell (p:=⟨b,off + i,none⟩) (hB ⟨b,off,none⟩ rfl hx)]
 exact hc i hi
theorem RI.later {w w':World} {A:Option Addr} {xs:List Int} (h:RI w A xs) (hb:Below w.heap.size w w'):RI w' A xs :=
 h.below hb (by
  rintro a rfl hx
  obtain ⟨b,off,he,hlt,_⟩:=h hx
  injection he with he
  subst he
  exact hlt)
theorem RI.drewN {w:World} {A:Option Addr} {xs:List Int} (h:RI w A xs) (n:Nat):RI (w.drewN n) A xs:=h
theorem RI.drew {w:World} {A:Option Addr} {xs:List Int} (h:RI w A xs):RI w.drew A xs:=h
theorem RI.alloc {w:World} {A:Option Addr} {xs:List Int} (h:RI w A xs) (o:Obj):RI (w.alloc o) A xs :=
 h.later ((Below.refl _ _).alloc (Nat.le_refl _) o)
theorem RI.nil (w:World) (A:Option Addr):RI w A []:=fun h=>absurd rfl h
theorem RI.of_own {w:World} {base:Nat} {e:TypeId} {xs:List Int} {A:Option Addr} {n c:Nat} (h:w.ownsRow base e 1 (.slice A n c) n (xs.map (Value.int .i64))):RI w A xs:=by
 intro hx
 have hlen:xs.length = n:=by simpa using h.1
 have hn:n ≠ 0:=by
  intro h0
  exact hx (List.eq_nil_of_length_eq_zero (by omega))
 rcases h.2 with ⟨_,h0⟩ | ⟨g,cap,cur,hv,_,hh,_⟩
 ·exact absurd h0 hn
 ·injection hv with hA _ _
  subst hA
  refine ⟨g,0,rfl,(Array.getElem?_eq_some_iff.1 hh).1,fun i hi=>?_⟩
  have:=h.cells (g:=g) rfl i (.int .i64 (xs.getD i 0)) (by simp [hi])
  unfold Addr.add at this
  by_cases hi0:i = 0
  ·subst hi0;simpa using this
  ·rw [if_neg hi0] at this;simpa using this
theorem below_drewN {B:Nat} {a w:World} (h:Below B a w) (n:Nat):Below B a (w.drewN n):=⟨h.os,h.tape,h.output,h.size,h.block⟩
theorem below_self_drewN {B:Nat} (w:World) (n:Nat):Below B w (w.drewN n):=below_drewN (Below.refl _ _) n
theorem below_trans {a b c:World} (h:Below a.heap.size a b) (k:Below b.heap.size b c):Below a.heap.size a c:=h.trans (k.mono h.size)
theorem wp_tail {P:Program} {id:Nat} {Q:Exit → Act → World → Prop} {a:Act} {w:World} {l:List Oper} (n:Nat) (hm:P.follows .mixedOrders = true) (hB:Region.lexTailB .any l.toArray n = true)
 (h:wpStill P l.toArray w.drew (fun a'=>wpList P l.toArray Q (l.drop n) a' w.drew) (l.take n) a):(Code.region id l.toArray true).wp P Q a w:=wp_region_still_tail n hm hB h
theorem quiet_add_same {P:Program} {f:FuncId} {args:Array Value} {w:World} {a n:Nat} {v:Value}
 (h:Calls P f args (w.drewN (a + n)) fun e w'=>e = .returned v∧w' = w.drewN (a + n)) :
 Calls P f args (w.drewN (a + n)) fun e w''=>e = .returned v∧∃ m,w'' = w.drewN (a + m) :=
 h.mono fun _ _ ⟨he,hm⟩=>⟨he,n,hm⟩
theorem Tryz.intInfo:(Tryz.prog.info? 3).map (fun i=>(i.zero,i.size,i.bytes)) = some (some (.int .i64 0),1,8):=by kernel_rfl
def Arr (w:World) (g cap:Nat) (xs:List Int):Prop :=
 ∃ rest:List Value,xs.length + rest.length = cap∧cap ≤ maxLen∧w.heap[g]? = some (.cells (xs.map (Value.int .i64) ++ rest).toArray 3 (0,0))
theorem Arr.lt {w:World} {g cap:Nat} {xs:List Int} (h:Arr w g cap xs):g < w.heap.size:=by
 obtain ⟨rest,_,_,hh⟩:=h
 exact (Array.getElem?_eq_some_iff.1 hh).1
theorem Arr.len {w:World} {g cap:Nat} {xs:List Int} (h:Arr w g cap xs):xs.length ≤ cap∧cap ≤ maxLen:=by
 obtain ⟨rest,h1,h2,_⟩:=h
 exact ⟨by omega,h2⟩
theorem Arr.cell {w:World} {g cap:Nat} {xs:List Int} (h:Arr w g cap xs) (i:Nat) (hi:i < xs.length):w.cell? ⟨g,i,none⟩ = some (.int .i64 (xs.getD i 0)):=by
 obtain ⟨rest,_,_,hh⟩:=h
 rw [cell_of_row w g i _ 3 (0,0) hh]
 simp [hi,List.getElem?_append_left]
theorem Arr.frozen {w:World} {g cap:Nat} {xs:List Int} (h:Arr w g cap xs) (i:Nat):w.frozen? ⟨g,i,none⟩ = false:=by
 obtain ⟨rest,_,_,hh⟩:=h
 simp [World.frozen?,hh]
theorem Arr.block {w w':World} {g cap:Nat} {xs:List Int} (h:Arr w g cap xs) (hb:w'.heap[g]? = w.heap[g]?):Arr w' g cap xs:=by
 obtain ⟨rest,h1,h2,hh⟩:=h
 exact ⟨rest,h1,h2,hb.trans hh⟩
theorem Arr.below {w w':World} {g cap B:Nat} {xs:List Int} (h:Arr w g cap xs) (hb:Below B w w') (hg:g < B):Arr w' g cap xs:=h.block (hb.block g hg)
theorem Arr.later {w w':World} {g cap:Nat} {xs:List Int} (h:Arr w g cap xs) (hb:Below w.heap.size w w'):Arr w' g cap xs:=h.below hb h.lt
theorem Arr.alloc {w:World} {g cap:Nat} {xs:List Int} (h:Arr w g cap xs) (o:Obj):Arr (w.alloc o) g cap xs:=h.block (Below.heap_alloc w o g h.lt)
theorem Arr.drew {w:World} {g cap:Nat} {xs:List Int} (h:Arr w g cap xs):Arr w.drew g cap xs:=h
theorem Arr.drewN {w:World} {g cap:Nat} {xs:List Int} (h:Arr w g cap xs) (n:Nat):Arr (w.drewN n) g cap xs:=h
theorem Arr.far {w:World} {g cap:Nat} {xs:List Int} (h:Arr w g cap xs) {p:Addr} (hp:g ≠ p.block) (u:Value):Arr (w.setCell p u) g cap xs:=h.block (Below.heap_setCell w p u g hp)
theorem Arr.set {w:World} {g cap:Nat} {xs:List Int} (h:Arr w g cap xs) (i:Nat) (hi:i < xs.length) (x:Int):Arr (w.setCell ⟨g,i,none⟩ (.int .i64 x)) g cap (xs.set i x):=by
 obtain ⟨rest,h1,h2,hh⟩:=h
 refine ⟨rest,by simpa using h1,h2,?_⟩
 simp only [World.setCell,Array.getElem?_modify,hh,if_true]
 simp [List.map_set,List.set_append_left,hi]
theorem Arr.set2 {w:World} {g cap:Nat} {xs:List Int} (h:Arr w g cap xs) (i:Nat) (hi:i < xs.length) (x y:Int):Arr ((w.setCell ⟨g,i,none⟩ (.int .i64 x)).setCell ⟨g,i,none⟩ (.int .i64 y)) g cap (xs.set i y):=by
 have:=(h.set i hi x).set i (by simpa using hi) y
 rwa [List.set_set] at this
theorem Arr.set3 {w:World} {g cap:Nat} {xs:List Int} (h:Arr w g cap xs) (i:Nat) (hi:i < xs.length) (x y z:Int) :
 Arr (((w.setCell ⟨g,i,none⟩ (.int .i64 x)).setCell ⟨g,i,none⟩ (.int .i64 y)).setCell ⟨g,i,none⟩ (.int .i64 z)) g cap (xs.set i z):=by
 have:=(h.set2 i hi x y).set i (by simpa using hi) z
 rwa [List.set_set] at this
theorem Arr.own {w:World} {g cap base:Nat} {xs:List Int} (h:Arr w g cap xs) (hb:base ≤ g):w.ownsRow base 3 1 (.slice (some ⟨g,0,none⟩) xs.length cap) xs.length (xs.map (Value.int .i64)):=by
 obtain ⟨rest,h1,h2,hh⟩:=h
 refine ⟨by simp,.inr ⟨g,cap,_,rfl,hb,hh,by omega,h2,by simp;omega,by simp⟩⟩
theorem Arr.of_own {w:World} {g cap base:Nat} {xs:List Int} (h:w.ownsRow base 3 1 (.slice (some ⟨g,0,none⟩) xs.length cap) xs.length (xs.map (Value.int .i64))):base ≤ g∧Arr w g cap xs:=by
 rcases h.2 with ⟨he,_⟩ | ⟨g',cap',cur,hv,hb,hh,hnc,hcm,hcs,htake⟩
 ·cases he
 ·injection hv with e1 e2 e3
  injection e1 with e1
  injection e1 with e1
  subst e1;subst e3
  refine ⟨hb,cur.toList.drop xs.length,by simp;omega,hcm,?_⟩
  rw [hh]
  congr 2
  apply Array.toList_inj.1
  simp only [Nat.mul_one] at htake
  rw [← htake]
  simp
theorem Arr.cut {w:World} {g cap:Nat} {xs:List Int} (h:Arr w g cap xs) (k:Nat):Arr w g cap (xs.take k):=by
 obtain ⟨rest,h1,h2,hh⟩:=h
 refine ⟨(xs.drop k).map (Value.int .i64) ++ rest,?_,h2,?_⟩
 ·simp only [List.length_take,List.length_append,List.length_map,List.length_drop];omega
 ·rw [hh,← List.append_assoc,← List.map_append,List.take_append_drop]
theorem Arr.reads {w:World} {g cap:Nat} {xs:List Int} (h:Arr w g cap xs):RI w (some ⟨g,0,none⟩) xs:=fun _ =>
 ⟨g,0,rfl,h.lt,fun i hi=>by rw [Nat.zero_add];exact h.cell i hi⟩
theorem madeCells_int (n:Nat):madeCells #[.int .i64 0] n = (List.replicate n (Value.int .i64 0)).toArray:=by
 unfold madeCells
 apply Array.ext
 ·simp
 ·intro i h1 h2
  simp [Nat.mod_one]
theorem Arr.made {w:World} (n:Nat) (hn:n ≤ maxLen):Arr (w.alloc (.cells (madeCells #[.int .i64 0] n) 3)) w.heap.size n (List.replicate n 0):=by
 refine ⟨[],by simp,hn,?_⟩
 rw [heap_alloc_new,madeCells_int]
 simp
def OI (w:World) (base:Nat) (v:Value) (xs:List Int):Prop:=w.ownsRow base 3 1 v xs.length (xs.map (Value.int .i64))
theorem OI.alloc {w:World} {base:Nat} {v:Value} {xs:List Int} (h:OI w base v xs) (o:Obj):OI (w.alloc o) base v xs:=World.ownsRow.alloc h o
theorem OI.drew {w:World} {base:Nat} {v:Value} {xs:List Int} (h:OI w base v xs):OI w.drew base v xs:=h
theorem OI.drewN {w:World} {base:Nat} {v:Value} {xs:List Int} (h:OI w base v xs) (n:Nat):OI (w.drewN n) base v xs:=h
theorem OI.nil (w:World) (base:Nat):OI w base (.slice none 0 0) []:=World.ownsRow_nil w base 3 1
theorem OI.made {w:World} {cap:Nat} {base:Nat} (h:Arr w base cap []) {b:Nat} (hb:b ≤ base):OI w b (.slice (some ⟨base,0,none⟩) 0 cap) []:=h.own hb
theorem OI.of_arr {w:World} {g cap base:Nat} {xs:List Int} (h:Arr w g cap xs) (hb:base ≤ g):OI w base (.slice (some ⟨g,0,none⟩) xs.length cap) xs:=h.own hb
theorem OI.later {w w':World} {base:Nat} {v:Value} {xs:List Int} (h:OI w base v xs) (hb:Below w.heap.size w w'):OI w' base v xs :=
 World.ownsRow.kept (row:=none) h ⟨hb.os,hb.tape,hb.output,hb.size,fun k hk _=>hb.block k hk⟩ (by cases v.ownBlock <;> simp)
def RO (w:World) (base:Nat) (v:Value) (xs:List Int):Prop :=
 ∃ A c,v = .slice A xs.length c∧xs.length ≤ c∧c ≤ maxLen∧(xs ≠ [] → ∃ g,A = some ⟨g,0,none⟩∧base ≤ g∧Arr w g c xs)
theorem RO.reads {w:World} {base:Nat} {xs:List Int} {A:Option Addr} {n c:Nat} (h:RO w base (.slice A n c) xs):RI w A xs:=by
 intro hx
 obtain ⟨A',c',he,_,_,h2⟩:=h
 injection he with e1 e2 e3
 obtain ⟨g,e,_,ha⟩:=h2 hx
 rw [e1,e]
 exact ha.reads hx
theorem RO.form {w:World} {base:Nat} {v:Value} {xs:List Int} (h:RO w base v xs):∃ A c,v = .slice A xs.length c∧xs.length ≤ c:=by
 obtain ⟨A,c,h1,h2,_⟩:=h
 exact ⟨A,c,h1,h2⟩
theorem RO.later {w w':World} {base:Nat} {v:Value} {xs:List Int} (h:RO w base v xs) (hb:Below w.heap.size w w'):RO w' base v xs:=by
 obtain ⟨A,c,rfl,h1,h2,h3⟩:=h
 refine ⟨A,c,rfl,h1,h2,fun hx=>?_⟩
 obtain ⟨g,e,hg,ha⟩:=h3 hx
 exact ⟨g,e,hg,ha.later hb⟩
theorem RO.mono {w:World} {base base':Nat} {v:Value} {xs:List Int} (h:RO w base v xs) (hb:base' ≤ base):RO w base' v xs:=by
 obtain ⟨A,c,rfl,h1,h2,h3⟩:=h
 refine ⟨A,c,rfl,h1,h2,fun hx=>?_⟩
 obtain ⟨g,e,hg,ha⟩:=h3 hx
 exact ⟨g,e,Nat.le_trans hb hg,ha⟩
theorem RO.of_own {w:World} {base:Nat} {v:Value} {xs:List Int} (h:OI w base v xs):RO w base v xs:=by
 rcases h.2 with ⟨rfl,h0⟩ | ⟨g,cap,cur,rfl,hb,hh,hnc,hcm,hcs,htake⟩
 ·exact ⟨none,0,by rw [h0],by omega,Nat.zero_le _,fun hx=>absurd (List.eq_nil_of_length_eq_zero h0) hx⟩
 ·exact ⟨_,cap,rfl,hnc,hcm,fun _=>⟨g,rfl,hb,(Arr.of_own h).2⟩⟩
theorem RO.nil (w:World) (base:Nat) (A:Option Addr) (c:Nat) (hc:c ≤ maxLen):RO w base (.slice A 0 c) []:=⟨A,c,rfl,Nat.zero_le _,hc,fun h=>absurd rfl h⟩
theorem makeInts {P:Program} {ops:Array Oper} {rest:List Oper} {o:Oper} {a:Act} {w:World} {Q:Exit → Act → World → Prop} (hgd:o.guard = none) (l c:Operand) (T:TypeId)
 (hop:o.op = Op.makeSlice T l c) (ht:P.underlying T = some (.slice 3)) (hinfo:(P.info? 3).map (fun i=>(i.zero,i.size,i.bytes)) = some (some (.int .i64 0),1,8))
 (n k:Nat) (x y:Int) (hl:a.eval l = .int .i64 x) (hc:a.eval c = .int .i64 y) (hx:x = n) (hy:y = k) (hnk:n ≤ k) (hk:k ≤ 1099511627776)
 (h:Arr (w.alloc (.cells (madeCells #[.int .i64 0] k) 3)) w.heap.size k (List.replicate k 0) →
  wpList P ops Q rest (a.put o.dst (.slice (some ⟨w.heap.size,0,none⟩) n k)) (w.alloc (.cells (madeCells #[.int .i64 0] k) 3))):wpList P ops Q (o :: rest) a w:=by
 obtain ⟨i,hi,hz0,hz1,hz2⟩:=info_parts hinfo
 subst hx;subst hy
 refine wpList_plain hgd fun K hK'=>?_
 have hrun:=run_make (P:=P) w T 3 i _ ht hi hz0 .i64 .i64 (n:Int) (k:Int) (by omega) (by omega) (by rw [hz2];omega) (by omega)
 simp only [Int.toNat_natCast,hz1,Nat.mul_one] at hrun
 unfold Oper.wp
 simp [execOp,hop,hl,hc,hrun,Result.andThen]
 exact hK' _ _ (h (Arr.made k (by unfold maxLen;omega)))
theorem cell_new1 (w:World) (v:Value) (T:TypeId):(w.alloc (.cells #[v] T)).cell? ⟨w.heap.size,0,none⟩ = some v:=by
 rw [World.cell?_alloc_at _ _ _ _ rfl];rfl
theorem append1 {P:Program} {ops:Array Oper} {rest:List Oper} {o:Oper} {a:Act} {w:World} {Q:Exit → Act → World → Prop} (hgd:o.guard = none) (s x:Operand) (T:TypeId)
 (ho:o.op = .call { callee:=.builtin .append,args:=#[s,x],argTypes:=#[T,T] }) (ht:P.underlying T = some (.slice 3))
 (hinfo:(P.info? 3).map (fun i=>(i.zero,i.size,i.bytes)) = some (some (.int .i64 0),1,8))
 (base:Nat) (v:Value) (xs:List Int) (hs:a.eval s = v) (hown:OI w base v xs)
 (ad:Addr) (y:Int) (hx:a.eval x = .slice (some ad) 1 1) (hy:w.cell? ad = some (.int .i64 y)) (hlen:xs.length < 1099511627776) (hbase:base ≤ w.heap.size)
 (h:∀ v' w',OI w' base v' (xs ++ [y]) → Below base w w' → wpList P ops Q rest (a.put o.dst v') w'):wpList P ops Q (o :: rest) a w:=by
 obtain ⟨i0,hi,hz0,hz1,hz2⟩:=info_parts hinfo
 refine wpList_append_own w hgd s x T ho base 3 i0 (.int .i64 0) 1 8 ht hi hz0 hz1 hz2 rfl (by decide) v xs.length _ hs hown ad 1 1 [.int .i64 y] hx rfl ?_ ?_ ?_ ?_ hbase ?_
 ·intro j u hj
  match j,hj with
  | 0,hj=>simp at hj;subst hj;simpa [Addr.add] using hy
 ·intro u hu;simp at hu;subst hu;rfl
 ·unfold maxLen;omega
 ·omega
 ·intro v' w' h1 hg _
  refine h v' w' (by simpa [OI] using h1) ?_
  exact (Below.refl _ _).grown hg hbase (fun k hk=>(hown.lt k hk).1)
theorem run_append_of_nil {P:Program} (w:World) (base:Nat) (t ty e:TypeId) (i:TypeInfo) (size:Nat) (ht:P.underlying t = some (.slice e)) (hi:P.info? e = some i)
 (v:Value) (n:Nat) (xs:List Value) (hown:w.ownsRow base e size v n xs) (c:Nat):(Builtin.append_ #[t,t] ty #[v,.slice none 0 c]).run P w = .ok v w:=by
 rcases hown.2 with ⟨rfl,rfl⟩ | ⟨g,cap,cur,rfl,_,_,hnc,_⟩
 ·simp [Builtin.append_,run_underlying ht,sizeOf,typeInfo,hi,Builtin.lenOf,Builtin.firstCells]
 ·simp [Builtin.append_,run_underlying ht,sizeOf,typeInfo,hi,Builtin.lenOf,Builtin.firstCells,hnc,storeCells]
theorem appendAll {P:Program} {ops:Array Oper} {rest:List Oper} {o:Oper} {a:Act} {w:World} {Q:Exit → Act → World → Prop} (hgd:o.guard = none) (s x:Operand) (T:TypeId)
 (ho:o.op = .call { callee:=.builtin .append,args:=#[s,x],argTypes:=#[T,T] }) (ht:P.underlying T = some (.slice 3))
 (hinfo:(P.info? 3).map (fun i=>(i.zero,i.size,i.bytes)) = some (some (.int .i64 0),1,8))
 (base:Nat) (v:Value) (xs:List Int) (hs:a.eval s = v) (hown:OI w base v xs)
 (A:Option Addr) (ys:List Int) (m c':Nat) (hx:a.eval x = .slice A m c') (hm:ys.length = m) (hr:RI w A ys) (hlen:xs.length + m < 1099511627776) (hbase:base ≤ w.heap.size)
 (h:∀ v' w',OI w' base v' (xs ++ ys) → Below base w w' → wpList P ops Q rest (a.put o.dst v') w'):wpList P ops Q (o :: rest) a w:=by
 obtain ⟨i0,hi,hz0,hz1,hz2⟩:=info_parts hinfo
 by_cases hys:ys = []
 ·subst hys
  simp at hm
  subst hm
  cases A with
  | none =>
   refine wpList_plain hgd fun K hK=>?_
   have hrun:=run_append_of_nil (P:=P) w base T o.type 3 i0 1 ht hi v _ _ hown c'
   unfold Oper.wp
   simp [execOp,ho,resolve,invoke,builtin,hs,hx,hrun,Result.andThen]
   exact hK _ _ (h _ _ (by simpa using hown) (Below.refl _ _))
  | some ad =>
   refine wpList_append_own w hgd s x T ho base 3 i0 (.int .i64 0) 1 8 ht hi hz0 hz1 hz2 rfl (by decide) v xs.length _ hs hown ad 0 c' [] hx rfl (by simp) (by simp) (by unfold maxLen;omega) (by omega) hbase ?_
   intro v' w' h1 hg _
   exact h v' w' (by simpa [OI] using h1) ((Below.refl _ _).grown hg hbase (fun k hk=>(World.ownsRow.lt hown k hk).1))
 ·obtain ⟨b,off,rfl,hb,hc⟩:=hr hys
  refine wpList_append_own w hgd s x T ho base 3 i0 (.int .i64 0) 1 8 ht hi hz0 hz1 hz2 rfl (by decide) v xs.length _ hs hown ⟨b,off,none⟩ m c' (ys.map (Value.int .i64)) hx (by simpa using hm) ?_ ?_ ?_ ?_ hbase ?_
  ·intro j u hj
   have hjl:j < ys.length:=by
    have:=(List.getElem?_eq_some_iff.1 hj).1
    simpa using this
   have hcc:=hc j hjl
   have hu:u = .int .i64 (ys.getD j 0):=by simpa [hjl] using hj.symm
   rw [hu]
   unfold Addr.add
   by_cases h0:j = 0
   ·subst h0;simpa using hcc
   ·rw [if_neg h0];simpa using hcc
  ·intro u hu
   obtain ⟨z,_,rfl⟩:=List.mem_map.1 hu
   rfl
  ·unfold maxLen;omega
  ·omega
  ·intro v' w' h1 hg _
   exact h v' w' (by simpa [OI,hm] using h1) ((Below.refl _ _).grown hg hbase (fun k hk=>(World.ownsRow.lt hown k hk).1))
open Go.Joins Go.Deep
theorem lt_of_cell' {w:World} {b o:Nat} {s:Option Nat} {v:Value} (h:w.cell? ⟨b,o,s⟩ = some v):b < w.heap.size∧s = none:=by
 unfold World.cell? at h
 cases hb:w.heap[b]? with
 | none=>simp [hb] at h
 | some x =>
  refine ⟨(Array.getElem?_eq_some_iff.1 hb).1,?_⟩
  cases s with
  | none=>rfl
  | some s=>cases x <;> simp [hb] at h
def SI {α:Type} (At:World → Nat → Nat → α → Prop) (k:Nat) (d:α) (w:World) (A:Option Addr) (xs:List α):Prop :=
 xs ≠ [] → ∃ b off,A = some ⟨b,off,none⟩∧b < w.heap.size∧∀ i,i < xs.length → At w b (off + i * k) (xs.getD i d)
def Stays {α:Type} (At:World → Nat → Nat → α → Prop):Prop:=∀ (w w':World) (b o:Nat) (x:α),b < w.heap.size → At w b o x → Below w.heap.size w w' → At w' b o x
theorem SI.later {α:Type} {At:World → Nat → Nat → α → Prop} {k:Nat} {d:α} (hs:Stays At) {w w':World} {A:Option Addr} {xs:List α} (h:SI At k d w A xs) (hb:Below w.heap.size w w'):SI At k d w' A xs:=by
 intro hx
 obtain ⟨b,off,rfl,hlt,hc⟩:=h hx
 exact ⟨b,off,rfl,Nat.lt_of_lt_of_le hlt hb.size,fun i hi=>hs _ _ _ _ _ hlt (hc i hi) hb⟩
theorem SI.nil {α:Type} (At:World → Nat → Nat → α → Prop) (k:Nat) (d:α) (w:World) (A:Option Addr):SI At k d w A []:=fun h=>absurd rfl h
theorem cell_later {w w':World} {b o:Nat} {v:Value} (hlt:b < w.heap.size) (h:w.cell? ⟨b,o,none⟩ = some v) (hb:Below w.heap.size w w'):w'.cell? ⟨b,o,none⟩ = some v:=by
 rw [hb.cell (p:=⟨b,o,none⟩) hlt];exact h
theorem box_cell {w w2:World} {C:Array Value} {t:TypeId} (hb:Below (w.alloc (.cells C t)).heap.size (w.alloc (.cells C t)) w2) (j:Nat) {v:Value} (h:C[j]? = some v):w2.cell? ⟨w.heap.size,j,none⟩ = some v:=by
 rw [hb.cell (p:=⟨w.heap.size,j,none⟩) (by simp),cell_alloc_mark_at w C t _ _ j rfl]
 exact h
theorem box_below {w w2:World} {C:Array Value} {t:TypeId} (hb:Below (w.alloc (.cells C t)).heap.size (w.alloc (.cells C t)) w2):Below w.heap.size w w2:=(below_alloc1 w _).trans (below_le hb (by simp))
theorem own_cell {w w2:World} {C:Array Value} {t:TypeId} (hb:Below (w.alloc (.cells C t)).heap.size (w.alloc (.cells C t)) w2) {g:Nat} (hg:g = w.heap.size) :
 (∀ j v,C[j]? = some v → w2.cell? ⟨g,j,none⟩ = some v)∧∀ j,w2.frozen? ⟨g,j,none⟩ = false:=by
 subst hg
 refine ⟨fun j v h=>box_cell hb j h,fun j=>?_⟩
 rw [hb.frozen (p:=⟨w.heap.size,j,none⟩) (by simp)]
 exact unfrozen_of_block (cs:=C) (t:=t) (heap_alloc_new _ _) j
theorem below_step {w w2:World} {o:Obj} (hb:Below (w.alloc o).heap.size (w.alloc o) w2):Below w.heap.size w w2:=(below_alloc1 w _).trans (below_le hb (by simp))
theorem RO.far {w:World} {base:Nat} {v:Value} {xs:List Int} (h:RO w base v xs) {p:Addr} (hp:p.block < base) (u:Value):RO (w.setCell p u) base v xs:=by
 obtain ⟨A,c,rfl,hl,hc,h⟩:=h
 refine ⟨A,c,rfl,hl,hc,fun hx=>?_⟩
 obtain ⟨g,rfl,hg,ha⟩:=h hx
 exact ⟨g,rfl,hg,ha.far (by omega) u⟩
structure RatD where
 neg:Bool
 mag:List Int
 den:List Int
def zR:RatD:=⟨false,[],[]⟩
def RatAt (w:World) (b off:Nat) (r:RatD):Prop :=
 ∃ A c B d,w.cell? ⟨b,off,none⟩ = some (.bool r.neg)∧w.cell? ⟨b,off + 1,none⟩ = some (.slice A r.mag.length c)∧w.cell? ⟨b,off + 2,none⟩ = some (.slice B r.den.length d) ∧
  (r.mag.length ≤ c∧c ≤ maxLen∧r.den.length ≤ d∧d ≤ maxLen)∧RI w A r.mag∧RI w B r.den
def RatV (w:World) (v:Value) (r:RatD):Prop :=
 ∃ A c B d,v = .agg #[.bool r.neg,.slice A r.mag.length c,.slice B r.den.length d] ∧
  (r.mag.length ≤ c∧c ≤ maxLen∧r.den.length ≤ d∧d ≤ maxLen)∧RI w A r.mag∧RI w B r.den
theorem RatV.later {w w':World} {v:Value} {r:RatD} (h:RatV w v r) (hb:Below w.heap.size w w'):RatV w' v r:=by
 obtain ⟨A,c,B,d,rfl,hl,h1,h2⟩:=h
 exact ⟨A,c,B,d,rfl,hl,h1.later hb,h2.later hb⟩
theorem RatAt.stays:Stays RatAt:=by
 intro w w' b o x hlt h hb
 obtain ⟨A,c,B,d,h0,h1,h2,hl,h3,h4⟩:=h
 exact ⟨A,c,B,d,cell_later hlt h0 hb,cell_later hlt h1 hb,cell_later hlt h2 hb,hl,h3.later hb,h4.later hb⟩
def VI (w:World) (A:Option Addr) (rs:List RatD):Prop:=SI RatAt 3 zR w A rs
theorem VI.later {w w':World} {A:Option Addr} {rs:List RatD} (h:VI w A rs) (hb:Below w.heap.size w w'):VI w' A rs:=SI.later RatAt.stays h hb
theorem VI.nil (w:World) (A:Option Addr):VI w A []:=SI.nil _ _ _ w A
section
variable {H:Type} {enc:TypeId × Value → H} {P:Program} {w:World}
end
end Go.Proofs.YtchbnlkambncnaaGreatDoor
