/-
 Shared texts (X18).
-/
import Derived.Test.YtchbnlkambncnaaGreatDoorX15
import Derived.Test.YtchbnlkambncnaaGreatDoorX16
import Derived.Test.YtchbnlkambncnaaGreatDoorX17
namespace Go.Proofs.YtchbnlkambncnaaGreatDoor
open Go.RowKit Go.Joins Go.SX
noncomputable def cx (n:Int) (d:Nat):X:=@Int.rec (fun _=>X) (fun m=>@Nat.rec (fun _=>X) ⟨0,1,[]⟩ (fun k _=>⟨0,d,[(0,Int.ofNat (Nat.succ k))]⟩) m) (fun m=>⟨0,d,[(0,Int.negSucc m)]⟩) n
noncomputable def ptC (t:Nat) (x:X) (r:List C):List C:=.cell t 0 x :: .cell t 1 x :: .cell t 2 x :: r
noncomputable def ptsC (t:Nat) (l:List (Int × Nat)):List C:=@List.rec (Int × Nat) (fun _=>Nat → List C) (fun _=>[]) (fun p _ ih t=>ptC t (cx p.1 p.2) (ih (Nat.add t 1))) l t
noncomputable def intsC (l:List Int):List C:=@List.rec Int (fun _=>List C) [] (fun a _ ih=>.int a :: ih) l
noncomputable def tpN (n:Nat) (t:Nat) (k:List (Int × Nat) → List C) (l:List (Int × Nat)):List C :=
 @Nat.rec (fun _=>Nat → List (Int × Nat) → List C) (fun _ l=>k l) (fun _ ih t l=>List.casesOn l [] fun p l=>ptC t (cx p.1 p.2) (ih (Nat.add t 1) l)) n t l
noncomputable def tpC (rs:List (Nat × Nat)) (l:List (Int × Nat)):List C:=@List.rec (Nat × Nat) (fun _=>List (Int × Nat) → List C) (fun _=>[]) (fun r _ ih l=>tpN r.2 r.1 ih l) rs l
noncomputable def xpN (n:Nat) (k:List (Int × Nat) → List X) (l:List (Int × Nat)):List X :=
 @Nat.rec (fun _=>List (Int × Nat) → List X) (fun l=>k l) (fun _ ih l=>List.casesOn l [] fun p l=>cx p.1 p.2 :: ih l) n l
noncomputable def xpF (rs:List (Nat × Nat)) (l:List (Int × Nat)):List X:=@List.rec (Nat × Nat) (fun _=>List (Int × Nat) → List X) (fun _=>[]) (fun r _ ih l=>app (repl r.1 [⟨0,1,[]⟩]) (xpN r.2 ih l)) rs l
abbrev maA (k n m:Nat):V:=.s (.agg [.sl k 0 n 6,.sl (Nat.add k 1) 0 m 5])
noncomputable abbrev mmC (k t:Nat) (p:List (Int × Nat)) (l:List C):Cells:=[(k,ptsC t p),(Nat.add k 1,l)]
structure Kp where
 a0:List V
 m0:Cells
 nb:Nat
 nt:Nat
 v:V
 res:Cells
 xi:List X
noncomputable def Kp.ok (k:Kp) (orc:Orcs) (f:Nat):Bool :=
 bi (allB kdOk k.xi) (bi (keptIn k.m0 k.nb) (keptR k.nb (Nat.add k.nt (len k.xi)) k.v k.res (evCall Tryz.prog orc 100000 40 f k.a0 ⟨memT k.m0,k.nb,k.nt⟩)) false) false
noncomputable def Kp.orc (k:Kp):List V → St → Option R:=keptO k.a0 k.m0 k.nb k.nt k.v k.res k.xi
theorem kp_ok {k:Kp} {orc:Orcs} {f:Nat} (h:k.ok orc f = true) {val:X → Rat} {drw:Drw} (hc:CallOk Tryz.prog (toks val drw) (evCall Tryz.prog orc 100000 40)):OrcOne Tryz.prog (toks val drw) f k.orc:=by
 obtain ⟨h0,h⟩:=bi3 h
 obtain ⟨h1,h2⟩:=bi3 h
 refine keptO_ok (call:=evCall Tryz.prog orc 100000 40) hc ?_ h0
 have e:Nat.add k.nt (len k.xi) = k.nt + k.xi.length:=by rw [len_eq];rfl
 rw [e] at h2
 exact kept_of h1 h2
def OkP (p:Par) (o:Orcs):Prop:=∀ drw:Drw,OrcOk Tryz.prog (toks (X.val (p.l drw.fx)) drw) o
noncomputable def altL (l:List Kp) (vl:List V) (st:St):Option R:=@List.rec Kp (fun _=>Option R) none (fun k _ ih=>@Option.rec R (fun _=>Option R) ih (fun r=>some r) (k.orc vl st)) l
def AllK (l:List Kp) (o:Orcs) (f:Nat):Prop:=@List.rec Kp (fun _=>Prop) True (fun k _ ih=>k.ok o f = true∧ih) l
noncomputable def withK (f:Nat) (l:List Kp) (o:Orcs):Orcs:=withM f (altL l) o
theorem altL_ok {o:Orcs} {f:Nat} {val:X → Rat} {drw:Drw} (hc:CallOk Tryz.prog (toks val drw) (evCall Tryz.prog o 100000 40)):∀ {l:List Kp},AllK l o f → OrcOne Tryz.prog (toks val drw) f (altL l)
 | [],_=>fun _ _ _ h=>by cases h
 | k :: l,h=>by
  intro vl st r hr hst
  have hr:@Option.rec R (fun _=>Option R) (altL l vl st) (fun r=>some r) (k.orc vl st) = some r:=hr
  cases hq:k.orc vl st with
  | none=>rw [hq] at hr;exact altL_ok hc h.2 vl st r hr hst
  | some r' =>
   rw [hq] at hr
   injection hr with hr
   subst hr
   exact kp_ok h.1 hc vl st r' hq hst
theorem sx_run2 {p:Par} {tab:List (Nat × Nat × Nat)} {f:Nat} {orc:Orcs} (n c:Nat) (A:Option Addr) (y:Nat → Int) (w:World)
 (ho:OrcOk Tryz.prog (toks (X.val (p.l (fixOf A n c y))) ⟨tabF tab,fixOf A n c y⟩) orc)
 (hrun:isTrue (evCall Tryz.prog orc 100000 40 f [.s (.c .code)] ⟨.lf,0,0⟩) = true) (hn:n ≤ 1048576) (hy:Byt y) (hb:BE w A n y)
 (ht:∀ q ∈ tab,(fixOf A n c y).byte q.1 % q.2.1 = q.2.2) :
 Calls Tryz.prog f #[.slice A n c] w fun e u=>e = .returned (.bool true)∧Below w.heap.size w u:=by
 cases hq:evCall Tryz.prog orc 100000 40 f [.s (.c .code)] ⟨.lf,0,0⟩ with
 | none=>rw [hq] at hrun;cases hrun
 | some r =>
  rw [hq] at hrun
  have hv:r.v = vB true:=eqV_inv hrun
  have hst:StOk ⟨.lf,0,0⟩:=⟨Nat.zero_le _,fun _ _=>rfl⟩
  obtain ⟨_,_,hs⟩:=evCall_ok prog_ok ho 100000 40 f _ _ r hq hst
  let E:Env:=⟨noBlk,noTok,fixOf A n c y⟩
  have hgi:GI (toks (X.val (p.l (fixOf A n c y))) ⟨tabF tab,fixOf A n c y⟩) E w:=by
   refine ⟨(fun k p s h=>by cases h),(fun j cs h=>by cases h),(match A with | some a=>if n = 0 then [] else [a.block] | none=>[]),fun b hbm=>⟨?_,(fun k s h=>by cases h)⟩,A,n,c,y,rfl,hb,hy,hn,fun hn0 a ha=>?_,rfl,fun q m r h=>ht _ (tabF_inv h)⟩
   ·cases A with
    | none=>simp at hbm
    | some a =>
     by_cases hn0:n = 0
     ·simp [hn0] at hbm
     ·simp [hn0] at hbm
      subst hbm
      obtain ⟨b,o,e,hlt,_⟩:=hb hn0
      injection e with e
      rw [e];exact hlt
   ·subst ha
    simp [hn0]
  refine (hs E w [.slice A n c] ⟨⟨rfl,(fun a e=>by cases e),(fun a e=>by cases e)⟩,trivial⟩ ⟨hgi,(fun k b _ h=>by cases h),(fun k k' b b' p s s' _ _ h=>by cases h),(fun k _ _=>rfl),(fun j _ _=>rfl)⟩).mono fun e u ⟨x,F,he,ho⟩=>?_
  have hx:=ho.val
  rw [hv] at hx
  have hx':x = .bool true:=hx
  subst hx'
  exact ⟨he,ho.step.os,ho.step.tape,ho.step.output,ho.step.size,fun b hlt=>ho.step.kept b hlt (fun k _ s h=>by cases h)⟩
section
variable {val:X → Rat} {drw:Drw} {A:Alg}
theorem orBinK_ok (h:AlgOk val A) {o f:Nat} (ho:o ≤ 3) (hent:∀ vs w,(callFunc f vs).run Tryz.prog w = .ok (.enter f vs) w)
 (hc:∀ (x y:RatD) (u v:Value) (w:World),RatV w u x → RatV w v y → (x.mag.length ≤ 1048576∧x.den.length ≤ 1048576) → (y.mag.length ≤ 1048576∧y.den.length ≤ 1048576) → FE.ratOk x = true → FE.ratOk y = true →
  Calls Tryz.prog f #[u,v] w fun e w'=>∃ v',e = .returned v'∧RatP w' w.heap.size v' (binR o x y)∧Below w.heap.size w w'):OrcOne Tryz.prog (toks val drw) f (orBin A o):=by
 intro vl st r hr hst
 obtain ⟨p,h1,hr⟩:=ob_inv hr
 obtain ⟨z,h2,hr⟩:=ob_inv hr
 injection hr with hr
 subst hr
 refine ⟨eff_tok hst z,hent,fun E w vs hrel hp=>?_⟩
 obtain ⟨u,v,rfl,⟨s1,r1⟩,s2,r2⟩:=rat2_rel hp.gi h1 hrel
 obtain ⟨g,e⟩:=bin_is h ho h2 s1 s2
 exact calls_tok g e hp (hc _ _ u v w r1 r2 (small_len s1) (small_len s2) (is_of _ s1).ok (is_of _ s2).ok)
theorem orAddS_ok (h:AlgOk val A):OrcOne Tryz.prog (toks val drw) 188 (orBin A 0) :=
 orBinK_ok h (by omega) Tryz.call188 fun x y u v w h1 h2 f1 f2 g1 g2=>sRatAdd_ok x y u v w h1 h2 f1 f2 g1 g2
theorem orSubS_ok (h:AlgOk val A):OrcOne Tryz.prog (toks val drw) 234 (orBin A 1) :=
 orBinK_ok h (by omega) Tryz.call234 fun x y u v w h1 h2 f1 f2 g1 g2=>sRatSub_ok x y u v w h1 h2 f1 f2 g1 g2
theorem orMulS_ok (h:AlgOk val A):OrcOne Tryz.prog (toks val drw) 187 (orBin A 2) :=
 orBinK_ok h (by omega) Tryz.call187 fun x y u v w h1 h2 f1 f2 g1 g2=>sRatMul_ok x y u v w h1 h2 f1 f2 g1 g2
theorem orCopyS_ok (h:AlgOk val A):OrcOne Tryz.prog (toks val drw) 185 (orUn A 1):=by
 intro vl st r hr hst
 obtain ⟨x,h1,hr⟩:=ob_inv hr
 obtain ⟨z,h2,hr⟩:=ob_inv hr
 injection hr with hr
 subst hr
 refine ⟨eff_tok hst z,Tryz.call185,fun E w vs hrel hp=>?_⟩
 obtain ⟨u,rfl,s1,r1⟩:=rat1_rel hp.gi h1 hrel
 obtain ⟨g,e⟩:=h.cpy _ _ _ h2
 have l:=small_len s1
 exact calls_tok g (by rw [e]) hp (sCopy _ u w r1 l.1 l.2)
theorem orSgnS_ok (h:AlgOk val A):OrcOne Tryz.prog (toks val drw) 194 (orSgn A):=by
 intro vl st r hr hst
 obtain ⟨x,h1,hr⟩:=ob_inv hr
 obtain ⟨s,h2,hr⟩:=ob_inv hr
 injection hr with hr
 subst hr
 refine ⟨eff_pure hst _ _,Tryz.call194,fun E w vs hrel hp=>?_⟩
 obtain ⟨u,rfl,s1,r1⟩:=rat1_rel hp.gi h1 hrel
 have l:=small_len s1
 refine (sRatSign _ u w r1 l.1 l.2).mono fun e u ⟨he,hb⟩=>?_
 rw [rsig_ok (is_of _ s1).ok,rsgn_is s1 (h.sgn _ _ h2)] at he
 exact ⟨_,E,he,out_below hp.gi hb rfl⟩
theorem orCmpS_ok (h:AlgOk val A):OrcOne Tryz.prog (toks val drw) 195 (orCmp A):=by
 intro vl st r hr hst
 obtain ⟨p,h1,hr⟩:=ob_inv hr
 obtain ⟨s,h2,hr⟩:=ob_inv hr
 injection hr with hr
 subst hr
 refine ⟨eff_pure hst _ _,Tryz.call195,fun E w vs hrel hp=>?_⟩
 obtain ⟨u,v,rfl,⟨s1,r1⟩,s2,r2⟩:=rat2_rel hp.gi h1 hrel
 refine (sRatCmp _ _ _ _ _ _ (is_of _ s1).okr (is_of _ s2).okr u v w r1 r2).mono fun e u ⟨he,hb⟩=>?_
 rw [cmpV_is s1 s2 (h.cmp _ _ _ h2)] at he
 exact ⟨_,E,he,out_below hp.gi hb rfl⟩
theorem orEqS_ok (h:AlgOk val A):OrcOne Tryz.prog (toks val drw) 231 (orEq A):=by
 intro vl st r hr hst
 obtain ⟨p,h1,hr⟩:=ob_inv hr
 obtain ⟨s,h2,hr⟩:=ob_inv hr
 injection hr with hr
 subst hr
 refine ⟨eff_pure hst _ _,Tryz.call231,fun E w vs hrel hp=>?_⟩
 obtain ⟨u,v,rfl,⟨s1,r1⟩,s2,r2⟩:=rat2_rel hp.gi h1 hrel
 have l1:=small_len s1
 have l2:=small_len s2
 refine (sRatEqual _ _ u v w r1 r2 l1.1 l1.2 l2.1 l2.2).mono fun e u ⟨he,hb⟩=>?_
 rw [same_is s1 s2 (h.cmp _ _ _ h2)] at he
 exact ⟨_,E,he,out_below hp.gi hb rfl⟩
theorem orOkS_ok:OrcOne Tryz.prog (toks val drw) 193 orTrue:=by
 intro vl st r hr hst
 obtain ⟨x,h1,hr⟩:=ob_inv hr
 injection hr with hr
 subst hr
 refine ⟨eff_pure hst _ _,Tryz.call193,fun E w vs hrel hp=>?_⟩
 obtain ⟨u,rfl,s1,r1⟩:=rat1_rel hp.gi h1 hrel
 have l:=small_len s1
 refine (sRatOk _ u w r1 l.1 l.2).mono fun e u ⟨he,hb⟩=>?_
 rw [(is_of _ s1).ok] at he
 exact ⟨_,E,he,out_below hp.gi hb rfl⟩
end
structure Ms where
 p:List (Int × Nat)
 t:List C
 n:Nat
 m:Nat
noncomputable abbrev Ms.c (a:Ms):Cells:=mmC 0 0 a.p a.t
noncomputable def kB (a:Ms) (d:Nat):Kp:=⟨[maA 0 a.n a.m],a.c,2,Nat.mul 2 a.n,.s (.c (.bool true)),[],repl d [⟨0,1,[]⟩]⟩
noncomputable def kE (a:Ms) (k e:Nat) (t:List C):Kp:=⟨[maA 0 a.n a.m],a.c,2,Nat.mul 2 a.n,.s (.c (.sl k 0 e 4)),[(k,t)],[]⟩
noncomputable def kI (a:Ms) (i:Int) (k j:Nat) (r:List (Nat × Nat)) (b:Ms) (q:List (Nat × Nat)):Kp :=
 ⟨[maA 0 a.n a.m,.s (.c (.sl 2 0 1 1))],app a.c [(2,[.int i])],3,Nat.mul 2 a.n,.s (.agg [.sl k 0 b.n 6,.sl j 0 b.m 5]),[(k,tpC r b.p),(j,b.t)],xpF q b.p⟩
theorem withK2_ok {p:Par} {o q:Orcs} (ho:OkP p o) (hq:OkP p q) {f:Nat} {l:List Kp} (h:AllK l q f):OkP p (withK f l o):=fun drw=>with_ok (altL_ok (call_ok (hq drw)) h) (ho drw)
noncomputable def runB (o:Orcs) (f:Nat):Bool:=isTrue (evCall Tryz.prog o 100000 40 f [.s (.c .code)] ⟨.lf,0,0⟩)
def TabOk (fx:Fix) (l:List (Nat × Nat × Nat)):Prop:=@List.rec (Nat × Nat × Nat) (fun _=>Prop) True (fun q _ ih=>fx.byte q.1 % q.2.1 = q.2.2∧ih) l
theorem tabOk_all {fx:Fix}:∀ {l:List (Nat × Nat × Nat)},TabOk fx l → ∀ q ∈ l,fx.byte q.1 % q.2.1 = q.2.2
 | _ :: _,h,q,hq=>by
  rcases List.mem_cons.1 hq with rfl | hq
  ·exact h.1
  ·exact tabOk_all h.2 q hq
/-! ### A coefficient of which one draw is known -/
noncomputable def orCoefT (tab:Nat → Nat → Option Nat) (kx:Nat → Option X) (l:List V) (st:St):Option R :=
 ob (two l) fun q=>ob (drAt q.1 1 4) fun p=>ob (cInt q.2) fun d=>ob (tab (Nat.add p 1) 2) fun b=>bi (ibeq d (Int.ofNat (Nat.add b 1))) (ob (kx p) fun z=>some (tokR st z)) none
theorem orCoefT_ok {val:X → Rat} {drw:Drw} {kx:Nat → Option X} (h:KxOk val drw kx):OrcOne Tryz.prog (toks val drw) 54 (orCoefT drw.tab kx):=by
 intro vl st r hr hst
 obtain ⟨q,h1,hr⟩:=ob_inv hr
 obtain ⟨p,h2,hr⟩:=ob_inv hr
 obtain ⟨d,h3,hr⟩:=ob_inv hr
 obtain ⟨b,h6,hr⟩:=ob_inv hr
 obtain ⟨h4,hr⟩:=bi_inv hr
 obtain ⟨z,h5,hr⟩:=ob_inv hr
 injection hr with hr
 subst hr
 refine ⟨eff_tok hst z,Tryz.call54,fun E w vs hrel hp=>?_⟩
 obtain ⟨u,v,rfl,hu,hv⟩:=two_rel h1 hrel
 rw [drAt_inv h2] at hu
 rw [cInt_inv h3] at hv
 have hu':u = .int .i64 (1 + (E.fix.byte p % 4:Nat)):=hu
 have hv':v = .int .i64 d:=hv
 subst hu';subst hv'
 rw [ibeq_eq,beq_iff_eq] at h4
 have hdr:∀ p m r,drw.tab p m = some r → drw.fx.byte p % m = r:=by
  obtain ⟨F,_,hb⟩:=hp.gi.base
  obtain ⟨A,n,c,y,e,_,_,_,_,hd⟩:=(show BaseOk drw E.fix F w from hb)
  intro p m r h
  rw [← hd.1]
  exact hd.2 p m r h
 have hb:=hdr (p + 1) 2 b h6
 rw [fix_of hp.gi]
 obtain ⟨g,e⟩:=h p z h5
 have m1:drw.fx.byte p % 4 < 4:=Nat.mod_lt _ (by decide)
 have m2:drw.fx.byte (p + 1) % 2 < 2:=Nat.mod_lt _ (by decide)
 rw [hb] at e m2
 have hd:d = 1 + (b:Int):=by rw [h4,Int.ofNat_eq_natCast,Nat.add_eq];omega
 subst hd
 generalize drw.fx.byte p % 4 = a at *
 have hc:=sRatOf (1 + (a:Int)) (1 + (b:Int)) (by omega) (by omega) (by omega) (by omega) w
 have hn:((1:Int) + (b:Int)).natAbs = 1 + b:=by omega
 rw [hn] at hc
 exact calls_tok g (low_is z (by omega) e g.sm) hp hc
noncomputable def orcDG (p:Par):Orcs:=(fun A:Alg =>
 withM 195 (orCmp A) <|
 withM 193 orTrue <|
 withM 234 (orBin A 1) <|
 withM 187 (orBin A 2) <|
 withM 188 (orBin A 0) <|
 withM 194 (orSgn A) <|
 withM 185 (orUn A 1) <|
 withM 231 (orEq A) <|
 withM 54 (orNum A (-10)) <|
 withM 82 (orInt A (-10)) <|
 withM 184 orCmpI <|
 withM 61 orTriEq <|
 withM 223 (orBin A 1) <|
 withM 224 (orBin A 2) <|
 withM 36 (orUn A 1) <|
 withM 13 (orSgn A) <|
 withM 34 (orSgn A) <|
 withM 181 (orCmp A) <|
 withM 15 (orEq A) <|
 withM 33 orTrue <|
 withM 253 orTrue <|
 withM 76 (orIsSmall A) <|
 withM 77 (orSmall A) <|
 withM 100 orAre <|
 withM 67 orWithin <|
 fun _=>none) (algO p.cfg)
theorem orcDG_ok {p:Par} (h:p.ok = true):OkP p (orcDG p):=fun drw =>
 have hA:=algO_ok (par_ok h drw.fx).1
 with_ok (orCmpS_ok hA) <|
 with_ok orOkS_ok <|
 with_ok (orSubS_ok hA) <|
 with_ok (orMulS_ok hA) <|
 with_ok (orAddS_ok hA) <|
 with_ok (orSgnS_ok hA) <|
 with_ok (orCopyS_ok hA) <|
 with_ok (orEqS_ok hA) <|
 with_ok (orOf_ok hA) <|
 with_ok (orInt_ok hA) <|
 with_ok orCmpI_ok <|
 with_ok orTriEq_ok <|
 with_ok (orSub_ok hA) <|
 with_ok (orMul_ok hA) <|
 with_ok (orCopy_ok hA) <|
 with_ok (orSgn_ok hA) <|
 with_ok (orSgnM_ok hA) <|
 with_ok (orCompare_ok hA) <|
 with_ok (orEq_ok hA) <|
 with_ok orOk_ok <|
 with_ok orIsRat_ok <|
 with_ok (orIsSmall_ok hA) <|
 with_ok (orSmall_ok hA) <|
 with_ok orAre_ok <|
 with_ok orWithin_ok <|
 none_ok
noncomputable def orcDL (p:Par) (cs:List X) (tab:List (Nat × Nat × Nat)) (o:Orcs):Orcs:=(fun (A:Alg) (T:List (X × List TE)) =>
 withM 26 (orFew (uxF p.cfg.hs p.bs)) <|
 withM 53 orByte <|
 withM 82 (altM (orDrawn (fxF p.cfg.hs p.bs)) (orInt A (-10))) <|
 withM 54 (altM (orCoef (kxF p.cfg.hs p.bs)) (altM (orCoefT (tabF tab) (kxF p.cfg.hs p.bs)) (orNum A (-10)))) <|
 withM 18 orNew <|
 withM 55 (orBelow ⟨tabF tab,⟨.nilFunc,fun _=>#[],fun _=>0⟩⟩) <|
 withM 42 orSplit <|
 withM 86 orCut <|
 withM 46 orJoin <|
 withM 50 orFmtInt <|
 withM 87 orParseInt <|
 withM 52 (orFmtRat T) <|
 withM 47 (orParseRat T) <|
 withM 23 (orFmtMesh T) <|
 o) (algO p.cfg) (txTab p (algO p.cfg) cs [0,3,6] [2,5,8])
theorem orcDL_ok {p:Par} (h:p.ok = true) (cs:List X) {tab:List (Nat × Nat × Nat)} {o:Orcs} (ho:OkP p o) {drw:Drw} (hd:drw.tab = tabF tab):OrcOk Tryz.prog (toks (X.val (p.l drw.fx)) drw) (orcDL p cs tab o):=by
 have hA:=algO_ok (par_ok h drw.fx).1
 have hT:=txTab_ok (drw:=drw) h hA cs [0,3,6] [2,5,8]
 have hB:OrcOne Tryz.prog (toks (X.val (p.l drw.fx)) drw) 55 (orBelow ⟨tabF tab,⟨.nilFunc,fun _=>#[],fun _=>0⟩⟩):=by
  rw [← hd]
  exact (show OrcOne Tryz.prog (toks (X.val (p.l drw.fx)) drw) 55 (orBelow drw) from orBelow_ok)
 have hK:OrcOne Tryz.prog (toks (X.val (p.l drw.fx)) drw) 54 (orCoefT (tabF tab) (kxF p.cfg.hs p.bs)):=by
  rw [← hd]
  exact orCoefT_ok (kx_ok h drw)
 exact
  with_ok (orFew_ok (ux_ok h drw)) <|
  with_ok orByte_ok <|
  with_ok (alt_ok (orDrawn_ok (fx_ok h drw)) (orInt_ok hA)) <|
  with_ok (alt_ok (orCoef_ok (kx_ok h drw)) (alt_ok hK (orOf_ok hA))) <|
  with_ok orNew_ok <|
  with_ok hB <|
  with_ok orSplit_ok <|
  with_ok orCut_ok <|
  with_ok orJoin_ok <|
  with_ok orFmtInt_ok <|
  with_ok orParseInt_ok <|
  with_ok (orFmtRat_ok hT) <|
  with_ok (orParseRat_ok hT) <|
  with_ok (orFmtMesh_ok hT) <|
  ho drw
/-! ### The draws of the coarse mesh, in one -/
noncomputable def coL:List (List (Nat × Nat × Nat)):=[[(0,3,0),(1,2,0)],[(0,3,0),(1,2,1)],[(0,3,1),(1,3,0)],[(0,3,1),(1,3,1)],[(0,3,1),(1,3,2)],[(0,3,2)]]
noncomputable def runC (o:List (Nat × Nat × Nat) → Orcs) (l:List (Nat × Nat × Nat)) (f:Nat):Bool:=allB (fun c=>runB (o (app c l)) f) coL
theorem coL_ex (fx:Fix):∃ c ∈ coL,TabOk fx c:=by
 have h:fx.byte 0 % 3 = 0∧fx.byte 1 % 2 = 0 ∨ fx.byte 0 % 3 = 0∧fx.byte 1 % 2 = 1 ∨ fx.byte 0 % 3 = 1∧fx.byte 1 % 3 = 0 ∨ fx.byte 0 % 3 = 1∧fx.byte 1 % 3 = 1 ∨ fx.byte 0 % 3 = 1∧fx.byte 1 % 3 = 2 ∨ fx.byte 0 % 3 = 2:=by omega
 rcases h with h | h | h | h | h | h
 ·exact ⟨_,List.mem_cons_self,h.1,h.2,trivial⟩
 ·exact ⟨_,List.mem_cons_of_mem _ List.mem_cons_self,h.1,h.2,trivial⟩
 ·exact ⟨_,List.mem_cons_of_mem _ (List.mem_cons_of_mem _ List.mem_cons_self),h.1,h.2,trivial⟩
 ·exact ⟨_,List.mem_cons_of_mem _ (List.mem_cons_of_mem _ (List.mem_cons_of_mem _ List.mem_cons_self)),h.1,h.2,trivial⟩
 ·exact ⟨_,List.mem_cons_of_mem _ (List.mem_cons_of_mem _ (List.mem_cons_of_mem _ (List.mem_cons_of_mem _ List.mem_cons_self))),h.1,h.2,trivial⟩
 ·exact ⟨_,List.mem_cons_of_mem _ (List.mem_cons_of_mem _ (List.mem_cons_of_mem _ (List.mem_cons_of_mem _ (List.mem_cons_of_mem _ List.mem_cons_self)))),h,trivial⟩
theorem tabOk_app {fx:Fix} {l:List (Nat × Nat × Nat)} (hl:TabOk fx l):∀ {c:List (Nat × Nat × Nat)},TabOk fx c → TabOk fx (app c l)
 | [],_=>hl
 | _ :: _,h=>⟨h.1,tabOk_app hl h.2⟩
theorem runC_ex {o:List (Nat × Nat × Nat) → Orcs} {l:List (Nat × Nat × Nat)} {f:Nat} (h:runC o l f = true) (fx:Fix) (hl:TabOk fx l):∃ l',runB (o l') f = true∧TabOk fx l':=by
 obtain ⟨c,hc,ht⟩:=coL_ex fx
 exact ⟨_,allB_inv h c hc,tabOk_app hl ht⟩
end Go.Proofs.YtchbnlkambncnaaGreatDoor
