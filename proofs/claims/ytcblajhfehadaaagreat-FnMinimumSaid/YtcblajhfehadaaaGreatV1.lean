/-
 Shared texts (V1).
-/
import Derived.Test.YtcblajhfehadaaaGreatQ16
import Derived.Test.YtcblajhfehadaaaGreatQ14
import Derived.Test.YtcblajhfehadaaaGreatQ12
import Derived.Test.YtcblajhfehadaaaGreatQ9
set_option maxRecDepth 100000
set_option maxHeartbeats 4000000
namespace Go.Proofs.YtcblajhfehadaaaGreat
open Go.RowKit Go.Joins Go.SX
noncomputable def tabF (l:List (Nat × Nat × Nat)) (p m:Nat):Option Nat:=@List.rec (Nat × Nat × Nat) (fun _=>Option Nat) none (fun a _ ih=>bi (Nat.beq a.1 p) (bi (Nat.beq a.2.1 m) (some a.2.2) ih) ih) l
theorem tabF_inv {p m r:Nat}:∀ {l:List (Nat × Nat × Nat)},tabF l p m = some r → (p,m,r) ∈ l
 | [],h=>by cases h
 | a :: l,h=>by
  have h:bi (Nat.beq a.1 p) (bi (Nat.beq a.2.1 m) (some a.2.2) (tabF l p m)) (tabF l p m) = some r:=h
  cases h1:Nat.beq a.1 p with
  | false=>rw [h1] at h;exact List.mem_cons_of_mem _ (tabF_inv (show tabF l p m = some r from h))
  | true =>
   rw [h1] at h
   cases h2:Nat.beq a.2.1 m with
   | false=>rw [h2] at h;exact List.mem_cons_of_mem _ (tabF_inv (show tabF l p m = some r from h))
   | true =>
    rw [h2] at h
    injection h with h
    obtain ⟨x,y,z⟩:=a
    rw [← beq_inv h1,← beq_inv h2,← h]
    exact List.mem_cons_self
def noBlk:Nat → Option (Nat × Nat):=fun _=>none
def noTok:Nat → Option TokD:=fun _=>none
theorem prog_ok:ProgOk Tryz.prog:=by
 refine ⟨by kernel_rfl,fun f fn h=>?_⟩
 have ha:allB (fun fn:Func=>!(fn.name == "runtime.NumGoroutine")) Tryz.prog.funcs.toList = true:=by kernel_rfl
 have hm:fn ∈ Tryz.prog.funcs.toList:=by
  rw [← Array.getElem?_toList] at h
  exact List.mem_of_getElem? h
 have:=allB_inv ha fn hm
 simpa using this
theorem call_ok {val:X → Rat} {drw:Drw} {orc:Orcs} (ho:OrcOk Tryz.prog (toks val drw) orc):CallOk Tryz.prog (toks val drw) (evCall Tryz.prog orc 100000 40):=evCall_ok prog_ok ho 100000 40
theorem be_of_bi {w:World} {A:Option Addr} {n:Nat} (h:BI w A n):∃ y,Byt y∧BE w A n y:=by
 by_cases hn:n = 0
 ·exact ⟨fun _=>0,fun _=>⟨Int.le_refl 0,(by omega:(0:Int) < 256)⟩,fun h=>absurd hn h⟩
 ·obtain ⟨b,o,rfl,hlt,hc⟩:=h hn
  have hc':∀ j,∃ x:Int,(0 ≤ x∧x < 256)∧(j < n → w.cell? ⟨b,o + j,none⟩ = some (.int .u8 x)):=by
   intro j
   by_cases hj:j < n
   ·obtain ⟨x,h1,h2⟩:=hc j hj
    exact ⟨x,h1,fun _=>h2⟩
   ·exact ⟨0,by decide,fun h=>absurd h hj⟩
  refine ⟨fun j=>(hc' j).choose,fun j=>(hc' j).choose_spec.1,fun _=>⟨b,o,rfl,hlt,fun j hj=>(hc' j).choose_spec.2 hj⟩⟩
set_option maxRecDepth 1000000
noncomputable def tks (t n:Nat):List C:=@Nat.rec (fun _=>Nat → List C) (fun _=>[]) (fun _ ih t=>.cell t 0 (stepX t) :: .cell t 1 (stepX t) :: .cell t 2 (stepX t) :: ih (Nat.add t 1)) n t
noncomputable def cat (l:List (List C)):List C:=@List.rec (List C) (fun _=>List C) [] (fun a _ ih=>app a ih) l
structure Tmp where
 f:Nat
 a0:List V
 m0:Cells
 nb0:Nat
 nt0:Nat
 v:V
 res:Cells
 tab:List Nd
 sg:List (Nat × Int)
noncomputable def Tmp.call (t:Tmp):CallFn:=evCall Tryz.prog (orcA (algT t.nt0 t.tab t.sg)) 100000 40
noncomputable def Tmp.ok (t:Tmp):Bool:=bi (keptIn t.m0 t.nb0) (keptR t.nb0 (Nat.add t.nt0 (len t.tab)) t.v t.res (t.call t.f t.a0 ⟨memT t.m0,t.nb0,t.nt0⟩)) false
noncomputable def Tmp.orc (t:Tmp) (A:Alg):List V → St → Option R:=tmO A t.a0 t.m0 t.nb0 t.nt0 t.v t.res t.tab t.sg
theorem tmp_ok {t:Tmp} (h:t.ok = true) {val:X → Rat} {drw:Drw} {A:Alg} (hA:AlgOk val A):OrcOne Tryz.prog (toks val drw) t.f (t.orc A):=by
 obtain ⟨h1,h2⟩:=bi3 h
 refine tmO_ok (call:=t.call) hA (fun q hq=>call_ok (orcA_ok (algT_ok hq))) ?_
 have e:Nat.add t.nt0 (len t.tab) = t.nt0 + t.tab.length:=by rw [len_eq];rfl
 rw [e] at h2
 exact kept_of h1 h2
noncomputable def tmGrad:Tmp:=⟨205,[.s (.c (.sl 0 0 3 6))],[(0,tks 0 6)],1,6,.s (.c (.sl 66 0 3 6)),[(66,cat [tks 21 1,tks 23 1,tks 25 1,tks 27 1,tks 29 1,tks 31 1])],[.bin 1 2 0,.bin 1 3 1,.bin 1 4 0,.bin 1 5 1,.bin 2 6 9,.bin 2 7 8,.bin 1 10 11,.bin 1 2 0,.bin 1 3 1,.bin 1 4 0,.bin 1 5 1,.bin 2 13 16,.bin 2 14 15,.bin 1 17 18,.bin 1 3 5,.bin 3 20 19,.bin 1 4 2,.bin 3 22 19,.bin 1 5 1,.bin 3 24 19,.bin 1 0 4,.bin 3 26 19,.bin 1 1 3,.bin 3 28 19,.bin 1 2 0,.bin 3 30 19],[(12,1)]⟩
theorem tmGrad_ok:tmGrad.ok = true:=by kernel_rfl
noncomputable def tmLGrad:Tmp:=⟨249,[.s (.c (.sl 0 0 3 6)),.s (.c (.sl 1 0 3 3))],[(0,tks 0 6),(1,tks 6 3)],2,9,.s (.agg (tks 54 2)),[],[.bin 1 2 0,.bin 1 3 1,.bin 1 4 0,.bin 1 5 1,.bin 2 9 12,.bin 2 10 11,.bin 1 13 14,.num 0 1,.num 0 1,.bin 1 2 0,.bin 1 3 1,.bin 1 4 0,.bin 1 5 1,.bin 2 18 21,.bin 2 19 20,.bin 1 22 23,.bin 1 2 0,.bin 1 3 1,.bin 1 4 0,.bin 1 5 1,.bin 2 25 28,.bin 2 26 27,.bin 1 29 30,.bin 1 3 5,.bin 3 32 31,.bin 1 4 2,.bin 3 34 31,.bin 1 5 1,.bin 3 36 31,.bin 1 0 4,.bin 3 38 31,.bin 1 1 3,.bin 3 40 31,.bin 1 2 0,.bin 3 42 31,.bin 2 6 33,.bin 2 6 35,.bin 0 16 44,.bin 0 17 45,.bin 2 7 37,.bin 2 7 39,.bin 0 46 48,.bin 0 47 49,.bin 2 8 41,.bin 2 8 43,.bin 0 50 52,.bin 0 51 53],[(15,1),(24,1)]⟩
theorem tmLGrad_ok:tmLGrad.ok = true:=by kernel_rfl
noncomputable def tmArea:Tmp:=⟨168,[.s (.c (.sl 0 0 3 6))],[(0,tks 0 6)],1,6,.s (.agg (tks 14 1)),[],[.num 1 2,.bin 1 2 0,.bin 1 3 1,.bin 1 4 0,.bin 1 5 1,.bin 2 7 10,.bin 2 8 9,.bin 1 11 12,.bin 2 6 13],[]⟩
theorem tmArea_ok:tmArea.ok = true:=by kernel_rfl
noncomputable def tmProp:Tmp:=⟨231,[.s (.c (.sl 0 0 3 6))],[(0,tks 0 6)],1,6,.s (.c (.bool true)),[],[.bin 1 2 0,.bin 1 3 1,.bin 1 4 0,.bin 1 5 1,.bin 2 6 9,.bin 2 7 8,.bin 1 10 11],[(12,1)]⟩
theorem tmProp_ok:tmProp.ok = true:=by kernel_rfl
noncomputable def tmLStiff:Tmp:=⟨173,[.s (.c (.sl 0 0 3 6))],[(0,tks 0 6)],1,6,.s (.c (.sl 295 0 3 1)),[(295,[.sl 141 0 3 3,.sl 217 0 3 3,.sl 293 0 3 3]),(141,cat [tks 44 1,tks 57 1,tks 70 1]),(217,cat [tks 83 1,tks 96 1,tks 109 1]),(293,cat [tks 122 1,tks 135 1,tks 148 1])],[.bin 1 2 0,.bin 1 3 1,.bin 1 4 0,.bin 1 5 1,.bin 2 6 9,.bin 2 7 8,.bin 1 10 11,.bin 1 2 0,.bin 1 3 1,.bin 1 4 0,.bin 1 5 1,.bin 2 13 16,.bin 2 14 15,.bin 1 17 18,.bin 1 3 5,.bin 3 20 19,.bin 1 4 2,.bin 3 22 19,.bin 1 5 1,.bin 3 24 19,.bin 1 0 4,.bin 3 26 19,.bin 1 1 3,.bin 3 28 19,.bin 1 2 0,.bin 3 30 19,.num 1 2,.bin 1 2 0,.bin 1 3 1,.bin 1 4 0,.bin 1 5 1,.bin 2 33 36,.bin 2 34 35,.bin 1 37 38,.bin 2 32 39,.bin 2 21 21,.bin 2 23 23,.bin 0 41 42,.bin 2 40 43,.num 1 2,.bin 1 2 0,.bin 1 3 1,.bin 1 4 0,.bin 1 5 1,.bin 2 46 49,.bin 2 47 48,.bin 1 50 51,.bin 2 45 52,.bin 2 21 25,.bin 2 23 27,.bin 0 54 55,.bin 2 53 56,.num 1 2,.bin 1 2 0,.bin 1 3 1,.bin 1 4 0,.bin 1 5 1,.bin 2 59 62,.bin 2 60 61,.bin 1 63 64,.bin 2 58 65,.bin 2 21 29,.bin 2 23 31,.bin 0 67 68,.bin 2 66 69,.num 1 2,.bin 1 2 0,.bin 1 3 1,.bin 1 4 0,.bin 1 5 1,.bin 2 72 75,.bin 2 73 74,.bin 1 76 77,.bin 2 71 78,.bin 2 25 21,.bin 2 27 23,.bin 0 80 81,.bin 2 79 82,.num 1 2,.bin 1 2 0,.bin 1 3 1,.bin 1 4 0,.bin 1 5 1,.bin 2 85 88,.bin 2 86 87,.bin 1 89 90,.bin 2 84 91,.bin 2 25 25,.bin 2 27 27,.bin 0 93 94,.bin 2 92 95,.num 1 2,.bin 1 2 0,.bin 1 3 1,.bin 1 4 0,.bin 1 5 1,.bin 2 98 101,.bin 2 99 100,.bin 1 102 103,.bin 2 97 104,.bin 2 25 29,.bin 2 27 31,.bin 0 106 107,.bin 2 105 108,.num 1 2,.bin 1 2 0,.bin 1 3 1,.bin 1 4 0,.bin 1 5 1,.bin 2 111 114,.bin 2 112 113,.bin 1 115 116,.bin 2 110 117,.bin 2 29 21,.bin 2 31 23,.bin 0 119 120,.bin 2 118 121,.num 1 2,.bin 1 2 0,.bin 1 3 1,.bin 1 4 0,.bin 1 5 1,.bin 2 124 127,.bin 2 125 126,.bin 1 128 129,.bin 2 123 130,.bin 2 29 25,.bin 2 31 27,.bin 0 132 133,.bin 2 131 134,.num 1 2,.bin 1 2 0,.bin 1 3 1,.bin 1 4 0,.bin 1 5 1,.bin 2 137 140,.bin 2 138 139,.bin 1 141 142,.bin 2 136 143,.bin 2 29 29,.bin 2 31 31,.bin 0 145 146,.bin 2 144 147],[(12,1)]⟩
theorem tmLStiff_ok:tmLStiff.ok = true:=by kernel_rfl
noncomputable def tmInteg:Tmp:=⟨95,[.s (.c (.sl 0 0 3 6)),.s (.c (.sl 1 0 3 3))],[(0,tks 0 6),(1,tks 6 3)],2,9,.s (.agg (tks 31 1)),[],[.bin 1 2 0,.bin 1 3 1,.bin 1 4 0,.bin 1 5 1,.bin 2 9 12,.bin 2 10 11,.bin 1 13 14,.num 1 2,.bin 1 2 0,.bin 1 3 1,.bin 1 4 0,.bin 1 5 1,.bin 2 17 20,.bin 2 18 19,.bin 1 21 22,.bin 2 16 23,.num 1 3,.num 0 1,.bin 0 26 6,.bin 0 27 7,.bin 0 28 8,.bin 2 25 29,.bin 2 24 30],[(15,1)]⟩
theorem tmInteg_ok:tmInteg.ok = true:=by kernel_rfl
noncomputable def tmCopyP:Tmp:=⟨170,[.s (.agg (tks 0 2))],[],0,2,.s (.agg (tks 2 2)),[],[.un 1 0,.un 1 1],[]⟩
theorem tmCopyP_ok:tmCopyP.ok = true:=by kernel_rfl
noncomputable def tmValidP:Tmp:=⟨129,[.s (.agg (tks 0 2))],[],0,2,.s (.c (.bool true)),[],[],[]⟩
theorem tmValidP_ok:tmValidP.ok = true:=by kernel_rfl
noncomputable def tmIfP:Tmp:=⟨250,[.s (.agg (tks 0 2))],[],0,2,.s (.agg (tks 0 2)),[],[],[]⟩
theorem tmIfP_ok:tmIfP.ok = true:=by kernel_rfl
noncomputable def tmSubP:Tmp:=⟨210,[.s (.agg (tks 0 2)),.s (.agg (tks 2 2))],[],0,4,.s (.agg (tks 4 2)),[],[.bin 1 0 2,.bin 1 1 3],[]⟩
theorem tmSubP_ok:tmSubP.ok = true:=by kernel_rfl
noncomputable def tmAddP:Tmp:=⟨251,[.s (.agg (tks 0 2)),.s (.agg (tks 2 2))],[],0,4,.s (.agg (tks 4 2)),[],[.bin 0 0 2,.bin 0 1 3],[]⟩
theorem tmAddP_ok:tmAddP.ok = true:=by kernel_rfl
noncomputable def tmScaleP:Tmp:=⟨209,[.s (.agg (tks 0 1)),.s (.agg (tks 1 2))],[],0,3,.s (.agg (tks 3 2)),[],[.bin 2 0 1,.bin 2 0 2],[]⟩
theorem tmScaleP_ok:tmScaleP.ok = true:=by kernel_rfl
noncomputable def tmCrossP:Tmp:=⟨242,[.s (.agg (tks 0 2)),.s (.agg (tks 2 2))],[],0,4,.s (.agg (tks 6 1)),[],[.bin 2 0 3,.bin 2 1 2,.bin 1 4 5],[]⟩
theorem tmCrossP_ok:tmCrossP.ok = true:=by kernel_rfl
noncomputable def tmInnerP:Tmp:=⟨207,[.s (.agg (tks 0 2)),.s (.agg (tks 2 2))],[],0,4,.s (.agg (tks 6 1)),[],[.bin 2 0 2,.bin 2 1 3,.bin 0 4 5],[]⟩
theorem tmInnerP_ok:tmInnerP.ok = true:=by kernel_rfl
noncomputable def tmDArea:Tmp:=⟨190,[.s (.agg (tks 0 2)),.s (.agg (tks 2 2)),.s (.agg (tks 4 2))],[],0,6,.s (.agg (tks 12 1)),[],[.bin 1 2 0,.bin 1 3 1,.bin 1 4 0,.bin 1 5 1,.bin 2 6 9,.bin 2 7 8,.bin 1 10 11],[]⟩
theorem tmDArea_ok:tmDArea.ok = true:=by kernel_rfl
noncomputable def cx (n:Int) (d:Nat):X:=@Int.rec (fun _=>X) (fun m=>@Nat.rec (fun _=>X) ⟨0,1,[]⟩ (fun k _=>⟨0,d,[(0,Int.ofNat (Nat.succ k))]⟩) m) (fun m=>⟨0,d,[(0,Int.negSucc m)]⟩) n
noncomputable def ptC (t:Nat) (x:X) (r:List C):List C:=.cell t 0 x :: .cell t 1 x :: .cell t 2 x :: r
noncomputable def ptsC (t:Nat) (l:List (Int × Nat)):List C:=@List.rec (Int × Nat) (fun _=>Nat → List C) (fun _=>[]) (fun p _ ih t=>ptC t (cx p.1 p.2) (ih (Nat.add t 1))) l t
noncomputable def intsC (l:List Int):List C:=@List.rec Int (fun _=>List C) [] (fun a _ ih=>.int a :: ih) l
structure Mk where
 m0:Cells
 np:Nat
 nt:Nat
 ex:List V
 v:V
 res:Cells
noncomputable def Mk.args (k:Mk):List V:=.s (.agg [.sl 0 0 k.np 6,.sl 1 0 k.nt 5]) :: k.ex
noncomputable def Mk.ok (k:Mk) (orc:Orcs) (f:Nat):Bool:=bi (keptIn k.m0 2) (keptR 2 (Nat.mul 2 k.np) k.v k.res (evCall Tryz.prog orc 100000 40 f k.args ⟨memT k.m0,2,Nat.mul 2 k.np⟩)) false
noncomputable def Mk.orc (k:Mk):List V → St → Option R:=keptO k.args k.m0 2 (Nat.mul 2 k.np) k.v k.res []
theorem sx_run2 {p:Par} {tab:List (Nat × Nat × Nat)} {f:Nat} {orc:Orcs} (n c:Nat) (A:Option Addr) (y:Nat → Int) (w:World)
 (ho:OrcOk Tryz.prog (toks (X.val (p.l (fixOf A n c y))) ⟨tabF tab,fixOf A n c y⟩) orc)
 (hrun:isTrue (evCall Tryz.prog orc 100000 40 f [.s (.c .code)] ⟨.lf,0,0⟩) = true) (hn:n ≤ 1048576) (hy:Byt y) (hb:BE w A n y)
 (ht:∀ q ∈ tab,(fixOf A n c y).byte q.1 % q.2.1 = q.2.2) :
 Calls Tryz.prog f #[.slice A n c] w fun e u=>e = .returned (.bool true)∧Below w.heap.size w u:=by
 cases hq:evCall Tryz.prog orc 100000 40 f [.s (.c .code)] ⟨.lf,0,0⟩ with
 | none=>rw [hq] at hrun;cases hrun
 | some r =>
  rw [hq] at hrun
  have hv:r.v = vB true:=eqV_inv hrun
  have hst:StOk ⟨.lf,0,0⟩:=⟨Nat.zero_le _,fun _ _=>rfl⟩
  obtain ⟨_,_,hs⟩:=evCall_ok prog_ok ho 100000 40 f _ _ r hq hst
  let E:Env:=⟨noBlk,noTok,fixOf A n c y⟩
  have hgi:GI (toks (X.val (p.l (fixOf A n c y))) ⟨tabF tab,fixOf A n c y⟩) E w:=by
   refine ⟨(fun k p s h=>by cases h),(fun j cs h=>by cases h),(match A with | some a=>if n = 0 then [] else [a.block] | none=>[]),fun b hbm=>⟨?_,(fun k s h=>by cases h)⟩,A,n,c,y,rfl,hb,hy,hn,fun hn0 a ha=>?_,rfl,fun q m r h=>ht _ (tabF_inv h)⟩
   ·cases A with
    | none=>simp at hbm
    | some a =>
     by_cases hn0:n = 0
     ·simp [hn0] at hbm
     ·simp [hn0] at hbm
      subst hbm
      obtain ⟨b,o,e,hlt,_⟩:=hb hn0
      injection e with e
      rw [e];exact hlt
   ·subst ha
    simp [hn0]
  refine (hs E w [.slice A n c] ⟨⟨rfl,(fun a e=>by cases e),(fun a e=>by cases e)⟩,trivial⟩ ⟨hgi,(fun k b _ h=>by cases h),(fun k k' b b' p s s' _ _ h=>by cases h),(fun k _ _=>rfl),(fun j _ _=>rfl)⟩).mono fun e u ⟨x,F,he,ho⟩=>?_
  have hx:=ho.val
  rw [hv] at hx
  have hx':x = .bool true:=hx
  subst hx'
  exact ⟨he,ho.step.os,ho.step.tape,ho.step.output,ho.step.size,fun b hlt=>ho.step.kept b hlt (fun k _ s h=>by cases h)⟩
/-! ### Which sets of marks there are -/
noncomputable def sosM (fl:List Bool) (ct:List (M × M)):Option M :=
 @List.rec (M × M) (fun _=>Option M) (some []) (fun a _ ih=>bi (posM a.1) (bi (posE fl (lorM a.1)) (ob (mulX a.2 a.2) fun s=>ob (mulX a.1 s) fun t=>ob ih fun r=>some (addM t r)) none) none) ct
theorem sq_nonneg (a:Rat):0 ≤ a * a:=by
 rcases Rat.le_total (a:=0) (b:=a) with h | h
 ·exact Rat.mul_nonneg h h
 ·have h1:0 ≤ -a:=by grind
  have h2:=Rat.mul_nonneg h1 h1
  grind
theorem sosM_ok {fl:List Bool} {l:List Rat} (hl:PosL l fl) (h64:l.length ≤ 64):∀ {ct:List (M × M)} {p:M},sosM fl ct = some p → 0 ≤ ev l p
 | [],p,h=>by
  injection (show some [] = some p from h) with h
  subst h
  exact Rat.le_refl
 | a :: ct,p,h=>by
  obtain ⟨h1,h⟩:=bi_inv (show bi (posM a.1) (bi (posE fl (lorM a.1)) (ob (mulX a.2 a.2) fun s=>ob (mulX a.1 s) fun t=>ob (sosM fl ct) fun r=>some (addM t r)) none) none = some p from h)
  obtain ⟨h2,h⟩:=bi_inv h
  obtain ⟨s,h3,h⟩:=ob_inv h
  obtain ⟨t,h4,h⟩:=ob_inv h
  obtain ⟨r,h5,h⟩:=ob_inv h
  injection h with h
  subst h
  rw [ev_addM,ev_mulX h64 h4,ev_mulX h64 h3]
  have hc:=(ev_pos hl h2 a.1 (fun b hb=>lorM_sub a.1 b hb) h1).1
  have hs:=sosM_ok hl h64 h5
  have:=Rat.mul_nonneg hc (sq_nonneg (ev l a.2))
  grind
theorem nonneg_of {l:List Rat} {x:X} (hd:0 < x.den) (h:0 ≤ ev l x.ps):0 ≤ x.val l:=by
 obtain ⟨h1,h2,h3⟩:=val_sign (l:=l) (x:=x) hd
 rcases Rat.le_iff_lt_or_eq.1 h with h | h
 ·exact Rat.le_of_lt (h2 h)
 ·rw [h1 h.symm];exact Rat.le_refl
section
variable {l:List Rat} {drw:Drw} {c:Cfg}
end
noncomputable def xsC (t:Nat) (l:List X):List C:=@List.rec X (fun _=>Nat → List C) (fun _=>[]) (fun x _ ih t=>ptC t x (ih (Nat.add t 1))) l t
noncomputable def xisF (l:List (Nat × X)):List X:=@List.rec (Nat × X) (fun _=>List X) [] (fun p _ ih=>bi (Nat.beq p.1 0) (p.2 :: ih) (app (repl p.1 [⟨0,1,[]⟩]) ih)) l
noncomputable def tpN (n:Nat) (t:Nat) (k:List (Int × Nat) → List C) (l:List (Int × Nat)):List C :=
 @Nat.rec (fun _=>Nat → List (Int × Nat) → List C) (fun _ l=>k l) (fun _ ih t l=>List.casesOn l [] fun p l=>ptC t (cx p.1 p.2) (ih (Nat.add t 1) l)) n t l
noncomputable def tpC (rs:List (Nat × Nat)) (l:List (Int × Nat)):List C:=@List.rec (Nat × Nat) (fun _=>List (Int × Nat) → List C) (fun _=>[]) (fun r _ ih l=>tpN r.2 r.1 ih l) rs l
noncomputable def xpN (n:Nat) (k:List (Int × Nat) → List X) (l:List (Int × Nat)):List X :=
 @Nat.rec (fun _=>List (Int × Nat) → List X) (fun l=>k l) (fun _ ih l=>List.casesOn l [] fun p l=>cx p.1 p.2 :: ih l) n l
noncomputable def xpF (rs:List (Nat × Nat)) (l:List (Int × Nat)):List X:=@List.rec (Nat × Nat) (fun _=>List (Int × Nat) → List X) (fun _=>[]) (fun r _ ih l=>app (repl r.1 [⟨0,1,[]⟩]) (xpN r.2 ih l)) rs l
abbrev maA (k n m:Nat):V:=.s (.agg [.sl k 0 n 6,.sl (Nat.add k 1) 0 m 5])
abbrev paA (n m:Nat):V:=.s (.agg [.sl 0 0 n 6,.sl 1 0 m 5,.sl 2 0 3 3,.sl 3 0 3 3])
noncomputable abbrev mmC (k t:Nat) (p:List (Int × Nat)) (l:List C):Cells:=[(k,ptsC t p),(Nat.add k 1,l)]
structure Kp where
 a0:List V
 m0:Cells
 nb:Nat
 nt:Nat
 v:V
 res:Cells
 xi:List X
noncomputable def Kp.ok (k:Kp) (orc:Orcs) (f:Nat):Bool :=
 bi (allB kdOk k.xi) (bi (keptIn k.m0 k.nb) (keptR k.nb (Nat.add k.nt (len k.xi)) k.v k.res (evCall Tryz.prog orc 100000 40 f k.a0 ⟨memT k.m0,k.nb,k.nt⟩)) false) false
noncomputable def Kp.orc (k:Kp):List V → St → Option R:=keptO k.a0 k.m0 k.nb k.nt k.v k.res k.xi
theorem kp_ok {k:Kp} {orc:Orcs} {f:Nat} (h:k.ok orc f = true) {val:X → Rat} {drw:Drw} (hc:CallOk Tryz.prog (toks val drw) (evCall Tryz.prog orc 100000 40)):OrcOne Tryz.prog (toks val drw) f k.orc:=by
 obtain ⟨h0,h⟩:=bi3 h
 obtain ⟨h1,h2⟩:=bi3 h
 refine keptO_ok (call:=evCall Tryz.prog orc 100000 40) hc ?_ h0
 have e:Nat.add k.nt (len k.xi) = k.nt + k.xi.length:=by rw [len_eq];rfl
 rw [e] at h2
 exact kept_of h1 h2
def OkP (p:Par) (o:Orcs):Prop:=∀ drw:Drw,OrcOk Tryz.prog (toks (X.val (p.l drw.fx)) drw) o
noncomputable def altL (l:List Kp) (vl:List V) (st:St):Option R:=@List.rec Kp (fun _=>Option R) none (fun k _ ih=>@Option.rec R (fun _=>Option R) ih (fun r=>some r) (k.orc vl st)) l
def AllK (l:List Kp) (o:Orcs) (f:Nat):Prop:=@List.rec Kp (fun _=>Prop) True (fun k _ ih=>k.ok o f = true∧ih) l
noncomputable def withK (f:Nat) (l:List Kp) (o:Orcs):Orcs:=withM f (altL l) o
theorem altL_ok {o:Orcs} {f:Nat} {val:X → Rat} {drw:Drw} (hc:CallOk Tryz.prog (toks val drw) (evCall Tryz.prog o 100000 40)):∀ {l:List Kp},AllK l o f → OrcOne Tryz.prog (toks val drw) f (altL l)
 | [],_=>fun _ _ _ h=>by cases h
 | k :: l,h=>by
  intro vl st r hr hst
  have hr:@Option.rec R (fun _=>Option R) (altL l vl st) (fun r=>some r) (k.orc vl st) = some r:=hr
  cases hq:k.orc vl st with
  | none=>rw [hq] at hr;exact altL_ok hc h.2 vl st r hr hst
  | some r' =>
   rw [hq] at hr
   injection hr with hr
   subst hr
   exact kp_ok h.1 hc vl st r' hq hst
theorem sBigCmp (s t:Bool) (p q:Nat) (hs:s = true → p ≠ 0) (ht:t = true → q ≠ 0) (u v:Value) (w:World) (hu:BigV w u s (FE.toL p)) (hv:BigV w v t (FE.toL q)) (l1:(FE.toL p).length ≤ 65536) (l2:(FE.toL q).length ≤ 65536) :
 Calls Tryz.prog 325 #[u,v] w fun e w'=>e = .returned (.int .i64 (cmpI (sgnI s p) (sgnI t q)))∧Below w.heap.size w w':=by
 obtain ⟨A,c,rfl,_,_,ra⟩:=hu
 obtain ⟨B,d,rfl,_,_,rb⟩:=hv
 have hS:=below_alloc2 w (.cells #[.bool s,.slice A (FE.toL p).length c] 48) (.cells #[.bool t,.slice B (FE.toL q).length d] 48)
 have H1:=Lib.hid (fun W (hW:Below w.heap.size w W)=>sCmp_nat p q _ _ c d rfl rfl l1 l2 A B W (ra.later hW) (rb.later hW))
 have H2:=Lib.hid (fun W (hW:Below w.heap.size w W)=>sCmp_nat q p _ _ d c rfl rfl l2 l1 B A W (rb.later hW) (ra.later hW))
 have S0:=Slots.new (below_step (Below.refl _ ((w.alloc (.cells #[.bool s,.slice A (FE.toL p).length c] 48)).alloc (.cells #[.bool t,.slice B (FE.toL q).length d] 48)))) (g:=w.heap.size) rfl
 have S1:=Slots.new (Below.refl _ ((w.alloc (.cells #[.bool s,.slice A (FE.toL p).length c] 48)).alloc (.cells #[.bool t,.slice B (FE.toL q).length d] 48))) (g:=w.heap.size + 1) (by simp)
 obtain ⟨a0_0,a0_1,_,_⟩:=S0.k2
 obtain ⟨a1_0,a1_1,_,_⟩:=S1.k2
 clear S0 S1 ra rb l1 l2
 generalize (FE.toL p).length = n at *
 generalize (FE.toL q).length = m at *
 cases s
 ·cases t
  ·obtain ⟨R,hR⟩:∃ R,cmpI (sgnI false p) (sgnI false q) = R:=⟨_,rfl⟩
   rw [show cmpI (p:Int) (q:Int) = R from hR] at H1
   rw [hR]
   clear hR H2 hs ht
   go_enter Tryz.func325,Tryz.ntmps325
   go_wp2_with fail
   refine (H1.out _ hS).mono ?_
   rintro e w1 ⟨rfl,k,hw⟩
   have hb:=below_drewN hS k
   rw [← hw] at hb
   clear hw a0_0 a0_1 a1_0 a1_1 hS
   go_wp2
   go_ret
   exact ⟨rfl,hb⟩
  ·have hR:cmpI (sgnI false p) (sgnI true q) = 1:=by
    have:=ht rfl
    unfold cmpI sgnI
    simp only [Bool.false_eq_true,if_false,if_true]
    rw [if_neg (by omega),if_pos (by omega)]
   rw [hR]
   clear hR H1 H2 hs ht
   go_enter Tryz.func325,Tryz.ntmps325
   go_wp2
   go_ret
   exact ⟨rfl,hS⟩
 ·cases t
  ·have hR:cmpI (sgnI true p) (sgnI false q) = -1:=by
    have:=hs rfl
    unfold cmpI sgnI
    simp only [Bool.false_eq_true,if_false,if_true]
    rw [if_pos (by omega)]
   rw [hR]
   clear hR H1 H2 hs ht
   go_enter Tryz.func325,Tryz.ntmps325
   go_wp2
   go_ret
   exact ⟨rfl,hS⟩
  ·obtain ⟨R,hR⟩:∃ R,cmpI (sgnI true p) (sgnI true q) = R:=⟨_,rfl⟩
   rw [show cmpI (q:Int) (p:Int) = R from cmpI_neg.trans hR] at H2
   rw [hR]
   clear hR H1 hs ht
   go_enter Tryz.func325,Tryz.ntmps325
   go_wp2_with fail
   refine (H2.out _ hS).mono ?_
   rintro e w1 ⟨rfl,k,hw⟩
   have hb:=below_drewN hS k
   rw [← hw] at hb
   clear hw a0_0 a0_1 a1_0 a1_1 hS
   go_wp2
   go_ret
   exact ⟨rfl,hb⟩
theorem sCmp4 (x y:RatD) (p q p' q':Nat) (hx:FE.OkR x p q) (hy:FE.OkR y p' q') (u v:Value) (w:World) (hu:RatV w u x) (hv:RatV w v y) :
 Calls Tryz.prog 321 #[u,v] w fun e w'=>e = .returned (.int .i64 (cmpV x y p q p' q'))∧Below w.heap.size w w':=by
 obtain ⟨A,c,B,d,rfl,_,ra,rb⟩:=hu
 obtain ⟨A',c',B',d',rfl,_,ra',rb'⟩:=hv
 have mx:=hx.mag
 have my:=hy.mag
 have dx:=hx.den
 have dy:=hy.den
 rw [mx] at ra
 rw [dx] at rb
 rw [my] at ra'
 rw [dy] at rb'
 have lp:=hx.pl
 have lq:=hx.ql
 have lp':=hy.pl
 have lq':=hy.ql
 have H1:=Lib.hid (fun W (hW:Below w.heap.size w W)=>sMul_nat p q' _ _ c d' rfl rfl (by omega) (by omega) A B' W (ra.later hW) (rb'.later hW))
 have H2:=Lib.hid (fun W (hW:Below w.heap.size w W)=>sMul_nat p' q _ _ c' d rfl rfl (by omega) (by omega) A' B W (ra'.later hW) (rb.later hW))
 have k1:=mul_len24 lp lq'
 have k2:=mul_len24 lp' lq
 have H4:=Lib.hid (fun (n c:Nat) (hn:(FE.toL (p * q')).length = n) (hc:n ≤ c) (A:Option Addr) W (ha:RI W A (FE.toL (p * q')))=>sMake x.neg (p * q') n c hn (by omega) hc A W ha)
 have H5:=Lib.hid (fun (n c:Nat) (hn:(FE.toL (p' * q)).length = n) (hc:n ≤ c) (A:Option Addr) W (ha:RI W A (FE.toL (p' * q)))=>sMake y.neg (p' * q) n c hn (by omega) hc A W ha)
 have n1:(x.neg && decide (p * q' ≠ 0)) = true → p * q' ≠ 0:=fun h=>by simp only [Bool.and_eq_true,decide_eq_true_eq] at h;exact h.2
 have n2:(y.neg && decide (p' * q ≠ 0)) = true → p' * q ≠ 0:=fun h=>by simp only [Bool.and_eq_true,decide_eq_true_eq] at h;exact h.2
 have H3:=fun W (u v:Value) hu hv=>sBigCmp (x.neg && decide (p * q' ≠ 0)) (y.neg && decide (p' * q ≠ 0)) (p * q') (p' * q) n1 n2 u v W hu hv (by omega) (by omega)
 have j1:sgnI x.neg (p * q') = sgnI x.neg p * q':=by cases x.neg <;> simp [sgnI,Int.natCast_mul,Int.neg_mul]
 have j2:sgnI y.neg (p' * q) = sgnI y.neg p' * q:=by cases y.neg <;> simp [sgnI,Int.natCast_mul,Int.neg_mul]
 rw [sgnI_sg,sgnI_sg,j1,j2] at H3
 rw [show cmpI (sgnI x.neg p * (q':Int)) (sgnI y.neg p' * (q:Int)) = cmpV x y p q p' q' from rfl] at H3
 replace H3:=Lib.hid H3
 rw [mx,dx,my,dy]
 clear hx hy mx my dx dy ra rb ra' rb' lp lq lp' lq' k1 k2 n1 n2 j1 j2
 generalize cmpV x y p q p' q' = R at *
 generalize (x.neg && decide (p * q' ≠ 0)) = sb1 at *
 generalize (y.neg && decide (p' * q ≠ 0)) = sb2 at *
 generalize FE.toL (p * q') = m1 at *
 generalize FE.toL (p' * q) = m2 at *
 generalize (FE.toL p).length = n at *
 generalize (FE.toL q).length = m at *
 generalize (FE.toL p').length = n' at *
 generalize (FE.toL q').length = m' at *
 generalize x.neg = s at *
 generalize y.neg = t at *
 have hb1:=below_alloc2 w (.cells #[.bool s,.slice A n c,.slice B m d] 50) (.cells #[.bool t,.slice A' n' c',.slice B' m' d'] 50)
 have S0:=Slots.new (below_step (Below.refl _ ((w.alloc (.cells #[.bool s,.slice A n c,.slice B m d] 50)).alloc (.cells #[.bool t,.slice A' n' c',.slice B' m' d'] 50)))) (g:=w.heap.size) rfl
 have S1:=Slots.new (Below.refl _ ((w.alloc (.cells #[.bool s,.slice A n c,.slice B m d] 50)).alloc (.cells #[.bool t,.slice A' n' c',.slice B' m' d'] 50))) (g:=w.heap.size + 1) (by simp)
 obtain ⟨a0,a1,a2,_,_,_⟩:=S0.c3
 obtain ⟨b0,b1,b2,_,_,_⟩:=S1.c3
 have hM:=S1.1
 clear S0 S1
 go_enter Tryz.func321,Tryz.ntmps321
 go_wp2_with fail
 generalize (w.alloc (.cells #[.bool s,.slice A n c,.slice B m d] 50)).alloc (.cells #[.bool t,.slice A' n' c',.slice B' m' d'] 50) = wb at *
 refine wp_region_held_drew (S:=fun W=>Below wb.heap.size wb W) (by kernel_rfl) (show Below wb.heap.size wb wb.drew from ⟨rfl,rfl,rfl,Nat.le_refl _,fun _ _=>rfl⟩) (fun hHeld=>?_)
 refine qL (i:=0) (v:=?_) rfl (by kernel_rfl) (fun _ _ _ h=>h) (by assumption) (by rfl) (fun W _=>?_) ?_
 rotate_left
 ·go_simp
  try with_reducible rfl
 try simp only [Act.put,List.setIfInBounds_toArray]
 refine qL (i:=1) (v:=?_) rfl (by kernel_rfl) (fun _ _ _ h=>h) (by assumption) (by rfl) (fun W _=>?_) ?_
 rotate_left
 ·go_simp
  try with_reducible rfl
 try simp only [Act.put]
 refine qL (i:=2) (v:=?_) rfl (by kernel_rfl) (fun _ _ _ h=>h) (by assumption) (by rfl) (fun W hSw=>?_) ?_
 rotate_left
 ·have f0:=(Below.cell hSw (p:=⟨w.heap.size,0,none⟩) (show w.heap.size < wb.heap.size by omega)).trans a0
  go_simp
  try with_reducible rfl
 try simp only [Act.put]
 refine qL (i:=3) (v:=?_) rfl (by kernel_rfl) (fun _ _ _ h=>h) (by assumption) (by rfl) (fun W _=>?_) ?_
 rotate_left
 ·go_simp
  try with_reducible rfl
 try simp only [Act.put]
 refine qL (i:=4) (v:=?_) rfl (by kernel_rfl) (fun _ _ _ h=>h) (by assumption) (by rfl) (fun W _=>?_) ?_
 rotate_left
 ·go_simp
  try with_reducible rfl
 try simp only [Act.put]
 refine qL (i:=5) (v:=?_) rfl (by kernel_rfl) (fun _ _ _ h=>h) (by assumption) (by rfl) (fun W hSw=>?_) ?_
 rotate_left
 ·have f0:=(Below.cell hSw (p:=⟨w.heap.size,1,none⟩) (show w.heap.size < wb.heap.size by omega)).trans a1
  go_simp
  try with_reducible rfl
 try simp only [Act.put]
 refine qL (i:=6) (v:=?_) rfl (by kernel_rfl) (fun _ _ _ h=>h) (by assumption) (by rfl) (fun W _=>?_) ?_
 rotate_left
 ·go_simp
  try with_reducible rfl
 try simp only [Act.put]
 refine qL (i:=7) (v:=?_) rfl (by kernel_rfl) (fun _ _ _ h=>h) (by assumption) (by rfl) (fun W hSw=>?_) ?_
 rotate_left
 ·have f0:=(Below.cell hSw (p:=⟨w.heap.size + 1,2,none⟩) (show w.heap.size + 1 < wb.heap.size by omega)).trans b2
  go_simp
  try with_reducible rfl
 try simp only [Act.put]
 refine qL (i:=10) (v:=?_) rfl (by kernel_rfl) (fun _ _ _ h=>h) (by assumption) (by rfl) (fun W _=>?_) ?_
 rotate_left
 ·go_simp
  try with_reducible rfl
 try simp only [Act.put]
 refine qL (i:=11) (v:=?_) rfl (by kernel_rfl) (fun _ _ _ h=>h) (by assumption) (by rfl) (fun W _=>?_) ?_
 rotate_left
 ·go_simp
  try with_reducible rfl
 try simp only [Act.put]
 refine qL (i:=12) (v:=?_) rfl (by kernel_rfl) (fun _ _ _ h=>h) (by assumption) (by rfl) (fun W hSw=>?_) ?_
 rotate_left
 ·have f0:=(Below.cell hSw (p:=⟨w.heap.size + 1,0,none⟩) (show w.heap.size + 1 < wb.heap.size by omega)).trans b0
  go_simp
  try with_reducible rfl
 try simp only [Act.put]
 refine qL (i:=13) (v:=?_) rfl (by kernel_rfl) (fun _ _ _ h=>h) (by assumption) (by rfl) (fun W _=>?_) ?_
 rotate_left
 ·go_simp
  try with_reducible rfl
 try simp only [Act.put]
 refine qL (i:=14) (v:=?_) rfl (by kernel_rfl) (fun _ _ _ h=>h) (by assumption) (by rfl) (fun W _=>?_) ?_
 rotate_left
 ·go_simp
  try with_reducible rfl
 try simp only [Act.put]
 refine qL (i:=15) (v:=?_) rfl (by kernel_rfl) (fun _ _ _ h=>h) (by assumption) (by rfl) (fun W hSw=>?_) ?_
 rotate_left
 ·have f0:=(Below.cell hSw (p:=⟨w.heap.size + 1,1,none⟩) (show w.heap.size + 1 < wb.heap.size by omega)).trans b1
  go_simp
  try with_reducible rfl
 try simp only [Act.put]
 refine qL (i:=16) (v:=?_) rfl (by kernel_rfl) (fun _ _ _ h=>h) (by assumption) (by rfl) (fun W _=>?_) ?_
 rotate_left
 ·go_simp
  try with_reducible rfl
 try simp only [Act.put]
 refine qL (i:=17) (v:=?_) rfl (by kernel_rfl) (fun _ _ _ h=>h) (by assumption) (by rfl) (fun W hSw=>?_) ?_
 rotate_left
 ·have f0:=(Below.cell hSw (p:=⟨w.heap.size,2,none⟩) (show w.heap.size < wb.heap.size by omega)).trans a2
  go_simp
  try with_reducible rfl
 try simp only [Act.put]
 have hBd:Below wb.heap.size wb wb.drew:=⟨rfl,rfl,rfl,Nat.le_refl _,fun _ _=>rfl⟩
 refine qR (i:=8) (by kernel_rfl) rfl (fun K hK=>?_)
 simp only [List.getElem_toArray,List.getElem_cons_succ,List.getElem_cons_zero]
 go_simp
 (go_at_call 302;(with_reducible refine (H1.out _ (below_trans hb1 hBd)).mono ?_);rintro e31 w31 ⟨v31,rfl,h31,hb31⟩)
 try (go_wp2_with fail)
 have hB31:=below_trans hBd hb31
 obtain ⟨A31,c31,rfl,hl31,_⟩:=id h31
 refine hK.out _ _ (hB31) (fun h2=>?_)
 clear hK K hHeld
 have hHeld:=h2
 clear h2
 try simp only [Act.put,List.setIfInBounds_toArray,List.set_cons_zero,List.set_cons_succ]
 refine qR (i:=9) (by kernel_rfl) rfl (fun K hK=>?_)
 simp only [List.getElem_toArray,List.getElem_cons_succ,List.getElem_cons_zero]
 go_simp
 (go_at_call 255;(with_reducible refine (H4.out _ _ rfl hl31 _ _ h31.reads).mono ?_);rintro e32 w32 ⟨v32,rfl,h32,hb32⟩)
 try (go_wp2_with fail)
 have hB32:=below_trans hB31 hb32
 obtain ⟨va32,rfl,_⟩:=id h32
 refine hK.out _ _ (hB32) (fun h2=>?_)
 clear hK K hHeld
 have hHeld:=h2
 clear h2
 try simp only [Act.put,List.setIfInBounds_toArray,List.set_cons_zero,List.set_cons_succ]
 refine qR (i:=18) (by kernel_rfl) rfl (fun K hK=>?_)
 simp only [List.getElem_toArray,List.getElem_cons_succ,List.getElem_cons_zero]
 go_simp
 (go_at_call 302;(with_reducible refine (H2.out _ (below_trans hb1 hB32)).mono ?_);rintro e33 w33 ⟨v33,rfl,h33,hb33⟩)
 try (go_wp2_with fail)
 have hB33:=below_trans hB32 hb33
 obtain ⟨A33,c33,rfl,hl33,_⟩:=id h33
 refine hK.out _ _ (hB33) (fun h2=>?_)
 clear hK K hHeld
 have hHeld:=h2
 clear h2
 try simp only [Act.put,List.setIfInBounds_toArray,List.set_cons_zero,List.set_cons_succ]
 refine qR (i:=19) (by kernel_rfl) rfl (fun K hK=>?_)
 simp only [List.getElem_toArray,List.getElem_cons_succ,List.getElem_cons_zero]
 go_simp
 (go_at_call 255;(with_reducible refine (H5.out _ _ rfl hl33 _ _ h33.reads).mono ?_);rintro e34 w34 ⟨v34,rfl,h34,hb34⟩)
 try (go_wp2_with fail)
 have hB34:=below_trans hB33 hb34
 obtain ⟨va34,rfl,_⟩:=id h34
 refine hK.out _ _ (hB34) (fun h2=>?_)
 clear hK K hHeld
 have hHeld:=h2
 clear h2
 try simp only [Act.put,List.setIfInBounds_toArray,List.set_cons_zero,List.set_cons_succ]
 refine qR (i:=20) (by kernel_rfl) rfl (fun K hK=>?_)
 simp only [List.getElem_toArray,List.getElem_cons_succ,List.getElem_cons_zero]
 go_simp
 (go_at_call 325;(with_reducible refine (H3.out _ _ _ ((h32.later hb33).later hb34).reads h34.reads).mono ?_);rintro e36 w36 ⟨rfl,hb36⟩)
 try (go_wp2_with fail)
 have hB36:=below_trans hB34 hb36
 refine hK.out _ _ (hB36) (fun h2=>?_)
 clear hK K hHeld
 have hHeld:=h2
 clear h2
 try simp only [Act.put,List.setIfInBounds_toArray,List.set_cons_zero,List.set_cons_succ]
 refine qR (i:=21) (by kernel_rfl) rfl (fun K hK=>?_)
 simp only [List.getElem_toArray,List.getElem_cons_succ,List.getElem_cons_zero]
 go_simp
 refine hK.out _ _ (hB36) (fun h2=>?_)
 clear hK K hHeld
 have hHeld:=h2
 clear h2
 try simp only [Act.put,List.setIfInBounds_toArray,List.set_cons_zero,List.set_cons_succ]
 refine wpAnyH_done (by kernel_rfl) ?_ _
 clear hHeld
 have hfin:=below_trans hb1 hB36
 clear a0 a1 a2 b0 b1 b2 hB36 hb36
 go_wp2
 go_ret
 exact ⟨rfl,hfin⟩
theorem sRatCmp (x y:RatD) (p q p' q':Nat) (hx:FE.OkR x p q) (hy:FE.OkR y p' q') (u v:Value) (w:World) (hu:RatV w u x) (hv:RatV w v y) :
 Calls Tryz.prog 313 #[u,v] w fun e w'=>e = .returned (.int .i64 (cmpV x y p q p' q'))∧Below w.heap.size w w':=by
 have fx:=res_few (Or.inr hx.ok)
 have fy:=res_few (Or.inr hy.ok)
 have H1:=Lib.hid (fun W (hW:Below w.heap.size w W)=>sCmp4 x y p q p' q' hx hy u v W (hu.later hW) (hv.later hW))
 have C1:=Lib.hid (fun W (hW:Below w.heap.size w W)=>sRatOk x u W (hu.later hW) fx.1 fx.2)
 have C2:=Lib.hid (fun W (hW:Below w.heap.size w W)=>sRatOk y v W (hv.later hW) fy.1 fy.2)
 rw [hx.ok] at C1
 rw [hy.ok] at C2
 obtain ⟨A,c,B,d,rfl,_,ra,rb⟩:=hu
 obtain ⟨A',c',B',d',rfl,_,ra',rb'⟩:=hv
 clear hx hy fx fy ra rb ra' rb'
 generalize cmpV x y p q p' q' = R at *
 generalize x.mag.length = n at *
 generalize x.den.length = m at *
 generalize y.mag.length = n' at *
 generalize y.den.length = m' at *
 generalize x.neg = s at *
 generalize y.neg = t at *
 go_enter Tryz.func313,Tryz.ntmps313
 go_wp2_with fail
 refine (C1.out _ (below_alloc2 _ _ _)).mono ?_
 rintro e w1 ⟨rfl,hb1⟩
 have S1:=Slots.new hb1 (g:=w.heap.size + 1) (by simp)
 have S0:=Slots.new (below_step hb1) (g:=w.heap.size) rfl
 replace hb1:=below_trans (below_alloc2 _ _ _) hb1
 obtain ⟨a0,a1,a2,_,_,_⟩:=S0.c3
 obtain ⟨b0,b1,b2,_,_,_⟩:=S1.c3
 go_wp2_with fail
 refine (C2.out _ hb1).mono ?_
 rintro e w2 ⟨rfl,hb2⟩
 clear a0 a1 a2 b0 b1 b2
 replace S1:=S1.later hb2
 replace S0:=S0.later hb2
 replace hb1:=below_trans hb1 hb2
 clear hb2
 obtain ⟨a0,a1,a2,_,_,_⟩:=S0.c3
 obtain ⟨b0,b1,b2,_,_,_⟩:=S1.c3
 go_wp2_with fail
 refine (H1.out _ hb1).mono ?_
 rintro e w3 ⟨rfl,hb2⟩
 replace hb1:=below_trans hb1 hb2
 clear a0 a1 a2 b0 b1 b2 S0 S1 hb2
 go_wp2
 go_ret
 exact ⟨rfl,hb1⟩
section
variable {val:X → Rat} {drw:Drw} {A:Alg}
theorem orBinK_ok (h:AlgOk val A) {o f:Nat} (ho:o ≤ 3) (hent:∀ vs w,(callFunc f vs).run Tryz.prog w = .ok (.enter f vs) w)
 (hc:∀ (x y:RatD) (u v:Value) (w:World),RatV w u x → RatV w v y → (x.mag.length ≤ 1048576∧x.den.length ≤ 1048576) → (y.mag.length ≤ 1048576∧y.den.length ≤ 1048576) → FE.ratOk x = true → FE.ratOk y = true →
  Calls Tryz.prog f #[u,v] w fun e w'=>∃ v',e = .returned v'∧RatP w' w.heap.size v' (binR o x y)∧Below w.heap.size w w'):OrcOne Tryz.prog (toks val drw) f (orBin A o):=by
 intro vl st r hr hst
 obtain ⟨p,h1,hr⟩:=ob_inv hr
 obtain ⟨z,h2,hr⟩:=ob_inv hr
 injection hr with hr
 subst hr
 refine ⟨eff_tok hst z,hent,fun E w vs hrel hp=>?_⟩
 obtain ⟨u,v,rfl,⟨s1,r1⟩,s2,r2⟩:=rat2_rel hp.gi h1 hrel
 obtain ⟨g,e⟩:=bin_is h ho h2 s1 s2
 exact calls_tok g e hp (hc _ _ u v w r1 r2 (small_len s1) (small_len s2) (is_of _ s1).ok (is_of _ s2).ok)
theorem orAddS_ok (h:AlgOk val A):OrcOne Tryz.prog (toks val drw) 306 (orBin A 0) :=
 orBinK_ok h (by omega) Tryz.call306 fun x y u v w h1 h2 f1 f2 g1 g2=>sRatAdd_ok x y u v w h1 h2 f1 f2 g1 g2
theorem orSubS_ok (h:AlgOk val A):OrcOne Tryz.prog (toks val drw) 322 (orBin A 1) :=
 orBinK_ok h (by omega) Tryz.call322 fun x y u v w h1 h2 f1 f2 g1 g2=>sRatSub_ok x y u v w h1 h2 f1 f2 g1 g2
theorem orMulS_ok (h:AlgOk val A):OrcOne Tryz.prog (toks val drw) 305 (orBin A 2) :=
 orBinK_ok h (by omega) Tryz.call305 fun x y u v w h1 h2 f1 f2 g1 g2=>sRatMul_ok x y u v w h1 h2 f1 f2 g1 g2
theorem orCopyS_ok (h:AlgOk val A):OrcOne Tryz.prog (toks val drw) 303 (orUn A 1):=by
 intro vl st r hr hst
 obtain ⟨x,h1,hr⟩:=ob_inv hr
 obtain ⟨z,h2,hr⟩:=ob_inv hr
 injection hr with hr
 subst hr
 refine ⟨eff_tok hst z,Tryz.call303,fun E w vs hrel hp=>?_⟩
 obtain ⟨u,rfl,s1,r1⟩:=rat1_rel hp.gi h1 hrel
 obtain ⟨g,e⟩:=h.cpy _ _ _ h2
 have l:=small_len s1
 exact calls_tok g (by rw [e]) hp (sCopy _ u w r1 l.1 l.2)
theorem orSgnS_ok (h:AlgOk val A):OrcOne Tryz.prog (toks val drw) 312 (orSgn A):=by
 intro vl st r hr hst
 obtain ⟨x,h1,hr⟩:=ob_inv hr
 obtain ⟨s,h2,hr⟩:=ob_inv hr
 injection hr with hr
 subst hr
 refine ⟨eff_pure hst _ _,Tryz.call312,fun E w vs hrel hp=>?_⟩
 obtain ⟨u,rfl,s1,r1⟩:=rat1_rel hp.gi h1 hrel
 have l:=small_len s1
 refine (sRatSign _ u w r1 l.1 l.2).mono fun e u ⟨he,hb⟩=>?_
 rw [rsig_ok (is_of _ s1).ok,rsgn_is s1 (h.sgn _ _ h2)] at he
 exact ⟨_,E,he,out_below hp.gi hb rfl⟩
theorem orCmpS_ok (h:AlgOk val A):OrcOne Tryz.prog (toks val drw) 313 (orCmp A):=by
 intro vl st r hr hst
 obtain ⟨p,h1,hr⟩:=ob_inv hr
 obtain ⟨s,h2,hr⟩:=ob_inv hr
 injection hr with hr
 subst hr
 refine ⟨eff_pure hst _ _,Tryz.call313,fun E w vs hrel hp=>?_⟩
 obtain ⟨u,v,rfl,⟨s1,r1⟩,s2,r2⟩:=rat2_rel hp.gi h1 hrel
 refine (sRatCmp _ _ _ _ _ _ (is_of _ s1).okr (is_of _ s2).okr u v w r1 r2).mono fun e u ⟨he,hb⟩=>?_
 rw [cmpV_is s1 s2 (h.cmp _ _ _ h2)] at he
 exact ⟨_,E,he,out_below hp.gi hb rfl⟩
theorem orEqS_ok (h:AlgOk val A):OrcOne Tryz.prog (toks val drw) 319 (orEq A):=by
 intro vl st r hr hst
 obtain ⟨p,h1,hr⟩:=ob_inv hr
 obtain ⟨s,h2,hr⟩:=ob_inv hr
 injection hr with hr
 subst hr
 refine ⟨eff_pure hst _ _,Tryz.call319,fun E w vs hrel hp=>?_⟩
 obtain ⟨u,v,rfl,⟨s1,r1⟩,s2,r2⟩:=rat2_rel hp.gi h1 hrel
 have l1:=small_len s1
 have l2:=small_len s2
 refine (sRatEqual _ _ u v w r1 r2 l1.1 l1.2 l2.1 l2.2).mono fun e u ⟨he,hb⟩=>?_
 rw [same_is s1 s2 (h.cmp _ _ _ h2)] at he
 exact ⟨_,E,he,out_below hp.gi hb rfl⟩
theorem orOkS_ok:OrcOne Tryz.prog (toks val drw) 311 orTrue:=by
 intro vl st r hr hst
 obtain ⟨x,h1,hr⟩:=ob_inv hr
 injection hr with hr
 subst hr
 refine ⟨eff_pure hst _ _,Tryz.call311,fun E w vs hrel hp=>?_⟩
 obtain ⟨u,rfl,s1,r1⟩:=rat1_rel hp.gi h1 hrel
 have l:=small_len s1
 refine (sRatOk _ u w r1 l.1 l.2).mono fun e u ⟨he,hb⟩=>?_
 rw [(is_of _ s1).ok] at he
 exact ⟨_,E,he,out_below hp.gi hb rfl⟩
end
/-! ### Values: signs by putting variables out, more inverses -/
theorem rpow_pos {a:Rat} (h:0 < a):∀ k:Nat,0 < a ^ k
 | 0=>by rw [Rat.pow_zero];decide
 | k + 1=>by rw [Rat.pow_succ];exact Rat.mul_pos (rpow_pos h k) h
theorem sgn_of_mul {s:Int} {a b:Rat} (hb:0 < b) (h:SgnOk s (a * b)):SgnOk s a:=by
 have hi:0 < b⁻¹:=Rat.inv_pos.2 hb
 have e:a = a * b * b⁻¹:=by grind
 rcases h with ⟨h1,h⟩ | ⟨h1,h⟩ | ⟨h1,h⟩
 ·exact .inl ⟨h1,by rw [e,h,Rat.zero_mul]⟩
 ·exact .inr (.inl ⟨h1,by rw [e];exact Rat.mul_pos h hi⟩)
 ·refine .inr (.inr ⟨h1,?_⟩)
  have:=Rat.mul_pos (show 0 < -(a * b) by grind) hi
  grind
noncomputable def cfgE (c:Cfg) (ex:List (M × X)):Cfg:=⟨c.hs,c.fl,app c.invs ex,c.els⟩
noncomputable def orcTmS (A:Alg) (orc:Orcs):Orcs :=
 withM 205 (tmGrad.orc A) (withM 249 (tmLGrad.orc A) (withM 168 (tmArea.orc A) (withM 231 (tmProp.orc A) (withM 173 (tmLStiff.orc A) (withM 95 (tmInteg.orc A) (withM 170 (tmCopyP.orc A) (withM 129 (tmValidP.orc A) (withM 250 (tmIfP.orc A) (withM 210 (tmSubP.orc A) (withM 251 (tmAddP.orc A) (withM 209 (tmScaleP.orc A) (withM 242 (tmCrossP.orc A) (withM 207 (tmInnerP.orc A) (withM 190 (tmDArea.orc A) orc))))))))))))))
theorem orcTmS_ok {val:X → Rat} {drw:Drw} {A:Alg} (h:AlgOk val A) {orc:Orcs} (ho:OrcOk Tryz.prog (toks val drw) orc):OrcOk Tryz.prog (toks val drw) (orcTmS A orc) :=
 with_ok (tmp_ok tmGrad_ok h) (with_ok (tmp_ok tmLGrad_ok h) (with_ok (tmp_ok tmArea_ok h) (with_ok (tmp_ok tmProp_ok h) (with_ok (tmp_ok tmLStiff_ok h) (with_ok (tmp_ok tmInteg_ok h) (with_ok (tmp_ok tmCopyP_ok h) (with_ok (tmp_ok tmValidP_ok h) (with_ok (tmp_ok tmIfP_ok h) (with_ok (tmp_ok tmSubP_ok h) (with_ok (tmp_ok tmAddP_ok h) (with_ok (tmp_ok tmScaleP_ok h) (with_ok (tmp_ok tmCrossP_ok h) (with_ok (tmp_ok tmInnerP_ok h) (with_ok (tmp_ok tmDArea_ok h) ho))))))))))))))
structure Ms where
 p:List (Int × Nat)
 t:List C
 n:Nat
 m:Nat
noncomputable abbrev Ms.c (a:Ms):Cells:=mmC 0 0 a.p a.t
noncomputable def kB (a:Ms) (d:Nat):Kp:=⟨[maA 0 a.n a.m],a.c,2,Nat.mul 2 a.n,.s (.c (.bool true)),[],repl d [⟨0,1,[]⟩]⟩
noncomputable def kE (a:Ms) (k e:Nat) (t:List C):Kp:=⟨[maA 0 a.n a.m],a.c,2,Nat.mul 2 a.n,.s (.c (.sl k 0 e 4)),[(k,t)],[]⟩
noncomputable def kI (a:Ms) (i:Int) (k j:Nat) (r:List (Nat × Nat)) (b:Ms) (q:List (Nat × Nat)):Kp :=
 ⟨[maA 0 a.n a.m,.s (.c (.sl 2 0 1 1))],app a.c [(2,[.int i])],3,Nat.mul 2 a.n,.s (.agg [.sl k 0 b.n 6,.sl j 0 b.m 5]),[(k,tpC r b.p),(j,b.t)],xpF q b.p⟩
noncomputable def kS (a:Ms) (x y:List X) (v:S) (r:Cells) (xi:List X):Kp:=⟨[paA a.n a.m],app a.c [(2,xsC (Nat.mul 2 a.n) x),(3,xsC (Nat.add (Nat.mul 2 a.n) 3) y)],4,Nat.add (Nat.mul 2 a.n) 6,.s v,r,xi⟩
theorem withK2_ok {p:Par} {o q:Orcs} (ho:OkP p o) (hq:OkP p q) {f:Nat} {l:List Kp} (h:AllK l q f):OkP p (withK f l o):=fun drw=>with_ok (altL_ok (call_ok (hq drw)) h) (ho drw)
noncomputable def runB (o:Orcs) (f:Nat):Bool:=isTrue (evCall Tryz.prog o 100000 40 f [.s (.c .code)] ⟨.lf,0,0⟩)
def TabOk (fx:Fix) (l:List (Nat × Nat × Nat)):Prop:=@List.rec (Nat × Nat × Nat) (fun _=>Prop) True (fun q _ ih=>fx.byte q.1 % q.2.1 = q.2.2∧ih) l
theorem tabOk_all {fx:Fix}:∀ {l:List (Nat × Nat × Nat)},TabOk fx l → ∀ q ∈ l,fx.byte q.1 % q.2.1 = q.2.2
 | _ :: _,h,q,hq=>by
  rcases List.mem_cons.1 hq with rfl | hq
  ·exact h.1
  ·exact tabOk_all h.2 q hq
noncomputable def degM (w:Nat) (p:M):Nat:=@List.rec (Nat × Int) (fun _=>Nat) 0 (fun a _ ih=>fz (Nat.mod (Nat.div a.1 w) 16) fun d=>bi (Nat.ble d ih) ih d) p
theorem degM_le (w:Nat):∀ (p:M),∀ a ∈ p,digM w a.1 ≤ degM w p
 | [],a,h=>by simp at h
 | b :: p,a,h=>by
  have e:degM w (b :: p) = fz (Nat.mod (Nat.div b.1 w) 16) (fun d=>bi (Nat.ble d (degM w p)) (degM w p) d):=rfl
  have ih:=degM_le w p
  rw [e,fz_eq,biq]
  have ed:Nat.mod (Nat.div b.1 w) 16 = digM w b.1:=rfl
  rw [ed]
  split
  ·rename_i hc
   rcases List.mem_cons.1 h with rfl | h
   ·exact Nat.le_of_ble_eq_true hc
   ·exact ih a h
  ·rename_i hc
   have hlt:degM w p < digM w b.1:=by
    rcases Nat.lt_or_ge (degM w p) (digM w b.1) with g | g
    ·exact g
    ·exact absurd (Nat.ble_eq_true_of_le g) hc
   rcases List.mem_cons.1 h with rfl | h
   ·exact Nat.le_refl _
   ·exact Nat.le_of_lt (Nat.lt_of_le_of_lt (ih a h) hlt)
/-! ### Products at higher degrees -/
theorem dig_succ (v m:Nat):digM (wv (v + 1)) m = digM (wv v) (m / 16):=by
 unfold digM wv
 rw [Nat.pow_succ,Nat.mul_comm,← Nat.div_div_eq_div_mul]
theorem mon_addD:∀ (l:List Rat) (a b:Nat),(∀ v,v < l.length → digM (wv v) a + digM (wv v) b ≤ 15) → mon l (a + b) = mon l a * mon l b
 | [],a,b,_=>by simp [mon]
 | r :: l,a,b,h=>by
  have h0:=h 0 (by simp)
  have d0:∀ m,digM (wv 0) m = m % 16:=fun m=>by unfold digM wv;simp
  rw [d0,d0] at h0
  have e1:(a + b) % 16 = a % 16 + b % 16:=by omega
  have e2:(a + b) / 16 = a / 16 + b / 16:=by omega
  simp only [mon]
  rw [e1,e2,mon_addD l _ _ (fun v hv=>by have:=h (v + 1) (by simp;omega);rw [dig_succ,dig_succ] at this;exact this),rpow_add]
  grind
theorem ev_sclD (l:List Rat) (a:Nat × Int):∀ q:M,(∀ b ∈ q,∀ v,v < l.length → digM (wv v) b.1 + digM (wv v) a.1 ≤ 15) → ev l (sclM a q) = (a.2:Rat) * mon l a.1 * ev l q
 | [],_=>by show ev l [] = _;simp [ev,Rat.mul_zero]
 | b :: q,h=>by
  show ev l (fz (Nat.add b.1 a.1) fun m=>cons0 m (imul b.2 a.2) (sclM a q)) = _
  rw [fz_eq,ev_cons0,ev_sclD l a q fun b hb=>h b (List.mem_cons_of_mem _ hb),imul_eq,Rat.intCast_mul]
  have:mon l (Nat.add b.1 a.1) = mon l b.1 * mon l a.1:=mon_addD l _ _ (h b List.mem_cons_self)
  rw [this]
  obtain ⟨m,c⟩:=b
  simp only [ev]
  grind
theorem ev_mulD (l:List Rat):∀ p q:M,(∀ a ∈ p,∀ b ∈ q,∀ v,v < l.length → digM (wv v) b.1 + digM (wv v) a.1 ≤ 15) → ev l (mulM p q) = ev l p * ev l q
 | [],q,_=>by show ev l [] = _;simp [ev,Rat.zero_mul]
 | a :: p,q,h=>by
  show ev l (addM (sclM a q) (mulM p q)) = _
  rw [ev_addM,ev_sclD l a q (h a List.mem_cons_self),ev_mulD l p q (fun a ha=>h a (List.mem_cons_of_mem _ ha))]
  obtain ⟨m,c⟩:=a
  simp only [ev]
  grind
noncomputable def noC (p q:M) (E:Nat):Nat → Nat → Bool :=
 @Nat.rec (fun _=>Nat → Bool) (fun _=>true) (fun _ ih w=>bi (Nat.beq (Nat.div E w) 0) true (bi (Nat.ble (Nat.add (degM w p) (degM w q)) 15) (ih (Nat.mul 16 w)) false))
theorem dig_zero {m E v u:Nat} (hm:m ≤ E) (h:E / wv u = 0) (hv:u ≤ v):digM (wv v) m = 0:=by
 unfold digM
 have h1:E < wv u:=by
  have hp:0 < wv u:=Nat.pow_pos (by decide)
  rcases Nat.lt_or_ge E (wv u) with g | g
  ·exact g
  ·have:=Nat.div_pos g hp;omega
 have h2:wv u ≤ wv v:=Nat.pow_le_pow_right (by decide) hv
 rw [Nat.div_eq_of_lt (by omega)]
theorem noC_ok {p q:M} {E:Nat} (hp:∀ a ∈ p,a.1 ≤ E) (hq:∀ b ∈ q,b.1 ≤ E):∀ (n u:Nat),noC p q E n (wv u) = true → ∀ v,u ≤ v → v < u + n → ∀ a ∈ p,∀ b ∈ q,digM (wv v) b.1 + digM (wv v) a.1 ≤ 15
 | 0,u,_,v,h1,h2,_,_,_,_=>by omega
 | n + 1,u,h,v,h1,h2,a,ha,b,hb=>by
  have h:bi (Nat.beq (Nat.div E (wv u)) 0) true (bi (Nat.ble (Nat.add (degM (wv u) p) (degM (wv u) q)) 15) (noC p q E n (Nat.mul 16 (wv u))) false) = true:=h
  cases hc:Nat.beq (Nat.div E (wv u)) 0 with
  | true =>
   have hz:E / wv u = 0:=beq_inv hc
   rw [dig_zero (hp a ha) hz h1,dig_zero (hq b hb) hz h1]
   omega
  | false =>
   rw [hc] at h
   obtain ⟨k1,k2⟩:=bi3 h
   by_cases e:v = u
   ·subst e
    have g1:=degM_le (wv v) p a ha
    have g2:=degM_le (wv v) q b hb
    have:degM (wv v) p + degM (wv v) q ≤ 15:=ble_inv k1
    omega
   ·have ew:Nat.mul 16 (wv u) = wv (u + 1):=by unfold wv;rw [Nat.pow_succ];exact Nat.mul_comm _ _
    rw [ew] at k2
    exact noC_ok hp hq n (u + 1) k2 v (by omega) (by omega) a ha b hb
noncomputable def mulD (p q:M):Option M:=@Option.rec M (fun _=>Option M) (bi (noC p q (Nat.lor (lorM p) (lorM q)) 64 1) (some (mulM p q)) none) (fun r=>some r) (mulX p q)
theorem ev_mulDX {l:List Rat} (hl:l.length ≤ 64) {p q r:M} (h:mulD p q = some r):ev l r = ev l p * ev l q:=by
 unfold mulD at h
 cases hx:mulX p q with
 | some t =>
  rw [hx] at h
  injection h with h
  subst h
  exact ev_mulX hl hx
 | none =>
  rw [hx] at h
  obtain ⟨h1,h⟩:=bi_inv (show bi (noC p q (Nat.lor (lorM p) (lorM q)) 64 1) (some (mulM p q)) none = some r from h)
  injection h with h
  subst h
  have lp:∀ a ∈ p,a.1 ≤ Nat.lor (lorM p) (lorM q):=fun a ha=>by
   have e1:=lorM_sub p a ha
   have:a.1 ≤ lorM p:=by rw [← e1];exact Nat.left_le_or
   exact Nat.le_trans this Nat.left_le_or
  have lq:∀ a ∈ q,a.1 ≤ Nat.lor (lorM p) (lorM q):=fun a ha=>by
   have e1:=lorM_sub q a ha
   have:a.1 ≤ lorM q:=by rw [← e1];exact Nat.left_le_or
   exact Nat.le_trans this Nat.right_le_or
  exact ev_mulD l p q fun a ha b hb v hv=>noC_ok lp lq 64 0 h1 v (Nat.zero_le _) (by omega) a ha b hb
noncomputable def elimD (w:Nat) (N D p:M):Nat → Option (M × M) :=
 @Nat.rec (fun _=>Option (M × M)) (some (partM w 0 p,oneM))
  (fun k ih=>ob ih fun q=>ob (mulD q.1 D) fun a=>ob (mulD q.2 N) fun np=>ob (mulD (partM w (Nat.succ k) p) np) fun b=>some (addM a b,np))
theorem elimD_ok {l:List Rat} (hl:l.length ≤ 64) {v:Nat} {r:Rat} (hv:l[v]? = some r) {N D:M} (hr:r * ev l D = ev l N) (p:M) :
 ∀ (k:Nat) (q:M × M),elimD (wv v) N D p k = some q → ev l q.1 = evT l (wv v) k p * ev l D ^ k∧ev l q.2 = r ^ k * ev l D ^ k
 | 0,q,h=>by
  have h:some (partM (wv v) 0 p,oneM) = some q:=h
  injection h with h
  subst h
  simp only [Rat.pow_zero]
  rw [ev_oneM,ev_part0 hv]
  exact ⟨by grind,by grind⟩
 | k + 1,q,h=>by
  obtain ⟨q0,h0,h⟩:=ob_inv (show ob (elimD (wv v) N D p k) _ = some q from h)
  obtain ⟨a,h1,h⟩:=ob_inv h
  obtain ⟨np,h2,h⟩:=ob_inv h
  obtain ⟨b,h3,h⟩:=ob_inv h
  injection h with h
  subst h
  obtain ⟨e1,e2⟩:=elimD_ok hl hv hr p k q0 h0
  have g1:=ev_mulDX hl h1
  have g2:=ev_mulDX hl h2
  have g3:=ev_mulDX hl h3
  refine ⟨?_,?_⟩
  ·show ev l (addM a b) = _
   rw [ev_addM,g1,g3,g2,e1,e2,ev_part hv,← hr]
   have e:partM (wv v) (Nat.succ k) p = partM (wv v) (k + 1) p:=rfl
   rw [e]
   simp only [Rat.pow_succ]
   grind
  ·show ev l np = _
   rw [g2,e2,← hr]
   simp only [Rat.pow_succ]
   grind
noncomputable def ztD (els:List (Nat × M × M)):M → Bool :=
 @List.rec (Nat × M × M) (fun _=>M → Bool) (fun p=>nilM p)
  (fun e _ ih p=>bi (nilM p) true (fz (degM e.1 p) fun E=>bi (Nat.beq E 0) (ih p) (@Option.rec (M × M) (fun _=>Bool) false (fun q=>ih q.1) (elimD e.1 e.2.1 e.2.2 p E)))) els
theorem ztD_ok {l:List Rat} (hl:l.length ≤ 64):∀ {els:List (Nat × M × M)},(∀ e ∈ els,ElOk l e) → ∀ {p:M},ztD els p = true → ev l p = 0
 | [],_,p,h=>by rw [nilM_inv (show nilM p = true from h)];rfl
 | e :: els,he,p,h=>by
  have h:bi (nilM p) true (fz (degM e.1 p) fun E=>bi (Nat.beq E 0) (ztD els p) (@Option.rec (M × M) (fun _=>Bool) false (fun q=>ztD els q.1) (elimD e.1 e.2.1 e.2.2 p E))) = true:=h
  rw [fz_eq,biq] at h
  split at h
  ·rename_i hn
   rw [nilM_inv hn];rfl
  ·rw [biq] at h
   split at h
   ·exact ztD_ok hl (fun x hx=>he x (List.mem_cons_of_mem _ hx)) h
   ·obtain ⟨v,r,e1,e2,e3,e4⟩:=he e List.mem_cons_self
    cases hq:elimD e.1 e.2.1 e.2.2 p (degM e.1 p) with
    | none=>rw [hq] at h;cases h
    | some q =>
     rw [hq] at h
     have hz:=ztD_ok hl (fun x hx=>he x (List.mem_cons_of_mem _ hx)) (show ztD els q.1 = true from h)
     rw [e1] at hq
     obtain ⟨g1,_⟩:=elimD_ok hl e2 e3 p _ q hq
     have hall:=evT_all l (wv v) (degM (wv v) p) p (degM_le (wv v) p)
     rw [hz,hall] at g1
     have hne:ev l e.2.2 ^ degM (wv v) p ≠ 0:=by
      intro e0
      generalize degM (wv v) p = k at e0
      induction k with
      | zero=>rw [Rat.pow_zero] at e0;exact absurd e0 (by decide)
      | succ k ih =>
       rw [Rat.pow_succ] at e0
       rcases Rat.mul_eq_zero.1 e0 with h | h
       ·exact ih h
       ·exact e4 h
     rcases Rat.mul_eq_zero.1 g1.symm with h | h
     ·exact h
     ·exact absurd h hne
noncomputable def sgnD (fl:List Bool) (els:List (Nat × M × M)):M → Option Int :=
 @List.rec (Nat × M × M) (fun _=>M → Option Int) (fun p=>sgnM fl p)
  (fun e _ ih p=>@Option.rec Int (fun _=>Option Int) (fz (degM e.1 p) fun E=>bi (Nat.beq E 0) (ih p) (bi (isPos (sgnM fl e.2.2)) (ob (elimD e.1 e.2.1 e.2.2 p E) fun q=>ih q.1) none)) (fun s=>some s) (sgnM fl p)) els
theorem sgnD_ok {fl:List Bool} {l:List Rat} (hl:PosL l fl) (h64:l.length ≤ 64):∀ {els:List (Nat × M × M)},(∀ e ∈ els,ElOk l e) → ∀ {p:M} {s:Int},sgnD fl els p = some s → SgnOk s (ev l p)
 | [],_,_,_,h=>sgnM_ok hl h
 | e :: els,he,p,s,h=>by
  have h:@Option.rec Int (fun _=>Option Int) (fz (degM e.1 p) fun E=>bi (Nat.beq E 0) (sgnD fl els p) (bi (isPos (sgnM fl e.2.2)) (ob (elimD e.1 e.2.1 e.2.2 p E) fun q=>sgnD fl els q.1) none)) (fun s=>some s) (sgnM fl p) = some s:=h
  cases hs:sgnM fl p with
  | some t =>
   rw [hs] at h
   injection h with h
   subst h
   exact sgnM_ok hl hs
  | none =>
   rw [hs] at h
   have h:fz (degM e.1 p) (fun E=>bi (Nat.beq E 0) (sgnD fl els p) (bi (isPos (sgnM fl e.2.2)) (ob (elimD e.1 e.2.1 e.2.2 p E) fun q=>sgnD fl els q.1) none)) = some s:=h
   rw [fz_eq,biq] at h
   split at h
   ·exact sgnD_ok hl h64 (fun x hx=>he x (List.mem_cons_of_mem _ hx)) h
   ·obtain ⟨v,r,e1,e2,e3,e4⟩:=he e List.mem_cons_self
    obtain ⟨k1,h⟩:=bi_inv h
    obtain ⟨q,hq,h⟩:=ob_inv h
    have hD:0 < ev l e.2.2:=by
     rcases sgnM_ok hl (isPos_inv k1) with ⟨g,_⟩ | ⟨_,g⟩ | ⟨g,_⟩
     ·exact absurd g (by decide)
     ·exact g
     ·exact absurd g (by decide)
    have hz:=sgnD_ok hl h64 (fun x hx=>he x (List.mem_cons_of_mem _ hx)) h
    rw [e1] at hq
    obtain ⟨g1,_⟩:=elimD_ok h64 e2 e3 p _ q hq
    have hall:=evT_all l (wv v) (degM (wv v) p) p (degM_le (wv v) p)
    rw [hall] at g1
    rw [g1] at hz
    exact sgn_of_mul (rpow_pos hD _) hz
noncomputable def exZ (els:List (Nat × M × M)) (ex:List (M × X)):Bool :=
 allB (fun e:M × X=>bi (Nat.ble 1 e.2.den) (@Option.rec M (fun _=>Bool) false (fun t=>ztD els (addM t (kM (-1) (kM (Int.ofNat e.2.den) oneM)))) (mulX e.1 e.2.ps)) false) ex
theorem exZ_ok {l:List Rat} (h64:l.length ≤ 64) {els:List (Nat × M × M)} (hels:∀ e ∈ els,ElOk l e) {ex:List (M × X)} (h:exZ els ex = true):InvOk l ex:=by
 intro e he
 obtain ⟨h1,h2⟩:=bi3 (allB_inv h e he)
 have hd:=ble_inv h1
 refine ⟨hd,?_⟩
 cases hq:mulX e.1 e.2.ps with
 | none=>rw [hq] at h2;cases h2
 | some t =>
  rw [hq] at h2
  have h0:=ztD_ok h64 hels (show ztD els (addM t (kM (-1) (kM (Int.ofNat e.2.den) oneM))) = true from h2)
  rw [ev_addM,ev_kM,ev_kM,ev_oneM,ev_mulX h64 hq] at h0
  have e1:((-1:Int):Rat) = -1:=rfl
  rw [e1] at h0
  have e2:((Int.ofNat e.2.den:Int):Rat) = (e.2.den:Rat):=by rw [Int.ofNat_eq_natCast,Rat.intCast_natCast]
  rw [e2] at h0
  have n1:=natCast_ne (show 0 < e.2.den from hd)
  unfold X.val
  generalize ev l e.1 = a at *
  generalize ev l e.2.ps = b at *
  generalize (e.2.den:Rat) = d at *
  grind
noncomputable def cmpZ (fl:List Bool) (els:List (Nat × M × M)) (d:X):Option Int:=@Option.rec Int (fun _=>Option Int) (bi (ztD els d.ps) (some 0) none) (fun s=>some s) (xsgn fl d)
theorem cmpZ_ok {l:List Rat} (hl:l.length ≤ 64) {fl:List Bool} (hp:PosL l fl) {els:List (Nat × M × M)} (he:∀ e ∈ els,ElOk l e) {d:X} {s:Int} (h:cmpZ fl els d = some s):SgnOk s (d.val l):=by
 unfold cmpZ at h
 cases hs:xsgn fl d with
 | some t =>
  rw [hs] at h
  injection h with h
  subst h
  exact xsgn_ok hp hs
 | none =>
  rw [hs] at h
  have h:bi (ztD els d.ps) (some 0) none = some s:=h
  rw [biq] at h
  split at h
  ·rename_i hz
   injection h with h
   refine .inl ⟨h.symm,?_⟩
   unfold X.val
   rw [ztD_ok hl he hz,Rat.div_def,Rat.zero_mul]
  ·cases h
theorem cfgZ_ok {l:List Rat} {c:Cfg} (h:CfgOk l c) {ex:List (M × X)} (he:exZ c.els ex = true):CfgOk l (cfgE c ex) :=
 ⟨h.len,h.bnd,h.pos,(by
  intro e hx
  have hx:e ∈ app c.invs ex:=hx
  rw [app_eq] at hx
  rcases List.mem_append.1 hx with hx | hx
  ·exact h.inv e hx
  ·exact exZ_ok h.len h.el he e hx),h.el⟩
noncomputable def sgnZ (c:Cfg) (x:X):Option Int:=bi (Nat.ble 1 x.den) (@Option.rec Int (fun _=>Option Int) (sgnD c.fl c.els x.ps) (fun s=>some s) (cmpZ c.fl c.els x)) none
theorem sgnZ_ok {l:List Rat} {c:Cfg} (h:CfgOk l c) {x:X} {s:Int} (hs:sgnZ c x = some s):SgnOk s (x.val l):=by
 obtain ⟨h1,hs⟩:=bi_inv hs
 cases hq:cmpZ c.fl c.els x with
 | some t =>
  rw [hq] at hs
  injection hs with hs
  subst hs
  exact cmpZ_ok h.len h.pos h.el hq
 | none =>
  rw [hq] at hs
  obtain ⟨g1,g2,g3⟩:=val_sign (l:=l) (x:=x) (ble_inv h1)
  rcases sgnD_ok h.pos h.len h.el (show sgnD c.fl c.els x.ps = some s from hs) with ⟨e,h⟩ | ⟨e,h⟩ | ⟨e,h⟩
  ·exact .inl ⟨e,g1 h⟩
  ·exact .inr (.inl ⟨e,g2 h⟩)
  ·exact .inr (.inr ⟨e,g3 h⟩)
noncomputable def algZ (c:Cfg) (ex:List (M × X)):Alg where
 bin:=(algO (cfgE c ex)).bin
 un:=(algO (cfgE c ex)).un
 num:=(algO (cfgE c ex)).num
 sgn:=sgnZ c
 cmp:=fun x y=>ob (xsub x y) (cmpZ c.fl c.els)
 lit:=(algO (cfgE c ex)).lit
theorem algZ_ok {l:List Rat} {c:Cfg} (h:CfgOk l c) {ex:List (M × X)} (he:exZ c.els ex = true):AlgOk (X.val l) (algZ c ex) :=
 have g:=algO_ok (cfgZ_ok h he)
 ⟨g.add,g.sub,g.mul,g.div,g.neg,g.cpy,g.num,fun _ _ hs=>sgnZ_ok h hs,fun x y s hs=>by
  obtain ⟨d,hd,hs⟩:=ob_inv (show ob (xsub x y) (cmpZ c.fl c.els) = some s from hs)
  rw [← (xsub_val hd).1]
  exact cmpZ_ok h.len h.pos h.el hs,g.lit⟩
noncomputable def orcGZ (p:Par) (ex:List (M × X)):Orcs:=(fun A:Alg =>
 withM 313 (orCmp A) (withM 311 orTrue (withM 322 (orBin A 1) (withM 305 (orBin A 2) (withM 306 (orBin A 0) (withM 312 (orSgn A)
  (withM 303 (orUn A 1) (withM 319 (orEq A) (withM 158 (orNum A (-10)) (withM 191 (orInt A (-10))
   (withM 246 orCmpI (withM 245 orOrI (withM 200 (orInsert Tryz.prog)
    (orcTmS A (orcA A))))))))))))))) (algZ p.cfg ex)
theorem orcGZ_ok {p:Par} (h:p.ok = true) {ex:List (M × X)} (he:exZ p.cfg.els ex = true):OkP p (orcGZ p ex):=fun drw =>
 have hA:=algZ_ok (par_ok h drw.fx).1 he
 with_ok (orCmpS_ok hA) (with_ok orOkS_ok (with_ok (orSubS_ok hA) (with_ok (orMulS_ok hA) (with_ok (orAddS_ok hA) (with_ok (orSgnS_ok hA) (with_ok (orCopyS_ok hA) (with_ok (orEqS_ok hA) (with_ok (orOf_ok hA) (with_ok (orInt_ok hA)
  (with_ok orCmpI_ok (with_ok orOrI_ok (with_ok orInsert_ok (orcTmS_ok hA (orcA_ok hA))))))))))))))
noncomputable def orcLZ (p:Par) (ex:List (M × X)) (tab:List (Nat × Nat × Nat)) (o:Orcs):Orcs :=
 withM 79 (orFew (uxF p.cfg.hs p.bs)) (withM 156 orByte (orcD (algZ p.cfg ex) (kxF p.cfg.hs p.bs) (fxF p.cfg.hs p.bs) (tabF tab) o))
theorem orcLZ_ok {p:Par} (h:p.ok = true) {ex:List (M × X)} (he:exZ p.cfg.els ex = true) {tab:List (Nat × Nat × Nat)} {o:Orcs} (ho:OkP p o) {drw:Drw} (hd:drw.tab = tabF tab):OrcOk Tryz.prog (toks (X.val (p.l drw.fx)) drw) (orcLZ p ex tab o):=by
 have hA:=algZ_ok (par_ok h drw.fx).1 he
 unfold orcLZ
 rw [← hd]
 exact with_ok (orFew_ok (ux_ok h drw)) (with_ok orByte_ok (orcD_ok hA (kx_ok h drw) (fx_ok h drw) (ho drw)))
noncomputable def sosEqZ (els:List (Nat × M × M)) (p q:M):Bool:=bi (eqM q p) true (ztD els (addM q (kM (-1) p)))
theorem sosEqZ_ok {l:List Rat} (h64:l.length ≤ 64) {els:List (Nat × M × M)} (hels:∀ e ∈ els,ElOk l e) {p q:M} (h:sosEqZ els p q = true):ev l p = ev l q:=by
 cases he:eqM q p with
 | true=>rw [eqM_inv he]
 | false =>
  have h:bi (eqM q p) true (ztD els (addM q (kM (-1) p))) = true:=h
  rw [he] at h
  have h0:=ztD_ok h64 hels (show ztD els (addM q (kM (-1) p)) = true from h)
  rw [ev_addM,ev_kM] at h0
  have e1:((-1:Int):Rat) = -1:=rfl
  rw [e1] at h0
  grind
/-! ### Signs by certificates with a factor -/
noncomputable def sosZ (fl:List Bool) (els:List (Nat × M × M)) (p:M) (cts:List (Nat × List (M × M))):Bool :=
 @List.rec (Nat × List (M × M)) (fun _=>Bool) false (fun a _ ih=>bi (bi (Nat.ble 1 a.1) (@Option.rec M (fun _=>Bool) false (fun q=>sosEqZ els (kM (Int.ofNat a.1) p) q) (sosM fl a.2)) false) true ih) cts
theorem sosZ_ok {fl:List Bool} {els:List (Nat × M × M)} {l:List Rat} (hl:PosL l fl) (h64:l.length ≤ 64) (hels:∀ e ∈ els,ElOk l e) {p:M}:∀ {cts:List (Nat × List (M × M))},sosZ fl els p cts = true → 0 ≤ ev l p
 | [],h=>by cases h
 | a :: cts,h=>by
  have h:bi (bi (Nat.ble 1 a.1) (@Option.rec M (fun _=>Bool) false (fun q=>sosEqZ els (kM (Int.ofNat a.1) p) q) (sosM fl a.2)) false) true (sosZ fl els p cts) = true:=h
  cases h1:bi (Nat.ble 1 a.1) (@Option.rec M (fun _=>Bool) false (fun q=>sosEqZ els (kM (Int.ofNat a.1) p) q) (sosM fl a.2)) false with
  | false=>rw [h1] at h;exact sosZ_ok hl h64 hels (show sosZ fl els p cts = true from h)
  | true =>
   obtain ⟨h2,h3⟩:=bi3 h1
   cases hq:sosM fl a.2 with
   | none=>rw [hq] at h3;cases h3
   | some q =>
    rw [hq] at h3
    have he:=sosEqZ_ok h64 hels (show sosEqZ els (kM (Int.ofNat a.1) p) q = true from h3)
    have h0:=sosM_ok hl h64 hq
    rw [← he,ev_kM] at h0
    have hm:(0:Rat) < ((Int.ofNat a.1:Int):Rat):=int_pos (by have:=ble_inv h2;show (0:Int) < (a.1:Int);omega)
    generalize ((Int.ofNat a.1:Int):Rat) = c at *
    generalize ev l p = x at *
    rcases Rat.le_total (a:=0) (b:=x) with h4 | h4
    ·exact h4
    ·have h5:0 ≤ c * (-x):=Rat.mul_nonneg (Rat.le_of_lt hm) (by grind)
     have h6:c * x = 0:=by grind
     rcases Rat.mul_eq_zero.1 h6 with h7 | h7 <;> grind
noncomputable def orCmpZ (fl:List Bool) (els:List (Nat × M × M)) (cts:List (Nat × List (M × M))) (l:List V) (st:St):Option R :=
 ob (rat2 l) fun p=>ob (xsub p.2 p.1) fun x=>bi (sosZ fl els x.ps cts) (some ⟨.s (.c (.rg (-1) 0)),st,[],some []⟩) none
theorem orCmpZ_ok {l:List Rat} {drw:Drw} {fl:List Bool} {els:List (Nat × M × M)} (hl:PosL l fl) (h64:l.length ≤ 64) (hels:∀ e ∈ els,ElOk l e) (cts:List (Nat × List (M × M))):OrcOne Tryz.prog (toks (X.val l) drw) 39 (orCmpZ fl els cts):=by
 intro vl st r hr hst
 obtain ⟨p,h1,hr⟩:=ob_inv hr
 obtain ⟨x,h2,hr⟩:=ob_inv hr
 obtain ⟨h3,hr⟩:=bi_inv hr
 injection hr with hr
 subst hr
 refine ⟨eff_pure hst _ _,Tryz.call39,fun E w vs hrel hp=>?_⟩
 obtain ⟨u,v,rfl,⟨s1,r1⟩,s2,r2⟩:=rat2_rel hp.gi h1 hrel
 obtain ⟨ex,hd⟩:=xsub_val (l:=l) h2
 have h0:=nonneg_of hd (sosZ_ok hl h64 hels h3)
 rw [ex] at h0
 obtain ⟨s,hs,hs1⟩:∃ s,SgnOk s (p.1.val l - p.2.val l)∧(-1 ≤ s∧s ≤ 0):=by
  rcases Rat.le_iff_lt_or_eq.1 h0 with h | h
  ·exact ⟨-1,.inr (.inr ⟨rfl,by grind⟩),by decide⟩
  ·exact ⟨0,.inl ⟨rfl,by grind⟩,by decide⟩
 refine (iRatCmp _ _ _ _ _ _ (is_of _ s1).okr (is_of _ s2).okr u v w r1 r2).mono fun e u ⟨he,hb⟩=>?_
 rw [cmpV_is s1 s2 hs] at he
 exact ⟨_,E,he,out_below hp.gi hb ⟨s,hs1,rfl⟩⟩
noncomputable def orcKZ (p:Par) (ex:List (M × X)) (cts:List (Nat × List (M × M))) (o:Orcs):Orcs:=withM 39 (altM (orCmp (algZ p.cfg ex)) (orCmpZ p.cfg.fl p.cfg.els cts)) o
theorem orcKZ_ok {p:Par} (h:p.ok = true) {ex:List (M × X)} (he:exZ p.cfg.els ex = true) {cts:List (Nat × List (M × M))} {o:Orcs} {drw:Drw} (ho:OrcOk Tryz.prog (toks (X.val (p.l drw.fx)) drw) o):OrcOk Tryz.prog (toks (X.val (p.l drw.fx)) drw) (orcKZ p ex cts o) :=
 have hc:=(par_ok h drw.fx).1
 with_ok (alt_ok (orCmp_ok (algZ_ok hc he)) (orCmpZ_ok hc.pos hc.len hc.el cts)) ho
end Go.Proofs.YtcblajhfehadaaaGreat
