/-
 Shared texts (X15).
-/
import Derived.Test.YtchbnlkambncnaaGreatDoorX14
import Derived.Test.YtchbnlkambncnaaGreatDoorX10
import Derived.Test.YtchbnlkambncnaaGreatDoorX5
import Derived.Test.YtchbnlkambncnaaGreatDoorX12
import Derived.Deep.RegionWith
import Derived.Test.YtchbnlkambncnaaGreatDoorX4
import Derived.IntWalk
import Derived.Test.YtchbnlkambncnaaGreatDoorX6
import Derived.BigQuiet
set_option maxRecDepth 100000
set_option maxHeartbeats 4000000
namespace Go.Proofs.YtchbnlkambncnaaGreatDoor
open Go.RowKit Go.Joins Go.SX
abbrev Cells:=List (Nat × List C)
noncomputable def memT (m0:Cells):T Blk:=@List.rec (Nat × List C) (fun _=>T Blk) .lf (fun p _ ih=>ih.set p.1 (some ⟨p.2⟩)) m0
noncomputable def allB {α:Type} (f:α → Bool) (l:List α):Bool:=@List.rec α (fun _=>Bool) true (fun a _ ih=>bi (f a) ih false) l
noncomputable def hasB (m:T Blk) (p:Nat × List C):Bool:=@Option.rec Blk (fun _=>Bool) false (fun b=>eqL eqC b.cells p.2) (m.get p.1)
noncomputable def keyIn (k:Nat) (l:Cells):Bool:=@List.rec (Nat × List C) (fun _=>Bool) false (fun p _ ih=>bi (Nat.beq p.1 k) true ih) l
noncomputable def nodupK (l:Cells):Bool:=@List.rec (Nat × List C) (fun _=>Bool) true (fun p l ih=>bi (keyIn p.1 l) false ih) l
noncomputable def idx (k:Nat) (l:Cells):Nat → Option Nat:=@List.rec (Nat × List C) (fun _=>Nat → Option Nat) (fun _=>none) (fun p _ ih n=>bi (Nat.beq p.1 k) (some n) (ih (Nat.add n 1))) l
noncomputable def placeF (f:BM) (g:TM) (l:Cells):Nat → T Blk → Option (T Blk) :=
 @List.rec (Nat × List C) (fun _=>Nat → T Blk → Option (T Blk)) (fun _ m=>some m) (fun p _ ih n m=>ob (mapO (mvC f g) p.2) fun cs=>ih (Nat.add n 1) (m.set n (some ⟨cs⟩))) l
theorem allB_inv {α:Type} {f:α → Bool}:∀ {l:List α},allB f l = true → ∀ a ∈ l,f a = true
 | [],_,a,ha=>by simp at ha
 | b :: l,h,a,ha=>by
  have h':bi (f b) (allB f l) false = true:=h
  obtain ⟨h1,h2⟩:=bi3 h'
  rcases List.mem_cons.1 ha with e | ha
  ·rw [e];exact h1
  ·exact allB_inv h2 a ha
theorem hasB_inv {m:T Blk} {p:Nat × List C} (h:hasB m p = true):m.get p.1 = some ⟨p.2⟩:=by
 unfold hasB at h
 cases hq:m.get p.1 with
 | none=>rw [hq] at h;cases h
 | some b =>
  rw [hq] at h
  have e:=eqL_inv (fun _ _=>eqC_inv) h
  rw [← e]
theorem hasB_at {m:T Blk} {k:Nat} {cs:List C} (h:hasB m (k,cs) = true):m.get k = some ⟨cs⟩:=hasB_inv (p:=(k,cs)) h
theorem bi_flip {c d:Bool} (h:bi c false d = true):c = false∧d = true:=by cases c <;> first | (cases h;done) | exact ⟨rfl,h⟩
theorem ble_false {a b:Nat} (h:Nat.ble a b = false):b < a:=by
 by_cases g:a ≤ b
 ·rw [Nat.ble_eq_true_of_le g] at h;cases h
 ·omega
theorem beq_false' {a b:Nat} (h:Nat.beq a b = false):a ≠ b:=fun e=>by rw [e,Nat.beq_refl] at h;cases h
theorem memT_get:∀ {m0:Cells} {nb0:Nat},nb0 ≤ 8388608 → (∀ p ∈ m0,p.1 < nb0) → ∀ k b,(memT m0).get k = some b → ∃ p ∈ m0,p.1 = k∧b = ⟨p.2⟩
 | [],_,_,_,k,b,h=>by
  have h':(T.lf:T Blk).get k = some b:=h
  cases h'
 | p :: m0,nb0,hb,hd,k,b,h=>by
  have h':(T.set (memT m0) p.1 (some ⟨p.2⟩)).get k = some b:=h
  rw [get_set _ _ _ _ (by have:=hd p (by simp);omega)] at h'
  split at h'
  ·rename_i e
   injection h' with h'
   exact ⟨p,by simp,e.symm,h'.symm⟩
  ·obtain ⟨q,h1,h2⟩:=memT_get hb (fun q hq=>hd q (by simp [hq])) k b h'
   exact ⟨q,by simp [h1],h2⟩
theorem keyIn_false {k:Nat}:∀ {l:Cells},keyIn k l = false → ∀ p ∈ l,p.1 ≠ k
 | [],_,p,hp=>by simp at hp
 | q :: l,h,p,hp=>by
  have h':bi (Nat.beq q.1 k) true (keyIn k l) = false:=h
  cases hq:Nat.beq q.1 k with
  | true=>rw [hq] at h';cases h'
  | false =>
   rw [hq] at h'
   rcases List.mem_cons.1 hp with e | hp
   ·rw [e];exact beq_false' hq
   ·exact keyIn_false h' p hp
theorem nodup_inv:∀ {l:Cells},nodupK l = true → ∀ (i j:Nat) (p q:Nat × List C),l[i]? = some p → l[j]? = some q → p.1 = q.1 → i = j
 | [],_,i,_,p,_,h1,_,_=>by simp at h1
 | a :: l,h,i,j,p,q,h1,h2,h3=>by
  have h':bi (keyIn a.1 l) false (nodupK l) = true:=h
  obtain ⟨g1,g2⟩:=bi_flip h'
  have hk:=keyIn_false g1
  cases i with
  | zero =>
   cases j with
   | zero=>rfl
   | succ j =>
    simp at h1 h2
    exact absurd (by rw [h1];exact h3.symm) (hk q (List.mem_of_getElem? h2))
  | succ i =>
   cases j with
   | zero =>
    simp at h1 h2
    exact absurd (by rw [h2];exact h3) (hk p (List.mem_of_getElem? h1))
   | succ j =>
    simp at h1 h2
    rw [nodup_inv g2 i j p q h1 h2 h3]
theorem idx_inv {k:Nat}:∀ {l:Cells} {n m:Nat},idx k l n = some m → ∃ i p,l[i]? = some p∧p.1 = k∧m = n + i
 | [],_,_,h=>by cases h
 | q :: l,n,m,h=>by
  have h':bi (Nat.beq q.1 k) (some n) (idx k l (Nat.add n 1)) = some m:=h
  cases hq:Nat.beq q.1 k with
  | true =>
   rw [hq] at h'
   injection h' with h'
   exact ⟨0,q,rfl,beq_inv hq,by omega⟩
  | false =>
   rw [hq] at h'
   obtain ⟨i,p,h1,h2,h3⟩:=idx_inv h'
   have:Nat.add n 1 = n + 1:=rfl
   exact ⟨i + 1,p,by simpa using h1,h2,by omega⟩
theorem placeF_get {f:BM} {g:TM}:∀ {l:Cells} {n:Nat} {m m':T Blk},placeF f g l n m = some m' → n + l.length ≤ 8388608 →
 (∀ k,(k < n ∨ n + l.length ≤ k) → m'.get k = m.get k)∧∀ i p,l[i]? = some p → ∃ cs,mapO (mvC f g) p.2 = some cs∧m'.get (n + i) = some ⟨cs⟩
 | [],n,m,m',h,_=>by
  have h':some m = some m':=h
  injection h' with h';subst h'
  exact ⟨fun _ _=>rfl,fun i p hp=>by simp at hp⟩
 | q :: l,n,m,m',h,hb=>by
  have h':ob (mapO (mvC f g) q.2) (fun cs=>placeF f g l (Nat.add n 1) (m.set n (some ⟨cs⟩))) = some m':=h
  obtain ⟨cs,h1,h'⟩:=ob_inv h'
  have hl:(q :: l).length = l.length + 1:=rfl
  have hs:Nat.add n 1 = n + 1:=rfl
  rw [hs] at h'
  obtain ⟨g1,g2⟩:=placeF_get h' (by omega)
  have hget:∀ k,(m.set n (some ⟨cs⟩)).get k = if k = n then some ⟨cs⟩ else m.get k:=fun k=>get_set _ _ _ _ (by omega)
  refine ⟨fun k hk=>?_,fun i p hp=>?_⟩
  ·rw [g1 k (by omega),hget,if_neg (by omega)]
  ·cases i with
   | zero =>
    simp at hp
    subst hp
    exact ⟨cs,h1,by rw [Nat.add_zero,g1 n (by omega),hget,if_pos rfl]⟩
   | succ i =>
    obtain ⟨cs',h2,h3⟩:=g2 i p (by simpa using hp)
    exact ⟨cs',h2,by rw [show n + (i + 1) = n + 1 + i by omega];exact h3⟩
structure Kept (call:CallFn) (f:Nat) (a0:List V) (m0:Cells) (nb0 nt0 nt1:Nat) (v:V) (res:Cells):Prop where
 b8:nb0 ≤ 8388608
 low:∀ p ∈ m0,p.1 < nb0
 run:∃ r,call f a0 ⟨memT m0,nb0,nt0⟩ = some r∧r.v = v∧r.w = []∧r.st.nt = nt1∧∀ p ∈ res,nb0 ≤ p.1∧p.1 < r.st.nb∧r.st.mem.get p.1 = some ⟨p.2⟩
 dup:nodupK res = true
noncomputable def keptIn (m0:Cells) (nb0:Nat):Bool:=bi (Nat.ble nb0 8388608) (allB (fun p=>bi (Nat.ble nb0 p.1) false true) m0) false
noncomputable def keptR (nb0 nt1:Nat) (v:V) (res:Cells) (o:Option R):Bool :=
 @Option.rec R (fun _=>Bool) false (fun r=>bi (eqV r.v v) (bi (nilB r.w) (bi (Nat.beq r.st.nt nt1) (bi (nodupK res) (allB (fun p=>bi (Nat.ble nb0 p.1) (bi (Nat.ble r.st.nb p.1) false (hasB r.st.mem p)) false) res) false) false) false) false) o
theorem kept_of {call:CallFn} {f:Nat} {a0:List V} {m0:Cells} {nb0 nt0 nt1:Nat} {v:V} {res:Cells} (h1:keptIn m0 nb0 = true) (h2:keptR nb0 nt1 v res (call f a0 ⟨memT m0,nb0,nt0⟩) = true) :
 Kept call f a0 m0 nb0 nt0 nt1 v res:=by
 obtain ⟨i1,i2⟩:=bi3 h1
 cases hq:call f a0 ⟨memT m0,nb0,nt0⟩ with
 | none=>rw [hq] at h2;cases h2
 | some r =>
  rw [hq] at h2
  obtain ⟨j1,h2⟩:=bi3 h2
  obtain ⟨j2,h2⟩:=bi3 h2
  obtain ⟨j3,h2⟩:=bi3 h2
  obtain ⟨j4,j5⟩:=bi3 h2
  refine ⟨ble_inv i1,fun p hp=>ble_false (bi_flip (allB_inv i2 p hp)).1,⟨r,hq,eqV_inv j1,?_,beq_inv j3,fun p hp=>?_⟩,j4⟩
  ·cases hw:r.w with
   | nil=>rfl
   | cons a l=>rw [hw] at j2;cases j2
  ·obtain ⟨g1,g2⟩:=bi3 (allB_inv j5 p hp)
   obtain ⟨g3,g4⟩:=bi_flip g2
   exact ⟨ble_inv g1,ble_false g3,hasB_inv g4⟩
noncomputable def outB (nb0:Nat) (β:List Nat) (res:Cells) (nb k:Nat):Option Nat:=bi (Nat.ble nb0 k) (idx k res nb) (nth β k)
noncomputable def tokM (nt0:Nat) (τ:List (Nat × X)) (ξ:List X) (x0:Nat → X) (nt t:Nat) (x:X):Option (Nat × X) :=
 bi (eqX x (x0 t)) (bi (Nat.ble nt0 t) (ob (nth ξ (Nat.sub t nt0)) fun y=>some (Nat.add nt (Nat.sub t nt0),y)) (nth τ t)) none
noncomputable def nodupN (l:List Nat):Bool:=@List.rec Nat (fun _=>Bool) true (fun a l ih=>bi (memb l a) false ih) l
noncomputable def hasM (f:BM) (g:TM) (m:T Blk) (p:Nat × List C):Bool:=@Option.rec (Nat × List C) (fun _=>Bool) false (fun q=>hasB m q) (ob (f p.1) fun k=>ob (mapO (mvC f g) p.2) fun cs=>some (k,cs))
noncomputable def reloc (a0:List V) (m0:Cells) (nb0 nt0:Nat) (v:V) (res:Cells) (x0:Nat → X) (β:List Nat) (τ:List (Nat × X)) (ξ:List X) (vl:List V) (st:St):Option R :=
 ob (mapO (mvV (nth β) (tokM nt0 τ [] x0 st.nt)) a0) fun a=>bi (eqL eqV a vl) (bi (Nat.ble (len β) nb0) (bi (nodupN β) (bi (allB (hasM (nth β) (tokM nt0 τ [] x0 st.nt) st.mem) m0) (bi (Nat.ble (Nat.add st.nb (len res)) 8388608)
  (ob (mvV (outB nb0 β res st.nb) (tokM nt0 τ ξ x0 st.nt) v) fun v'=>ob (placeF (outB nb0 β res st.nb) (tokM nt0 τ ξ x0 st.nt) res st.nb st.mem) fun m'=>some ⟨v',⟨m',Nat.add st.nb (len res),Nat.add st.nt (len ξ)⟩,[],none⟩) none) none) none) none) none
theorem memb_inv {l:List Nat} {n:Nat}:memb l n = false → n ∉ l:=by
 induction l with
 | nil=>intro _ h;simp at h
 | cons a l ih =>
  intro h hm
  have h':bi (Nat.beq a n) true (memb l n) = false:=h
  cases hq:Nat.beq a n with
  | true=>rw [hq] at h';cases h'
  | false =>
   rw [hq] at h'
   rcases List.mem_cons.1 hm with e | hm
   ·exact beq_false' hq e.symm
   ·exact ih h' hm
theorem nodupN_inv:∀ {l:List Nat},nodupN l = true → ∀ (i j k:Nat),l[i]? = some k → l[j]? = some k → i = j
 | [],_,i,_,k,h1,_=>by simp at h1
 | a :: l,h,i,j,k,h1,h2=>by
  have h':bi (memb l a) false (nodupN l) = true:=h
  obtain ⟨g1,g2⟩:=bi_flip h'
  have hk:=memb_inv g1
  cases i with
  | zero =>
   cases j with
   | zero=>rfl
   | succ j =>
    simp at h1 h2
    subst h1
    exact absurd (List.mem_of_getElem? h2) hk
  | succ i =>
   cases j with
   | zero =>
    simp at h1 h2
    subst h2
    exact absurd (List.mem_of_getElem? h1) hk
   | succ j =>
    simp at h1 h2
    rw [nodupN_inv g2 i j k h1 h2]
theorem tokM_inv {nt0:Nat} {τ:List (Nat × X)} {ξ:List X} {x0:Nat → X} {nt t:Nat} {x:X} {p:Nat × X} (h:tokM nt0 τ ξ x0 nt t x = some p) :
 x = x0 t∧((t < nt0∧τ[t]? = some p) ∨ (∃ i y,t = nt0 + i∧ξ[i]? = some y∧p = (nt + i,y))):=by
 obtain ⟨h1,h⟩:=bi_inv h
 refine ⟨eqX_inv h1,?_⟩
 cases hq:Nat.ble nt0 t with
 | true =>
  rw [hq] at h
  obtain ⟨y,h2,h⟩:=ob_inv h
  injection h with h
  rw [nth_eq] at h2
  have:=ble_inv hq
  exact .inr ⟨t - nt0,y,by omega,h2,h.symm⟩
 | false =>
  rw [hq] at h
  have h:nth τ t = some p:=h
  rw [nth_eq] at h
  exact .inl ⟨ble_false hq,h⟩
section
variable {P:Program} {val0 val:X → Rat} {drw:Drw}
theorem tval_move {v0 v1:X → Rat} {j j':Nat} {G:List Nat} {w:World} {cs:Array Value} {x y:X} (hx:x.kd ≠ 1) (hy:y.kd ≠ 1) (he:v0 x = v1 y) (h:TVal v1 j G w ⟨cs,y⟩):TVal v0 j' G w ⟨cs,x⟩:=by
 unfold TVal at *
 simp only at h ⊢
 rw [if_neg hy] at h
 rw [if_neg hx,he];exact h
open Classical in
theorem reloc_ok {call:CallFn} (hcall:CallOk P (toks val0 drw) call) {f:Nat} {a0:List V} {m0:Cells} {nb0 nt0:Nat} {v:V} {res:Cells} {x0:Nat → X} {β:List Nat} {τ:List (Nat × X)} {ξ:List X} {vl:List V} {st:St} {r:R}
 (hk:Kept call f a0 m0 nb0 nt0 (nt0 + ξ.length) v res) (hx0:∀ t,(x0 t).kd ≠ 1)
 (hτ:∀ t p,t < nt0 → τ[t]? = some p → p.2.kd ≠ 1∧val0 (x0 t) = val p.2) (hξ:∀ i y,ξ[i]? = some y → y.kd ≠ 1∧val0 (x0 (nt0 + i)) = val y)
 (h:reloc a0 m0 nb0 nt0 v res x0 β τ ξ vl st = some r) (hst:StOk st) :
 Eff st r∧(∀ vs w,(callFunc f vs).run P w = .ok (.enter f vs) w) ∧
  ∀ E w vs,RelA E vl vs → Pre (toks val drw) E w st r → Calls P f vs.toArray w fun e u=>∃ v F,e = .returned v∧Out (toks val drw) E w st r F u v:=by
 obtain ⟨hb8,hlow,⟨r0,hq,hv0,hw0,hnt0,hres⟩,hdup⟩:=hk
 have hst0:StOk ⟨memT m0,nb0,nt0⟩:=by
  refine ⟨hb8,fun k hk=>?_⟩
  show (memT m0).get k = none
  cases hg:(memT m0).get k with
  | none=>rfl
  | some b =>
   obtain ⟨p,h1,h2,_⟩:=memT_get hb8 hlow k b hg
   have:=hlow p h1
   have:nb0 ≤ k:=hk
   omega
 obtain ⟨heff0,henter,hsound⟩:=hcall f a0 _ r0 hq hst0
 have hnb0:=heff0.ok.nb
 obtain ⟨a,c0,h⟩:=ob_inv h
 obtain ⟨c1,h⟩:=bi_inv h
 obtain ⟨c2,h⟩:=bi_inv h
 obtain ⟨c3,h⟩:=bi_inv h
 obtain ⟨c4,h⟩:=bi_inv h
 obtain ⟨c5,h⟩:=bi_inv h
 obtain ⟨v',c6,h⟩:=ob_inv h
 obtain ⟨m',c7,h⟩:=ob_inv h
 injection h with h
 subst h
 have c1':=eqL_inv (fun _ _=>eqV_inv) c1
 subst c1'
 have c2':β.length ≤ nb0:=by have:=ble_inv c2;rw [len_eq] at this;exact this
 have c5':st.nb + res.length ≤ 8388608:=by have:=ble_inv c5;rw [len_eq] at this;exact this
 have hnth:∀ k,nth β k = β[k]?:=fun k=>nth_eq β k
 have hinj:∀ i j k,nth β i = some k → nth β j = some k → i = j:=fun i j k h1 h2=>nodupN_inv c3 i j k (by rw [← hnth];exact h1) (by rw [← hnth];exact h2)
 have c4':∀ p ∈ m0,∃ k cs,nth β p.1 = some k∧mapO (mvC (nth β) (tokM nt0 τ [] x0 st.nt)) p.2 = some cs∧st.mem.get k = some ⟨cs⟩:=by
  intro p hp
  have:=allB_inv c4 p hp
  unfold hasM at this
  cases hk:nth β p.1 with
  | none=>rw [hk] at this;cases this
  | some k =>
   rw [hk] at this
   have this:@Option.rec (Nat × List C) (fun _=>Bool) false (fun q=>hasB st.mem q) (ob (mapO (mvC (nth β) (tokM nt0 τ [] x0 st.nt)) p.2) fun cs=>some (k,cs)) = true:=this
   cases hc:mapO (mvC (nth β) (tokM nt0 τ [] x0 st.nt)) p.2 with
   | none=>rw [hc] at this;cases this
   | some cs =>
    rw [hc] at this
    exact ⟨k,cs,rfl,rfl,hasB_at this⟩
 obtain ⟨p1,p2⟩:=placeF_get c7 c5'
 rw [len_eq,len_eq]
 refine ⟨⟨Nat.le_add_right _ _,Nat.le_add_right _ _,fun k _ hk=>p1 k (.inl hk),fun k hk=>by simp at hk,⟨c5',fun k hk=>?_⟩,fun l hl=>by cases hl⟩,henter,fun E w vs hrel hp=>?_⟩
 ·show m'.get k = none
  have:st.nb + res.length ≤ k:=hk
  rw [p1 k (.inr this)]
  exact hst.dom k (by omega)
 ·-- the small world's environment: all other blocks lie behind H
  obtain ⟨H,hH1,hH2⟩:∃ H:Nat,nb0 ≤ H∧r0.st.nb ≤ H:=⟨8388608,hb8,hnb0⟩
  let E0:Env:={ rho:=fun k=>if H ≤ k then E.rho (k - H) else (nth β k).bind E.rho,sig:=fun t=>if t < nt0 then (τ[t]?).bind fun p=>(E.sig p.1).bind fun cs=>if cs.x = p.2 then some ⟨cs.cs,x0 t⟩ else none else none,fix:=E.fix }
  have hE0lo:∀ k,k < H → E0.rho k = (nth β k).bind E.rho:=fun k hk=>by
   show (if H ≤ k then E.rho (k - H) else (nth β k).bind E.rho) = _
   rw [if_neg (by omega)]
  have hE0hi:∀ k,E0.rho (H + k) = E.rho k:=fun k=>by
   show (if H ≤ H + k then E.rho (H + k - H) else (nth β (H + k)).bind E.rho) = _
   rw [if_pos (by omega),show H + k - H = k by omega]
  have hE0:∀ k b,E0.rho k = some b → ∃ k',(k < H → nth β k = some k')∧E.rho k' = some b:=by
   intro k b hk
   by_cases hlt:k < H
   ·rw [hE0lo k hlt] at hk
    cases hn:nth β k with
    | none=>rw [hn] at hk;cases hk
    | some k'=>rw [hn] at hk;exact ⟨k',fun _=>rfl,hk⟩
   ·have:=hE0hi (k - H)
    rw [show H + (k - H) = k by omega,hk] at this
    exact ⟨k - H,fun h=>absurd h hlt,this.symm⟩
  have hβ:∀ k k',nth β k = some k' → k < nb0:=fun k k' hk=>by
   rw [hnth] at hk
   have:=(List.getElem?_eq_some_iff.1 hk).1
   omega
  have hsig0:∀ t c,E0.sig t = some c → ∃ p cs,t < nt0∧τ[t]? = some p∧E.sig p.1 = some cs∧cs.x = p.2∧c = ⟨cs.cs,x0 t⟩:=by
   intro t c hc
   have hc':(if t < nt0 then (τ[t]?).bind fun p=>(E.sig p.1).bind fun cs=>if cs.x = p.2 then some ⟨cs.cs,x0 t⟩ else none else none) = some c:=hc
   split at hc'
   ·rename_i hlt
    cases hp:τ[t]? with
    | none=>rw [hp] at hc';cases hc'
    | some p =>
     rw [hp] at hc'
     have hc':((E.sig p.1).bind fun cs=>if cs.x = p.2 then some ⟨cs.cs,x0 t⟩ else none) = some c:=hc'
     cases hs:E.sig p.1 with
     | none=>rw [hs] at hc';cases hc'
     | some cs =>
      rw [hs] at hc'
      have hc':(if cs.x = p.2 then some (⟨cs.cs,x0 t⟩:TokD) else none) = some c:=hc'
      split at hc'
      ·rename_i hx
       injection hc' with hc'
       exact ⟨p,cs,hlt,rfl,hs,hx,hc'.symm⟩
      ·cases hc'
   ·cases hc'
  have hun:Un (nth β) (tokM nt0 τ [] x0 st.nt) E0 E:=by
   refine ⟨fun k k' b hk hb=>?_,fun t x p cs hg hs hx=>?_,rfl⟩
   ·rw [hE0lo k (by have:=hβ k k' hk;omega),hk];exact hb
   ·obtain ⟨e,h1 | ⟨i,y,_,h2,_⟩⟩:=tokM_inv hg
    ·show (if t < nt0 then (τ[t]?).bind fun p=>(E.sig p.1).bind fun cs=>if cs.x = p.2 then some (⟨cs.cs,x0 t⟩:TokD) else none else none) = _
     rw [if_pos h1.1,h1.2]
     show ((E.sig p.1).bind fun cs=>if cs.x = p.2 then some (⟨cs.cs,x0 t⟩:TokD) else none) = _
     rw [hs]
     show (if cs.x = p.2 then some (⟨cs.cs,x0 t⟩:TokD) else none) = _
     rw [if_pos hx,e]
    ·simp at h2
  have hm0:∀ k b,(memT m0).get k = some b → ∃ p ∈ m0,p.1 = k∧b = ⟨p.2⟩:=fun k b hg=>memT_get hb8 hlow k b hg
  have hpre:Pre (toks val0 drw) E0 w ⟨memT m0,nb0,nt0⟩ r0:=by
   refine ⟨⟨fun k p s hk=>?_,fun t c hc=>?_,?_⟩,fun k b _ hg=>?_,fun k k' b b' p s s' _ _ hg hg' hk hk'=>?_,fun k hk hk2=>?_,fun j h1 h2=>?_⟩
   ·obtain ⟨k',_,h2⟩:=hE0 k _ hk
    exact hp.gi.low k' p s h2
   ·obtain ⟨p,cs,hlt,hp1,hs,hx,rfl⟩:=hsig0 t c hc
    obtain ⟨G,hG,hT⟩:=hp.gi.tok _ _ hs
    refine ⟨G,fun b hb=>⟨(hG b hb).1,fun k s hk=>?_⟩,?_⟩
    ·obtain ⟨k',_,h2⟩:=hE0 k _ hk
     exact (hG b hb).2 k' s h2
    ·obtain ⟨g1,g2⟩:=hτ t p hlt hp1
     have hT:TVal val p.1 G w cs:=hT
     obtain ⟨cc,cx⟩:=cs
     simp only at hx
     subst hx
     exact tval_move (j':=0) (hx0 t) g1 g2 hT
   ·obtain ⟨G,hG,hB⟩:=hp.gi.base
    exact ⟨G,fun b hb=>⟨(hG b hb).1,fun k s hk=>by obtain ⟨k',_,h2⟩:=hE0 k _ hk;exact (hG b hb).2 k' s h2⟩,hB⟩
   ·obtain ⟨q,h1,h2,h3⟩:=hm0 k b hg
    obtain ⟨k',cs,g1,g2,g3⟩:=c4' q h1
    obtain ⟨p,s,arr,ty,e1,e2,e3,e4⟩:=hp.blk k' _ trivial g3
    refine ⟨p,s,arr,ty,?_,e2,e3,?_⟩
    ·rw [hE0lo k (by rw [← h2];have:=hlow q h1;omega),← h2,g1];exact e1
    ·rw [h3];exact unF_rel hun g2 e4
   ·obtain ⟨q,h1,h2,h3⟩:=hm0 k b hg
    obtain ⟨q',h1',h2',h3'⟩:=hm0 k' b' hg'
    obtain ⟨j,cs,g1,g2,g3⟩:=c4' q h1
    obtain ⟨j',cs',g1',g2',g3'⟩:=c4' q' h1'
    obtain ⟨l,l1,l2⟩:=hE0 k _ hk
    obtain ⟨l',l1',l2'⟩:=hE0 k' _ hk'
    have lk:=hlow q h1
    have lk':=hlow q' h1'
    rw [h2] at g1 lk
    rw [h2'] at g1' lk'
    replace l1:=l1 (by omega)
    replace l1':=l1' (by omega)
    rw [g1] at l1
    rw [g1'] at l1'
    injection l1 with l1
    injection l1' with l1'
    subst l1
    subst l1'
    have:=hp.inj _ _ _ _ p s s' trivial trivial g3 g3' l2 l2'
    subst this
    exact hinj _ _ _ g1 g1'
   ·have h1:nb0 ≤ k:=hk
    have h2:k < r0.st.nb:=hk2
    rw [hE0lo k (by omega),hnth,List.getElem?_eq_none (by omega)];rfl
   ·have:nt0 ≤ j:=h1
    show (if j < nt0 then _ else none) = none
    rw [if_neg (by omega)]
  refine (hsound E0 w vs (unA_rel hun c0 hrel) hpre).mono fun e u ⟨x,F0,he,ho⟩=>?_
  have hF0:∀ k,k < nb0 → F0.rho k = E0.rho k:=by
   intro k hk
   by_cases g:F0.rho k = E0.rho k
   ·exact g
   ·have:=(ho.step.newB k g).1
    have:nb0 ≤ k:=this
    omega
  have hF0hi:∀ k,F0.rho (H + k) = E.rho k:=by
   intro k
   rw [← hE0hi k]
   by_cases g:F0.rho (H + k) = E0.rho (H + k)
   ·exact g
   ·have:=(ho.step.newB _ g).2
    omega
  have hF0s:∀ t,t < nt0 → F0.sig t = E0.sig t:=by
   intro t ht
   by_cases g:F0.sig t = E0.sig t
   ·exact g
   ·have:=(ho.step.newT t g).1
    have:nt0 ≤ t:=this
    omega
  let F:Env:={ rho:=fun k=>if st.nb ≤ k then (match res[k - st.nb]? with | some p=>F0.rho p.1 | none=>E.rho k) else E.rho k,
               sig:=fun j=>if st.nt ≤ j then (match ξ[j - st.nt]? with | some y=>(F0.sig (nt0 + (j - st.nt))).bind fun cs=>if cs.x = x0 (nt0 + (j - st.nt)) then some ⟨cs.cs,y⟩ else none | none=>E.sig j) else E.sig j,
               fix:=E.fix }
  have hFlo:∀ k,k < st.nb → F.rho k = E.rho k:=fun k hk=>by
   show (if st.nb ≤ k then _ else E.rho k) = _
   rw [if_neg (by omega)]
  have hFnew:∀ (i:Nat) (p:Nat × List C),res[i]? = some p → F.rho (st.nb + i) = F0.rho p.1:=fun i p hi=>by
   show (if st.nb ≤ st.nb + i then (match res[st.nb + i - st.nb]? with | some p=>F0.rho p.1 | none=>E.rho (st.nb + i)) else E.rho (st.nb + i)) = _
   rw [if_pos (by omega),show st.nb + i - st.nb = i by omega,hi]
  have hFhi:∀ k,st.nb + res.length ≤ k → F.rho k = E.rho k:=fun k hk=>by
   show (if st.nb ≤ k then (match res[k - st.nb]? with | some p=>F0.rho p.1 | none=>E.rho k) else E.rho k) = _
   rw [if_pos (by omega),List.getElem?_eq_none (by omega)]
  have hSlo:∀ j,j < st.nt → F.sig j = E.sig j:=fun j hj=>by
   show (if st.nt ≤ j then _ else E.sig j) = _
   rw [if_neg (by omega)]
  have hSnew:∀ (i:Nat) (y:X),ξ[i]? = some y → F.sig (st.nt + i) = (F0.sig (nt0 + i)).bind fun cs=>if cs.x = x0 (nt0 + i) then some ⟨cs.cs,y⟩ else none:=fun i y hi=>by
   show (if st.nt ≤ st.nt + i then (match ξ[st.nt + i - st.nt]? with | some y=>(F0.sig (nt0 + (st.nt + i - st.nt))).bind fun cs=>if cs.x = x0 (nt0 + (st.nt + i - st.nt)) then some (⟨cs.cs,y⟩:TokD) else none | none=>E.sig (st.nt + i)) else E.sig (st.nt + i)) = _
   rw [if_pos (by omega),show st.nt + i - st.nt = i by omega,hi]
  have hShi:∀ j,st.nt + ξ.length ≤ j → F.sig j = E.sig j:=fun j hj=>by
   show (if st.nt ≤ j then (match ξ[j - st.nt]? with | some y=>(F0.sig (nt0 + (j - st.nt))).bind fun cs=>if cs.x = x0 (nt0 + (j - st.nt)) then some (⟨cs.cs,y⟩:TokD) else none | none=>E.sig j) else E.sig j) = _
   rw [if_pos (by omega),List.getElem?_eq_none (by omega)]
  have hcase:∀ k q,F.rho k = some q → E.rho k = some q ∨ ∃ i p,res[i]? = some p∧k = st.nb + i∧F0.rho p.1 = some q:=by
   intro k q hk
   by_cases g1:k < st.nb
   ·rw [hFlo k g1] at hk;exact .inl hk
   ·by_cases g2:st.nb + res.length ≤ k
    ·rw [hFhi k g2] at hk;exact .inl hk
    ·have hi:k - st.nb < res.length:=by omega
     have:=hFnew (k - st.nb) _ (List.getElem?_eq_getElem hi)
     rw [show st.nb + (k - st.nb) = k by omega] at this
     exact .inr ⟨k - st.nb,_,List.getElem?_eq_getElem hi,by omega,by rw [← this];exact hk⟩
  have hEnew:∀ (i:Nat) (p:Nat × List C),res[i]? = some p → E.rho (st.nb + i) = none:=fun i p hi=>by
   have:=(List.getElem?_eq_some_iff.1 hi).1
   exact hp.newB _ (Nat.le_add_right _ _) (by show st.nb + i < st.nb + res.length;omega)
  have hEnewT:∀ (i:Nat) (y:X),ξ[i]? = some y → E.sig (st.nt + i) = none:=fun i p hi=>by
   have:=(List.getElem?_eq_some_iff.1 hi).1
   exact hp.newT _ (Nat.le_add_right _ _) (by show st.nt + i < st.nt + ξ.length;omega)
  have hhigh:∀ (i:Nat) (p:Nat × List C) (q s:Nat),res[i]? = some p → F0.rho p.1 = some (q,s) → w.heap.size ≤ q:=by
   intro i p q s hi hq
   obtain ⟨g1,g2,_⟩:=hres p (List.mem_of_getElem? hi)
   rcases ho.step.fresh p.1 q s g1 g2 hq with h | ⟨k0,hk0,_⟩
   ·exact h
   ·rw [hw0] at hk0;simp at hk0
  have hkept:∀ b,b < w.heap.size → u.heap[b]? = w.heap[b]?:=fun b hb=>ho.step.kept b hb (fun k hk=>by rw [hw0] at hk;simp at hk)
  have hmv:Mv (outB nb0 β res st.nb) (tokM nt0 τ ξ x0 st.nt) F0 F:=by
   refine ⟨fun k k' b hk hb=>?_,fun t y p cs hg hs hx=>?_,ho.step.le.fix.symm⟩
   ·unfold outB at hk
    cases hq:Nat.ble nb0 k with
    | true =>
     rw [hq] at hk
     obtain ⟨i,p,h1,h2,h3⟩:=idx_inv hk
     rw [h3,hFnew i p h1,h2];exact hb
    | false =>
     rw [hq] at hk
     have hk:nth β k = some k':=hk
     have hlt:=ble_false hq
     rw [hF0 k hlt] at hb
     obtain ⟨k2,g1,g2⟩:=hE0 k _ hb
     replace g1:=g1 (by omega)
     rw [hk] at g1
     injection g1 with g1
     subst g1
     have he2:F.rho k' = E.rho k':=by
      by_cases l1:k' < st.nb
      ·exact hFlo _ l1
      ·by_cases l2:st.nb + res.length ≤ k'
       ·exact hFhi _ l2
       ·have:=hEnew (k' - st.nb) _ (List.getElem?_eq_getElem (show k' - st.nb < res.length by omega))
        rw [show st.nb + (k' - st.nb) = k' by omega,g2] at this
        cases this
     rw [he2];exact g2
   ·obtain ⟨e,h1 | ⟨i,z,h1,h2,h3⟩⟩:=tokM_inv hg
    ·rw [hF0s t h1.1] at hs
     obtain ⟨p',cs',_,k1,k2,k3,k4⟩:=hsig0 t _ hs
     rw [h1.2] at k1
     injection k1 with k1
     subst k1
     have hlt:F.sig p.1 = E.sig p.1:=by
      by_cases g1:p.1 < st.nt
      ·exact hSlo _ g1
      ·by_cases g2:st.nt + ξ.length ≤ p.1
       ·exact hShi _ g2
       ·have:=hEnewT (p.1 - st.nt) _ (List.getElem?_eq_getElem (show p.1 - st.nt < ξ.length by omega))
        rw [show st.nt + (p.1 - st.nt) = p.1 by omega,k2] at this
        cases this
     rw [hlt,k2,k4]
     obtain ⟨cc,cx⟩:=cs'
     simp only at k3
     subst k3
     rfl
    ·subst h3
     rw [hSnew i z h2]
     rw [h1] at hs e
     rw [hs]
     show (if cs.x = x0 (nt0 + i) then some (⟨cs.cs,z⟩:TokD) else none) = _
     rw [if_pos (by rw [hx];exact e)]
  have hle:E.le F:=by
   refine ⟨fun k b hk=>?_,fun j c hj=>?_,rfl⟩
   ·by_cases g1:k < st.nb
    ·rw [hFlo k g1];exact hk
    ·by_cases g2:st.nb + res.length ≤ k
     ·rw [hFhi k g2];exact hk
     ·have:=hEnew (k - st.nb) _ (List.getElem?_eq_getElem (show k - st.nb < res.length by omega))
      rw [show st.nb + (k - st.nb) = k by omega,hk] at this
      cases this
   ·by_cases g1:j < st.nt
    ·rw [hSlo j g1];exact hj
    ·by_cases g2:st.nt + ξ.length ≤ j
     ·rw [hShi j g2];exact hj
     ·have:=hEnewT (j - st.nt) _ (List.getElem?_eq_getElem (show j - st.nt < ξ.length by omega))
      rw [show st.nt + (j - st.nt) = j by omega,hj] at this
      cases this
  have hfar:∀ (G:List Nat),(∀ b ∈ G,b < w.heap.size∧∀ k s,E.rho k ≠ some (b,s)) → ∀ b ∈ G,b < u.heap.size∧∀ k s,F.rho k ≠ some (b,s):=by
   intro G hG b hb
   obtain ⟨h1,h2⟩:=hG b hb
   refine ⟨Nat.lt_of_lt_of_le h1 ho.step.size,fun k s hk=>?_⟩
   rcases hcase k _ hk with h | ⟨i,q,g1,g2,g3⟩
   ·exact h2 k s h
   ·have:=hhigh i q b s g1 g3
    omega
  refine ⟨x,F,he,⟨hle,fun k hk=>?_,fun j hj=>?_,ho.step.os,ho.step.tape,ho.step.output,ho.step.size,fun b hb _=>hkept b hb,fun k p s h1 h2 h3=>?_,?_⟩,?_,fun k b hk hg=>?_,fun k k' b b' p s s' hk hk' hg hg' h3 h4=>?_⟩
  ·show st.nb ≤ k∧k < st.nb + res.length
   refine ⟨?_,?_⟩
   ·by_cases g:st.nb ≤ k
    ·exact g
    ·exact absurd (hFlo k (by omega)) hk
   ·by_cases g:k < st.nb + res.length
    ·exact g
    ·exact absurd (hFhi k (by omega)) hk
  ·show st.nt ≤ j∧j < st.nt + ξ.length
   refine ⟨?_,?_⟩
   ·by_cases g:st.nt ≤ j
    ·exact g
    ·exact absurd (hSlo j (by omega)) hj
   ·by_cases g:j < st.nt + ξ.length
    ·exact g
    ·exact absurd (hShi j (by omega)) hj
  ·have h1':st.nb ≤ k:=h1
   have h2':k < st.nb + res.length:=h2
   have hi:k - st.nb < res.length:=by omega
   have:=hFnew (k - st.nb) _ (List.getElem?_eq_getElem hi)
   rw [show st.nb + (k - st.nb) = k by omega,h3] at this
   exact .inl (hhigh _ _ _ _ (List.getElem?_eq_getElem hi) this.symm)
  ·refine ⟨fun k p s hk=>?_,fun j c hj=>?_,?_⟩
   ·rcases hcase k _ hk with h | ⟨i,q,h1,h2,h3⟩
    ·exact Nat.lt_of_lt_of_le (hp.gi.low k p s h) ho.step.size
    ·exact ho.step.gi.low _ _ _ h3
   ·by_cases g:st.nt ≤ j∧j < st.nt + ξ.length
    ·have hi:j - st.nt < ξ.length:=by omega
     have:=hSnew (j - st.nt) _ (List.getElem?_eq_getElem hi)
     rw [show st.nt + (j - st.nt) = j by omega,hj] at this
     cases hs:F0.sig (nt0 + (j - st.nt)) with
     | none=>rw [hs] at this;cases this
     | some cs =>
      rw [hs] at this
      have this:some c = if cs.x = x0 (nt0 + (j - st.nt)) then some (⟨cs.cs,ξ[j - st.nt]⟩:TokD) else none:=this
      split at this
      ·rename_i hx
       injection this with this
       subst this
       obtain ⟨G,hG,hT⟩:=ho.step.gi.tok _ _ hs
       refine ⟨G,fun b hb=>⟨(hG b hb).1,fun k s hk=>?_⟩,?_⟩
       ·rcases hcase k _ hk with h | ⟨i,q,g1,g2,g3⟩
        ·exact (hG b hb).2 (H + k) s (by rw [hF0hi k];exact h)
        ·exact (hG b hb).2 _ s g3
       ·obtain ⟨e1,e2⟩:=hξ _ _ (List.getElem?_eq_getElem hi)
        have hT:TVal val0 0 G u cs:=hT
        obtain ⟨cc,cx⟩:=cs
        simp only at hx
        subst hx
        exact tval_move (j':=0) e1 (hx0 _) e2.symm hT
      ·cases this
    ·have hj':E.sig j = some c:=by
      by_cases g1:j < st.nt
      ·rw [← hSlo j g1];exact hj
      ·rw [← hShi j (by omega)];exact hj
     obtain ⟨G,hG,hT⟩:=hp.gi.tok j c hj'
     exact ⟨G,hfar G hG,(toks val drw).stab j G w u c (fun b hb=>hkept b (hG b hb).1) hT⟩
   ·obtain ⟨G,hG,hB⟩:=hp.gi.base
    exact ⟨G,hfar G hG,(toks val drw).bstab _ G w u (fun b hb=>hkept b (hG b hb).1) hB⟩
  ·have:=ho.val
   rw [hv0] at this
   exact mvV_rel hmv c6 this
  ·have hk2:st.nb ≤ k∧k < st.nb + res.length:=by
    rcases hk with hk | hk
    ·simp at hk
    ·exact hk
   have hi:k - st.nb < res.length:=by omega
   obtain ⟨cs,h1,h2⟩:=p2 (k - st.nb) _ (List.getElem?_eq_getElem hi)
   rw [show st.nb + (k - st.nb) = k by omega] at h2
   have hg':m'.get k = some b:=hg
   rw [h2] at hg'
   injection hg' with hg'
   subst hg'
   obtain ⟨g1,g2,g3⟩:=hres _ (List.getElem_mem hi)
   obtain ⟨q,s,arr,ty,e1,e2,e3,e4⟩:=ho.blk _ _ (.inr ⟨g1,g2⟩) g3
   refine ⟨q,s,arr,ty,?_,e2,e3,mvF_rel hmv h1 e4⟩
   have:=hFnew (k - st.nb) _ (List.getElem?_eq_getElem hi)
   rw [show st.nb + (k - st.nb) = k by omega] at this
   rw [this];exact e1
  ·have hk2:st.nb ≤ k∧k < st.nb + res.length:=by
    rcases hk with hk | hk
    ·simp at hk
    ·exact hk
   have hk3:st.nb ≤ k'∧k' < st.nb + res.length:=by
    rcases hk' with hk | hk
    ·simp at hk
    ·exact hk
   have hi:k - st.nb < res.length:=by omega
   have hi':k' - st.nb < res.length:=by omega
   have e1:=hFnew (k - st.nb) _ (List.getElem?_eq_getElem hi)
   have e2:=hFnew (k' - st.nb) _ (List.getElem?_eq_getElem hi')
   rw [show st.nb + (k - st.nb) = k by omega,h3] at e1
   rw [show st.nb + (k' - st.nb) = k' by omega,h4] at e2
   obtain ⟨g1,g2,g3⟩:=hres _ (List.getElem_mem hi)
   obtain ⟨g1',g2',g3'⟩:=hres _ (List.getElem_mem hi')
   have:=ho.inj _ _ _ _ p s s' (.inr ⟨g1,g2⟩) (.inr ⟨g1',g2'⟩) g3 g3' e1.symm e2.symm
   have:=nodup_inv hdup _ _ _ _ (List.getElem?_eq_getElem hi) (List.getElem?_eq_getElem hi') this
   omega
end
structure Cfg where
 hs:List Nat
 fl:List Bool
 invs:List (M × X)
 els:List (Nat × M × M)
structure CfgOk (l:List Rat) (c:Cfg):Prop where
 len:l.length ≤ 64
 bnd:BndL l c.hs
 pos:PosL l c.fl
 inv:InvOk l c.invs
 el:∀ e ∈ c.els,ElOk l e
noncomputable def chk (hs:List Nat) (z:X):Option X:=bi (Nat.beq z.kd 1) none (bi (Nat.ble 1 z.den) (bi (smallX hs z) (some z) none) none)
noncomputable def litM (d:Nat) (p:M):Option (Int × Nat) :=
 match p with
 | []=>bi (Nat.beq d 1) (some (0,1)) none
 | [(0,c)]=>bi (Nat.ble (iabs c) 999999999) (bi (Nat.ble d 999999999) (bi (Nat.ble 1 d) (bi (Nat.beq (Nat.gcd (iabs c) d) 1) (some (c,d)) none) none) none) none
 | _=>none
noncomputable def algO (c:Cfg):Alg where
 bin:=fun o _ x y=>bi (Nat.beq o 0) (ob (xadd x y) (chk c.hs)) (bi (Nat.beq o 1) (ob (xsub x y) (chk c.hs)) (bi (Nat.beq o 2) (ob (xmul x y) (chk c.hs)) (ob (xdiv c.invs x y) (chk c.hs))))
 un:=fun o _ x=>bi (Nat.beq o 0) (chk c.hs (xneg x)) (chk c.hs x)
 num:=fun _ n d=>bi (Nat.ble 1 d) (chk c.hs (normX d (cons0 0 n []))) none
 sgn:=fun x=>bi (Nat.ble 1 x.den) (cmpD c.fl c.els x) none
 cmp:=fun x y=>xcmp c.fl c.els x y
 lit:=fun x=>litM x.den x.ps
theorem chk_ok {l:List Rat} {hs:List Nat} (hb:BndL l hs) {y z:X} (h:chk hs y = some z):y = z∧Good2 (X.val l) z:=by
 unfold chk at h
 cases hk:Nat.beq y.kd 1 with
 | true=>rw [hk] at h;cases h
 | false =>
  rw [hk] at h
  obtain ⟨h1,h⟩:=bi_inv (show bi (Nat.ble 1 y.den) (bi (smallX hs y) (some y) none) none = some z from h)
  obtain ⟨h2,h⟩:=bi_inv h
  injection h with h
  subst h
  refine ⟨rfl,⟨(fun e=>by rw [e] at hk;cases hk),?_⟩⟩
  obtain ⟨D,B,w,d0,d1,b1,e,w1,w2⟩:=smallX_lat hb h2 (ble_one h1)
  exact FE.Lat.small ⟨d0,w,e,w1,w2⟩ d1 b1
theorem ev_const (l:List Rat) (n:Int):ev l (cons0 0 n []) = (n:Rat):=by
 rw [ev_cons0]
 simp only [ev]
 rw [mon_zero]
 grind
theorem algO_ok {l:List Rat} {c:Cfg} (h:CfgOk l c):AlgOk (X.val l) (algO c):=by
 refine ⟨fun nt x y z hz=>?_,fun nt x y z hz=>?_,fun nt x y z hz=>?_,fun nt x y z hz=>?_,fun nt x z hz=>?_,fun nt x z hz=>?_,fun nt n d z hz=>?_,fun x s hs=>?_,fun x y s hs=>?_,fun x p hp=>?_⟩
 ·obtain ⟨y',h1,h2⟩:=ob_inv (show ob (xadd x y) (chk c.hs) = some z from hz)
  obtain ⟨rfl,g⟩:=chk_ok h.bnd h2
  exact ⟨g,(xadd_val h1).1⟩
 ·obtain ⟨y',h1,h2⟩:=ob_inv (show ob (xsub x y) (chk c.hs) = some z from hz)
  obtain ⟨rfl,g⟩:=chk_ok h.bnd h2
  exact ⟨g,(xsub_val h1).1⟩
 ·obtain ⟨y',h1,h2⟩:=ob_inv (show ob (xmul x y) (chk c.hs) = some z from hz)
  obtain ⟨rfl,g⟩:=chk_ok h.bnd h2
  exact ⟨g,(xmul_val h.len h1).1⟩
 ·obtain ⟨y',h1,h2⟩:=ob_inv (show ob (xdiv c.invs x y) (chk c.hs) = some z from hz)
  obtain ⟨rfl,g⟩:=chk_ok h.bnd h2
  obtain ⟨g1,g2,_⟩:=xdiv_val h.len h.inv h1
  exact ⟨g,g1,g2⟩
 ·obtain ⟨rfl,g⟩:=chk_ok h.bnd (show chk c.hs (xneg x) = some z from hz)
  exact ⟨g,xneg_val l x⟩
 ·obtain ⟨rfl,g⟩:=chk_ok h.bnd (show chk c.hs x = some z from hz)
  exact ⟨g,rfl⟩
 ·obtain ⟨h1,hz⟩:=bi_inv (show bi (Nat.ble 1 d) (chk c.hs (normX d (cons0 0 n []))) none = some z from hz)
  obtain ⟨rfl,g⟩:=chk_ok h.bnd hz
  have hd:=ble_one h1
  refine ⟨g,hd,?_⟩
  rw [(normX_val l hd _).1,ev_const,Rat.mkRat_eq_div]
 ·obtain ⟨h1,hz⟩:=bi_inv (show bi (Nat.ble 1 x.den) (cmpD c.fl c.els x) none = some s from hs)
  exact cmpD_ok h.len h.pos h.el hz
 ·exact xcmp_ok h.len h.pos h.el hs
 ·have hp:litM x.den x.ps = some p:=hp
  unfold X.val
  cases hps:x.ps with
  | nil =>
   rw [hps] at hp
   obtain ⟨h1,hp⟩:=bi_inv (show bi (Nat.beq x.den 1) (some ((0:Int),1)) none = some p from hp)
   injection hp with hp
   subst hp
   rw [beq_inv h1]
   refine ⟨?_,by decide,by decide,by decide,by decide⟩
   rw [Rat.mkRat_eq_div];rfl
  | cons a q =>
   rw [hps] at hp
   obtain ⟨m,e⟩:=a
   cases m with
   | succ m=>cases q <;> cases hp
   | zero =>
    cases q with
    | cons b q=>cases hp
    | nil =>
     obtain ⟨h1,hp⟩:=bi_inv (show bi (Nat.ble (iabs e) 999999999) (bi (Nat.ble x.den 999999999) (bi (Nat.ble 1 x.den) (bi (Nat.beq (Nat.gcd (iabs e) x.den) 1) (some (e,x.den)) none) none) none) none = some p from hp)
     obtain ⟨h2,hp⟩:=bi_inv hp
     obtain ⟨h3,hp⟩:=bi_inv hp
     obtain ⟨h4,hp⟩:=bi_inv hp
     injection hp with hp
     subst hp
     have b1:=ble_inv h1
     have b2:=ble_inv h2
     have b3:=ble_inv h3
     have b4:=beq_inv h4
     rw [iabs_eq] at b1 b4
     refine ⟨?_,by simp only;omega,by simp only;omega,by simp only;omega,b4⟩
     simp only [ev]
     rw [mon_zero,Rat.mkRat_eq_div]
     grind
/-! ### Variables that are quotients -/
structure Der where
 N:M
 D:M
 h:Nat
 pos:Bool
noncomputable def extL:List Der → List Rat → List Rat
 | [],l=>l
 | d :: ds,l=>extL ds (l ++ [ev l d.N / ev l d.D])
noncomputable def isPos (o:Option Int):Bool:=@Option.rec Int (fun _=>Bool) false (fun s=>ibeq s 1) o
noncomputable def der1 (n:Nat) (hs:List Nat) (fl:List Bool) (d:Der):Bool :=
 bi (Nat.ble (Nat.add (Nat.lor (lorM d.N) (lorM d.D)) 1) (Nat.pow 16 n)) (bi (isPos (sgnM fl d.D)) (bi (bi d.pos (isPos (sgnM fl d.N)) true)
  (fz (Nat.add (wsum hs (lorM d.N)) (wsum hs (lorM d.D))) fun S=>bi (Nat.ble S 2000) (bi (Nat.ble d.h 2000) (bi (Nat.ble (Nat.mul (absM d.N) (Nat.pow 2 S)) (Nat.pow 2 d.h)) (Nat.ble (Nat.mul (absM d.D) (Nat.pow 2 S)) (Nat.pow 2 d.h)) false) false) false) false) false) false
noncomputable def derOk (ds:List Der):Nat → List Nat → List Bool → Bool :=
 @List.rec Der (fun _=>Nat → List Nat → List Bool → Bool) (fun _ _ _=>true) (fun d _ ih n hs fl=>bi (der1 n hs fl d) (ih (Nat.add n 1) (app hs [d.h]) (app fl [d.pos])) false) ds
theorem mon_app:∀ (l r:List Rat) (m:Nat),m < 16 ^ l.length → mon (l ++ r) m = mon l m
 | [],r,m,h=>by
  simp at h
  subst h
  rw [mon_zero,mon_zero]
 | q :: l,r,m,h=>by
  simp only [List.cons_append,mon]
  rw [mon_app l r (m / 16) (by rw [List.length_cons,Nat.pow_succ] at h;omega)]
theorem ev_app (l r:List Rat):∀ p:M,(∀ a ∈ p,a.1 < 16 ^ l.length) → ev (l ++ r) p = ev l p
 | [],_=>rfl
 | (m,c) :: p,h=>by
  simp only [ev]
  rw [mon_app l r m (h (m,c) List.mem_cons_self),ev_app l r p fun a ha=>h a (List.mem_cons_of_mem _ ha)]
theorem low_of_lor {p:M} {n:Nat} (h:lorM p < 16 ^ n):∀ a ∈ p,a.1 < 16 ^ n:=fun a ha=>by
 have:=lorM_sub p a ha
 have h2:a.1 ≤ a.1 ||| lorM p:=Nat.left_le_or
 omega
theorem bndL_app:∀ {l:List Rat} {hs:List Nat} {r:Rat} {h:Nat},l.length = hs.length → BndL l hs → Bnd h r → BndL (l ++ [r]) (hs ++ [h])
 | [],[],_,_,_,_,b=>⟨b,trivial⟩
 | _ :: _,_ :: _,_,_,e,⟨a,b⟩,c=>⟨a,bndL_app (by simpa using e) b c⟩
 | [],_ :: _,_,_,e,_,_=>by simp at e
 | _ :: _,[],_,_,e,_,_=>by simp at e
theorem posL_app:∀ {l:List Rat} {fl:List Bool} {r:Rat} {b:Bool},l.length = fl.length → PosL l fl → (b = true → 0 < r) → PosL (l ++ [r]) (fl ++ [b])
 | [],[],_,_,_,_,c=>⟨c,trivial⟩
 | _ :: _,_ :: _,_,_,e,⟨a,b⟩,c=>⟨a,posL_app (by simpa using e) b c⟩
 | [],_ :: _,_,_,e,_,_=>by simp at e
 | _ :: _,[],_,_,e,_,_=>by simp at e
theorem isPos_inv {o:Option Int} (h:isPos o = true):o = some 1:=by
 cases o with
 | none=>cases h
 | some s =>
  have h:ibeq s 1 = true:=h
  rw [ibeq_eq,beq_iff_eq] at h
  rw [h]
theorem quot_bnd {u v:Rat} {A B:Nat} {S T H:Nat} (hv:v ≠ 0) (hu:∃ D z:Int,0 < D∧D ≤ 2 ^ S∧u * (D:Rat) = (z:Rat)∧-((A:Int) * 2 ^ S) ≤ z∧z ≤ (A:Int) * 2 ^ S)
 (hw:∃ D z:Int,0 < D∧D ≤ 2 ^ T∧v * (D:Rat) = (z:Rat)∧-((B:Int) * 2 ^ T) ≤ z∧z ≤ (B:Int) * 2 ^ T) (hA:A * 2 ^ (S + T) ≤ 2 ^ H) (hB:B * 2 ^ (S + T) ≤ 2 ^ H):Bnd H (u / v):=by
 obtain ⟨D,z,d0,d1,e,z1,z2⟩:=hu
 obtain ⟨E,y,e0,e1,f,y1,y2⟩:=hw
 have hy:y ≠ 0:=by
  intro h
  rw [h] at f
  have hE:(E:Rat) ≠ 0:=by
   intro g
   rw [Rat.intCast_eq_zero_iff] at g
   omega
  rcases Rat.mul_eq_zero.1 (f.trans rfl) with g | g
  ·exact hv g
  ·exact hE g
 have hA':(A:Int) * (2 ^ S * 2 ^ T) ≤ 2 ^ H:=by
  rw [← Int.pow_add]
  have:((A * 2 ^ (S + T):Nat):Int) ≤ ((2 ^ H:Nat):Int):=by exact_mod_cast hA
  simpa using this
 have hB':(B:Int) * (2 ^ S * 2 ^ T) ≤ 2 ^ H:=by
  rw [← Int.pow_add]
  have:((B * 2 ^ (S + T):Nat):Int) ≤ ((2 ^ H:Nat):Int):=by exact_mod_cast hB
  simpa using this
 have pS:=pow_nonneg' S
 have pT:=pow_nonneg' T
 have m1:=mul_bnd (a:=D) (A:=2 ^ S) (b:=y) (B:=(B:Int) * 2 ^ T) ⟨by omega,d1⟩ ⟨y1,y2⟩
 have m2:=mul_bnd (a:=z) (A:=(A:Int) * 2 ^ S) (b:=E) (B:=2 ^ T) ⟨z1,z2⟩ ⟨by omega,e1⟩
 have r1:(2 ^ S:Int) * ((B:Int) * 2 ^ T) = (B:Int) * (2 ^ S * 2 ^ T):=by rw [← Int.mul_assoc,Int.mul_comm (2 ^ S),Int.mul_assoc]
 have r2:((A:Int) * 2 ^ S) * 2 ^ T = (A:Int) * (2 ^ S * 2 ^ T):=Int.mul_assoc _ _ _
 rw [r1] at m1
 rw [r2] at m2
 have hE:(E:Rat) ≠ 0:=by
  intro g
  rw [Rat.intCast_eq_zero_iff] at g
  omega
 have hD:(D:Rat) ≠ 0:=by
  intro g
  rw [Rat.intCast_eq_zero_iff] at g
  omega
 rcases Int.lt_or_lt_of_ne hy with h | h
 ·refine ⟨D * (-y),(-z) * E,Int.mul_pos d0 (by omega),?_,?_,?_,?_⟩
  ·rw [Int.mul_neg];omega
  ·rw [Rat.intCast_mul,Rat.intCast_mul,Rat.intCast_neg,Rat.intCast_neg,← e,← f]
   grind
  ·rw [Int.neg_mul];omega
  ·rw [Int.neg_mul];omega
 ·refine ⟨D * y,z * E,Int.mul_pos d0 h,?_,?_,?_,?_⟩
  ·omega
  ·rw [Rat.intCast_mul,Rat.intCast_mul,← e,← f]
   grind
  ·omega
  ·omega
structure DerGood (l l':List Rat) (ds:List Der) (hs:List Nat) (fl:List Bool):Prop where
 len:l'.length = l.length + ds.length
 pre:∃ r,l' = l ++ r
 bnd:BndL l' (hs ++ ds.map (·.h))
 pos:PosL l' (fl ++ ds.map (·.pos))
 el:∀ (i:Nat) (d:Der),ds[i]? = some d → ElOk l' (wv (l.length + i),d.N,d.D)
theorem der_ok:∀ (ds:List Der) (l:List Rat) (hs:List Nat) (fl:List Bool),l.length = hs.length → l.length = fl.length → BndL l hs → PosL l fl → derOk ds l.length hs fl = true → DerGood l (extL ds l) ds hs fl
 | [],l,hs,fl,_,_,hb,hp,_=>⟨by simp [extL],⟨[],by simp [extL]⟩,by simpa [extL] using hb,by simpa [extL] using hp,fun i d h=>by simp at h⟩
 | d :: ds,l,hs,fl,h1,h2,hb,hp,h=>by
  have h:bi (der1 l.length hs fl d) (derOk ds (Nat.add l.length 1) (app hs [d.h]) (app fl [d.pos])) false = true:=h
  obtain ⟨g1,g2⟩:=bi3 h
  obtain ⟨k1,g1⟩:=bi3 g1
  obtain ⟨k2,g1⟩:=bi3 g1
  obtain ⟨k3,g1⟩:=bi3 g1
  rw [fz_eq] at g1
  obtain ⟨_,g1⟩:=bi3 g1
  obtain ⟨_,g1⟩:=bi3 g1
  obtain ⟨k4,k5⟩:=bi3 g1
  have k1:=ble_inv k1
  have k4:=ble_inv k4
  have k5:=ble_inv k5
  have hlow:Nat.lor (lorM d.N) (lorM d.D) < 16 ^ l.length:=k1
  have hN:lorM d.N < 16 ^ l.length:=Nat.lt_of_le_of_lt (Nat.left_le_or (n:=lorM d.N) (m:=lorM d.D)) hlow
  have hD:lorM d.D < 16 ^ l.length:=Nat.lt_of_le_of_lt (Nat.right_le_or (n:=lorM d.N) (m:=lorM d.D)) hlow
  have pD:0 < ev l d.D:=by
   rcases sgnM_ok hp (isPos_inv k2) with ⟨e,_⟩ | ⟨_,e⟩ | ⟨e,_⟩
   ·exact absurd e (by decide)
   ·exact e
   ·exact absurd e (by decide)
  have nD:ev l d.D ≠ 0:=fun e=>by rw [e] at pD;exact absurd pD (by decide)
  have hbnd:Bnd d.h (ev l d.N / ev l d.D):=by
   obtain ⟨A,a0,a1,ha⟩:=ev_bnd hb (lorM d.N)
   obtain ⟨z,ez,zb⟩:=ha d.N (lorM_sub d.N)
   obtain ⟨B,b0,b1,hb'⟩:=ev_bnd hb (lorM d.D)
   obtain ⟨y,ey,yb⟩:=hb' d.D (lorM_sub d.D)
   exact quot_bnd nD ⟨A,z,a0,a1,ez,zb⟩ ⟨B,y,b0,b1,ey,yb⟩ k4 k5
  have hpos:d.pos = true → 0 < ev l d.N / ev l d.D:=by
   intro hq
   rw [hq] at k3
   have pN:0 < ev l d.N:=by
    rcases sgnM_ok hp (isPos_inv (show isPos (sgnM fl d.N) = true from k3)) with ⟨e,_⟩ | ⟨_,e⟩ | ⟨e,_⟩
    ·exact absurd e (by decide)
    ·exact e
    ·exact absurd e (by decide)
   rw [Rat.div_def]
   exact Rat.mul_pos pN (Rat.inv_pos.2 pD)
  have ea:app hs [d.h] = hs ++ [d.h]:=app_eq _ _
  have eb:app fl [d.pos] = fl ++ [d.pos]:=app_eq _ _
  rw [ea,eb] at g2
  have hlen:(l ++ [ev l d.N / ev l d.D]).length = l.length + 1:=by simp
  have g2':derOk ds (l ++ [ev l d.N / ev l d.D]).length (hs ++ [d.h]) (fl ++ [d.pos]) = true:=by rw [hlen];exact g2
  obtain ⟨q1,⟨r,q2⟩,q3,q4,q5⟩:=der_ok ds (l ++ [ev l d.N / ev l d.D]) (hs ++ [d.h]) (fl ++ [d.pos]) (by simp [h1]) (by simp [h2]) (bndL_app h1 hb hbnd) (posL_app h2 hp hpos) g2'
  have q2':extL (d :: ds) l = l ++ (ev l d.N / ev l d.D :: r):=by
   show extL ds (l ++ [ev l d.N / ev l d.D]) = _
   rw [q2];simp
  refine ⟨?_,⟨_,q2'⟩,?_,?_,fun i e he=>?_⟩
  ·show (extL ds (l ++ [ev l d.N / ev l d.D])).length = _
   rw [q1];simp;omega
  ·show BndL (extL ds (l ++ [ev l d.N / ev l d.D])) _
   simpa using q3
  ·show PosL (extL ds (l ++ [ev l d.N / ev l d.D])) _
   simpa using q4
  ·cases i with
   | zero =>
    simp at he
    subst he
    refine ⟨l.length,ev l d.N / ev l d.D,rfl,?_,?_,?_⟩
    ·rw [q2'];simp
    ·simp only
     rw [q2',ev_app l _ _ (low_of_lor hN),ev_app l _ _ (low_of_lor hD)]
     grind
    ·simp only
     rw [q2',ev_app l _ _ (low_of_lor hD)];exact nD
   | succ i =>
    have:=q5 i e (by simpa using he)
    rw [hlen] at this
    have e2:l.length + (i + 1) = l.length + 1 + i:=by omega
    rw [e2]
    exact this
abbrev varX (v:Nat):X:=⟨0,1,[(Nat.pow 16 v,1)]⟩
noncomputable def isOneM (p:M):Bool:=eqM p oneM
noncomputable def invsF (ds:List Der):Nat → List (M × X) :=
 @List.rec Der (fun _=>Nat → List (M × X)) (fun _=>[(oneM,⟨0,1,oneM⟩),([(0,-1)],⟨0,1,[(0,-1)]⟩)]) (fun d _ ih n=>bi (isOneM d.N) ((d.D,varX n) :: ih (Nat.add n 1)) (ih (Nat.add n 1))) ds
noncomputable def elsF (ds:List Der):Nat → List (Nat × M × M) → List (Nat × M × M) :=
 @List.rec Der (fun _=>Nat → List (Nat × M × M) → List (Nat × M × M)) (fun _ acc=>acc) (fun d _ ih n acc=>ih (Nat.add n 1) ((Nat.pow 16 n,d.N,d.D) :: acc)) ds
noncomputable def cfgOf (hs:List Nat) (fl:List Bool) (ds:List Der):Cfg where
 hs:=app hs (ds.map (·.h))
 fl:=app fl (ds.map (·.pos))
 invs:=invsF ds (len hs)
 els:=elsF ds (len hs) []
theorem val_var (l:List Rat):∀ (v:Nat) (r:Rat),l[v]? = some r → (varX v).val l = r:=by
 intro v r h
 unfold X.val varX
 simp only [ev]
 have hm:∀ (v:Nat) (l:List Rat) (r:Rat),l[v]? = some r → mon l (16 ^ v) = r:=by
  intro v
  induction v with
  | zero =>
   intro l r h
   cases l with
   | nil=>simp at h
   | cons q l =>
    simp at h
    subst h
    simp only [mon,Nat.pow_zero]
    rw [show (1:Nat) % 16 = 1 from rfl,show (1:Nat) / 16 = 0 from rfl,mon_zero]
    grind
  | succ v ih =>
   intro l r h
   cases l with
   | nil=>simp at h
   | cons q l =>
    simp at h
    simp only [mon]
    have e1:16 ^ (v + 1) % 16 = 0:=by rw [Nat.pow_succ];omega
    have e2:16 ^ (v + 1) / 16 = 16 ^ v:=by rw [Nat.pow_succ];omega
    rw [e1,e2,ih l r h,Rat.pow_zero]
    grind
 have:=hm v l r h
 have e:Nat.pow 16 v = 16 ^ v:=rfl
 rw [e,this]
 have e1:(((1:Int)):Rat) = 1:=rfl
 have e2:(((1:Nat)):Rat) = 1:=rfl
 rw [e1,e2]
 grind
theorem invs_ok {l:List Rat}:∀ (ds:List Der) (n:Nat),(∀ i d,ds[i]? = some d → ElOk l (wv (n + i),d.N,d.D)) → InvOk l (invsF ds n)
 | [],n,_=>by
  intro e he
  have e1:(((1:Int)):Rat) = 1:=rfl
  have e2:(((1:Nat)):Rat) = 1:=rfl
  have e3:(((-1:Int)):Rat) = -1:=rfl
  have he:e ∈ [(oneM,(⟨0,1,oneM⟩:X)),([(0,-1)],⟨0,1,[(0,-1)]⟩)]:=he
  simp only [List.mem_cons,List.not_mem_nil,or_false] at he
  rcases he with rfl | rfl
  ·refine ⟨Nat.one_pos,?_⟩
   unfold X.val
   simp only
   rw [ev_oneM,e2]
   grind
  ·refine ⟨Nat.one_pos,?_⟩
   unfold X.val
   simp only [ev]
   rw [mon_zero,e2,e3]
   grind
 | d :: ds,n,h=>by
  have ih:=invs_ok ds (n + 1) (fun i e he=>by rw [show n + 1 + i = n + (i + 1) by omega];exact h (i + 1) e (by simpa using he))
  have e:invsF (d :: ds) n = bi (isOneM d.N) ((d.D,varX n) :: invsF ds (Nat.add n 1)) (invsF ds (Nat.add n 1)):=rfl
  rw [e,biq]
  split
  ·rename_i h1
   have h1:=eqM_inv (show eqM d.N oneM = true from h1)
   intro x hx
   rcases List.mem_cons.1 hx with rfl | hx
   ·obtain ⟨v,r,e1,e2,e3,e4⟩:=h 0 d (by simp)
    simp only at e1 e3
    have hv:v = n:=by
     have:(16:Nat) ^ n = 16 ^ v:=e1
     exact ((Nat.pow_right_inj (by decide:1 < 16)).1 this).symm
    subst hv
    refine ⟨Nat.one_pos,?_⟩
    simp only
    rw [val_var l v r e2,Rat.mul_comm,e3,h1,ev_oneM]
   ·exact ih x hx
  ·exact ih
theorem els_ok {l:List Rat}:∀ (ds:List Der) (n:Nat) (acc:List (Nat × M × M)),(∀ i d,ds[i]? = some d → ElOk l (wv (n + i),d.N,d.D)) → (∀ e ∈ acc,ElOk l e) → ∀ e ∈ elsF ds n acc,ElOk l e
 | [],_,_,_,h=>h
 | d :: ds,n,acc,h,ha=>els_ok ds (n + 1) _ (fun i e he=>by rw [show n + 1 + i = n + (i + 1) by omega];exact h (i + 1) e (by simpa using he)) (fun e he=>by
     rcases List.mem_cons.1 he with rfl | he
     ·exact h 0 d (by simp)
     ·exact ha e he)
theorem cfg_ok {l:List Rat} {hs:List Nat} {fl:List Bool} {ds:List Der} (h1:l.length = hs.length) (h2:l.length = fl.length) (hb:BndL l hs) (hp:PosL l fl) (hd:derOk ds hs.length hs fl = true) (h64:hs.length + ds.length ≤ 64) :
 CfgOk (extL ds l) (cfgOf hs fl ds)∧∃ r,extL ds l = l ++ r:=by
 obtain ⟨q1,q2,q3,q4,q5⟩:=der_ok ds l hs fl h1 h2 hb hp (by rw [h1];exact hd)
 refine ⟨⟨by rw [q1,h1];exact h64,?_,?_,?_,?_⟩,q2⟩
 ·show BndL _ (app hs (ds.map (·.h)))
  rw [app_eq];exact q3
 ·show PosL _ (app fl (ds.map (·.pos)))
  rw [app_eq];exact q4
 ·show InvOk _ (invsF ds (len hs))
  rw [len_eq,← h1]
  exact invs_ok ds _ q5
 ·show ∀ e ∈ elsF ds (len hs) [],_
  rw [len_eq,← h1]
  exact els_ok ds _ [] q5 (fun e he=>by simp at he)
/-! ### Drawn coefficients -/
noncomputable def drAt (c:C) (a:Int) (n:Nat):Option Nat :=
 match c with
 | .dr b p m=>bi (ibeq a b) (bi (Nat.beq n m) (some p) none) none
 | _=>none
noncomputable def orCoef (kx:Nat → Option X) (l:List V) (st:St):Option R :=
 ob (two l) fun q=>ob (drAt q.1 1 4) fun p=>ob (drAt q.2 1 2) fun p'=>bi (Nat.beq p' (Nat.add p 1)) (ob (kx p) fun z=>some (tokR st z)) none
noncomputable def orDrawn (fx:Nat → Option X) (l:List V) (st:St):Option R :=
 ob (one l) fun c=>ob (drAt c (-1) 5) fun p=>ob (fx p) fun z=>some (tokR st z)
def KxOk (val:X → Rat) (drw:Drw) (kx:Nat → Option X):Prop:=∀ p z,kx p = some z → Good2 val z∧val z = _root_.mkRat (1 + (drw.fx.byte p % 4:Nat)) (1 + drw.fx.byte (p + 1) % 2)
def FxOk (val:X → Rat) (drw:Drw) (fx:Nat → Option X):Prop:=∀ p z,fx p = some z → Good2 val z∧val z = _root_.mkRat (-1 + (drw.fx.byte p % 5:Nat)) 1
theorem drAt_inv {c:C} {a:Int} {n p:Nat} (h:drAt c a n = some p):c = .dr a p n:=by
 unfold drAt at h
 split at h
 ·obtain ⟨h1,h⟩:=bi_inv h
  obtain ⟨h2,h⟩:=bi_inv h
  injection h with h
  rw [ibeq_eq,beq_iff_eq] at h1
  rw [h1,beq_inv h2,h]
 ·cases h
section
variable {val:X → Rat} {drw:Drw} {E:Env} {w:World} {st:St}
theorem fix_of (hg:GI (toks val drw) E w):E.fix = drw.fx:=by
 obtain ⟨F,_,hb⟩:=hg.base
 obtain ⟨A,n,c,y,e,_,_,_,_,hd⟩:=(show BaseOk drw E.fix F w from hb)
 exact hd.1
theorem orCoef_ok {kx:Nat → Option X} (h:KxOk val drw kx):OrcOne Tryz.prog (toks val drw) 54 (orCoef kx):=by
 intro vl st r hr hst
 obtain ⟨q,h1,hr⟩:=ob_inv hr
 obtain ⟨p,h2,hr⟩:=ob_inv hr
 obtain ⟨p',h3,hr⟩:=ob_inv hr
 obtain ⟨h4,hr⟩:=bi_inv hr
 obtain ⟨z,h5,hr⟩:=ob_inv hr
 injection hr with hr
 subst hr
 refine ⟨eff_tok hst z,Tryz.call54,fun E w vs hrel hp=>?_⟩
 obtain ⟨u,v,rfl,hu,hv⟩:=two_rel h1 hrel
 rw [drAt_inv h2] at hu
 rw [drAt_inv h3] at hv
 have hu':u = .int .i64 (1 + (E.fix.byte p % 4:Nat)):=hu
 have hv':v = .int .i64 (1 + (E.fix.byte p' % 2:Nat)):=hv
 have e4:p' = p + 1:=beq_inv h4
 subst e4
 subst hu';subst hv'
 rw [fix_of hp.gi]
 obtain ⟨g,e⟩:=h p z h5
 have m1:drw.fx.byte p % 4 < 4:=Nat.mod_lt _ (by decide)
 have m2:drw.fx.byte (p + 1) % 2 < 2:=Nat.mod_lt _ (by decide)
 generalize drw.fx.byte p % 4 = a at *
 generalize drw.fx.byte (p + 1) % 2 = b at *
 have hc:=sRatOf (1 + (a:Int)) (1 + (b:Int)) (by omega) (by omega) (by omega) (by omega) w
 have hb:((1:Int) + (b:Int)).natAbs = 1 + b:=by omega
 rw [hb] at hc
 exact calls_tok g (low_is z (by omega) e g.sm) hp hc
theorem orDrawn_ok {fx:Nat → Option X} (h:FxOk val drw fx):OrcOne Tryz.prog (toks val drw) 82 (orDrawn fx):=by
 intro vl st r hr hst
 obtain ⟨c,h1,hr⟩:=ob_inv hr
 obtain ⟨p,h2,hr⟩:=ob_inv hr
 obtain ⟨z,h5,hr⟩:=ob_inv hr
 injection hr with hr
 subst hr
 refine ⟨eff_tok hst z,Tryz.call82,fun E w vs hrel hp=>?_⟩
 obtain ⟨u,rfl,hu⟩:=one_inv h1 hrel
 rw [drAt_inv h2] at hu
 have hu':u = .int .i64 (-1 + (E.fix.byte p % 5:Nat)):=hu
 subst hu'
 rw [fix_of hp.gi]
 obtain ⟨g,e⟩:=h p z h5
 have m1:drw.fx.byte p % 5 < 5:=Nat.mod_lt _ (by decide)
 generalize drw.fx.byte p % 5 = a at *
 exact calls_tok g (int_is z e (by omega)) hp (sRatFromInt_small (-1 + (a:Int)) (by omega) (by omega) w)
/-! ### Small functions -/
noncomputable def three (l:List V):Option (Int × Int × Int) :=
 match l with
 | [a,b,c]=>ob (vC a) fun a=>ob (vC b) fun b=>ob (vC c) fun c=>ob (cInt a) fun x=>ob (cInt b) fun y=>ob (cInt c) fun z=>some (x,y,z)
 | _=>none
noncomputable def orWithin (l:List V) (st:St):Option R:=ob (three l) fun q=>some ⟨vB (bi (ible q.2.1 q.1) (ible q.1 q.2.2) false),st,[],some []⟩
theorem orWithin_ok:OrcOne Tryz.prog (toks val drw) 67 orWithin:=by
 intro vl st r hr hst
 obtain ⟨q,h1,hr⟩:=ob_inv hr
 injection hr with hr
 subst hr
 refine ⟨eff_pure hst _ _,Tryz.call67,fun E w vs hrel hp=>?_⟩
 unfold three at h1
 split at h1
 ·rename_i a b c
  obtain ⟨a',g1,h1⟩:=ob_inv h1
  obtain ⟨b',g2,h1⟩:=ob_inv h1
  obtain ⟨c',g3,h1⟩:=ob_inv h1
  obtain ⟨x,k1,h1⟩:=ob_inv h1
  obtain ⟨y,k2,h1⟩:=ob_inv h1
  obtain ⟨z,k3,h1⟩:=ob_inv h1
  injection h1 with h1
  subst h1
  match vs,hrel with
  | [u,v,t],⟨hu,hv,ht,_⟩ =>
   have hu:=vC_rel g1 hu
   have hv:=vC_rel g2 hv
   have ht:=vC_rel g3 ht
   rw [cInt_inv k1] at hu
   rw [cInt_inv k2] at hv
   rw [cInt_inv k3] at ht
   have hu:u = .int .i64 x:=hu
   have hv:v = .int .i64 y:=hv
   have ht:t = .int .i64 z:=ht
   subst hu;subst hv;subst ht
   refine (iWithin x y z w).mono fun e u ⟨he,hw⟩=>?_
   subst hw
   refine ⟨_,E,he,out_pure hp.gi ?_⟩
   show RelV E (.s (.c (.bool _))) _
   have:bi (ible y x) (ible x z) false = inB x y z:=by
    rw [ible_eq,ible_eq]
    unfold inB
    by_cases h:y ≤ x <;> simp [h]
   simp only
   rw [this];rfl
  | [],hrel=>exact hrel.elim
  | [_],hrel=>exact hrel.2.elim
  | [_,_],hrel=>exact hrel.2.2.elim
  | _ :: _ :: _ :: _ :: _,hrel=>exact hrel.2.2.2.elim
 ·cases h1
noncomputable def ratsOf (n:Nat):List C → Option (List X) :=
 @Nat.rec (fun _=>List C → Option (List X)) (fun l=>bi (nilB l) (some []) none)
  (fun _ ih l=>List.casesOn l none fun a l=>List.casesOn l none fun b l=>List.casesOn l none fun c l=>ob (asRat (.agg [a,b,c])) fun p=>ob (ih l) fun r=>some (p.2 :: r)) n
noncomputable def orAre (l:List V) (st:St):Option R :=
 ob (one l) fun c=>match c with
 | .nsl=>some ⟨vB true,st,[],some []⟩
 | .sl k o n z=>bi (Nat.beq z 3) (bi (Nat.ble n 1000) (ob (st.mem.get k) fun b=>ob (takeN (dropN b.cells o) (Nat.mul n 3)) fun cs=>ob (ratsOf n cs) fun _=>some ⟨vB true,st,[],some [k]⟩) none) none
 | _=>none
theorem ratsOf_rel (hg:GI (toks val drw) E w):∀ (n:Nat) (l:List C) (xs:List X) (vs:List Value),ratsOf n l = some xs → RelL E l vs → xs.length = n∧vs.length = n * 3∧(∀ x ∈ xs,FE.small (val x) = true) ∧
 ∀ i x,xs[i]? = some x → ∃ a b c,vs[i * 3]? = some a∧vs[i * 3 + 1]? = some b∧vs[i * 3 + 2]? = some c∧RatV w (.agg #[a,b,c]) (FE.ofQ (val x))
 | 0,l,xs,vs,h,hr=>by
  obtain ⟨h1,h⟩:=bi_inv (show bi (nilB l) (some []) none = some xs from h)
  injection h with h
  subst h
  cases l with
  | cons a l=>cases h1
  | nil =>
   cases vs with
   | cons a l=>exact hr.elim
   | nil=>exact ⟨rfl,rfl,fun x hx=>by simp at hx,fun i x hx=>by simp at hx⟩
 | n + 1,l,xs,vs,h,hr=>by
  match l,vs,hr,h with
  | a :: b :: c :: l,u :: v :: t :: vs,⟨h1,h2,h3,hr⟩,h =>
   obtain ⟨p,g1,h⟩:=ob_inv (show ob (asRat (.agg [a,b,c])) (fun p=>ob (ratsOf n l) fun r=>some (p.2 :: r)) = some xs from h)
   obtain ⟨r,g2,h⟩:=ob_inv h
   injection h with h
   subst h
   obtain ⟨k1,k2,k3,k4⟩:=ratsOf_rel hg n l r vs g2 hr
   obtain ⟨hk,y,z,e⟩:=asRat_inv g1
   injection e with e
   injection e with e1 e
   injection e with e2 e
   injection e with e3 _
   subst e1;subst e2;subst e3
   obtain ⟨q1,q2⟩:=rat_cells hg hk h1 h2 h3
   refine ⟨by simp [k1],by simp [k2];omega,fun x hx=>?_,fun i x hx=>?_⟩
   ·rcases List.mem_cons.1 hx with rfl | hx
    ·exact q1
    ·exact k3 x hx
   ·cases i with
    | zero =>
     simp at hx
     subst hx
     exact ⟨u,v,t,rfl,rfl,rfl,q2⟩
    | succ i =>
     obtain ⟨a,b,c,j1,j2,j3,j4⟩:=k4 i x (by simpa using hx)
     refine ⟨a,b,c,?_,?_,?_,j4⟩
     ·rw [show (i + 1) * 3 = i * 3 + 3 by omega];simpa using j1
     ·rw [show (i + 1) * 3 + 1 = i * 3 + 1 + 3 by omega];simpa using j2
     ·rw [show (i + 1) * 3 + 2 = i * 3 + 2 + 3 by omega];simpa using j3
  | [],_,_,h=>cases h
  | [_],_,_,h=>cases h
  | [_,_],_,_,h=>cases h
  | _ :: _ :: _ :: _,[],hr,_=>exact hr.elim
  | _ :: _ :: _ :: _,[_],hr,_=>exact hr.2.elim
  | _ :: _ :: _ :: _,[_,_],hr,_=>exact hr.2.2.elim
theorem vokX {xs:List X} (h:∀ x ∈ xs,FE.small (val x) = true):vok (xs.map fun x=>FE.ofQ (val x)) = true:=by
 unfold vok
 rw [List.all_eq_true]
 intro r hr
 obtain ⟨x,hx,rfl⟩:=List.mem_map.1 hr
 exact (is_of _ (h x hx)).ok
theorem fewX {xs:List X} (hn:xs.length ≤ 1048576) (h:∀ x ∈ xs,FE.small (val x) = true):Few (xs.map fun x=>FE.ofQ (val x)):=by
 refine ⟨by simpa using hn,fun k hk=>?_⟩
 have hk':k < xs.length:=by simpa using hk
 have e:(xs.map fun x=>FE.ofQ (val x)).getD k zR = FE.ofQ (val xs[k]):=by simp [hk']
 rw [e]
 exact small_len (h _ (List.getElem_mem hk'))
theorem orAre_ok:OrcOne Tryz.prog (toks val drw) 100 orAre:=by
 intro vl st r hr hst
 obtain ⟨c,h1,hr⟩:=ob_inv hr
 cases c with
 | nsl =>
  have hr:some (⟨vB true,st,[],some []⟩:R) = some r:=hr
  injection hr with hr
  subst hr
  refine ⟨eff_pure hst _ _,Tryz.call100,fun E w vs hrel hp=>?_⟩
  obtain ⟨u,rfl,hu⟩:=one_inv h1 hrel
  have hu:u = .slice none 0 0:=hu
  subst hu
  refine (iAreRats [] 0 0 rfl (by unfold Few;exact ⟨by simp,fun k hk=>by simp at hk⟩) none w (VI.nil w none)).mono fun e u ⟨he,hb⟩=>?_
  exact ⟨_,E,he,out_below hp.gi hb rfl⟩
 | sl k o n z =>
  obtain ⟨g1,hr⟩:=bi_inv (show bi (Nat.beq z 3) (bi (Nat.ble n 1000) (ob (st.mem.get k) fun b=>ob (takeN (dropN b.cells o) (Nat.mul n 3)) fun cs=>ob (ratsOf n cs) fun _=>some (⟨vB true,st,[],some [k]⟩:R)) none) none = some r from hr)
  obtain ⟨g2,hr⟩:=bi_inv hr
  obtain ⟨b,g3,hr⟩:=ob_inv hr
  obtain ⟨cs,g4,hr⟩:=ob_inv hr
  obtain ⟨xs,g5,hr⟩:=ob_inv hr
  injection hr with hr
  subst hr
  have g1:=beq_inv g1
  subst g1
  have g2:=ble_inv g2
  refine ⟨eff_pure hst _ _,Tryz.call100,fun E w vs hrel hp=>?_⟩
  obtain ⟨u,rfl,hu⟩:=one_inv h1 hrel
  obtain ⟨q,s,cp,hrho,rfl,hc1,hc2,hc3⟩:=hu
  obtain ⟨q',s',arr,ty,hrho',hh,hsz,hrl⟩:=hp.blk k b (by simp [inR]) g3
  rw [hrho] at hrho'
  injection hrho' with e
  injection e with e1 e2
  subst e1;subst e2
  rw [dropN_eq] at g4
  obtain ⟨rfl,hle⟩:=takeN_eq _ _ _ g4
  have hle:n * 3 ≤ (b.cells.drop o).length:=hle
  have hL:RelL E ((b.cells.drop o).take (n * 3)) ((arr.toList.drop o).take (n * 3)):=(hrl.drop o).take (n * 3) hle
  obtain ⟨k1,k2,k3,k4⟩:=ratsOf_rel hp.gi n _ xs _ g5 hL
  have hvi:VI w (some ⟨q,o,none⟩) (xs.map fun x=>FE.ofQ (val x)):=by
   intro _
   refine ⟨q,o,rfl,hp.gi.low _ _ _ hrho,fun i hi=>?_⟩
   have hi':i < xs.length:=by simpa using hi
   obtain ⟨a,b',c,j1,j2,j3,j4⟩:=k4 i _ (List.getElem?_eq_getElem hi')
   have e:(xs.map fun x=>FE.ofQ (val x)).getD i zR = FE.ofQ (val xs[i]):=by simp [hi']
   rw [e]
   obtain ⟨A,c1,B,d1,e0,hl,ra,rb⟩:=j4
   injection e0 with e0
   have e0:=congrArg Array.toList e0
   simp at e0
   obtain ⟨rfl,rfl,rfl⟩:=e0
   have cell:∀ (j:Nat) (v:Value),((arr.toList.drop o).take (n * 3))[j]? = some v → w.cell? ⟨q,o + j,none⟩ = some v:=by
    intro j v hj
    rw [cell_of hh]
    rw [List.getElem?_take] at hj
    split at hj
    ·rw [List.getElem?_drop] at hj;simpa using hj
    ·simp at hj
   exact ⟨A,c1,B,d1,by have:=cell _ _ j1;exact this,by have:=cell _ _ j2;rw [← Nat.add_assoc] at this;exact this,by have:=cell _ _ j3;rw [← Nat.add_assoc] at this;exact this,hl,ra,rb⟩
  refine (iAreRats (xs.map fun x=>FE.ofQ (val x)) n cp (by simp [k1]) (fewX (by omega) k3) (some ⟨q,o,none⟩) w hvi).mono fun e u ⟨he,hb⟩=>?_
  rw [vokX k3] at he
  exact ⟨_,E,he,out_below hp.gi hb rfl⟩
 | _=>cases hr
end
/-! ### Finding the numbers -/
abbrev Acc:=List Nat × List (Nat × X)
noncomputable def newT (τ:List (Nat × X)) (j:Nat) (x:X):List (Nat × X):=@List.rec (Nat × X) (fun _=>List (Nat × X)) [(j,x)] (fun a l _=>bi (Nat.beq a.1 j) (a :: l) ((j,x) :: a :: l)) τ
noncomputable def colC (c:C) (a:Acc):Acc :=
 match c with
 | .sl k _ _ _=>bi (memb a.1 k) a (app a.1 [k],a.2)
 | .ptr k _=>bi (memb a.1 k) a (app a.1 [k],a.2)
 | .cell j _ x=>(a.1,newT a.2 j x)
 | _=>a
noncomputable def colL (l:List C):Acc → Acc:=@List.rec C (fun _=>Acc → Acc) (fun a=>a) (fun c _ ih a=>ih (colC c a)) l
noncomputable def colS (l:List S):Acc → Acc:=@List.rec S (fun _=>Acc → Acc) (fun a=>a) (fun s _ ih a=>ih (colL s.cells a)) l
noncomputable def colV (l:List V):Acc → Acc:=@List.rec V (fun _=>Acc → Acc) (fun a=>a) (fun v _ ih a=>ih (V.casesOn v (fun s=>colL s.cells a) (fun l=>colS l a))) l
noncomputable def colB (st:St) (n:Nat):Nat → Acc → Acc:=@Nat.rec (fun _=>Nat → Acc → Acc) (fun _ a=>a) (fun _ ih i a=>@Option.rec Nat (fun _=>Acc) a (fun k=>@Option.rec Blk (fun _=>Acc) a (fun b=>ih (Nat.add i 1) (colL b.cells a)) (st.mem.get k)) (nth a.1 i)) n
noncomputable def revT {α:Type} (l:List α):List α → List α:=@List.rec α (fun _=>List α → List α) (fun r=>r) (fun a _ ih r=>ih (a :: r)) l
noncomputable def found (nb0:Nat) (vl:List V) (st:St):Acc:=(fun a:Acc=>(a.1,revT a.2 [])) (colB st nb0 0 (colV vl ([],[])))
/-! ### At known values -/
noncomputable def kdOk (x:X):Bool:=bi (Nat.beq x.kd 1) false true
noncomputable def xAt (nt0:Nat) (τ:List (Nat × X)) (ξ:List X) (t:Nat):X :=
 bi (Nat.ble nt0 t) (@Option.rec X (fun _=>X) ⟨0,0,[]⟩ (fun y=>y) (nth ξ (Nat.sub t nt0))) (@Option.rec (Nat × X) (fun _=>X) ⟨0,0,[]⟩ (fun p=>p.2) (nth τ t))
noncomputable def keptAt (a0:List V) (m0:Cells) (nb0 nt0:Nat) (v:V) (res:Cells) (ξ:List X) (vl:List V) (st:St) (a:Acc):Option R :=
 bi (allB (fun p:Nat × X=>kdOk p.2) a.2) (reloc a0 m0 nb0 nt0 v res (xAt nt0 a.2 ξ) a.1 a.2 ξ vl st) none
noncomputable def keptO (a0:List V) (m0:Cells) (nb0 nt0:Nat) (v:V) (res:Cells) (ξ:List X) (vl:List V) (st:St):Option R:=keptAt a0 m0 nb0 nt0 v res ξ vl st (found nb0 vl st)
theorem kdOk_inv {x:X} (h:kdOk x = true):x.kd ≠ 1:=by
 intro e
 unfold kdOk at h
 rw [e] at h
 cases h
theorem keptO_ok {P:Program} {val:X → Rat} {drw:Drw} {call:CallFn} (hcall:CallOk P (toks val drw) call) {f:Nat} {a0:List V} {m0:Cells} {nb0 nt0:Nat} {v:V} {res:Cells} {ξ:List X}
 (hk:Kept call f a0 m0 nb0 nt0 (nt0 + ξ.length) v res) (hξ:allB kdOk ξ = true):OrcOne P (toks val drw) f (keptO a0 m0 nb0 nt0 v res ξ):=by
 intro vl st r h hst
 obtain ⟨h1,h⟩:=bi_inv h
 generalize found nb0 vl st = a at *
 have hkd:=allB_inv h1
 have hx:∀ (i:Nat) (y:X),ξ[i]? = some y → y.kd ≠ 1:=fun i y hy=>kdOk_inv (allB_inv hξ y (List.mem_of_getElem? hy))
 refine reloc_ok hcall hk (fun t=>?_) (fun t p ht hp=>?_) (fun i y hy=>?_) h hst
 ·unfold xAt
  rw [nth_eq,nth_eq]
  cases Nat.ble nt0 t with
  | true =>
   cases hy:ξ[Nat.sub t nt0]? with
   | none=>show (0:Nat) ≠ 1;omega
   | some y=>exact hx _ y hy
  | false =>
   cases hp:a.2[t]? with
   | none=>show (0:Nat) ≠ 1;omega
   | some p=>exact kdOk_inv (hkd p (List.mem_of_getElem? hp))
 ·refine ⟨kdOk_inv (hkd p (List.mem_of_getElem? hp)),?_⟩
  unfold xAt
  have:Nat.ble nt0 t = false:=by
   cases hq:Nat.ble nt0 t with
   | false=>rfl
   | true=>have:=ble_inv hq;omega
  rw [this,nth_eq,nth_eq,hp]
 ·refine ⟨hx i y hy,?_⟩
  unfold xAt
  have:Nat.ble nt0 (nt0 + i) = true:=Nat.ble_eq_true_of_le (Nat.le_add_right _ _)
  have e:Nat.sub (nt0 + i) nt0 = i:=by show nt0 + i - nt0 = i;omega
  rw [this,e,nth_eq,hy]
/-! ### At any values: a row of steps -/
abbrev Orcs:=Nat → Option (List V → St → Option R)
noncomputable def altM (g h:List V → St → Option R) (vl:List V) (st:St):Option R:=@Option.rec R (fun _=>Option R) (h vl st) (fun r=>some r) (g vl st)
noncomputable def withM (f0:Nat) (g:List V → St → Option R) (orc:Orcs) (f:Nat):Option (List V → St → Option R):=bi (Nat.beq f f0) (some g) (orc f)
noncomputable def isTrue (r:Option R):Bool:=@Option.rec R (fun _=>Bool) false (fun r=>eqV r.v (vB true)) r
theorem alt_ok {P:Program} {K:Toks} {f:Nat} {g h:List V → St → Option R} (hg:OrcOne P K f g) (hh:OrcOne P K f h):OrcOne P K f (altM g h):=by
 intro vl st r hr hst
 unfold altM at hr
 cases hq:g vl st with
 | none=>rw [hq] at hr;exact hh vl st r hr hst
 | some r' =>
  rw [hq] at hr
  injection hr with hr
  subst hr
  exact hg vl st r' hq hst
theorem with_ok {P:Program} {K:Toks} {f0:Nat} {g:List V → St → Option R} {orc:Orcs} (hg:OrcOne P K f0 g) (ho:OrcOk P K orc):OrcOk P K (withM f0 g orc):=by
 intro f h hf
 unfold withM at hf
 cases hq:Nat.beq f f0 with
 | true =>
  rw [hq] at hf
  injection hf with hf
  subst hf
  rw [beq_inv hq]
  exact hg
 | false=>rw [hq] at hf;exact ho f h hf
theorem none_ok {P:Program} {K:Toks}:OrcOk P K (fun _=>none):=fun f g h=>by cases h
/-! ### The draws' values -/
def fewNat:Nat → Nat
 | 3=>2
 | 4=>3
 | _=>1
def fewQ (fx:Fix) (p:Nat):Rat:=_root_.mkRat (((fx.byte p % 21:Nat):Int) - 10) (fewNat (fx.byte (p + 1) % 5))
def UxOk (val:X → Rat) (drw:Drw) (ux:Nat → Option X):Prop:=∀ p z,ux p = some z → Good2 val z∧val z = fewQ drw.fx p
inductive BV where
 | k (p:Nat)
 | f (p:Nat)
 | u (p:Nat)
def bval (fx:Fix):BV → Rat
 | .k p=>2 * _root_.mkRat (1 + (fx.byte p % 4:Nat)) (1 + fx.byte (p + 1) % 2)
 | .f p=>_root_.mkRat (-1 + (fx.byte p % 5:Nat)) 1
 | .u p=>6 * fewQ fx p
def bbits:BV → Nat
 | .k _=>4
 | .f _=>2
 | .u _=>6
def bpos:BV → Bool
 | .k _=>true
 | .f _=>false
 | .u _=>false
theorem mk_one (n:Int):_root_.mkRat n 1 = (n:Rat):=by rw [Rat.mkRat_eq_div];have:((1:Nat):Rat) = 1:=rfl;rw [this];grind
theorem bval_bnd (fx:Fix) (b:BV):Bnd (bbits b) (bval fx b)∧(bpos b = true → 0 < bval fx b):=by
 cases b with
 | u p =>
  refine ⟨?_,fun h=>by cases h⟩
  have m1:fx.byte p % 21 < 21:=Nat.mod_lt _ (by decide)
  have m2:fx.byte (p + 1) % 5 < 5:=Nat.mod_lt _ (by decide)
  simp only [bval,bbits,fewQ]
  generalize fx.byte p % 21 = a at *
  generalize fx.byte (p + 1) % 5 = c at *
  have hd:fewNat c = 1 ∨ fewNat c = 2 ∨ fewNat c = 3:=by
   have:c = 0 ∨ c = 1 ∨ c = 2 ∨ c = 3 ∨ c = 4:=by omega
   rcases this with rfl | rfl | rfl | rfl | rfl <;> decide
  obtain ⟨q,hq1,hq2,hq⟩:∃ q:Int,2 ≤ q∧q ≤ 6∧q * (fewNat c:Nat) = 6:=by
   rcases hd with h | h | h <;> rw [h]
   ·exact ⟨6,by decide⟩
   ·exact ⟨3,by decide⟩
   ·exact ⟨2,by decide⟩
  refine ⟨1,((a:Int) - 10) * q,by decide,by decide,?_,?_,?_⟩
  ·have e1:((1:Int):Rat) = 1:=rfl
   have hne:((fewNat c:Nat):Rat) ≠ 0:=by
    rcases hd with h | h | h <;> rw [h] <;> decide
   have e6:(q:Rat) * ((fewNat c:Nat):Rat) = 6:=by
    have:=congrArg (fun z:Int=>(z:Rat)) hq
    simp only [Rat.intCast_mul] at this
    exact this
   rw [e1,Rat.mul_one,Rat.mkRat_eq_div,Rat.intCast_mul,← e6]
   generalize ((fewNat c:Nat):Rat) = d at *
   grind
  ·have:(a:Int) - 10 ≥ -10:=by omega
   have h1:-10 * q ≤ ((a:Int) - 10) * q:=Int.mul_le_mul_of_nonneg_right this (by omega)
   have e:(2:Int) ^ 6 = 64:=rfl
   rw [e]
   omega
  ·have:(a:Int) - 10 ≤ 10:=by omega
   have h1:((a:Int) - 10) * q ≤ 10 * q:=Int.mul_le_mul_of_nonneg_right this (by omega)
   have e:(2:Int) ^ 6 = 64:=rfl
   rw [e]
   omega
 | f p =>
  refine ⟨?_,fun h=>by cases h⟩
  have m1:fx.byte p % 5 < 5:=Nat.mod_lt _ (by decide)
  simp only [bval,bbits]
  generalize fx.byte p % 5 = a at *
  refine ⟨1,-1 + (a:Int),by decide,by decide,?_,by omega,by omega⟩
  rw [mk_one]
  have:((1:Int):Rat) = 1:=rfl
  rw [this,Rat.mul_one]
 | k p =>
  have m1:fx.byte p % 4 < 4:=Nat.mod_lt _ (by decide)
  have m2:fx.byte (p + 1) % 2 < 2:=Nat.mod_lt _ (by decide)
  simp only [bval,bbits]
  generalize fx.byte p % 4 = a at *
  generalize fx.byte (p + 1) % 2 = c at *
  have key:2 * _root_.mkRat (1 + (a:Int)) (1 + c) = (((2 - c:Nat):Int) * (1 + (a:Int)):Int):=by
   rw [Rat.mkRat_eq_div]
   have hc:c = 0 ∨ c = 1:=by omega
   rcases hc with rfl | rfl
   ·have e1:(((1 + 0:Nat)):Rat) = 1:=rfl
    have e2:((((2 - 0:Nat):Int) * (1 + (a:Int)):Int):Rat) = 2 * ((1 + (a:Int):Int):Rat):=by rw [Rat.intCast_mul];rfl
    rw [e1,e2];grind
   ·have e1:(((1 + 1:Nat)):Rat) = 2:=rfl
    have e2:((((2 - 1:Nat):Int) * (1 + (a:Int)):Int):Rat) = ((1 + (a:Int):Int):Rat):=by rw [Rat.intCast_mul];show (1:Rat) * _ = _;rw [Rat.one_mul]
    rw [e1,e2];grind
  have hb:1 ≤ ((2 - c:Nat):Int) * (1 + (a:Int))∧((2 - c:Nat):Int) * (1 + (a:Int)) ≤ 8:=by
   have hc:c = 0 ∨ c = 1:=by omega
   rcases hc with rfl | rfl <;> simp <;> omega
  rw [key]
  generalize ((2 - c:Nat):Int) * (1 + (a:Int)) = z at *
  refine ⟨⟨1,z,by decide,by decide,?_,by omega,by omega⟩,fun _=>int_pos (by omega)⟩
  have:((1:Int):Rat) = 1:=rfl
  rw [this,Rat.mul_one]
theorem bvs_ok (fx:Fix):∀ l:List BV,BndL (l.map (bval fx)) (l.map bbits)∧PosL (l.map (bval fx)) (l.map bpos)
 | []=>⟨trivial,trivial⟩
 | b :: l=>by
  obtain ⟨h1,h2⟩:=bval_bnd fx b
  obtain ⟨h3,h4⟩:=bvs_ok fx l
  exact ⟨⟨h1,h3⟩,⟨h2,h4⟩⟩
noncomputable def kAt (bs:List BV) (p:Nat):Nat → Option Nat:=@List.rec BV (fun _=>Nat → Option Nat) (fun _=>none) (fun b _ ih i=>BV.casesOn b (fun q=>bi (Nat.beq p q) (some i) (ih (Nat.add i 1))) (fun _=>ih (Nat.add i 1)) (fun _=>ih (Nat.add i 1))) bs
noncomputable def fAt (bs:List BV) (p:Nat):Nat → Option Nat:=@List.rec BV (fun _=>Nat → Option Nat) (fun _=>none) (fun b _ ih i=>BV.casesOn b (fun _=>ih (Nat.add i 1)) (fun q=>bi (Nat.beq p q) (some i) (ih (Nat.add i 1))) (fun _=>ih (Nat.add i 1))) bs
noncomputable def uAt (bs:List BV) (p:Nat):Nat → Option Nat:=@List.rec BV (fun _=>Nat → Option Nat) (fun _=>none) (fun b _ ih i=>BV.casesOn b (fun _=>ih (Nat.add i 1)) (fun _=>ih (Nat.add i 1)) (fun q=>bi (Nat.beq p q) (some i) (ih (Nat.add i 1)))) bs
noncomputable def kxF (hs:List Nat) (bs:List BV) (p:Nat):Option X:=ob (kAt bs p 0) fun i=>chk hs ⟨0,2,[(Nat.pow 16 i,1)]⟩
noncomputable def fxF (hs:List Nat) (bs:List BV) (p:Nat):Option X:=ob (fAt bs p 0) fun i=>chk hs (varX i)
noncomputable def uxF (hs:List Nat) (bs:List BV) (p:Nat):Option X:=ob (uAt bs p 0) fun i=>chk hs ⟨0,6,[(Nat.pow 16 i,1)]⟩
theorem kAt_inv {p:Nat}:∀ {bs:List BV} {i j:Nat},kAt bs p i = some j → ∃ k,j = i + k∧bs[k]? = some (.k p)
 | [],i,j,h=>by cases h
 | .k q :: bs,i,j,h=>by
  have h:bi (Nat.beq p q) (some i) (kAt bs p (Nat.add i 1)) = some j:=h
  cases hq:Nat.beq p q with
  | true =>
   rw [hq] at h
   injection h with h
   exact ⟨0,h.symm,by rw [beq_inv hq];rfl⟩
  | false =>
   rw [hq] at h
   obtain ⟨k,h1,h2⟩:=kAt_inv (bs:=bs) h
   exact ⟨k + 1,by have:Nat.add i 1 = i + 1:=rfl
                   omega,by simpa using h2⟩
 | .f q :: bs,i,j,h=>by
  obtain ⟨k,h1,h2⟩:=kAt_inv (bs:=bs) (show kAt bs p (Nat.add i 1) = some j from h)
  exact ⟨k + 1,by have:Nat.add i 1 = i + 1:=rfl
                  omega,by simpa using h2⟩
 | .u q :: bs,i,j,h=>by
  obtain ⟨k,h1,h2⟩:=kAt_inv (bs:=bs) (show kAt bs p (Nat.add i 1) = some j from h)
  exact ⟨k + 1,by have:Nat.add i 1 = i + 1:=rfl
                  omega,by simpa using h2⟩
theorem fAt_inv {p:Nat}:∀ {bs:List BV} {i j:Nat},fAt bs p i = some j → ∃ k,j = i + k∧bs[k]? = some (.f p)
 | [],i,j,h=>by cases h
 | .f q :: bs,i,j,h=>by
  have h:bi (Nat.beq p q) (some i) (fAt bs p (Nat.add i 1)) = some j:=h
  cases hq:Nat.beq p q with
  | true =>
   rw [hq] at h
   injection h with h
   exact ⟨0,h.symm,by rw [beq_inv hq];rfl⟩
  | false =>
   rw [hq] at h
   obtain ⟨k,h1,h2⟩:=fAt_inv (bs:=bs) h
   exact ⟨k + 1,by have:Nat.add i 1 = i + 1:=rfl
                   omega,by simpa using h2⟩
 | .k q :: bs,i,j,h=>by
  obtain ⟨k,h1,h2⟩:=fAt_inv (bs:=bs) (show fAt bs p (Nat.add i 1) = some j from h)
  exact ⟨k + 1,by have:Nat.add i 1 = i + 1:=rfl
                  omega,by simpa using h2⟩
 | .u q :: bs,i,j,h=>by
  obtain ⟨k,h1,h2⟩:=fAt_inv (bs:=bs) (show fAt bs p (Nat.add i 1) = some j from h)
  exact ⟨k + 1,by have:Nat.add i 1 = i + 1:=rfl
                  omega,by simpa using h2⟩
theorem uAt_inv {p:Nat}:∀ {bs:List BV} {i j:Nat},uAt bs p i = some j → ∃ k,j = i + k∧bs[k]? = some (.u p)
 | [],i,j,h=>by cases h
 | .u q :: bs,i,j,h=>by
  have h:bi (Nat.beq p q) (some i) (uAt bs p (Nat.add i 1)) = some j:=h
  cases hq:Nat.beq p q with
  | true =>
   rw [hq] at h
   injection h with h
   exact ⟨0,h.symm,by rw [beq_inv hq];rfl⟩
  | false =>
   rw [hq] at h
   obtain ⟨k,h1,h2⟩:=uAt_inv (bs:=bs) h
   exact ⟨k + 1,by have:Nat.add i 1 = i + 1:=rfl
                   omega,by simpa using h2⟩
 | .k q :: bs,i,j,h=>by
  obtain ⟨k,h1,h2⟩:=uAt_inv (bs:=bs) (show uAt bs p (Nat.add i 1) = some j from h)
  exact ⟨k + 1,by have:Nat.add i 1 = i + 1:=rfl
                  omega,by simpa using h2⟩
 | .f q :: bs,i,j,h=>by
  obtain ⟨k,h1,h2⟩:=uAt_inv (bs:=bs) (show uAt bs p (Nat.add i 1) = some j from h)
  exact ⟨k + 1,by have:Nat.add i 1 = i + 1:=rfl
                  omega,by simpa using h2⟩
structure Par where
 bs:List BV
 ds:List Der
noncomputable def Par.cfg (p:Par):Cfg:=cfgOf (p.bs.map bbits) (p.bs.map bpos) p.ds
noncomputable def Par.ok (p:Par):Bool:=bi (derOk p.ds (len p.bs) (p.bs.map bbits) (p.bs.map bpos)) (Nat.ble (Nat.add (len p.bs) (len p.ds)) 64) false
noncomputable def Par.l (p:Par) (fx:Fix):List Rat:=extL p.ds (p.bs.map (bval fx))
theorem par_ok {p:Par} (h:p.ok = true) (fx:Fix):CfgOk (p.l fx) p.cfg∧∃ r,p.l fx = p.bs.map (bval fx) ++ r:=by
 obtain ⟨h1,h2⟩:=bi3 h
 obtain ⟨b1,b2⟩:=bvs_ok fx p.bs
 have h2:=ble_inv h2
 rw [len_eq] at h1
 rw [len_eq,len_eq] at h2
 exact cfg_ok (by simp) (by simp) b1 b2 (by simpa using h1) (by simpa using h2)
theorem kx_ok {p:Par} (h:p.ok = true) (drw:Drw):KxOk (X.val (p.l drw.fx)) drw (kxF p.cfg.hs p.bs):=by
 obtain ⟨hc,r,hr⟩:=par_ok h drw.fx
 intro q z hz
 obtain ⟨i,h1,hz⟩:=ob_inv hz
 obtain ⟨rfl,g⟩:=chk_ok hc.bnd hz
 obtain ⟨k,e,hk⟩:=kAt_inv h1
 refine ⟨g,?_⟩
 have hlt:=(List.getElem?_eq_some_iff.1 hk).1
 have hl:(p.l drw.fx)[i]? = some (bval drw.fx (.k q)):=by
  rw [hr,e,Nat.zero_add,List.getElem?_append_left (by simpa using hlt),List.getElem?_map,hk];rfl
 have hv:=val_var _ _ _ hl
 unfold X.val varX at hv
 unfold X.val
 simp only at hv ⊢
 have e1:(((1:Nat)):Rat) = 1:=rfl
 have e2:(((2:Nat)):Rat) = 2:=rfl
 rw [e1] at hv
 rw [e2]
 have hb:bval drw.fx (.k q) = 2 * _root_.mkRat (1 + (drw.fx.byte q % 4:Nat)) (1 + drw.fx.byte (q + 1) % 2):=rfl
 rw [hb] at hv
 generalize ev (p.l drw.fx) [(Nat.pow 16 i,1)] = a at *
 generalize _root_.mkRat (1 + (drw.fx.byte q % 4:Nat)) (1 + drw.fx.byte (q + 1) % 2) = b at *
 grind
theorem fx_ok {p:Par} (h:p.ok = true) (drw:Drw):FxOk (X.val (p.l drw.fx)) drw (fxF p.cfg.hs p.bs):=by
 obtain ⟨hc,r,hr⟩:=par_ok h drw.fx
 intro q z hz
 obtain ⟨i,h1,hz⟩:=ob_inv hz
 obtain ⟨rfl,g⟩:=chk_ok hc.bnd hz
 obtain ⟨k,e,hk⟩:=fAt_inv h1
 refine ⟨g,?_⟩
 have hlt:=(List.getElem?_eq_some_iff.1 hk).1
 have hl:(p.l drw.fx)[i]? = some (bval drw.fx (.f q)):=by
  rw [hr,e,Nat.zero_add,List.getElem?_append_left (by simpa using hlt),List.getElem?_map,hk];rfl
 exact val_var _ _ _ hl
theorem ux_ok {p:Par} (h:p.ok = true) (drw:Drw):UxOk (X.val (p.l drw.fx)) drw (uxF p.cfg.hs p.bs):=by
 obtain ⟨hc,r,hr⟩:=par_ok h drw.fx
 intro q z hz
 obtain ⟨i,h1,hz⟩:=ob_inv hz
 obtain ⟨rfl,g⟩:=chk_ok hc.bnd hz
 obtain ⟨k,e,hk⟩:=uAt_inv h1
 refine ⟨g,?_⟩
 have hlt:=(List.getElem?_eq_some_iff.1 hk).1
 have hl:(p.l drw.fx)[i]? = some (bval drw.fx (.u q)):=by
  rw [hr,e,Nat.zero_add,List.getElem?_append_left (by simpa using hlt),List.getElem?_map,hk];rfl
 have hv:=val_var _ _ _ hl
 unfold X.val varX at hv
 unfold X.val
 simp only at hv ⊢
 have e1:(((1:Nat)):Rat) = 1:=rfl
 have e2:(((6:Nat)):Rat) = 6:=rfl
 rw [e1] at hv
 rw [e2]
 have hb:bval drw.fx (.u q) = 6 * fewQ drw.fx q:=rfl
 rw [hb] at hv
 generalize ev (p.l drw.fx) [(Nat.pow 16 i,1)] = a at *
 generalize fewQ drw.fx q = b at *
 grind
noncomputable def tabF (l:List (Nat × Nat × Nat)) (p m:Nat):Option Nat:=@List.rec (Nat × Nat × Nat) (fun _=>Option Nat) none (fun a _ ih=>bi (Nat.beq a.1 p) (bi (Nat.beq a.2.1 m) (some a.2.2) ih) ih) l
theorem tabF_inv {p m r:Nat}:∀ {l:List (Nat × Nat × Nat)},tabF l p m = some r → (p,m,r) ∈ l
 | [],h=>by cases h
 | a :: l,h=>by
  have h:bi (Nat.beq a.1 p) (bi (Nat.beq a.2.1 m) (some a.2.2) (tabF l p m)) (tabF l p m) = some r:=h
  cases h1:Nat.beq a.1 p with
  | false=>rw [h1] at h;exact List.mem_cons_of_mem _ (tabF_inv (show tabF l p m = some r from h))
  | true =>
   rw [h1] at h
   cases h2:Nat.beq a.2.1 m with
   | false=>rw [h2] at h;exact List.mem_cons_of_mem _ (tabF_inv (show tabF l p m = some r from h))
   | true =>
    rw [h2] at h
    injection h with h
    obtain ⟨x,y,z⟩:=a
    rw [← beq_inv h1,← beq_inv h2,← h]
    exact List.mem_cons_self
def noBlk:Nat → Option (Nat × Nat):=fun _=>none
def noTok:Nat → Option TokD:=fun _=>none
theorem prog_ok:ProgOk Tryz.prog:=by
 refine ⟨by kernel_rfl,fun f fn h=>?_⟩
 have ha:allB (fun fn:Func=>!(fn.name == "runtime.NumGoroutine")) Tryz.prog.funcs.toList = true:=by kernel_rfl
 have hm:fn ∈ Tryz.prog.funcs.toList:=by
  rw [← Array.getElem?_toList] at h
  exact List.mem_of_getElem? h
 have:=allB_inv ha fn hm
 simpa using this
theorem call_ok {val:X → Rat} {drw:Drw} {orc:Orcs} (ho:OrcOk Tryz.prog (toks val drw) orc):CallOk Tryz.prog (toks val drw) (evCall Tryz.prog orc 100000 40):=evCall_ok prog_ok ho 100000 40
theorem be_of_bi {w:World} {A:Option Addr} {n:Nat} (h:BI w A n):∃ y,Byt y∧BE w A n y:=by
 by_cases hn:n = 0
 ·exact ⟨fun _=>0,fun _=>⟨Int.le_refl 0,(by omega:(0:Int) < 256)⟩,fun h=>absurd hn h⟩
 ·obtain ⟨b,o,rfl,hlt,hc⟩:=h hn
  have hc':∀ j,∃ x:Int,(0 ≤ x∧x < 256)∧(j < n → w.cell? ⟨b,o + j,none⟩ = some (.int .u8 x)):=by
   intro j
   by_cases hj:j < n
   ·obtain ⟨x,h1,h2⟩:=hc j hj
    exact ⟨x,h1,fun _=>h2⟩
   ·exact ⟨0,by decide,fun h=>absurd h hj⟩
  refine ⟨fun j=>(hc' j).choose,fun j=>(hc' j).choose_spec.1,fun _=>⟨b,o,rfl,hlt,fun j hj=>(hc' j).choose_spec.2 hj⟩⟩
def triA (a b c d e:Int):Value:=.agg #[.int .i64 a,.int .i64 b,.int .i64 c,.int .i64 d,.int .i64 e]
theorem tri_under:∃ f0 f1 f2 f3 f4:Field,Tryz.prog.underlying 49 = some (.struct #[f0,f1,f2,f3,f4])∧(f0.type = 3∧f1.type = 3∧f2.type = 3∧f3.type = 3∧f4.type = 3) ∧
 (f0.offset = 0∧f1.offset = 1∧f2.offset = 2∧f3.offset = 3∧f4.offset = 4)∧(f0.name ≠ "_"∧f1.name ≠ "_"∧f2.name ≠ "_"∧f3.name ≠ "_"∧f4.name ≠ "_"):=by
 refine ⟨_,_,_,_,_,Tryz.underlying49,⟨rfl,rfl,rfl,rfl,rfl⟩,⟨rfl,rfl,rfl,rfl,rfl⟩,by decide,by decide,by decide,by decide,by decide⟩
theorem int_under:Tryz.prog.underlying 3 = some (.int .i64):=by kernel_rfl
theorem run_int_eq (d:Nat) (a b:Int) (w:World):(Op.equalIn (d + 1) 3 (.int .i64 a) (.int .i64 b)).run Tryz.prog w = .ok (a == b) w:=by
 unfold Op.equalIn
 simp [run_underlying int_under]
theorem run_tri_eq (a b c d e a' b' c' d' e':Int) (w:World) :
 (Op.equal 49 (triA a b c d e) (triA a' b' c' d' e')).run Tryz.prog w = .ok ((a == a') && ((b == b') && ((c == c') && ((d == d') && (e == e'))))) w:=by
 obtain ⟨f0,f1,f2,f3,f4,hu,⟨t0,t1,t2,t3,t4⟩,⟨o0,o1,o2,o3,o4⟩,n0,n1,n2,n3,n4⟩:=tri_under
 unfold Op.equal Op.maxDepth Op.equalIn triA
 simp [run_underlying hu,n0,n1,n2,n3,n4,t0,t1,t2,t3,t4,o0,o1,o2,o3,o4,part,isAgg,run_underlying int_under,run_int_eq]
 by_cases h0:a = a' <;> by_cases h1:b = b' <;> by_cases h2:c = c' <;> by_cases h3:d = d' <;> by_cases h4:e = e' <;> simp [h0,h1,h2,h3,h4]
theorem run_tri_neq (x y:Operand) (a b c d e a' b' c' d' e':Int) (w:World) :
 (do eqGuard .neq 49 x y (triA a b c d e) (triA a' b' c' d' e');binOp .neq 49 (triA a b c d e) (triA a' b' c' d' e'):Sem Value).run Tryz.prog w = .ok (.bool (!((a == a') && ((b == b') && ((c == c') && ((d == d') && (e == e'))))))) w:=by
 have h:=run_tri_eq a b c d e a' b' c' d' e' w
 have g:(eqGuard .neq 49 x y (triA a b c d e) (triA a' b' c' d' e')).run Tryz.prog w = .ok () w:=by
  unfold eqGuard triA
  simp [run_program]
 have k:(binOp .neq 49 (triA a b c d e) (triA a' b' c' d' e')).run Tryz.prog w = .ok (.bool (!((a == a') && ((b == b') && ((c == c') && ((d == d') && (e == e'))))))) w:=by
  unfold binOp
  simp only [triA] at h ⊢
  simp only [Sem.run_bind,h,Result.andThen_ok,Sem.run_pure]
 simp only [Sem.run_bind,g,Result.andThen_ok,k]
structure T5 where
 a:Int
 b:Int
 c:Int
 d:Int
 e:Int
deriving DecidableEq
def T5.at (w:World) (b o:Nat) (t:T5):Prop :=
 w.cell? ⟨b,o,none⟩ = some (.int .i64 t.a)∧w.cell? ⟨b,o + 1,none⟩ = some (.int .i64 t.b)∧w.cell? ⟨b,o + 2,none⟩ = some (.int .i64 t.c)∧w.cell? ⟨b,o + 3,none⟩ = some (.int .i64 t.d)∧w.cell? ⟨b,o + 4,none⟩ = some (.int .i64 t.e)
def T5.z:T5:=⟨0,0,0,0,0⟩
def TsI (w:World) (A:Option Addr) (xs:List T5):Prop:=xs ≠ [] → ∃ b,A = some ⟨b,0,none⟩∧b < w.heap.size∧∀ i,i < xs.length → T5.at w b (i * 5) (xs.getD i T5.z)
theorem eq_take5 {xs ys:List T5} {k:Nat} (h:xs.take k = ys.take k) (hx:k < xs.length) (hy:k < ys.length) (e:xs.getD k T5.z = ys.getD k T5.z):xs.take (k + 1) = ys.take (k + 1):=by
 rw [List.take_succ_eq_append_getElem hx,List.take_succ_eq_append_getElem hy,h]
 rw [List.getD_eq_getElem?_getD,List.getD_eq_getElem?_getD,List.getElem?_eq_getElem hx,List.getElem?_eq_getElem hy] at e
 simp only [Option.getD_some] at e
 rw [e]
theorem triEqual (xs ys:List T5) (n m c d:Nat) (hn:xs.length = n) (hm:ys.length = m) (hn1:n ≤ 1048576) (hm1:m ≤ 1048576) (A B:Option Addr) (w:World) (ha:TsI w A xs) (hb:TsI w B ys) :
 Calls Tryz.prog 61 #[.slice A n c,.slice B m d] w fun r w'=>r = .returned (.bool (xs == ys))∧∃ k,w' = w.drewN k:=by
 by_cases hnm:n = m
 ·subst hnm
  have hh:((n:Int) != n) = false:=by simp
  have HN:=Lib.hid hn;clear hn
  have HM:=Lib.hid hm;clear hm
  go_enter Tryz.func61,Tryz.ntmps61
  go_wp2_with fail
  go_loopw [13] (fun u wr=>∃ k:Nat,k ≤ n∧u = .int .i64 k∧xs.take k = ys.take k∧∃ q,wr = w.drewN q) (fun u _=>n - (intOf u).toNat)
  case atStart=>exact ⟨0,Nat.zero_le _,rfl,rfl,0,rfl⟩
  case round =>
   obtain ⟨k,hk,rfl,ht,q,rfl⟩:=hrel
   have HT:=Lib.hid ht;clear ht
   by_cases hkn:k = n
   ·subst hkn
    have h0:decide ((k:Int) < (k:Int)) = false:=by simp
    go_wp2
    go_ret
    refine ⟨ret_bool ?_,q,rfl⟩
    have:=HT.out
    rw [List.take_of_length_le (by rw [HN.out];exact Nat.le_refl _),List.take_of_length_le (by rw [HM.out];exact Nat.le_refl _)] at this
    subst this
    simp
   ·have hlt:(k:Int) < (n:Int):=by omega
    have hnx:=HN.out
    have hny:=HM.out
    obtain ⟨b1,rfl,hb1,hc1⟩:=ha (by intro h;subst h;simp at hnx;omega)
    obtain ⟨b2,rfl,hb2,hc2⟩:=hb (by intro h;subst h;simp at hny;omega)
    obtain ⟨e1,e2,e3,e4,e5⟩:=hc1 k (by omega)
    obtain ⟨g1,g2,g3,g4,g5⟩:=hc2 k (by omega)
    clear hc1 hc2 hnx hny
    generalize hxe:xs.getD k T5.z = x at *
    generalize hye:ys.getD k T5.z = y at *
    have HX:=Lib.hid hxe;clear hxe
    have HY:=Lib.hid hye;clear hye
    obtain ⟨x1,x2,x3,x4,x5⟩:=x
    obtain ⟨y1,y2,y3,y4,y5⟩:=y
    simp only at e1 e2 e3 e4 e5 g1 g2 g3 g4 g5
    go_wp2
    refine wp_region_quiet_lit (by kernel_rfl) (by kernel_rfl) ?_
    repeat (go_big_quiet_step (fail))
    go_big_quiet_want
    refine ⟨.bool (!((x1 == y1) && ((x2 == y2) && ((x3 == y3) && ((x4 == y4) && (x5 == y5)))))),fun w' hw'=>?_,?_⟩
    ·have h:=run_tri_neq (.tmp 19) (.tmp 23) x1 x2 x3 x4 x5 y1 y2 y3 y4 y5 w'
     have e:((do let z ← (do eqGuard .neq 49 (.tmp 19) (.tmp 23) (triA x1 x2 x3 x4 x5) (triA y1 y2 y3 y4 y5);binOp .neq 49 (triA x1 x2 x3 x4 x5) (triA y1 y2 y3 y4 y5):Sem Value);pure (.value z)):Sem Next).run Tryz.prog w' = .ok (.value (.bool (!((x1 == y1) && ((x2 == y2) && ((x3 == y3) && ((x4 == y4) && (x5 == y5)))))))) w':=by
      rw [Sem.run_bind,h];rfl
     have e2:Oper.quietUpon Tryz.prog (fun w'=>∃ n,w' = (w.drewN q).drewN n) w' (.bool (!((x1 == y1) && ((x2 == y2) && ((x3 == y3) && ((x4 == y4) && (x5 == y5))))))) (((do let z ← (do eqGuard .neq 49 (.tmp 19) (.tmp 23) (triA x1 x2 x3 x4 x5) (triA y1 y2 y3 y4 y5);binOp .neq 49 (triA x1 x2 x3 x4 x5) (triA y1 y2 y3 y4 y5):Sem Value);pure (.value z)):Sem Next).run Tryz.prog w'):=by
      rw [e];exact ⟨rfl,rfl⟩
     exact e2
    obtain ⟨v,hv⟩:∃ v,(!((x1 == y1) && ((x2 == y2) && ((x3 == y3) && ((x4 == y4) && (x5 == y5)))))) = v:=⟨_,rfl⟩
    rw [hv]
    have HV:=Lib.hid hv
    clear hv
    go_big_quiet_on
    refine wpQuiet_nil ?_
    intro _ hw'
    obtain ⟨nq,hw''⟩:=hw'
    subst hw''
    simp only [World.drewN_drewN]
    generalize q + nq = q2
    cases v with
    | false =>
     go_wp2
     go_roundw
     case rel =>
      refine ⟨k + 1,by omega,rfl,eq_take5 HT.out (by have:=HN.out;omega) (by have:=HM.out;omega) ?_,q2,rfl⟩
      have:=HV.out
      simp at this
      rw [HX.out,HY.out]
      simp [this]
     case measure=>simp [intOf];omega
    | true =>
     go_wp2
     go_ret
     refine ⟨ret_bool ?_,q2,rfl⟩
     have:xs ≠ ys:=by
      intro h
      subst h
      have e:=HX.out.symm.trans HY.out
      injection e with e1 e2 e3 e4 e5
      have:=HV.out
      simp [e1,e2,e3,e4,e5] at this
     simp [this]
 ·have hh:((n:Int) != m) = true:=by simp;omega
  have HE:=Lib.hid (show xs ≠ ys from fun h=>hnm (by rw [← hn,← hm,h]))
  clear hnm hn hm
  go_enter Tryz.func61,Tryz.ntmps61
  go_wp2
  go_ret
  exact ⟨ret_bool (by simp [HE.out]),0,rfl⟩
end Go.Proofs.YtchbnlkambncnaaGreatDoor
