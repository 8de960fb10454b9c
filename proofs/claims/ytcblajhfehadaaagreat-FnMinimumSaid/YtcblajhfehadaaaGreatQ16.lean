/-
 Shared texts (Q16).
-/
import Derived.Test.YtcblajhfehadaaaGreatQ15
import Derived.Test.YtcblajhfehadaaaGreatQ10
import Derived.Test.YtcblajhfehadaaaGreatQ5
import Derived.Test.YtcblajhfehadaaaGreatQ12
import Derived.Deep.RegionWith
import Derived.Test.YtcblajhfehadaaaGreatQ4
import Derived.IntWalk
import Derived.Test.YtcblajhfehadaaaGreatQ6
import Derived.BigQuiet
import Derived.Test.YtcblajhfehadaaaGreatQ14
set_option maxRecDepth 100000
set_option maxHeartbeats 4000000
namespace Go.Proofs.YtcblajhfehadaaaGreat
open Go.RowKit Go.Joins Go.SX
structure Cfg where
 hs:List Nat
 fl:List Bool
 invs:List (M × X)
 els:List (Nat × M × M)
structure CfgOk (l:List Rat) (c:Cfg):Prop where
 len:l.length ≤ 64
 bnd:BndL l c.hs
 pos:PosL l c.fl
 inv:InvOk l c.invs
 el:∀ e ∈ c.els,ElOk l e
noncomputable def chk (hs:List Nat) (z:X):Option X:=bi (Nat.beq z.kd 1) none (bi (Nat.ble 1 z.den) (bi (smallX hs z) (some z) none) none)
noncomputable def litM (d:Nat) (p:M):Option (Int × Nat) :=
 match p with
 | []=>bi (Nat.beq d 1) (some (0,1)) none
 | [(0,c)]=>bi (Nat.ble (iabs c) 999999999) (bi (Nat.ble d 999999999) (bi (Nat.ble 1 d) (bi (Nat.beq (Nat.gcd (iabs c) d) 1) (some (c,d)) none) none) none) none
 | _=>none
noncomputable def algO (c:Cfg):Alg where
 bin:=fun o _ x y=>bi (Nat.beq o 0) (ob (xadd x y) (chk c.hs)) (bi (Nat.beq o 1) (ob (xsub x y) (chk c.hs)) (bi (Nat.beq o 2) (ob (xmul x y) (chk c.hs)) (ob (xdiv c.invs x y) (chk c.hs))))
 un:=fun o _ x=>bi (Nat.beq o 0) (chk c.hs (xneg x)) (chk c.hs x)
 num:=fun _ n d=>bi (Nat.ble 1 d) (chk c.hs (normX d (cons0 0 n []))) none
 sgn:=fun x=>bi (Nat.ble 1 x.den) (cmpD c.fl c.els x) none
 cmp:=fun x y=>xcmp c.fl c.els x y
 lit:=fun x=>litM x.den x.ps
theorem chk_ok {l:List Rat} {hs:List Nat} (hb:BndL l hs) {y z:X} (h:chk hs y = some z):y = z∧Good2 (X.val l) z:=by
 unfold chk at h
 cases hk:Nat.beq y.kd 1 with
 | true=>rw [hk] at h;cases h
 | false =>
  rw [hk] at h
  obtain ⟨h1,h⟩:=bi_inv (show bi (Nat.ble 1 y.den) (bi (smallX hs y) (some y) none) none = some z from h)
  obtain ⟨h2,h⟩:=bi_inv h
  injection h with h
  subst h
  refine ⟨rfl,⟨(fun e=>by rw [e] at hk;cases hk),?_⟩⟩
  obtain ⟨D,B,w,d0,d1,b1,e,w1,w2⟩:=smallX_lat hb h2 (ble_one h1)
  exact FE.Lat.small ⟨d0,w,e,w1,w2⟩ d1 b1
theorem ev_const (l:List Rat) (n:Int):ev l (cons0 0 n []) = (n:Rat):=by
 rw [ev_cons0]
 simp only [ev]
 rw [mon_zero]
 grind
theorem algO_ok {l:List Rat} {c:Cfg} (h:CfgOk l c):AlgOk (X.val l) (algO c):=by
 refine ⟨fun nt x y z hz=>?_,fun nt x y z hz=>?_,fun nt x y z hz=>?_,fun nt x y z hz=>?_,fun nt x z hz=>?_,fun nt x z hz=>?_,fun nt n d z hz=>?_,fun x s hs=>?_,fun x y s hs=>?_,fun x p hp=>?_⟩
 ·obtain ⟨y',h1,h2⟩:=ob_inv (show ob (xadd x y) (chk c.hs) = some z from hz)
  obtain ⟨rfl,g⟩:=chk_ok h.bnd h2
  exact ⟨g,(xadd_val h1).1⟩
 ·obtain ⟨y',h1,h2⟩:=ob_inv (show ob (xsub x y) (chk c.hs) = some z from hz)
  obtain ⟨rfl,g⟩:=chk_ok h.bnd h2
  exact ⟨g,(xsub_val h1).1⟩
 ·obtain ⟨y',h1,h2⟩:=ob_inv (show ob (xmul x y) (chk c.hs) = some z from hz)
  obtain ⟨rfl,g⟩:=chk_ok h.bnd h2
  exact ⟨g,(xmul_val h.len h1).1⟩
 ·obtain ⟨y',h1,h2⟩:=ob_inv (show ob (xdiv c.invs x y) (chk c.hs) = some z from hz)
  obtain ⟨rfl,g⟩:=chk_ok h.bnd h2
  obtain ⟨g1,g2,_⟩:=xdiv_val h.len h.inv h1
  exact ⟨g,g1,g2⟩
 ·obtain ⟨rfl,g⟩:=chk_ok h.bnd (show chk c.hs (xneg x) = some z from hz)
  exact ⟨g,xneg_val l x⟩
 ·obtain ⟨rfl,g⟩:=chk_ok h.bnd (show chk c.hs x = some z from hz)
  exact ⟨g,rfl⟩
 ·obtain ⟨h1,hz⟩:=bi_inv (show bi (Nat.ble 1 d) (chk c.hs (normX d (cons0 0 n []))) none = some z from hz)
  obtain ⟨rfl,g⟩:=chk_ok h.bnd hz
  have hd:=ble_one h1
  refine ⟨g,hd,?_⟩
  rw [(normX_val l hd _).1,ev_const,Rat.mkRat_eq_div]
 ·obtain ⟨h1,hz⟩:=bi_inv (show bi (Nat.ble 1 x.den) (cmpD c.fl c.els x) none = some s from hs)
  exact cmpD_ok h.len h.pos h.el hz
 ·exact xcmp_ok h.len h.pos h.el hs
 ·have hp:litM x.den x.ps = some p:=hp
  unfold X.val
  cases hps:x.ps with
  | nil =>
   rw [hps] at hp
   obtain ⟨h1,hp⟩:=bi_inv (show bi (Nat.beq x.den 1) (some ((0:Int),1)) none = some p from hp)
   injection hp with hp
   subst hp
   rw [beq_inv h1]
   refine ⟨?_,by decide,by decide,by decide,by decide⟩
   rw [Rat.mkRat_eq_div];rfl
  | cons a q =>
   rw [hps] at hp
   obtain ⟨m,e⟩:=a
   cases m with
   | succ m=>cases q <;> cases hp
   | zero =>
    cases q with
    | cons b q=>cases hp
    | nil =>
     obtain ⟨h1,hp⟩:=bi_inv (show bi (Nat.ble (iabs e) 999999999) (bi (Nat.ble x.den 999999999) (bi (Nat.ble 1 x.den) (bi (Nat.beq (Nat.gcd (iabs e) x.den) 1) (some (e,x.den)) none) none) none) none = some p from hp)
     obtain ⟨h2,hp⟩:=bi_inv hp
     obtain ⟨h3,hp⟩:=bi_inv hp
     obtain ⟨h4,hp⟩:=bi_inv hp
     injection hp with hp
     subst hp
     have b1:=ble_inv h1
     have b2:=ble_inv h2
     have b3:=ble_inv h3
     have b4:=beq_inv h4
     rw [iabs_eq] at b1 b4
     refine ⟨?_,by simp only;omega,by simp only;omega,by simp only;omega,b4⟩
     simp only [ev]
     rw [mon_zero,Rat.mkRat_eq_div]
     grind
/-! ### Variables that are quotients -/
structure Der where
 N:M
 D:M
 h:Nat
 pos:Bool
noncomputable def extL:List Der → List Rat → List Rat
 | [],l=>l
 | d :: ds,l=>extL ds (l ++ [ev l d.N / ev l d.D])
noncomputable def isPos (o:Option Int):Bool:=@Option.rec Int (fun _=>Bool) false (fun s=>ibeq s 1) o
noncomputable def der1 (n:Nat) (hs:List Nat) (fl:List Bool) (d:Der):Bool :=
 bi (Nat.ble (Nat.add (Nat.lor (lorM d.N) (lorM d.D)) 1) (Nat.pow 16 n)) (bi (isPos (sgnM fl d.D)) (bi (bi d.pos (isPos (sgnM fl d.N)) true)
  (fz (Nat.add (wsum hs (lorM d.N)) (wsum hs (lorM d.D))) fun S=>bi (Nat.ble S 2000) (bi (Nat.ble d.h 2000) (bi (Nat.ble (Nat.mul (absM d.N) (Nat.pow 2 S)) (Nat.pow 2 d.h)) (Nat.ble (Nat.mul (absM d.D) (Nat.pow 2 S)) (Nat.pow 2 d.h)) false) false) false) false) false) false
noncomputable def derOk (ds:List Der):Nat → List Nat → List Bool → Bool :=
 @List.rec Der (fun _=>Nat → List Nat → List Bool → Bool) (fun _ _ _=>true) (fun d _ ih n hs fl=>bi (der1 n hs fl d) (ih (Nat.add n 1) (app hs [d.h]) (app fl [d.pos])) false) ds
theorem mon_app:∀ (l r:List Rat) (m:Nat),m < 16 ^ l.length → mon (l ++ r) m = mon l m
 | [],r,m,h=>by
  simp at h
  subst h
  rw [mon_zero,mon_zero]
 | q :: l,r,m,h=>by
  simp only [List.cons_append,mon]
  rw [mon_app l r (m / 16) (by rw [List.length_cons,Nat.pow_succ] at h;omega)]
theorem ev_app (l r:List Rat):∀ p:M,(∀ a ∈ p,a.1 < 16 ^ l.length) → ev (l ++ r) p = ev l p
 | [],_=>rfl
 | (m,c) :: p,h=>by
  simp only [ev]
  rw [mon_app l r m (h (m,c) List.mem_cons_self),ev_app l r p fun a ha=>h a (List.mem_cons_of_mem _ ha)]
theorem low_of_lor {p:M} {n:Nat} (h:lorM p < 16 ^ n):∀ a ∈ p,a.1 < 16 ^ n:=fun a ha=>by
 have:=lorM_sub p a ha
 have h2:a.1 ≤ a.1 ||| lorM p:=Nat.left_le_or
 omega
theorem bndL_app:∀ {l:List Rat} {hs:List Nat} {r:Rat} {h:Nat},l.length = hs.length → BndL l hs → Bnd h r → BndL (l ++ [r]) (hs ++ [h])
 | [],[],_,_,_,_,b=>⟨b,trivial⟩
 | _ :: _,_ :: _,_,_,e,⟨a,b⟩,c=>⟨a,bndL_app (by simpa using e) b c⟩
 | [],_ :: _,_,_,e,_,_=>by simp at e
 | _ :: _,[],_,_,e,_,_=>by simp at e
theorem posL_app:∀ {l:List Rat} {fl:List Bool} {r:Rat} {b:Bool},l.length = fl.length → PosL l fl → (b = true → 0 < r) → PosL (l ++ [r]) (fl ++ [b])
 | [],[],_,_,_,_,c=>⟨c,trivial⟩
 | _ :: _,_ :: _,_,_,e,⟨a,b⟩,c=>⟨a,posL_app (by simpa using e) b c⟩
 | [],_ :: _,_,_,e,_,_=>by simp at e
 | _ :: _,[],_,_,e,_,_=>by simp at e
theorem isPos_inv {o:Option Int} (h:isPos o = true):o = some 1:=by
 cases o with
 | none=>cases h
 | some s =>
  have h:ibeq s 1 = true:=h
  rw [ibeq_eq,beq_iff_eq] at h
  rw [h]
theorem quot_bnd {u v:Rat} {A B:Nat} {S T H:Nat} (hv:v ≠ 0) (hu:∃ D z:Int,0 < D∧D ≤ 2 ^ S∧u * (D:Rat) = (z:Rat)∧-((A:Int) * 2 ^ S) ≤ z∧z ≤ (A:Int) * 2 ^ S)
 (hw:∃ D z:Int,0 < D∧D ≤ 2 ^ T∧v * (D:Rat) = (z:Rat)∧-((B:Int) * 2 ^ T) ≤ z∧z ≤ (B:Int) * 2 ^ T) (hA:A * 2 ^ (S + T) ≤ 2 ^ H) (hB:B * 2 ^ (S + T) ≤ 2 ^ H):Bnd H (u / v):=by
 obtain ⟨D,z,d0,d1,e,z1,z2⟩:=hu
 obtain ⟨E,y,e0,e1,f,y1,y2⟩:=hw
 have hy:y ≠ 0:=by
  intro h
  rw [h] at f
  have hE:(E:Rat) ≠ 0:=by
   intro g
   rw [Rat.intCast_eq_zero_iff] at g
   omega
  rcases Rat.mul_eq_zero.1 (f.trans rfl) with g | g
  ·exact hv g
  ·exact hE g
 have hA':(A:Int) * (2 ^ S * 2 ^ T) ≤ 2 ^ H:=by
  rw [← Int.pow_add]
  have:((A * 2 ^ (S + T):Nat):Int) ≤ ((2 ^ H:Nat):Int):=by exact_mod_cast hA
  simpa using this
 have hB':(B:Int) * (2 ^ S * 2 ^ T) ≤ 2 ^ H:=by
  rw [← Int.pow_add]
  have:((B * 2 ^ (S + T):Nat):Int) ≤ ((2 ^ H:Nat):Int):=by exact_mod_cast hB
  simpa using this
 have pS:=pow_nonneg' S
 have pT:=pow_nonneg' T
 have m1:=mul_bnd (a:=D) (A:=2 ^ S) (b:=y) (B:=(B:Int) * 2 ^ T) ⟨by omega,d1⟩ ⟨y1,y2⟩
 have m2:=mul_bnd (a:=z) (A:=(A:Int) * 2 ^ S) (b:=E) (B:=2 ^ T) ⟨z1,z2⟩ ⟨by omega,e1⟩
 have r1:(2 ^ S:Int) * ((B:Int) * 2 ^ T) = (B:Int) * (2 ^ S * 2 ^ T):=by rw [← Int.mul_assoc,Int.mul_comm (2 ^ S),Int.mul_assoc]
 have r2:((A:Int) * 2 ^ S) * 2 ^ T = (A:Int) * (2 ^ S * 2 ^ T):=Int.mul_assoc _ _ _
 rw [r1] at m1
 rw [r2] at m2
 have hE:(E:Rat) ≠ 0:=by
  intro g
  rw [Rat.intCast_eq_zero_iff] at g
  omega
 have hD:(D:Rat) ≠ 0:=by
  intro g
  rw [Rat.intCast_eq_zero_iff] at g
  omega
 rcases Int.lt_or_lt_of_ne hy with h | h
 ·refine ⟨D * (-y),(-z) * E,Int.mul_pos d0 (by omega),?_,?_,?_,?_⟩
  ·rw [Int.mul_neg];omega
  ·rw [Rat.intCast_mul,Rat.intCast_mul,Rat.intCast_neg,Rat.intCast_neg,← e,← f]
   grind
  ·rw [Int.neg_mul];omega
  ·rw [Int.neg_mul];omega
 ·refine ⟨D * y,z * E,Int.mul_pos d0 h,?_,?_,?_,?_⟩
  ·omega
  ·rw [Rat.intCast_mul,Rat.intCast_mul,← e,← f]
   grind
  ·omega
  ·omega
structure DerGood (l l':List Rat) (ds:List Der) (hs:List Nat) (fl:List Bool):Prop where
 len:l'.length = l.length + ds.length
 pre:∃ r,l' = l ++ r
 bnd:BndL l' (hs ++ ds.map (·.h))
 pos:PosL l' (fl ++ ds.map (·.pos))
 el:∀ (i:Nat) (d:Der),ds[i]? = some d → ElOk l' (wv (l.length + i),d.N,d.D)
theorem der_ok:∀ (ds:List Der) (l:List Rat) (hs:List Nat) (fl:List Bool),l.length = hs.length → l.length = fl.length → BndL l hs → PosL l fl → derOk ds l.length hs fl = true → DerGood l (extL ds l) ds hs fl
 | [],l,hs,fl,_,_,hb,hp,_=>⟨by simp [extL],⟨[],by simp [extL]⟩,by simpa [extL] using hb,by simpa [extL] using hp,fun i d h=>by simp at h⟩
 | d :: ds,l,hs,fl,h1,h2,hb,hp,h=>by
  have h:bi (der1 l.length hs fl d) (derOk ds (Nat.add l.length 1) (app hs [d.h]) (app fl [d.pos])) false = true:=h
  obtain ⟨g1,g2⟩:=bi3 h
  obtain ⟨k1,g1⟩:=bi3 g1
  obtain ⟨k2,g1⟩:=bi3 g1
  obtain ⟨k3,g1⟩:=bi3 g1
  rw [fz_eq] at g1
  obtain ⟨_,g1⟩:=bi3 g1
  obtain ⟨_,g1⟩:=bi3 g1
  obtain ⟨k4,k5⟩:=bi3 g1
  have k1:=ble_inv k1
  have k4:=ble_inv k4
  have k5:=ble_inv k5
  have hlow:Nat.lor (lorM d.N) (lorM d.D) < 16 ^ l.length:=k1
  have hN:lorM d.N < 16 ^ l.length:=Nat.lt_of_le_of_lt (Nat.left_le_or (n:=lorM d.N) (m:=lorM d.D)) hlow
  have hD:lorM d.D < 16 ^ l.length:=Nat.lt_of_le_of_lt (Nat.right_le_or (n:=lorM d.N) (m:=lorM d.D)) hlow
  have pD:0 < ev l d.D:=by
   rcases sgnM_ok hp (isPos_inv k2) with ⟨e,_⟩ | ⟨_,e⟩ | ⟨e,_⟩
   ·exact absurd e (by decide)
   ·exact e
   ·exact absurd e (by decide)
  have nD:ev l d.D ≠ 0:=fun e=>by rw [e] at pD;exact absurd pD (by decide)
  have hbnd:Bnd d.h (ev l d.N / ev l d.D):=by
   obtain ⟨A,a0,a1,ha⟩:=ev_bnd hb (lorM d.N)
   obtain ⟨z,ez,zb⟩:=ha d.N (lorM_sub d.N)
   obtain ⟨B,b0,b1,hb'⟩:=ev_bnd hb (lorM d.D)
   obtain ⟨y,ey,yb⟩:=hb' d.D (lorM_sub d.D)
   exact quot_bnd nD ⟨A,z,a0,a1,ez,zb⟩ ⟨B,y,b0,b1,ey,yb⟩ k4 k5
  have hpos:d.pos = true → 0 < ev l d.N / ev l d.D:=by
   intro hq
   rw [hq] at k3
   have pN:0 < ev l d.N:=by
    rcases sgnM_ok hp (isPos_inv (show isPos (sgnM fl d.N) = true from k3)) with ⟨e,_⟩ | ⟨_,e⟩ | ⟨e,_⟩
    ·exact absurd e (by decide)
    ·exact e
    ·exact absurd e (by decide)
   rw [Rat.div_def]
   exact Rat.mul_pos pN (Rat.inv_pos.2 pD)
  have ea:app hs [d.h] = hs ++ [d.h]:=app_eq _ _
  have eb:app fl [d.pos] = fl ++ [d.pos]:=app_eq _ _
  rw [ea,eb] at g2
  have hlen:(l ++ [ev l d.N / ev l d.D]).length = l.length + 1:=by simp
  have g2':derOk ds (l ++ [ev l d.N / ev l d.D]).length (hs ++ [d.h]) (fl ++ [d.pos]) = true:=by rw [hlen];exact g2
  obtain ⟨q1,⟨r,q2⟩,q3,q4,q5⟩:=der_ok ds (l ++ [ev l d.N / ev l d.D]) (hs ++ [d.h]) (fl ++ [d.pos]) (by simp [h1]) (by simp [h2]) (bndL_app h1 hb hbnd) (posL_app h2 hp hpos) g2'
  have q2':extL (d :: ds) l = l ++ (ev l d.N / ev l d.D :: r):=by
   show extL ds (l ++ [ev l d.N / ev l d.D]) = _
   rw [q2];simp
  refine ⟨?_,⟨_,q2'⟩,?_,?_,fun i e he=>?_⟩
  ·show (extL ds (l ++ [ev l d.N / ev l d.D])).length = _
   rw [q1];simp;omega
  ·show BndL (extL ds (l ++ [ev l d.N / ev l d.D])) _
   simpa using q3
  ·show PosL (extL ds (l ++ [ev l d.N / ev l d.D])) _
   simpa using q4
  ·cases i with
   | zero =>
    simp at he
    subst he
    refine ⟨l.length,ev l d.N / ev l d.D,rfl,?_,?_,?_⟩
    ·rw [q2'];simp
    ·simp only
     rw [q2',ev_app l _ _ (low_of_lor hN),ev_app l _ _ (low_of_lor hD)]
     grind
    ·simp only
     rw [q2',ev_app l _ _ (low_of_lor hD)];exact nD
   | succ i =>
    have:=q5 i e (by simpa using he)
    rw [hlen] at this
    have e2:l.length + (i + 1) = l.length + 1 + i:=by omega
    rw [e2]
    exact this
abbrev varX (v:Nat):X:=⟨0,1,[(Nat.pow 16 v,1)]⟩
noncomputable def isOneM (p:M):Bool:=eqM p oneM
noncomputable def invsF (ds:List Der):Nat → List (M × X) :=
 @List.rec Der (fun _=>Nat → List (M × X)) (fun _=>[(oneM,⟨0,1,oneM⟩),([(0,-1)],⟨0,1,[(0,-1)]⟩)]) (fun d _ ih n=>bi (isOneM d.N) ((d.D,varX n) :: ih (Nat.add n 1)) (ih (Nat.add n 1))) ds
noncomputable def elsF (ds:List Der):Nat → List (Nat × M × M) → List (Nat × M × M) :=
 @List.rec Der (fun _=>Nat → List (Nat × M × M) → List (Nat × M × M)) (fun _ acc=>acc) (fun d _ ih n acc=>ih (Nat.add n 1) ((Nat.pow 16 n,d.N,d.D) :: acc)) ds
noncomputable def cfgOf (hs:List Nat) (fl:List Bool) (ds:List Der):Cfg where
 hs:=app hs (ds.map (·.h))
 fl:=app fl (ds.map (·.pos))
 invs:=invsF ds (len hs)
 els:=elsF ds (len hs) []
theorem val_var (l:List Rat):∀ (v:Nat) (r:Rat),l[v]? = some r → (varX v).val l = r:=by
 intro v r h
 unfold X.val varX
 simp only [ev]
 have hm:∀ (v:Nat) (l:List Rat) (r:Rat),l[v]? = some r → mon l (16 ^ v) = r:=by
  intro v
  induction v with
  | zero =>
   intro l r h
   cases l with
   | nil=>simp at h
   | cons q l =>
    simp at h
    subst h
    simp only [mon,Nat.pow_zero]
    rw [show (1:Nat) % 16 = 1 from rfl,show (1:Nat) / 16 = 0 from rfl,mon_zero]
    grind
  | succ v ih =>
   intro l r h
   cases l with
   | nil=>simp at h
   | cons q l =>
    simp at h
    simp only [mon]
    have e1:16 ^ (v + 1) % 16 = 0:=by rw [Nat.pow_succ];omega
    have e2:16 ^ (v + 1) / 16 = 16 ^ v:=by rw [Nat.pow_succ];omega
    rw [e1,e2,ih l r h,Rat.pow_zero]
    grind
 have:=hm v l r h
 have e:Nat.pow 16 v = 16 ^ v:=rfl
 rw [e,this]
 have e1:(((1:Int)):Rat) = 1:=rfl
 have e2:(((1:Nat)):Rat) = 1:=rfl
 rw [e1,e2]
 grind
theorem invs_ok {l:List Rat}:∀ (ds:List Der) (n:Nat),(∀ i d,ds[i]? = some d → ElOk l (wv (n + i),d.N,d.D)) → InvOk l (invsF ds n)
 | [],n,_=>by
  intro e he
  have e1:(((1:Int)):Rat) = 1:=rfl
  have e2:(((1:Nat)):Rat) = 1:=rfl
  have e3:(((-1:Int)):Rat) = -1:=rfl
  have he:e ∈ [(oneM,(⟨0,1,oneM⟩:X)),([(0,-1)],⟨0,1,[(0,-1)]⟩)]:=he
  simp only [List.mem_cons,List.not_mem_nil,or_false] at he
  rcases he with rfl | rfl
  ·refine ⟨Nat.one_pos,?_⟩
   unfold X.val
   simp only
   rw [ev_oneM,e2]
   grind
  ·refine ⟨Nat.one_pos,?_⟩
   unfold X.val
   simp only [ev]
   rw [mon_zero,e2,e3]
   grind
 | d :: ds,n,h=>by
  have ih:=invs_ok ds (n + 1) (fun i e he=>by rw [show n + 1 + i = n + (i + 1) by omega];exact h (i + 1) e (by simpa using he))
  have e:invsF (d :: ds) n = bi (isOneM d.N) ((d.D,varX n) :: invsF ds (Nat.add n 1)) (invsF ds (Nat.add n 1)):=rfl
  rw [e,biq]
  split
  ·rename_i h1
   have h1:=eqM_inv (show eqM d.N oneM = true from h1)
   intro x hx
   rcases List.mem_cons.1 hx with rfl | hx
   ·obtain ⟨v,r,e1,e2,e3,e4⟩:=h 0 d (by simp)
    simp only at e1 e3
    have hv:v = n:=by
     have:(16:Nat) ^ n = 16 ^ v:=e1
     exact ((Nat.pow_right_inj (by decide:1 < 16)).1 this).symm
    subst hv
    refine ⟨Nat.one_pos,?_⟩
    simp only
    rw [val_var l v r e2,Rat.mul_comm,e3,h1,ev_oneM]
   ·exact ih x hx
  ·exact ih
theorem els_ok {l:List Rat}:∀ (ds:List Der) (n:Nat) (acc:List (Nat × M × M)),(∀ i d,ds[i]? = some d → ElOk l (wv (n + i),d.N,d.D)) → (∀ e ∈ acc,ElOk l e) → ∀ e ∈ elsF ds n acc,ElOk l e
 | [],_,_,_,h=>h
 | d :: ds,n,acc,h,ha=>els_ok ds (n + 1) _ (fun i e he=>by rw [show n + 1 + i = n + (i + 1) by omega];exact h (i + 1) e (by simpa using he)) (fun e he=>by
     rcases List.mem_cons.1 he with rfl | he
     ·exact h 0 d (by simp)
     ·exact ha e he)
theorem cfg_ok {l:List Rat} {hs:List Nat} {fl:List Bool} {ds:List Der} (h1:l.length = hs.length) (h2:l.length = fl.length) (hb:BndL l hs) (hp:PosL l fl) (hd:derOk ds hs.length hs fl = true) (h64:hs.length + ds.length ≤ 64) :
 CfgOk (extL ds l) (cfgOf hs fl ds)∧∃ r,extL ds l = l ++ r:=by
 obtain ⟨q1,q2,q3,q4,q5⟩:=der_ok ds l hs fl h1 h2 hb hp (by rw [h1];exact hd)
 refine ⟨⟨by rw [q1,h1];exact h64,?_,?_,?_,?_⟩,q2⟩
 ·show BndL _ (app hs (ds.map (·.h)))
  rw [app_eq];exact q3
 ·show PosL _ (app fl (ds.map (·.pos)))
  rw [app_eq];exact q4
 ·show InvOk _ (invsF ds (len hs))
  rw [len_eq,← h1]
  exact invs_ok ds _ q5
 ·show ∀ e ∈ elsF ds (len hs) [],_
  rw [len_eq,← h1]
  exact els_ok ds _ [] q5 (fun e he=>by simp at he)
/-! ### Drawn coefficients -/
noncomputable def drAt (c:C) (a:Int) (n:Nat):Option Nat :=
 match c with
 | .dr b p m=>bi (ibeq a b) (bi (Nat.beq n m) (some p) none) none
 | _=>none
noncomputable def orCoef (kx:Nat → Option X) (l:List V) (st:St):Option R :=
 ob (two l) fun q=>ob (drAt q.1 1 4) fun p=>ob (drAt q.2 1 2) fun p'=>bi (Nat.beq p' (Nat.add p 1)) (ob (kx p) fun z=>some (tokR st z)) none
noncomputable def orDrawn (fx:Nat → Option X) (l:List V) (st:St):Option R :=
 ob (one l) fun c=>ob (drAt c (-1) 5) fun p=>ob (fx p) fun z=>some (tokR st z)
def KxOk (val:X → Rat) (drw:Drw) (kx:Nat → Option X):Prop:=∀ p z,kx p = some z → Good2 val z∧val z = _root_.mkRat (1 + (drw.fx.byte p % 4:Nat)) (1 + drw.fx.byte (p + 1) % 2)
def FxOk (val:X → Rat) (drw:Drw) (fx:Nat → Option X):Prop:=∀ p z,fx p = some z → Good2 val z∧val z = _root_.mkRat (-1 + (drw.fx.byte p % 5:Nat)) 1
theorem drAt_inv {c:C} {a:Int} {n p:Nat} (h:drAt c a n = some p):c = .dr a p n:=by
 unfold drAt at h
 split at h
 ·obtain ⟨h1,h⟩:=bi_inv h
  obtain ⟨h2,h⟩:=bi_inv h
  injection h with h
  rw [ibeq_eq,beq_iff_eq] at h1
  rw [h1,beq_inv h2,h]
 ·cases h
section
variable {val:X → Rat} {drw:Drw} {E:Env} {w:World} {st:St}
theorem fix_of (hg:GI (toks val drw) E w):E.fix = drw.fx:=by
 obtain ⟨F,_,hb⟩:=hg.base
 obtain ⟨A,n,c,y,e,_,_,_,_,hd⟩:=(show BaseOk drw E.fix F w from hb)
 exact hd.1
theorem orCoef_ok {kx:Nat → Option X} (h:KxOk val drw kx):OrcOne Tryz.prog (toks val drw) 158 (orCoef kx):=by
 intro vl st r hr hst
 obtain ⟨q,h1,hr⟩:=ob_inv hr
 obtain ⟨p,h2,hr⟩:=ob_inv hr
 obtain ⟨p',h3,hr⟩:=ob_inv hr
 obtain ⟨h4,hr⟩:=bi_inv hr
 obtain ⟨z,h5,hr⟩:=ob_inv hr
 injection hr with hr
 subst hr
 refine ⟨eff_tok hst z,Tryz.call158,fun E w vs hrel hp=>?_⟩
 obtain ⟨u,v,rfl,hu,hv⟩:=two_rel h1 hrel
 rw [drAt_inv h2] at hu
 rw [drAt_inv h3] at hv
 have hu':u = .int .i64 (1 + (E.fix.byte p % 4:Nat)):=hu
 have hv':v = .int .i64 (1 + (E.fix.byte p' % 2:Nat)):=hv
 have e4:p' = p + 1:=beq_inv h4
 subst e4
 subst hu';subst hv'
 rw [fix_of hp.gi]
 obtain ⟨g,e⟩:=h p z h5
 have m1:drw.fx.byte p % 4 < 4:=Nat.mod_lt _ (by decide)
 have m2:drw.fx.byte (p + 1) % 2 < 2:=Nat.mod_lt _ (by decide)
 generalize drw.fx.byte p % 4 = a at *
 generalize drw.fx.byte (p + 1) % 2 = b at *
 have hc:=sRatOf (1 + (a:Int)) (1 + (b:Int)) (by omega) (by omega) (by omega) (by omega) w
 have hb:((1:Int) + (b:Int)).natAbs = 1 + b:=by omega
 rw [hb] at hc
 exact calls_tok g (low_is z (by omega) e g.sm) hp hc
theorem orDrawn_ok {fx:Nat → Option X} (h:FxOk val drw fx):OrcOne Tryz.prog (toks val drw) 191 (orDrawn fx):=by
 intro vl st r hr hst
 obtain ⟨c,h1,hr⟩:=ob_inv hr
 obtain ⟨p,h2,hr⟩:=ob_inv hr
 obtain ⟨z,h5,hr⟩:=ob_inv hr
 injection hr with hr
 subst hr
 refine ⟨eff_tok hst z,Tryz.call191,fun E w vs hrel hp=>?_⟩
 obtain ⟨u,rfl,hu⟩:=one_inv h1 hrel
 rw [drAt_inv h2] at hu
 have hu':u = .int .i64 (-1 + (E.fix.byte p % 5:Nat)):=hu
 subst hu'
 rw [fix_of hp.gi]
 obtain ⟨g,e⟩:=h p z h5
 have m1:drw.fx.byte p % 5 < 5:=Nat.mod_lt _ (by decide)
 generalize drw.fx.byte p % 5 = a at *
 exact calls_tok g (int_is z e (by omega)) hp (sRatFromInt_small (-1 + (a:Int)) (by omega) (by omega) w)
/-! ### Small functions -/
noncomputable def three (l:List V):Option (Int × Int × Int) :=
 match l with
 | [a,b,c]=>ob (vC a) fun a=>ob (vC b) fun b=>ob (vC c) fun c=>ob (cInt a) fun x=>ob (cInt b) fun y=>ob (cInt c) fun z=>some (x,y,z)
 | _=>none
noncomputable def orWithin (l:List V) (st:St):Option R:=ob (three l) fun q=>some ⟨vB (bi (ible q.2.1 q.1) (ible q.1 q.2.2) false),st,[],some []⟩
theorem orWithin_ok:OrcOne Tryz.prog (toks val drw) 60 orWithin:=by
 intro vl st r hr hst
 obtain ⟨q,h1,hr⟩:=ob_inv hr
 injection hr with hr
 subst hr
 refine ⟨eff_pure hst _ _,Tryz.call60,fun E w vs hrel hp=>?_⟩
 unfold three at h1
 split at h1
 ·rename_i a b c
  obtain ⟨a',g1,h1⟩:=ob_inv h1
  obtain ⟨b',g2,h1⟩:=ob_inv h1
  obtain ⟨c',g3,h1⟩:=ob_inv h1
  obtain ⟨x,k1,h1⟩:=ob_inv h1
  obtain ⟨y,k2,h1⟩:=ob_inv h1
  obtain ⟨z,k3,h1⟩:=ob_inv h1
  injection h1 with h1
  subst h1
  match vs,hrel with
  | [u,v,t],⟨hu,hv,ht,_⟩ =>
   have hu:=vC_rel g1 hu
   have hv:=vC_rel g2 hv
   have ht:=vC_rel g3 ht
   rw [cInt_inv k1] at hu
   rw [cInt_inv k2] at hv
   rw [cInt_inv k3] at ht
   have hu:u = .int .i64 x:=hu
   have hv:v = .int .i64 y:=hv
   have ht:t = .int .i64 z:=ht
   subst hu;subst hv;subst ht
   refine (iWithin x y z w).mono fun e u ⟨he,hw⟩=>?_
   subst hw
   refine ⟨_,E,he,out_pure hp.gi ?_⟩
   show RelV E (.s (.c (.bool _))) _
   have:bi (ible y x) (ible x z) false = inB x y z:=by
    rw [ible_eq,ible_eq]
    unfold inB
    by_cases h:y ≤ x <;> simp [h]
   simp only
   rw [this];rfl
  | [],hrel=>exact hrel.elim
  | [_],hrel=>exact hrel.2.elim
  | [_,_],hrel=>exact hrel.2.2.elim
  | _ :: _ :: _ :: _ :: _,hrel=>exact hrel.2.2.2.elim
 ·cases h1
noncomputable def ratsOf (n:Nat):List C → Option (List X) :=
 @Nat.rec (fun _=>List C → Option (List X)) (fun l=>bi (nilB l) (some []) none)
  (fun _ ih l=>List.casesOn l none fun a l=>List.casesOn l none fun b l=>List.casesOn l none fun c l=>ob (asRat (.agg [a,b,c])) fun p=>ob (ih l) fun r=>some (p.2 :: r)) n
noncomputable def orAre (l:List V) (st:St):Option R :=
 ob (one l) fun c=>match c with
 | .nsl=>some ⟨vB true,st,[],some []⟩
 | .sl k o n z=>bi (Nat.beq z 3) (bi (Nat.ble n 1000) (ob (st.mem.get k) fun b=>ob (takeN (dropN b.cells o) (Nat.mul n 3)) fun cs=>ob (ratsOf n cs) fun _=>some ⟨vB true,st,[],some [k]⟩) none) none
 | _=>none
theorem ratsOf_rel (hg:GI (toks val drw) E w):∀ (n:Nat) (l:List C) (xs:List X) (vs:List Value),ratsOf n l = some xs → RelL E l vs → xs.length = n∧vs.length = n * 3∧(∀ x ∈ xs,FE.small (val x) = true) ∧
 ∀ i x,xs[i]? = some x → ∃ a b c,vs[i * 3]? = some a∧vs[i * 3 + 1]? = some b∧vs[i * 3 + 2]? = some c∧RatV w (.agg #[a,b,c]) (FE.ofQ (val x))
 | 0,l,xs,vs,h,hr=>by
  obtain ⟨h1,h⟩:=bi_inv (show bi (nilB l) (some []) none = some xs from h)
  injection h with h
  subst h
  cases l with
  | cons a l=>cases h1
  | nil =>
   cases vs with
   | cons a l=>exact hr.elim
   | nil=>exact ⟨rfl,rfl,fun x hx=>by simp at hx,fun i x hx=>by simp at hx⟩
 | n + 1,l,xs,vs,h,hr=>by
  match l,vs,hr,h with
  | a :: b :: c :: l,u :: v :: t :: vs,⟨h1,h2,h3,hr⟩,h =>
   obtain ⟨p,g1,h⟩:=ob_inv (show ob (asRat (.agg [a,b,c])) (fun p=>ob (ratsOf n l) fun r=>some (p.2 :: r)) = some xs from h)
   obtain ⟨r,g2,h⟩:=ob_inv h
   injection h with h
   subst h
   obtain ⟨k1,k2,k3,k4⟩:=ratsOf_rel hg n l r vs g2 hr
   obtain ⟨hk,y,z,e⟩:=asRat_inv g1
   injection e with e
   injection e with e1 e
   injection e with e2 e
   injection e with e3 _
   subst e1;subst e2;subst e3
   obtain ⟨q1,q2⟩:=rat_cells hg hk h1 h2 h3
   refine ⟨by simp [k1],by simp [k2];omega,fun x hx=>?_,fun i x hx=>?_⟩
   ·rcases List.mem_cons.1 hx with rfl | hx
    ·exact q1
    ·exact k3 x hx
   ·cases i with
    | zero =>
     simp at hx
     subst hx
     exact ⟨u,v,t,rfl,rfl,rfl,q2⟩
    | succ i =>
     obtain ⟨a,b,c,j1,j2,j3,j4⟩:=k4 i x (by simpa using hx)
     refine ⟨a,b,c,?_,?_,?_,j4⟩
     ·rw [show (i + 1) * 3 = i * 3 + 3 by omega];simpa using j1
     ·rw [show (i + 1) * 3 + 1 = i * 3 + 1 + 3 by omega];simpa using j2
     ·rw [show (i + 1) * 3 + 2 = i * 3 + 2 + 3 by omega];simpa using j3
  | [],_,_,h=>cases h
  | [_],_,_,h=>cases h
  | [_,_],_,_,h=>cases h
  | _ :: _ :: _ :: _,[],hr,_=>exact hr.elim
  | _ :: _ :: _ :: _,[_],hr,_=>exact hr.2.elim
  | _ :: _ :: _ :: _,[_,_],hr,_=>exact hr.2.2.elim
theorem vokX {xs:List X} (h:∀ x ∈ xs,FE.small (val x) = true):vok (xs.map fun x=>FE.ofQ (val x)) = true:=by
 unfold vok
 rw [List.all_eq_true]
 intro r hr
 obtain ⟨x,hx,rfl⟩:=List.mem_map.1 hr
 exact (is_of _ (h x hx)).ok
theorem fewX {xs:List X} (hn:xs.length ≤ 1048576) (h:∀ x ∈ xs,FE.small (val x) = true):Few (xs.map fun x=>FE.ofQ (val x)):=by
 refine ⟨by simpa using hn,fun k hk=>?_⟩
 have hk':k < xs.length:=by simpa using hk
 have e:(xs.map fun x=>FE.ofQ (val x)).getD k zR = FE.ofQ (val xs[k]):=by simp [hk']
 rw [e]
 exact small_len (h _ (List.getElem_mem hk'))
theorem orAre_ok:OrcOne Tryz.prog (toks val drw) 71 orAre:=by
 intro vl st r hr hst
 obtain ⟨c,h1,hr⟩:=ob_inv hr
 cases c with
 | nsl =>
  have hr:some (⟨vB true,st,[],some []⟩:R) = some r:=hr
  injection hr with hr
  subst hr
  refine ⟨eff_pure hst _ _,Tryz.call71,fun E w vs hrel hp=>?_⟩
  obtain ⟨u,rfl,hu⟩:=one_inv h1 hrel
  have hu:u = .slice none 0 0:=hu
  subst hu
  refine (iAreRats [] 0 0 rfl (by unfold Few;exact ⟨by simp,fun k hk=>by simp at hk⟩) none w (VI.nil w none)).mono fun e u ⟨he,hb⟩=>?_
  exact ⟨_,E,he,out_below hp.gi hb rfl⟩
 | sl k o n z =>
  obtain ⟨g1,hr⟩:=bi_inv (show bi (Nat.beq z 3) (bi (Nat.ble n 1000) (ob (st.mem.get k) fun b=>ob (takeN (dropN b.cells o) (Nat.mul n 3)) fun cs=>ob (ratsOf n cs) fun _=>some (⟨vB true,st,[],some [k]⟩:R)) none) none = some r from hr)
  obtain ⟨g2,hr⟩:=bi_inv hr
  obtain ⟨b,g3,hr⟩:=ob_inv hr
  obtain ⟨cs,g4,hr⟩:=ob_inv hr
  obtain ⟨xs,g5,hr⟩:=ob_inv hr
  injection hr with hr
  subst hr
  have g1:=beq_inv g1
  subst g1
  have g2:=ble_inv g2
  refine ⟨eff_pure hst _ _,Tryz.call71,fun E w vs hrel hp=>?_⟩
  obtain ⟨u,rfl,hu⟩:=one_inv h1 hrel
  obtain ⟨q,s,cp,hrho,rfl,hc1,hc2,hc3⟩:=hu
  obtain ⟨q',s',arr,ty,hrho',hh,hsz,hrl⟩:=hp.blk k b (by simp [inR]) g3
  rw [hrho] at hrho'
  injection hrho' with e
  injection e with e1 e2
  subst e1;subst e2
  rw [dropN_eq] at g4
  obtain ⟨rfl,hle⟩:=takeN_eq _ _ _ g4
  have hle:n * 3 ≤ (b.cells.drop o).length:=hle
  have hL:RelL E ((b.cells.drop o).take (n * 3)) ((arr.toList.drop o).take (n * 3)):=(hrl.drop o).take (n * 3) hle
  obtain ⟨k1,k2,k3,k4⟩:=ratsOf_rel hp.gi n _ xs _ g5 hL
  have hvi:VI w (some ⟨q,o,none⟩) (xs.map fun x=>FE.ofQ (val x)):=by
   intro _
   refine ⟨q,o,rfl,hp.gi.low _ _ _ hrho,fun i hi=>?_⟩
   have hi':i < xs.length:=by simpa using hi
   obtain ⟨a,b',c,j1,j2,j3,j4⟩:=k4 i _ (List.getElem?_eq_getElem hi')
   have e:(xs.map fun x=>FE.ofQ (val x)).getD i zR = FE.ofQ (val xs[i]):=by simp [hi']
   rw [e]
   obtain ⟨A,c1,B,d1,e0,hl,ra,rb⟩:=j4
   injection e0 with e0
   have e0:=congrArg Array.toList e0
   simp at e0
   obtain ⟨rfl,rfl,rfl⟩:=e0
   have cell:∀ (j:Nat) (v:Value),((arr.toList.drop o).take (n * 3))[j]? = some v → w.cell? ⟨q,o + j,none⟩ = some v:=by
    intro j v hj
    rw [cell_of hh]
    rw [List.getElem?_take] at hj
    split at hj
    ·rw [List.getElem?_drop] at hj;simpa using hj
    ·simp at hj
   exact ⟨A,c1,B,d1,by have:=cell _ _ j1;exact this,by have:=cell _ _ j2;rw [← Nat.add_assoc] at this;exact this,by have:=cell _ _ j3;rw [← Nat.add_assoc] at this;exact this,hl,ra,rb⟩
  refine (iAreRats (xs.map fun x=>FE.ofQ (val x)) n cp (by simp [k1]) (fewX (by omega) k3) (some ⟨q,o,none⟩) w hvi).mono fun e u ⟨he,hb⟩=>?_
  rw [vokX k3] at he
  exact ⟨_,E,he,out_below hp.gi hb rfl⟩
 | _=>cases hr
end
/-! ### Finding the numbers -/
abbrev Acc:=List Nat × List (Nat × X)
noncomputable def newT (τ:List (Nat × X)) (j:Nat) (x:X):List (Nat × X):=@List.rec (Nat × X) (fun _=>List (Nat × X)) [(j,x)] (fun a l _=>bi (Nat.beq a.1 j) (a :: l) ((j,x) :: a :: l)) τ
noncomputable def colC (c:C) (a:Acc):Acc :=
 match c with
 | .sl k _ _ _=>bi (memb a.1 k) a (app a.1 [k],a.2)
 | .ptr k _=>bi (memb a.1 k) a (app a.1 [k],a.2)
 | .cell j _ x=>(a.1,newT a.2 j x)
 | _=>a
noncomputable def colL (l:List C):Acc → Acc:=@List.rec C (fun _=>Acc → Acc) (fun a=>a) (fun c _ ih a=>ih (colC c a)) l
noncomputable def colS (l:List S):Acc → Acc:=@List.rec S (fun _=>Acc → Acc) (fun a=>a) (fun s _ ih a=>ih (colL s.cells a)) l
noncomputable def colV (l:List V):Acc → Acc:=@List.rec V (fun _=>Acc → Acc) (fun a=>a) (fun v _ ih a=>ih (V.casesOn v (fun s=>colL s.cells a) (fun l=>colS l a))) l
noncomputable def colB (st:St) (n:Nat):Nat → Acc → Acc:=@Nat.rec (fun _=>Nat → Acc → Acc) (fun _ a=>a) (fun _ ih i a=>@Option.rec Nat (fun _=>Acc) a (fun k=>@Option.rec Blk (fun _=>Acc) a (fun b=>ih (Nat.add i 1) (colL b.cells a)) (st.mem.get k)) (nth a.1 i)) n
noncomputable def revT {α:Type} (l:List α):List α → List α:=@List.rec α (fun _=>List α → List α) (fun r=>r) (fun a _ ih r=>ih (a :: r)) l
noncomputable def found (nb0:Nat) (vl:List V) (st:St):Acc:=(fun a:Acc=>(a.1,revT a.2 [])) (colB st nb0 0 (colV vl ([],[])))
/-! ### At known values -/
noncomputable def kdOk (x:X):Bool:=bi (Nat.beq x.kd 1) false true
noncomputable def xAt (nt0:Nat) (τ:List (Nat × X)) (ξ:List X) (t:Nat):X :=
 bi (Nat.ble nt0 t) (@Option.rec X (fun _=>X) ⟨0,0,[]⟩ (fun y=>y) (nth ξ (Nat.sub t nt0))) (@Option.rec (Nat × X) (fun _=>X) ⟨0,0,[]⟩ (fun p=>p.2) (nth τ t))
noncomputable def keptAt (a0:List V) (m0:Cells) (nb0 nt0:Nat) (v:V) (res:Cells) (ξ:List X) (vl:List V) (st:St) (a:Acc):Option R :=
 bi (allB (fun p:Nat × X=>kdOk p.2) a.2) (reloc a0 m0 nb0 nt0 v res (xAt nt0 a.2 ξ) a.1 a.2 ξ vl st) none
noncomputable def keptO (a0:List V) (m0:Cells) (nb0 nt0:Nat) (v:V) (res:Cells) (ξ:List X) (vl:List V) (st:St):Option R:=keptAt a0 m0 nb0 nt0 v res ξ vl st (found nb0 vl st)
theorem kdOk_inv {x:X} (h:kdOk x = true):x.kd ≠ 1:=by
 intro e
 unfold kdOk at h
 rw [e] at h
 cases h
theorem keptO_ok {P:Program} {val:X → Rat} {drw:Drw} {call:CallFn} (hcall:CallOk P (toks val drw) call) {f:Nat} {a0:List V} {m0:Cells} {nb0 nt0:Nat} {v:V} {res:Cells} {ξ:List X}
 (hk:Kept call f a0 m0 nb0 nt0 (nt0 + ξ.length) v res) (hξ:allB kdOk ξ = true):OrcOne P (toks val drw) f (keptO a0 m0 nb0 nt0 v res ξ):=by
 intro vl st r h hst
 obtain ⟨h1,h⟩:=bi_inv h
 generalize found nb0 vl st = a at *
 have hkd:=allB_inv h1
 have hx:∀ (i:Nat) (y:X),ξ[i]? = some y → y.kd ≠ 1:=fun i y hy=>kdOk_inv (allB_inv hξ y (List.mem_of_getElem? hy))
 refine reloc_ok hcall hk (fun t=>?_) (fun t p ht hp=>?_) (fun i y hy=>?_) h hst
 ·unfold xAt
  rw [nth_eq,nth_eq]
  cases Nat.ble nt0 t with
  | true =>
   cases hy:ξ[Nat.sub t nt0]? with
   | none=>show (0:Nat) ≠ 1;omega
   | some y=>exact hx _ y hy
  | false =>
   cases hp:a.2[t]? with
   | none=>show (0:Nat) ≠ 1;omega
   | some p=>exact kdOk_inv (hkd p (List.mem_of_getElem? hp))
 ·refine ⟨kdOk_inv (hkd p (List.mem_of_getElem? hp)),?_⟩
  unfold xAt
  have:Nat.ble nt0 t = false:=by
   cases hq:Nat.ble nt0 t with
   | false=>rfl
   | true=>have:=ble_inv hq;omega
  rw [this,nth_eq,nth_eq,hp]
 ·refine ⟨hx i y hy,?_⟩
  unfold xAt
  have:Nat.ble nt0 (nt0 + i) = true:=Nat.ble_eq_true_of_le (Nat.le_add_right _ _)
  have e:Nat.sub (nt0 + i) nt0 = i:=by show nt0 + i - nt0 = i;omega
  rw [this,e,nth_eq,hy]
/-! ### At any values: a row of steps -/
inductive Nd where
 | bin (o i j:Nat)
 | un (o i:Nat)
 | num (n:Int) (d:Nat)
abbrev stepX (t:Nat):X:=⟨2,t,[]⟩
noncomputable def isStep (x:X) (i:Nat):Bool:=bi (Nat.beq x.kd 2) (Nat.beq x.den i) false
noncomputable def ndBin (o:Nat) (x y:X) (nt:Nat) (d:Nd):Option X:=Nd.casesOn d (fun o' i j=>bi (Nat.beq o o') (bi (isStep x i) (bi (isStep y j) (some (stepX nt)) none) none) none) (fun _ _=>none) (fun _ _=>none)
noncomputable def ndUn (o:Nat) (x:X) (nt:Nat) (d:Nd):Option X:=Nd.casesOn d (fun _ _ _=>none) (fun o' i=>bi (Nat.beq o o') (bi (isStep x i) (some (stepX nt)) none) none) (fun _ _=>none)
noncomputable def ndNum (n:Int) (e:Nat) (nt:Nat) (d:Nd):Option X:=Nd.casesOn d (fun _ _ _=>none) (fun _ _=>none) (fun n' e'=>bi (ibeq n n') (bi (Nat.beq e e') (some (stepX nt)) none) none)
noncomputable def lookS (l:List (Nat × Int)) (i:Nat):Option Int:=@List.rec (Nat × Int) (fun _=>Option Int) none (fun a _ ih=>bi (Nat.beq a.1 i) (some a.2) ih) l
noncomputable def sgnS (sg:List (Nat × Int)) (x:X):Option Int:=bi (Nat.beq x.kd 2) (lookS sg x.den) none
noncomputable def tabAt (tab:List Nd) (nt0 nt:Nat):Option Nd:=bi (Nat.ble nt0 nt) (nth tab (Nat.sub nt nt0)) none
noncomputable def algT (nt0:Nat) (tab:List Nd) (sg:List (Nat × Int)):Alg where
 bin:=fun o nt x y=>ob (tabAt tab nt0 nt) (ndBin o x y nt)
 un:=fun o nt x=>ob (tabAt tab nt0 nt) (ndUn o x nt)
 num:=fun nt n d=>ob (tabAt tab nt0 nt) (ndNum n d nt)
 sgn:=sgnS sg
 cmp:=fun _ _=>none
 lit:=fun _=>none
def NdOk (q:Nat → Rat) (t:Nat):Nd → Prop
 | .bin 0 i j=>q t = q i + q j
 | .bin 1 i j=>q t = q i - q j
 | .bin 2 i j=>q t = q i * q j
 | .bin _ i j=>q j ≠ 0∧q t = q i / q j
 | .un 0 i=>q t = - q i
 | .un _ i=>q t = q i
 | .num n d=>0 < d∧q t = _root_.mkRat n d
structure RowOk (q:Nat → Rat) (nt0:Nat) (tab:List Nd) (sg:List (Nat × Int)):Prop where
 nd:∀ i d,tab[i]? = some d → NdOk q (nt0 + i) d∧FE.small (q (nt0 + i)) = true
 sg:∀ i s,(i,s) ∈ sg → SgnOk s (q i)
theorem isStep_inv {x:X} {i:Nat} (h:isStep x i = true):x.kd = 2∧x.den = i:=by
 obtain ⟨h1,h2⟩:=bi3 h
 exact ⟨beq_inv h1,beq_inv h2⟩
theorem lookS_inv:∀ {l:List (Nat × Int)} {i:Nat} {s:Int},lookS l i = some s → (i,s) ∈ l
 | [],_,_,h=>by cases h
 | a :: l,i,s,h=>by
  have h':bi (Nat.beq a.1 i) (some a.2) (lookS l i) = some s:=h
  cases hq:Nat.beq a.1 i with
  | true =>
   rw [hq] at h'
   injection h' with h'
   rw [← beq_inv hq,← h'];exact List.mem_cons_self
  | false=>rw [hq] at h';exact List.mem_cons_of_mem _ (lookS_inv h')
def valT (q:Nat → Rat) (x:X):Rat:=q x.den
theorem algT_ok {q:Nat → Rat} {nt0:Nat} {tab:List Nd} {sg:List (Nat × Int)} (h:RowOk q nt0 tab sg):AlgOk (valT q) (algT nt0 tab sg):=by
 have key:∀ nt d,tabAt tab nt0 nt = some d → NdOk q nt d∧Good2 (valT q) (stepX nt):=by
  intro nt d hd
  obtain ⟨h0,hd⟩:=bi_inv hd
  have h0:=ble_inv h0
  rw [nth_eq] at hd
  have e:nt0 + Nat.sub nt nt0 = nt:=by show nt0 + (nt - nt0) = nt;omega
  have:=h.nd _ _ hd
  rw [e] at this
  exact ⟨this.1,⟨by show (2:Nat) ≠ 1;omega,this.2⟩⟩
 have kb:∀ o nt x y z,(algT nt0 tab sg).bin o nt x y = some z → NdOk q nt (.bin o x.den y.den)∧Good2 (valT q) z∧z = stepX nt:=by
  intro o nt x y z hz
  obtain ⟨d,h1,hz⟩:=ob_inv (show ob (tabAt tab nt0 nt) (ndBin o x y nt) = some z from hz)
  obtain ⟨k1,k2⟩:=key nt d h1
  cases d with
  | bin o' i j =>
   obtain ⟨g1,hz⟩:=bi_inv (show bi (Nat.beq o o') (bi (isStep x i) (bi (isStep y j) (some (stepX nt)) none) none) none = some z from hz)
   obtain ⟨g2,hz⟩:=bi_inv hz
   obtain ⟨g3,hz⟩:=bi_inv hz
   injection hz with hz
   subst hz
   rw [beq_inv g1,(isStep_inv g2).2,(isStep_inv g3).2]
   exact ⟨k1,k2,rfl⟩
  | un _ _=>cases hz
  | num _ _=>cases hz
 have ku:∀ o nt x z,(algT nt0 tab sg).un o nt x = some z → NdOk q nt (.un o x.den)∧Good2 (valT q) z∧z = stepX nt:=by
  intro o nt x z hz
  obtain ⟨d,h1,hz⟩:=ob_inv (show ob (tabAt tab nt0 nt) (ndUn o x nt) = some z from hz)
  obtain ⟨k1,k2⟩:=key nt d h1
  cases d with
  | un o' i =>
   obtain ⟨g1,hz⟩:=bi_inv (show bi (Nat.beq o o') (bi (isStep x i) (some (stepX nt)) none) none = some z from hz)
   obtain ⟨g2,hz⟩:=bi_inv hz
   injection hz with hz
   subst hz
   rw [beq_inv g1,(isStep_inv g2).2]
   exact ⟨k1,k2,rfl⟩
  | bin _ _ _=>cases hz
  | num _ _=>cases hz
 refine ⟨fun nt x y z hz=>?_,fun nt x y z hz=>?_,fun nt x y z hz=>?_,fun nt x y z hz=>?_,fun nt x z hz=>?_,fun nt x z hz=>?_,fun nt n d z hz=>?_,fun x s hs=>?_,fun x y s hs=>(by cases hs),fun x p hp=>(by cases hp)⟩
 ·obtain ⟨a,b,rfl⟩:=kb _ _ _ _ _ hz;exact ⟨b,a⟩
 ·obtain ⟨a,b,rfl⟩:=kb _ _ _ _ _ hz;exact ⟨b,a⟩
 ·obtain ⟨a,b,rfl⟩:=kb _ _ _ _ _ hz;exact ⟨b,a⟩
 ·obtain ⟨a,b,rfl⟩:=kb _ _ _ _ _ hz;exact ⟨b,a.1,a.2⟩
 ·obtain ⟨a,b,rfl⟩:=ku _ _ _ _ hz;exact ⟨b,a⟩
 ·obtain ⟨a,b,rfl⟩:=ku _ _ _ _ hz;exact ⟨b,a⟩
 ·obtain ⟨e,h1,hz⟩:=ob_inv (show ob (tabAt tab nt0 nt) (ndNum n d nt) = some z from hz)
  obtain ⟨k1,k2⟩:=key nt e h1
  cases e with
  | num n' e' =>
   obtain ⟨g1,hz⟩:=bi_inv (show bi (ibeq n n') (bi (Nat.beq d e') (some (stepX nt)) none) none = some z from hz)
   obtain ⟨g2,hz⟩:=bi_inv hz
   injection hz with hz
   subst hz
   rw [ibeq_eq,beq_iff_eq] at g1
   rw [g1,beq_inv g2]
   exact ⟨k2,k1⟩
  | bin _ _ _=>cases hz
  | un _ _=>cases hz
 ·obtain ⟨h1,hs⟩:=bi_inv (show bi (Nat.beq x.kd 2) (lookS sg x.den) none = some s from hs)
  exact h.sg _ _ (lookS_inv hs)
noncomputable def ndEval (A:Alg) (env:SX.T X) (nt:Nat) (d:Nd):Option X :=
 Nd.casesOn d (fun o i j=>bi (Nat.ble o 3) (ob (env.get i) fun x=>ob (env.get j) fun y=>A.bin o nt x y) none) (fun o i=>bi (Nat.ble o 1) (ob (env.get i) fun x=>A.un o nt x) none) (fun n e=>A.num nt n e)
noncomputable def evalD (A:Alg) (tab:List Nd):Nat → Nat → SX.T X → Option (List X) :=
 @List.rec Nd (fun _=>Nat → Nat → SX.T X → Option (List X)) (fun _ _ _=>some []) (fun d _ ih t nt env=>ob (ndEval A env nt d) fun x=>ob (ih (Nat.add t 1) (Nat.add nt 1) (env.set t (some x))) fun r=>some (x :: r)) tab
noncomputable def envF (τ:List (Nat × X)):Nat → SX.T X → SX.T X:=@List.rec (Nat × X) (fun _=>Nat → SX.T X → SX.T X) (fun _ env=>env) (fun p _ ih t env=>ih (Nat.add t 1) (env.set t (some p.2))) τ
noncomputable def sgnsB (A:Alg) (env:List X) (sg:List (Nat × Int)):Bool:=allB (fun p:Nat × Int=>@Option.rec Int (fun _=>Bool) false (fun s=>ibeq s p.2) (ob (nth env p.1) A.sgn)) sg
noncomputable def xsOf (τ:List (Nat × X)) (ξ:List X):List X:=@List.rec (Nat × X) (fun _=>List X) ξ (fun p _ ih=>p.2 :: ih) τ
noncomputable def tmAt (A:Alg) (a0:List V) (m0:Cells) (nb0 nt0:Nat) (v:V) (res:Cells) (tab:List Nd) (sg:List (Nat × Int)) (vl:List V) (st:St) (a:Acc):Option R :=
 bi (allB (fun p:Nat × X=>kdOk p.2) a.2) (bi (Nat.beq (len a.2) nt0) (bi (Nat.ble (Nat.add nt0 (len tab)) 8388608) (ob (evalD A tab nt0 st.nt (envF a.2 0 .lf)) fun ξ =>
  bi (sgnsB A (xsOf a.2 ξ) sg) (reloc a0 m0 nb0 nt0 v res stepX a.1 a.2 ξ vl st) none) none) none) none
noncomputable def tmO (A:Alg) (a0:List V) (m0:Cells) (nb0 nt0:Nat) (v:V) (res:Cells) (tab:List Nd) (sg:List (Nat × Int)) (vl:List V) (st:St):Option R:=tmAt A a0 m0 nb0 nt0 v res tab sg vl st (found nb0 vl st)
def qOf (val:X → Rat) (L:List X) (t:Nat):Rat:=match L[t]? with | some x=>val x | none=>0
theorem xsOf_eq:∀ (τ:List (Nat × X)) (ξ:List X),xsOf τ ξ = τ.map (·.2) ++ ξ
 | [],_=>rfl
 | p :: τ,ξ=>by show p.2 :: xsOf τ ξ = _;rw [xsOf_eq τ ξ];rfl
theorem envF_ok:∀ (τ:List (Nat × X)) (t:Nat) (env:SX.T X) (L:List X),L.length = t → t + τ.length ≤ 8388608 → (∀ i x,env.get i = some x → L[i]? = some x) → ∀ i x,(envF τ t env).get i = some x → (L ++ τ.map (·.2))[i]? = some x
 | [],t,env,L,_,_,h=>by
  intro i x hi
  have:=h i x hi
  simpa using this
 | p :: τ,t,env,L,hl,hb,h=>by
  have ih:=envF_ok τ (t + 1) (env.set t (some p.2)) (L ++ [p.2]) (by simp [hl]) (by simp at hb;omega) (fun i x hi=>by
   rw [get_set _ _ _ _ (by simp at hb;omega)] at hi
   split at hi
   ·rename_i e
    injection hi with hi
    subst hi
    rw [e,← hl];simp
   ·have:=h i x hi
    have hlt:=(List.getElem?_eq_some_iff.1 this).1
    rw [List.getElem?_append_left hlt];exact this)
  intro i x hi
  have:=ih i x hi
  simpa using this
theorem qOf_of {val:X → Rat} {L:List X} {i:Nat} {x:X} (h:L[i]? = some x) (M:List X):qOf val (L ++ M) i = val x:=by
 have hlt:=(List.getElem?_eq_some_iff.1 h).1
 unfold qOf
 rw [List.getElem?_append_left hlt,h]
theorem evalD_ok {val:X → Rat} {A:Alg} (h:AlgOk val A):∀ (tab:List Nd) (t nt:Nat) (env:SX.T X) (L ξ:List X),L.length = t → t + tab.length ≤ 8388608 → (∀ i x,env.get i = some x → L[i]? = some x) → evalD A tab t nt env = some ξ →
 ξ.length = tab.length∧(∀ (i:Nat) (z:X),ξ[i]? = some z → Good2 val z)∧∀ (i:Nat) (d:Nd),tab[i]? = some d → NdOk (qOf val (L ++ ξ)) (t + i) d
 | [],t,nt,env,L,ξ,_,_,_,he=>by
  have he:some [] = some ξ:=he
  injection he with he
  subst he
  exact ⟨rfl,fun i z hz=>by simp at hz,fun i d hd=>by simp at hd⟩
 | d :: tab,t,nt,env,L,ξ,hl,hb,henv,he=>by
  obtain ⟨x,h1,he⟩:=ob_inv (show ob (ndEval A env nt d) (fun x=>ob (evalD A tab (Nat.add t 1) (Nat.add nt 1) (env.set t (some x))) fun r=>some (x :: r)) = some ξ from he)
  obtain ⟨r,h2,he⟩:=ob_inv he
  injection he with he
  subst he
  have hb':t + 1 + tab.length ≤ 8388608:=by simp at hb;omega
  obtain ⟨g1,g2,g3⟩:=evalD_ok h tab (t + 1) (nt + 1) (env.set t (some x)) (L ++ [x]) r (by simp [hl]) hb' (fun i y hi=>by
   rw [get_set _ _ _ _ (by omega)] at hi
   split at hi
   ·rename_i e
    injection hi with hi
    subst hi
    rw [e,← hl];simp
   ·have:=henv i y hi
    have hlt:=(List.getElem?_eq_some_iff.1 this).1
    rw [List.getElem?_append_left hlt];exact this) h2
  have hL:L ++ [x] ++ r = L ++ x :: r:=by simp
  rw [hL] at g3
  have hq:qOf val (L ++ x :: r) t = val x:=by
   unfold qOf
   rw [← hl];simp
  have hnd:NdOk (qOf val (L ++ x :: r)) t d∧Good2 val x:=by
   cases d with
   | bin o i j =>
    obtain ⟨k1,h1⟩:=bi_inv (show bi (Nat.ble o 3) (ob (env.get i) fun x=>ob (env.get j) fun y=>A.bin o nt x y) none = some x from h1)
    obtain ⟨y,k2,h1⟩:=ob_inv h1
    obtain ⟨z,k3,h1⟩:=ob_inv h1
    have ei:=qOf_of (val:=val) (henv i y k2) (x :: r)
    have ej:=qOf_of (val:=val) (henv j z k3) (x :: r)
    have k1:=ble_inv k1
    match o,k1,h1 with
    | 0,_,h1=>obtain ⟨g,e⟩:=h.add _ _ _ _ h1;exact ⟨by show _ = _ + _;rw [hq,ei,ej];exact e,g⟩
    | 1,_,h1=>obtain ⟨g,e⟩:=h.sub _ _ _ _ h1;exact ⟨by show _ = _ - _;rw [hq,ei,ej];exact e,g⟩
    | 2,_,h1=>obtain ⟨g,e⟩:=h.mul _ _ _ _ h1;exact ⟨by show _ = _ * _;rw [hq,ei,ej];exact e,g⟩
    | 3,_,h1=>obtain ⟨g,n,e⟩:=h.div _ _ _ _ h1;exact ⟨by show _ ≠ 0∧_ = _ / _;rw [hq,ei,ej];exact ⟨n,e⟩,g⟩
   | un o i =>
    obtain ⟨k1,h1⟩:=bi_inv (show bi (Nat.ble o 1) (ob (env.get i) fun x=>A.un o nt x) none = some x from h1)
    obtain ⟨y,k2,h1⟩:=ob_inv h1
    have ei:=qOf_of (val:=val) (henv i y k2) (x :: r)
    have k1:=ble_inv k1
    match o,k1,h1 with
    | 0,_,h1=>obtain ⟨g,e⟩:=h.neg _ _ _ h1;exact ⟨by show _ = - _;rw [hq,ei];exact e,g⟩
    | 1,_,h1=>obtain ⟨g,e⟩:=h.cpy _ _ _ h1;exact ⟨by show _ = _;rw [hq,ei];exact e,g⟩
   | num n e =>
    obtain ⟨g,k1,k2⟩:=h.num _ _ _ _ (show A.num nt n e = some x from h1)
    exact ⟨⟨k1,by rw [hq];exact k2⟩,g⟩
  refine ⟨by simp [g1],fun i z hz=>?_,fun i e he=>?_⟩
  ·cases i with
   | zero=>simp at hz;subst hz;exact hnd.2
   | succ i=>exact g2 i z (by simpa using hz)
  ·cases i with
   | zero=>simp at he;subst he;exact hnd.1
   | succ i =>
    have:=g3 i e (by simpa using he)
    rw [show t + (i + 1) = t + 1 + i by omega];exact this
theorem tmO_ok {P:Program} {val:X → Rat} {drw:Drw} {A:Alg} (hA:AlgOk val A) {call:CallFn} {f:Nat} {a0:List V} {m0:Cells} {nb0 nt0:Nat} {v:V} {res:Cells} {tab:List Nd} {sg:List (Nat × Int)}
 (hcall:∀ q,RowOk q nt0 tab sg → CallOk P (toks (valT q) drw) call) (hk:Kept call f a0 m0 nb0 nt0 (nt0 + tab.length) v res):OrcOne P (toks val drw) f (tmO A a0 m0 nb0 nt0 v res tab sg):=by
 intro vl st r h hst
 unfold tmO at h
 generalize found nb0 vl st = a at *
 obtain ⟨h1,h⟩:=bi_inv h
 obtain ⟨h2,h⟩:=bi_inv h
 obtain ⟨h3,h⟩:=bi_inv h
 obtain ⟨ξ,h4,h⟩:=ob_inv h
 obtain ⟨h5,h⟩:=bi_inv h
 have hkd:=allB_inv h1
 have hlen:a.2.length = nt0:=by have:=beq_inv h2;rw [len_eq] at this;exact this
 have hb:nt0 + tab.length ≤ 8388608:=by have:=ble_inv h3;rw [len_eq] at this;exact this
 have hml:(a.2.map (·.2)).length = nt0:=by simp [hlen]
 have henv:=envF_ok a.2 0 .lf [] rfl (by omega) (fun i x hi=>by cases hi)
 obtain ⟨g1,g2,g3⟩:=evalD_ok hA tab nt0 st.nt _ (a.2.map (·.2)) ξ hml hb (by simpa using henv) h4
 have hq:∀ (i:Nat) (y:X),ξ[i]? = some y → qOf val (a.2.map (·.2) ++ ξ) (nt0 + i) = val y:=fun i y hy=>by
  unfold qOf
  rw [← hml,List.getElem?_append_right (by omega),show (a.2.map (·.2)).length + i - (a.2.map (·.2)).length = i by omega,hy]
 have hrow:RowOk (qOf val (a.2.map (·.2) ++ ξ)) nt0 tab sg:=by
  refine ⟨fun i d hd=>⟨g3 i d hd,?_⟩,fun i s his=>?_⟩
  ·have hi:=(List.getElem?_eq_some_iff.1 hd).1
   have hy:=List.getElem?_eq_getElem (show i < ξ.length by omega)
   rw [hq i _ hy]
   exact (g2 i _ hy).sm
  ·have:=allB_inv h5 (i,s) his
   cases hx:nth (xsOf a.2 ξ) i with
   | none=>simp only [hx] at this;cases this
   | some x =>
    simp only [hx] at this
    have this:@Option.rec Int (fun _=>Bool) false (fun t=>ibeq t s) (A.sgn x) = true:=this
    cases hs:A.sgn x with
    | none=>rw [hs] at this;cases this
    | some t =>
     rw [hs] at this
     have this:ibeq t s = true:=this
     rw [ibeq_eq,beq_iff_eq] at this
     subst this
     rw [nth_eq,xsOf_eq] at hx
     have:=hA.sgn _ _ hs
     unfold qOf
     rw [hx];exact this
 refine reloc_ok (x0:=stepX) (hcall _ hrow) (by rw [g1];exact hk) (fun t=>by show (2:Nat) ≠ 1;omega) (fun t p ht hp=>⟨kdOk_inv (hkd p (List.mem_of_getElem? hp)),?_⟩) (fun i y hy=>⟨(g2 i y hy).kd,(show valT _ (stepX (nt0 + i)) = val y from hq i y hy)⟩) h hst
 show qOf val (a.2.map (·.2) ++ ξ) t = _
 exact qOf_of (by rw [List.getElem?_map,hp];rfl) ξ
abbrev Orcs:=Nat → Option (List V → St → Option R)
noncomputable def altM (g h:List V → St → Option R) (vl:List V) (st:St):Option R:=@Option.rec R (fun _=>Option R) (h vl st) (fun r=>some r) (g vl st)
noncomputable def withM (f0:Nat) (g:List V → St → Option R) (orc:Orcs) (f:Nat):Option (List V → St → Option R):=bi (Nat.beq f f0) (some g) (orc f)
noncomputable def isTrue (r:Option R):Bool:=@Option.rec R (fun _=>Bool) false (fun r=>eqV r.v (vB true)) r
theorem alt_ok {P:Program} {K:Toks} {f:Nat} {g h:List V → St → Option R} (hg:OrcOne P K f g) (hh:OrcOne P K f h):OrcOne P K f (altM g h):=by
 intro vl st r hr hst
 unfold altM at hr
 cases hq:g vl st with
 | none=>rw [hq] at hr;exact hh vl st r hr hst
 | some r' =>
  rw [hq] at hr
  injection hr with hr
  subst hr
  exact hg vl st r' hq hst
theorem with_ok {P:Program} {K:Toks} {f0:Nat} {g:List V → St → Option R} {orc:Orcs} (hg:OrcOne P K f0 g) (ho:OrcOk P K orc):OrcOk P K (withM f0 g orc):=by
 intro f h hf
 unfold withM at hf
 cases hq:Nat.beq f f0 with
 | true =>
  rw [hq] at hf
  injection hf with hf
  subst hf
  rw [beq_inv hq]
  exact hg
 | false=>rw [hq] at hf;exact ho f h hf
theorem none_ok {P:Program} {K:Toks}:OrcOk P K (fun _=>none):=fun f g h=>by cases h
noncomputable def orcA (A:Alg):Orcs :=
 withM 83 (orBin A 0) (withM 22 (orBin A 1) (withM 50 (orBin A 2) (withM 112 (orBin A 3) (withM 149 (orUn A 0) (withM 82 (orUn A 1)
 (withM 94 (orInt A (-1000)) (withM 51 (orNum A (-1000)) (withM 32 (orSgn A) (withM 97 (orSgn A) (withM 39 (orCmp A) (withM 109 (orCmp A)
 (withM 21 (orEq A) (withM 29 orTrue (withM 127 orTrue (withM 88 (orIsSmall A) (withM 89 (orSmall A) (withM 71 orAre (withM 60 orWithin (fun _=>none)))))))))))))))))))
theorem orcA_ok {val:X → Rat} {drw:Drw} {A:Alg} (h:AlgOk val A):OrcOk Tryz.prog (toks val drw) (orcA A) :=
 with_ok (orAdd_ok h) (with_ok (orSub_ok h) (with_ok (orMul_ok h) (with_ok (orDiv_ok h) (with_ok (orNeg_ok h) (with_ok (orCopy_ok h) (with_ok (orIntI_ok h) (with_ok (orOfI_ok h) (with_ok (orSgn_ok h) (with_ok (orSgnM_ok h) (with_ok (orCmp_ok h) (with_ok (orCompare_ok h)
  (with_ok (orEq_ok h) (with_ok orOk_ok (with_ok orIsRat_ok (with_ok (orIsSmall_ok h) (with_ok (orSmall_ok h) (with_ok orAre_ok (with_ok orWithin_ok none_ok))))))))))))))))))
noncomputable def orcD (A:Alg) (kx fx:Nat → Option X) (drw:Nat → Nat → Option Nat) (orc:Orcs):Orcs :=
 withM 191 (altM (orDrawn fx) (orInt A (-10))) (withM 158 (altM (orCoef kx) (orNum A (-10))) (withM 57 orNew (withM 77 (orBelow ⟨drw,⟨.nilFunc,fun _=>#[],fun _=>0⟩⟩) (withM 200 (orInsert Tryz.prog) orc))))
theorem orcD_ok {val:X → Rat} {drw:Drw} {A:Alg} {kx fx:Nat → Option X} {orc:Orcs} (h:AlgOk val A) (hk:KxOk val drw kx) (hf:FxOk val drw fx) (ho:OrcOk Tryz.prog (toks val drw) orc):OrcOk Tryz.prog (toks val drw) (orcD A kx fx drw.tab orc) :=
 with_ok (alt_ok (orDrawn_ok hf) (orInt_ok h)) (with_ok (alt_ok (orCoef_ok hk) (orOf_ok h)) (with_ok orNew_ok (with_ok (show OrcOne Tryz.prog (toks val drw) 77 (orBelow drw) from orBelow_ok) (with_ok orInsert_ok ho))))
/-! ### The draws' values -/
def fewNat:Nat → Nat
 | 3=>2
 | 4=>3
 | _=>1
def fewQ (fx:Fix) (p:Nat):Rat:=_root_.mkRat (((fx.byte p % 21:Nat):Int) - 10) (fewNat (fx.byte (p + 1) % 5))
def UxOk (val:X → Rat) (drw:Drw) (ux:Nat → Option X):Prop:=∀ p z,ux p = some z → Good2 val z∧val z = fewQ drw.fx p
inductive BV where
 | k (p:Nat)
 | f (p:Nat)
 | u (p:Nat)
def bval (fx:Fix):BV → Rat
 | .k p=>2 * _root_.mkRat (1 + (fx.byte p % 4:Nat)) (1 + fx.byte (p + 1) % 2)
 | .f p=>_root_.mkRat (-1 + (fx.byte p % 5:Nat)) 1
 | .u p=>6 * fewQ fx p
def bbits:BV → Nat
 | .k _=>4
 | .f _=>2
 | .u _=>6
def bpos:BV → Bool
 | .k _=>true
 | .f _=>false
 | .u _=>false
theorem mk_one (n:Int):_root_.mkRat n 1 = (n:Rat):=by rw [Rat.mkRat_eq_div];have:((1:Nat):Rat) = 1:=rfl;rw [this];grind
theorem bval_bnd (fx:Fix) (b:BV):Bnd (bbits b) (bval fx b)∧(bpos b = true → 0 < bval fx b):=by
 cases b with
 | u p =>
  refine ⟨?_,fun h=>by cases h⟩
  have m1:fx.byte p % 21 < 21:=Nat.mod_lt _ (by decide)
  have m2:fx.byte (p + 1) % 5 < 5:=Nat.mod_lt _ (by decide)
  simp only [bval,bbits,fewQ]
  generalize fx.byte p % 21 = a at *
  generalize fx.byte (p + 1) % 5 = c at *
  have hd:fewNat c = 1 ∨ fewNat c = 2 ∨ fewNat c = 3:=by
   have:c = 0 ∨ c = 1 ∨ c = 2 ∨ c = 3 ∨ c = 4:=by omega
   rcases this with rfl | rfl | rfl | rfl | rfl <;> decide
  obtain ⟨q,hq1,hq2,hq⟩:∃ q:Int,2 ≤ q∧q ≤ 6∧q * (fewNat c:Nat) = 6:=by
   rcases hd with h | h | h <;> rw [h]
   ·exact ⟨6,by decide⟩
   ·exact ⟨3,by decide⟩
   ·exact ⟨2,by decide⟩
  refine ⟨1,((a:Int) - 10) * q,by decide,by decide,?_,?_,?_⟩
  ·have e1:((1:Int):Rat) = 1:=rfl
   have hne:((fewNat c:Nat):Rat) ≠ 0:=by
    rcases hd with h | h | h <;> rw [h] <;> decide
   have e6:(q:Rat) * ((fewNat c:Nat):Rat) = 6:=by
    have:=congrArg (fun z:Int=>(z:Rat)) hq
    simp only [Rat.intCast_mul] at this
    exact this
   rw [e1,Rat.mul_one,Rat.mkRat_eq_div,Rat.intCast_mul,← e6]
   generalize ((fewNat c:Nat):Rat) = d at *
   grind
  ·have:(a:Int) - 10 ≥ -10:=by omega
   have h1:-10 * q ≤ ((a:Int) - 10) * q:=Int.mul_le_mul_of_nonneg_right this (by omega)
   have e:(2:Int) ^ 6 = 64:=rfl
   rw [e]
   omega
  ·have:(a:Int) - 10 ≤ 10:=by omega
   have h1:((a:Int) - 10) * q ≤ 10 * q:=Int.mul_le_mul_of_nonneg_right this (by omega)
   have e:(2:Int) ^ 6 = 64:=rfl
   rw [e]
   omega
 | f p =>
  refine ⟨?_,fun h=>by cases h⟩
  have m1:fx.byte p % 5 < 5:=Nat.mod_lt _ (by decide)
  simp only [bval,bbits]
  generalize fx.byte p % 5 = a at *
  refine ⟨1,-1 + (a:Int),by decide,by decide,?_,by omega,by omega⟩
  rw [mk_one]
  have:((1:Int):Rat) = 1:=rfl
  rw [this,Rat.mul_one]
 | k p =>
  have m1:fx.byte p % 4 < 4:=Nat.mod_lt _ (by decide)
  have m2:fx.byte (p + 1) % 2 < 2:=Nat.mod_lt _ (by decide)
  simp only [bval,bbits]
  generalize fx.byte p % 4 = a at *
  generalize fx.byte (p + 1) % 2 = c at *
  have key:2 * _root_.mkRat (1 + (a:Int)) (1 + c) = (((2 - c:Nat):Int) * (1 + (a:Int)):Int):=by
   rw [Rat.mkRat_eq_div]
   have hc:c = 0 ∨ c = 1:=by omega
   rcases hc with rfl | rfl
   ·have e1:(((1 + 0:Nat)):Rat) = 1:=rfl
    have e2:((((2 - 0:Nat):Int) * (1 + (a:Int)):Int):Rat) = 2 * ((1 + (a:Int):Int):Rat):=by rw [Rat.intCast_mul];rfl
    rw [e1,e2];grind
   ·have e1:(((1 + 1:Nat)):Rat) = 2:=rfl
    have e2:((((2 - 1:Nat):Int) * (1 + (a:Int)):Int):Rat) = ((1 + (a:Int):Int):Rat):=by rw [Rat.intCast_mul];show (1:Rat) * _ = _;rw [Rat.one_mul]
    rw [e1,e2];grind
  have hb:1 ≤ ((2 - c:Nat):Int) * (1 + (a:Int))∧((2 - c:Nat):Int) * (1 + (a:Int)) ≤ 8:=by
   have hc:c = 0 ∨ c = 1:=by omega
   rcases hc with rfl | rfl <;> simp <;> omega
  rw [key]
  generalize ((2 - c:Nat):Int) * (1 + (a:Int)) = z at *
  refine ⟨⟨1,z,by decide,by decide,?_,by omega,by omega⟩,fun _=>int_pos (by omega)⟩
  have:((1:Int):Rat) = 1:=rfl
  rw [this,Rat.mul_one]
theorem bvs_ok (fx:Fix):∀ l:List BV,BndL (l.map (bval fx)) (l.map bbits)∧PosL (l.map (bval fx)) (l.map bpos)
 | []=>⟨trivial,trivial⟩
 | b :: l=>by
  obtain ⟨h1,h2⟩:=bval_bnd fx b
  obtain ⟨h3,h4⟩:=bvs_ok fx l
  exact ⟨⟨h1,h3⟩,⟨h2,h4⟩⟩
noncomputable def kAt (bs:List BV) (p:Nat):Nat → Option Nat:=@List.rec BV (fun _=>Nat → Option Nat) (fun _=>none) (fun b _ ih i=>BV.casesOn b (fun q=>bi (Nat.beq p q) (some i) (ih (Nat.add i 1))) (fun _=>ih (Nat.add i 1)) (fun _=>ih (Nat.add i 1))) bs
noncomputable def fAt (bs:List BV) (p:Nat):Nat → Option Nat:=@List.rec BV (fun _=>Nat → Option Nat) (fun _=>none) (fun b _ ih i=>BV.casesOn b (fun _=>ih (Nat.add i 1)) (fun q=>bi (Nat.beq p q) (some i) (ih (Nat.add i 1))) (fun _=>ih (Nat.add i 1))) bs
noncomputable def uAt (bs:List BV) (p:Nat):Nat → Option Nat:=@List.rec BV (fun _=>Nat → Option Nat) (fun _=>none) (fun b _ ih i=>BV.casesOn b (fun _=>ih (Nat.add i 1)) (fun _=>ih (Nat.add i 1)) (fun q=>bi (Nat.beq p q) (some i) (ih (Nat.add i 1)))) bs
noncomputable def kxF (hs:List Nat) (bs:List BV) (p:Nat):Option X:=ob (kAt bs p 0) fun i=>chk hs ⟨0,2,[(Nat.pow 16 i,1)]⟩
noncomputable def fxF (hs:List Nat) (bs:List BV) (p:Nat):Option X:=ob (fAt bs p 0) fun i=>chk hs (varX i)
noncomputable def uxF (hs:List Nat) (bs:List BV) (p:Nat):Option X:=ob (uAt bs p 0) fun i=>chk hs ⟨0,6,[(Nat.pow 16 i,1)]⟩
theorem kAt_inv {p:Nat}:∀ {bs:List BV} {i j:Nat},kAt bs p i = some j → ∃ k,j = i + k∧bs[k]? = some (.k p)
 | [],i,j,h=>by cases h
 | .k q :: bs,i,j,h=>by
  have h:bi (Nat.beq p q) (some i) (kAt bs p (Nat.add i 1)) = some j:=h
  cases hq:Nat.beq p q with
  | true =>
   rw [hq] at h
   injection h with h
   exact ⟨0,h.symm,by rw [beq_inv hq];rfl⟩
  | false =>
   rw [hq] at h
   obtain ⟨k,h1,h2⟩:=kAt_inv (bs:=bs) h
   exact ⟨k + 1,by have:Nat.add i 1 = i + 1:=rfl
                   omega,by simpa using h2⟩
 | .f q :: bs,i,j,h=>by
  obtain ⟨k,h1,h2⟩:=kAt_inv (bs:=bs) (show kAt bs p (Nat.add i 1) = some j from h)
  exact ⟨k + 1,by have:Nat.add i 1 = i + 1:=rfl
                  omega,by simpa using h2⟩
 | .u q :: bs,i,j,h=>by
  obtain ⟨k,h1,h2⟩:=kAt_inv (bs:=bs) (show kAt bs p (Nat.add i 1) = some j from h)
  exact ⟨k + 1,by have:Nat.add i 1 = i + 1:=rfl
                  omega,by simpa using h2⟩
theorem fAt_inv {p:Nat}:∀ {bs:List BV} {i j:Nat},fAt bs p i = some j → ∃ k,j = i + k∧bs[k]? = some (.f p)
 | [],i,j,h=>by cases h
 | .f q :: bs,i,j,h=>by
  have h:bi (Nat.beq p q) (some i) (fAt bs p (Nat.add i 1)) = some j:=h
  cases hq:Nat.beq p q with
  | true =>
   rw [hq] at h
   injection h with h
   exact ⟨0,h.symm,by rw [beq_inv hq];rfl⟩
  | false =>
   rw [hq] at h
   obtain ⟨k,h1,h2⟩:=fAt_inv (bs:=bs) h
   exact ⟨k + 1,by have:Nat.add i 1 = i + 1:=rfl
                   omega,by simpa using h2⟩
 | .k q :: bs,i,j,h=>by
  obtain ⟨k,h1,h2⟩:=fAt_inv (bs:=bs) (show fAt bs p (Nat.add i 1) = some j from h)
  exact ⟨k + 1,by have:Nat.add i 1 = i + 1:=rfl
                  omega,by simpa using h2⟩
 | .u q :: bs,i,j,h=>by
  obtain ⟨k,h1,h2⟩:=fAt_inv (bs:=bs) (show fAt bs p (Nat.add i 1) = some j from h)
  exact ⟨k + 1,by have:Nat.add i 1 = i + 1:=rfl
                  omega,by simpa using h2⟩
theorem uAt_inv {p:Nat}:∀ {bs:List BV} {i j:Nat},uAt bs p i = some j → ∃ k,j = i + k∧bs[k]? = some (.u p)
 | [],i,j,h=>by cases h
 | .u q :: bs,i,j,h=>by
  have h:bi (Nat.beq p q) (some i) (uAt bs p (Nat.add i 1)) = some j:=h
  cases hq:Nat.beq p q with
  | true =>
   rw [hq] at h
   injection h with h
   exact ⟨0,h.symm,by rw [beq_inv hq];rfl⟩
  | false =>
   rw [hq] at h
   obtain ⟨k,h1,h2⟩:=uAt_inv (bs:=bs) h
   exact ⟨k + 1,by have:Nat.add i 1 = i + 1:=rfl
                   omega,by simpa using h2⟩
 | .k q :: bs,i,j,h=>by
  obtain ⟨k,h1,h2⟩:=uAt_inv (bs:=bs) (show uAt bs p (Nat.add i 1) = some j from h)
  exact ⟨k + 1,by have:Nat.add i 1 = i + 1:=rfl
                  omega,by simpa using h2⟩
 | .f q :: bs,i,j,h=>by
  obtain ⟨k,h1,h2⟩:=uAt_inv (bs:=bs) (show uAt bs p (Nat.add i 1) = some j from h)
  exact ⟨k + 1,by have:Nat.add i 1 = i + 1:=rfl
                  omega,by simpa using h2⟩
structure Par where
 bs:List BV
 ds:List Der
noncomputable def Par.cfg (p:Par):Cfg:=cfgOf (p.bs.map bbits) (p.bs.map bpos) p.ds
noncomputable def Par.ok (p:Par):Bool:=bi (derOk p.ds (len p.bs) (p.bs.map bbits) (p.bs.map bpos)) (Nat.ble (Nat.add (len p.bs) (len p.ds)) 64) false
noncomputable def Par.l (p:Par) (fx:Fix):List Rat:=extL p.ds (p.bs.map (bval fx))
theorem par_ok {p:Par} (h:p.ok = true) (fx:Fix):CfgOk (p.l fx) p.cfg∧∃ r,p.l fx = p.bs.map (bval fx) ++ r:=by
 obtain ⟨h1,h2⟩:=bi3 h
 obtain ⟨b1,b2⟩:=bvs_ok fx p.bs
 have h2:=ble_inv h2
 rw [len_eq] at h1
 rw [len_eq,len_eq] at h2
 exact cfg_ok (by simp) (by simp) b1 b2 (by simpa using h1) (by simpa using h2)
theorem kx_ok {p:Par} (h:p.ok = true) (drw:Drw):KxOk (X.val (p.l drw.fx)) drw (kxF p.cfg.hs p.bs):=by
 obtain ⟨hc,r,hr⟩:=par_ok h drw.fx
 intro q z hz
 obtain ⟨i,h1,hz⟩:=ob_inv hz
 obtain ⟨rfl,g⟩:=chk_ok hc.bnd hz
 obtain ⟨k,e,hk⟩:=kAt_inv h1
 refine ⟨g,?_⟩
 have hlt:=(List.getElem?_eq_some_iff.1 hk).1
 have hl:(p.l drw.fx)[i]? = some (bval drw.fx (.k q)):=by
  rw [hr,e,Nat.zero_add,List.getElem?_append_left (by simpa using hlt),List.getElem?_map,hk];rfl
 have hv:=val_var _ _ _ hl
 unfold X.val varX at hv
 unfold X.val
 simp only at hv ⊢
 have e1:(((1:Nat)):Rat) = 1:=rfl
 have e2:(((2:Nat)):Rat) = 2:=rfl
 rw [e1] at hv
 rw [e2]
 have hb:bval drw.fx (.k q) = 2 * _root_.mkRat (1 + (drw.fx.byte q % 4:Nat)) (1 + drw.fx.byte (q + 1) % 2):=rfl
 rw [hb] at hv
 generalize ev (p.l drw.fx) [(Nat.pow 16 i,1)] = a at *
 generalize _root_.mkRat (1 + (drw.fx.byte q % 4:Nat)) (1 + drw.fx.byte (q + 1) % 2) = b at *
 grind
theorem fx_ok {p:Par} (h:p.ok = true) (drw:Drw):FxOk (X.val (p.l drw.fx)) drw (fxF p.cfg.hs p.bs):=by
 obtain ⟨hc,r,hr⟩:=par_ok h drw.fx
 intro q z hz
 obtain ⟨i,h1,hz⟩:=ob_inv hz
 obtain ⟨rfl,g⟩:=chk_ok hc.bnd hz
 obtain ⟨k,e,hk⟩:=fAt_inv h1
 refine ⟨g,?_⟩
 have hlt:=(List.getElem?_eq_some_iff.1 hk).1
 have hl:(p.l drw.fx)[i]? = some (bval drw.fx (.f q)):=by
  rw [hr,e,Nat.zero_add,List.getElem?_append_left (by simpa using hlt),List.getElem?_map,hk];rfl
 exact val_var _ _ _ hl
theorem ux_ok {p:Par} (h:p.ok = true) (drw:Drw):UxOk (X.val (p.l drw.fx)) drw (uxF p.cfg.hs p.bs):=by
 obtain ⟨hc,r,hr⟩:=par_ok h drw.fx
 intro q z hz
 obtain ⟨i,h1,hz⟩:=ob_inv hz
 obtain ⟨rfl,g⟩:=chk_ok hc.bnd hz
 obtain ⟨k,e,hk⟩:=uAt_inv h1
 refine ⟨g,?_⟩
 have hlt:=(List.getElem?_eq_some_iff.1 hk).1
 have hl:(p.l drw.fx)[i]? = some (bval drw.fx (.u q)):=by
  rw [hr,e,Nat.zero_add,List.getElem?_append_left (by simpa using hlt),List.getElem?_map,hk];rfl
 have hv:=val_var _ _ _ hl
 unfold X.val varX at hv
 unfold X.val
 simp only at hv ⊢
 have e1:(((1:Nat)):Rat) = 1:=rfl
 have e2:(((6:Nat)):Rat) = 6:=rfl
 rw [e1] at hv
 rw [e2]
 have hb:bval drw.fx (.u q) = 6 * fewQ drw.fx q:=rfl
 rw [hb] at hv
 generalize ev (p.l drw.fx) [(Nat.pow 16 i,1)] = a at *
 generalize fewQ drw.fx q = b at *
 grind
def orI (x y:Int):Int:=if x = 0 then y else x
theorem cmpOr (x y:Int) (b c:Nat) (w:World) (h0:w.cell? ⟨b,0,none⟩ = some (.int .i64 x)) (h1:w.cell? ⟨b,1,none⟩ = some (.int .i64 y)) :
 Calls Tryz.prog 245 #[.slice (some ⟨b,0,none⟩) 2 c] w fun e w'=>e = .returned (.int .i64 (orI x y))∧w' = w:=by
 have H0:=Lib.hid h0
 have H1:=Lib.hid h1
 clear h0 h1
 go_enter Tryz.func245,Tryz.ntmps245
 go_wp2_with fail
 go_loop [8] (fun u=>∃ k:Nat,k ≤ 2∧u = .int .i64 k∧(1 ≤ k → x = 0)∧(2 ≤ k → y = 0)) (fun u=>2 - (intOf u).toNat)
 case atStart=>exact ⟨0,by omega,rfl,fun h=>by omega,fun h=>by omega⟩
 case round =>
  obtain ⟨k,hk,rfl,hx,hy⟩:=hrel
  have HX:=Lib.hid hx
  have HY:=Lib.hid hy
  clear hx hy
  obtain rfl | rfl | rfl:k = 0 ∨ k = 1 ∨ k = 2:=by omega
  ·have e0:=H0.out
   by_cases h:x = 0
   ·subst h
    go_wp2
    go_round
    case rel=>exact ⟨1,by omega,rfl,by simp,fun h=>by omega⟩
    case measure=>simp [intOf]
   ·have hb:(x == 0) = false:=by simp [h]
    have HN:=Lib.hid h
    clear h
    go_wp2
    go_ret
    exact ⟨ret_int (by simp [orI,HN.out]),rfl⟩
  ·have e1:=H1.out
   have hx0:=HX.out (by omega)
   subst hx0
   by_cases h:y = 0
   ·subst h
    go_wp2
    go_round
    case rel=>exact ⟨2,by omega,rfl,by simp,by simp⟩
    case measure=>simp [intOf]
   ·have hb:(y == 0) = false:=by simp [h]
    clear h
    go_wp2
    go_ret
    exact ⟨ret_int (by simp [orI]),rfl⟩
  ·have hx0:=HX.out (by omega)
   have hy0:=HY.out (by omega)
   subst hx0;subst hy0
   go_wp2
   go_ret
   exact ⟨rfl,rfl⟩
structure T5 where
 a:Int
 b:Int
 c:Int
 d:Int
 e:Int
deriving DecidableEq
def T5.at (w:World) (b o:Nat) (t:T5):Prop :=
 w.cell? ⟨b,o,none⟩ = some (.int .i64 t.a)∧w.cell? ⟨b,o + 1,none⟩ = some (.int .i64 t.b)∧w.cell? ⟨b,o + 2,none⟩ = some (.int .i64 t.c)∧w.cell? ⟨b,o + 3,none⟩ = some (.int .i64 t.d)∧w.cell? ⟨b,o + 4,none⟩ = some (.int .i64 t.e)
def T5.z:T5:=⟨0,0,0,0,0⟩
noncomputable def orCmpI (l:List V) (st:St):Option R:=ob (two l) fun q=>ob (cInt q.1) fun x=>ob (cInt q.2) fun y=>some ⟨vI (bi (ible y x) (bi (ible x y) 0 1) (-1)),st,[],some []⟩
noncomputable def orOrI (l:List V) (st:St):Option R :=
 ob (one l) fun c=>match c with
 | .sl k o n _=>bi (Nat.beq o 0) (bi (Nat.beq n 2) (ob (st.mem.get k) fun b=>List.casesOn b.cells none fun x l=>List.casesOn l none fun y _=>ob (cInt x) fun x=>ob (cInt y) fun y=>some ⟨vI (bi (ibeq x 0) y x),st,[],some [k]⟩) none) none
 | _=>none
section
variable {K:Toks} {E:Env} {w:World} {st:St}
theorem orCmpI_ok:OrcOne Tryz.prog K 246 orCmpI:=by
 intro vl st r hr hst
 obtain ⟨q,h1,hr⟩:=ob_inv hr
 obtain ⟨x,h2,hr⟩:=ob_inv hr
 obtain ⟨y,h3,hr⟩:=ob_inv hr
 injection hr with hr
 subst hr
 refine ⟨eff_pure hst _ _,Tryz.call246,fun E w vs hrel hp=>?_⟩
 obtain ⟨u,v,rfl,hu,hv⟩:=two_inv h1 hrel
 rw [cInt_inv h2] at hu
 rw [cInt_inv h3] at hv
 have hu:u = .int .i64 x:=hu
 have hv:v = .int .i64 y:=hv
 subst hu;subst hv
 refine (cmpCompare x y w).mono fun e u ⟨he,hw⟩=>?_
 subst hw
 refine ⟨_,E,he,out_pure hp.gi ?_⟩
 have:cmpI x y = bi (ible y x) (bi (ible x y) 0 1) (-1):=by
  rw [ible_eq,ible_eq]
  unfold cmpI
  by_cases h:y ≤ x
  ·by_cases g:x ≤ y
   ·rw [if_neg (by omega),if_neg (by omega)];simp [h,g]
   ·rw [if_neg (by omega),if_pos (by omega)];simp [h,g]
  ·rw [if_pos (by omega)];simp [h]
 rw [this]
 rfl
theorem orOrI_ok:OrcOne Tryz.prog K 245 orOrI:=by
 intro vl st r hr hst
 obtain ⟨c,h1,hr⟩:=ob_inv hr
 split at hr
 ·rename_i k o n z
  obtain ⟨h2,hr⟩:=bi_inv hr
  obtain ⟨h3,hr⟩:=bi_inv hr
  obtain ⟨b,h4,hz⟩:=ob_inv hr
  clear hr
  have h2:=beq_inv h2
  have h3:=beq_inv h3
  subst h2;subst h3
  match hb:b.cells,hz with
  | c1 :: c2 :: l,hr =>
   obtain ⟨x,h5,hr⟩:=ob_inv (show ob (cInt c1) (fun x=>ob (cInt c2) fun y=>some (⟨vI (bi (ibeq x 0) y x),st,[],some [k]⟩:R)) = some r from hr)
   obtain ⟨y,h6,hr⟩:=ob_inv hr
   injection hr with hr
   subst hr
   refine ⟨eff_pure hst _ _,Tryz.call245,fun E w vs hrel hp=>?_⟩
   obtain ⟨u,rfl,hu⟩:=one_inv h1 hrel
   obtain ⟨p,s,cp,hrho,rfl,_⟩:=hu
   obtain ⟨p',s',arr,ty,hrho',hh,hs,hrl⟩:=hp.blk k b (by simp [inR]) h4
   rw [hrho] at hrho'
   injection hrho' with e
   injection e with e1 e2
   subst e1;subst e2
   have cell:∀ (o:Nat) (z:Int),b.cells[o]? = some (.int z) → w.cell? ⟨p,o,none⟩ = some (.int .i64 z):=by
    intro o z hz
    obtain ⟨x,g1,g2⟩:=hrl.get o _ hz
    have g2:x = .int .i64 z:=g2
    rw [cell_of hh,← g2,← g1,Array.getElem?_toList]
   refine (cmpOr x y p cp w (cell 0 x (by rw [hb,← cInt_inv h5];rfl)) (cell 1 y (by rw [hb,← cInt_inv h6];rfl))).mono fun e u ⟨he,hw⟩=>?_
   subst hw
   refine ⟨_,E,he,out_pure hp.gi ?_⟩
   have:orI x y = bi (ibeq x 0) y x:=by
    rw [ibeq_eq]
    unfold orI
    by_cases h:x = 0
    ·simp [h]
    ·have:(x == 0) = false:=by simp [h]
     rw [this,if_neg h]
   rw [this]
   rfl
  | [],hr=>cases hr
  | [_],hr=>cases hr
 ·cases hr
end
theorem CE.later {z:Nat} {w w':World} {g:Nat} {A:Option Addr} {n c i:Nat} {h:Int} (hc:CE z w g A n c i h) (hg:g < w.heap.size) (hb:Below w.heap.size w w'):CE z w' g A n c i h:=hc.same (hb.block g hg)
theorem CE.far {z:Nat} {w:World} {g:Nat} {A:Option Addr} {n c i:Nat} {h:Int} (hc:CE z w g A n c i h) {k o:Nat} (hk:k ≠ g) (x:Value):CE z (w.setCell ⟨k,o,none⟩ x) g A n c i h :=
 hc.same (Below.heap_setCell _ _ _ _ hk.symm)
theorem BE.cf {w w':World} {A:Option Addr} {n g:Nat} {y:Nat → Int} (h:BE w A n y) (hne:n ≠ 0 → ∀ a,A = some a → a.block ≠ g) (hf:CF g w w'):BE w' A n y :=
 h.same fun hn a ha=>hf.block _ (by obtain ⟨b,o,e,hlt,_⟩:=h hn;rw [ha] at e;injection e with e;rw [e];exact hlt) (hne hn a ha)
theorem ePick (z g n c i:Nat) (k:Int) (A:Option Addr) (y:Nat → Int) (xs:List Int) (l d:Nat) (B:Option Addr) (hl:xs.length = l) (h1:1 ≤ l) (h2:l ≤ 256) (w:World) (hgl:g < w.heap.size) (hn:n ≤ 1048576) (hy:Byt y)
 (hne:n ≠ 0 → ∀ a,A = some a → a.block ≠ g) (hb:BE w A n y) (h:CE z w g A n c i k) (hB:RI w B xs) (hBg:∀ a,B = some a → a.block ≠ g) :
 Calls Tryz.prog 159 #[.pointer (some ⟨g,0,none⟩),.slice B l d] w fun e w'=>e = .returned (.int .i64 (xs.getD ((nxtB n y (i,k)) % (l:Int)).toNat 0))∧CE z w' g A n c (nxt n (i,k)).1 (nxt n (i,k)).2∧CF g w w':=by
 have HC:=Lib.hid (fun W (hW:Below w.heap.size w W)=>eBelow z g n c i k A y l (by omega) (by omega) W (Nat.lt_of_lt_of_le hgl hW.size) hn hy hne (hb.same fun hn a ha=>hW.block _ (by obtain ⟨b,o,e,hlt,_⟩:=hb hn;rw [ha] at e;injection e with e;rw [e];exact hlt)) (h.later hgl hW))
 obtain ⟨b,o,rfl,hb',hc⟩:=hB (by intro e;rw [e] at hl;simp at hl;omega)
 have hbg:b ≠ g:=hBg _ rfl
 have HR:=Lib.hid hc
 have HX:=nxtB_in n y (i,k)
 have HE:=Lib.hid (show nxtB n y (i,k) % (l:Int) = (((nxtB n y (i,k)) % (l:Int)).toNat:Int) from (Int.toNat_of_nonneg (Int.emod_nonneg _ (by omega))).symm)
 have hlt:((nxtB n y (i,k)) % (l:Int)).toNat < l:=by
  have:=Int.emod_lt_of_pos (nxtB n y (i,k)) (show (0:Int) < l by omega)
  have:=Int.emod_nonneg (nxtB n y (i,k)) (show (l:Int) ≠ 0 by omega)
  omega
 generalize ((nxtB n y (i,k)) % (l:Int)).toNat = j at *
 clear h hB hc hBg hb hy hne HX
 go_enter Tryz.func159,Tryz.ntmps159
 go_wp2_with fail
 refine (HC.out _ (by exact Below.refl _ _)).mono ?_
 rintro e w1 ⟨he,hc,hf⟩
 have he:e = .returned (.int .i64 (j:Int)):=by rw [he];exact congrArg (fun x=>Ending.returned (.int .i64 x)) HE.out
 subst he
 have hr:w1.cell? ⟨b,o + j,none⟩ = some (.int .i64 (xs.getD j 0)):=(hf.cell hb' hbg).trans (HR.out j (by omega))
 have hc':=Lib.hid hc
 have hf':=Lib.hid hf
 clear hc hf HE HC HR
 obtain ⟨x,hx⟩:∃ x,xs.getD j 0 = x:=⟨_,rfl⟩
 rw [hx] at hr
 replace hx:=Lib.hid hx
 go_wp2
 go_ret
 exact ⟨by rw [hx.out];rfl,hc'.out,hf'.out⟩
def fewL:List Int:=[1,1,1,2,3]
def nx2 (n:Nat) (s:Nat × Int):Nat × Int:=nxt n (nxt n s)
def fewN (n:Nat) (y:Nat → Int) (s:Nat × Int):Int:=nxtB n y s % 21 - 10
def fewD (n:Nat) (y:Nat → Int) (s:Nat × Int):Int:=fewL.getD ((nxtB n y (nxt n s)) % 5).toNat 0
theorem eFew (z g n c i:Nat) (k:Int) (A:Option Addr) (y:Nat → Int) (w:World) (hgl:g < w.heap.size) (hn:n ≤ 1048576) (hy:Byt y)
 (hne:n ≠ 0 → ∀ a,A = some a → a.block ≠ g) (hb:BE w A n y) (h:CE z w g A n c i k) :
 Calls Tryz.prog 79 #[.pointer (some ⟨g,0,none⟩)] w fun e w'=>∃ v,e = .returned v∧RatP w' w.heap.size v (FE.lowI (fewN n y (i,k)) (fewD n y (i,k)).natAbs)∧CE z w' g A n c (nx2 n (i,k)).1 (nx2 n (i,k)).2∧CF g w w':=by
 have HB:=Lib.hid (fun W (hg:g < W.heap.size) (hb:BE W A n y) (hW:CE z W g A n c i k)=>eBelow z g n c i k A y 21 (by decide) (by decide) W hg hn hy hne hb hW)
 have HM:=Lib.hid (show n ≠ 0 → ∀ a,A = some a → a.block < w.heap.size from fun hn a ha=>by obtain ⟨b,o,e,hlt,_⟩:=hb hn;rw [ha] at e;injection e with e;rw [e];exact hlt)
 have HBe:=Lib.hid (fun W (hW:CF g w W)=>hb.cf hne hW)
 have HC:=Lib.hid h
 have HY:=Lib.hid hy
 have HNE:=Lib.hid hne
 have HX:=nxtB_in n y (i,k)
 have HD:1 ≤ fewD n y (i,k)∧fewD n y (i,k) ≤ 3:=by
  unfold fewD
  have h1:=Int.emod_lt_of_pos (nxtB n y (nxt n (i,k))) (show (0:Int) < 5 by omega)
  have h2:=Int.emod_nonneg (nxtB n y (nxt n (i,k))) (show (5:Int) ≠ 0 by omega)
  generalize (nxtB n y (nxt n (i,k))) % 5 = q at *
  have h5:q = 0 ∨ q = 1 ∨ q = 2 ∨ q = 3 ∨ q = 4:=by omega
  rcases h5 with rfl | rfl | rfl | rfl | rfl <;> decide
 have HP:=Lib.hid (fun (W:World) (l d:Nat) (B:Option Addr) (hl:fewL.length = l) h1 h2 hg hb hW hB hBg=>ePick z g n c (nxt n (i,k)).1 (nxt n (i,k)).2 A y fewL l d B hl h1 h2 W hg hn hy hne hb hW hB hBg)
 have HFD:=show fewL.getD ((nxtB n y ((nxt n (i,k)).1,(nxt n (i,k)).2)) % ((5:Nat):Int)).toNat 0 = fewD n y (i,k) from rfl
 have HFN:fewN n y (i,k) = nxtB n y (i,k) % 21 - 10:=rfl
 have H21:=Int.emod_lt_of_pos (nxtB n y (i,k)) (show (0:Int) < 21 by omega)
 have H22:=Int.emod_nonneg (nxtB n y (i,k)) (show (21:Int) ≠ 0 by omega)
 have HN2:=Lib.hid (show nxt n ((nxt n (i,k)).1,(nxt n (i,k)).2) = nx2 n (i,k) from rfl)
 rw [HFN]
 clear HFN
 obtain ⟨x,hx⟩:∃ x,nxtB n y (i,k) % 21 = x:=⟨_,rfl⟩
 obtain ⟨q,hq⟩:∃ q,fewD n y (i,k) = q:=⟨_,rfl⟩
 rw [hx] at H21 H22 ⊢
 rw [hq] at HFD HD ⊢
 clear hq
 have HFD:=Lib.hid HFD
 have HQ:=Lib.hid (fun W=>sRatOf (x - 10) q (by omega) (by omega) HD.1 (by omega) W)
 generalize FE.lowI (x - 10) q.natAbs = R at *
 have HXE:=Lib.hid hx
 clear h hb hy hne HX hx
 go_enter Tryz.func79,Tryz.ntmps79
 go_wp2_with fail
 have al:=below_alloc1 w (.cells #[.bool false,.slice none 0 0,.slice none 0 0] 50)
 have R0:=Slots.new (Below.refl _ (w.alloc (.cells #[.bool false,.slice none 0 0,.slice none 0 0] 50))) (g:=w.heap.size) rfl
 refine (HB.out _ (by simp;omega) (HBe.out _ (CF.later al)) (HC.out.later hgl al)).mono ?_
 rintro e w1 ⟨he,hc1,hf1⟩
 have he:e = .returned (.int .i64 x):=by rw [he];exact congrArg (fun x=>Ending.returned (.int .i64 x)) HXE.out
 subst he
 clear HXE HB
 have hcf:=(CF.later al).trans hf1
 replace R0:=R0.frame hf1 (by omega)
 have hz1:=hf1.size
 simp only [World.size_alloc] at hz1
 have HC1:=Lib.hid hc1
 have HCF:=Lib.hid hcf
 clear hc1 hf1 hcf al HC
 go_wp2_with fail
 have hA:Arr (w1.alloc (.cells #[.int .i64 1,.int .i64 1,.int .i64 1,.int .i64 2,.int .i64 3] 3)) w1.heap.size 5 [1,1,1,2,3]:=⟨[],rfl,by decide,heap_alloc_new _ _⟩
 have hR:=RI.of_own (OI.of_arr hA (Nat.le_refl _))
 have al:=below_alloc1 w1 (.cells #[.int .i64 1,.int .i64 1,.int .i64 1,.int .i64 2,.int .i64 3] 3)
 refine (HP.out _ 5 5 _ rfl (by decide) (by decide) (by simp;omega) (HBe.out _ (HCF.out.trans (CF.later al))) (HC1.out.later (by omega) al) hR (fun a ha=>by injection ha with ha;subst ha;show w1.heap.size ≠ g;omega)).mono ?_
 rintro e w2 ⟨he,hc2,hf2⟩
 rw [HFD.out] at he
 rw [HN2.out] at hc2
 subst he
 have hcf:=(HCF.out.trans (CF.later al)).trans hf2
 replace R0:=(R0.later al).frame hf2 (by omega)
 have hz2:=hf2.size
 simp only [World.size_alloc] at hz2
 have HC2:=Lib.hid hc2
 have HCF:=Lib.hid hcf
 clear hc2 hf2 hcf al HC1 hA hR HP HFD HN2
 go_wp2_with fail
 refine (HQ.out _).mono ?_
 rintro e w5 ⟨v5,rfl,hrp,hb5⟩
 have hcf:=HCF.out.trans (CF.later hb5)
 have hc5:=HC2.out.later (by omega) hb5
 replace R0:=R0.later hb5
 replace hrp:=hrp.mono (base':=w.heap.size + 1) (by omega)
 obtain ⟨A6,n6,c6,B6,m6,d6,rfl⟩:=hrp.shape
 obtain ⟨b0,b1,b2,z0,z1,z2⟩:=R0.c3
 have f6:=hrp.far3 (g:=w.heap.size) (Nat.lt_succ_self _) (.bool R.neg) (.slice A6 n6 c6) (.slice B6 m6 d6)
 have hkg:w.heap.size ≠ g:=by omega
 have hcG:=((hc5.far (o:=0) hkg (.bool R.neg)).far (o:=1) hkg (.slice A6 n6 c6)).far (o:=2) hkg (.slice B6 m6 d6)
 have hfG:=Frame.fresh3 hcf (Nat.le_refl w.heap.size) (.bool R.neg) (.slice A6 n6 c6) (.slice B6 m6 d6)
 replace hcG:=Lib.hid hcG
 replace hfG:=Lib.hid hfG
 clear R0 hrp hcf hc5 HC2 HCF hkg
 go_wp2
 exact bodyPost_ret (v:=.agg #[.bool R.neg,.slice A6 n6 c6,.slice B6 m6 d6]) (by simp [results,Tryz.results79,go_sem,b0,b1,b2]) rfl ⟨_,rfl,f6.mono (by omega),hcG.out,hfG.out⟩
section
variable {val:X → Rat} {drw:Drw} {E:Env} {w u:World} {st:St}
theorem addT_le {j:Nat} {cs:TokD} (hn:E.sig j = none):E.le (addT E j cs) :=
 ⟨fun _ _ h=>h,fun i v hi=>by
  have:i ≠ j:=fun e=>by rw [e,hn] at hi;cases hi
  simp [addT,this,hi],rfl⟩
theorem out_newtok {cs:TokD} {v v0:V} {x x0:Value} {m':T Blk} {W:List Nat} {rd:Option (List Nat)}
 (h0:Out (toks val drw) E w st ⟨v0,⟨m',st.nb,st.nt⟩,W,rd⟩ E u x0) (hn:E.sig st.nt = none)
 (hT:∃ G,(∀ b ∈ G,b < u.heap.size∧∀ k s,E.rho k ≠ some (b,s))∧TVal val st.nt G u cs) (hv:RelV (addT E st.nt cs) v x) :
 Out (toks val drw) E w st ⟨v,⟨m',st.nb,st.nt + 1⟩,W,rd⟩ (addT E st.nt cs) u x:=by
 have hle:=addT_le (cs:=cs) hn
 have hsame:(addT E st.nt cs).sig st.nt = some cs:=by simp [addT]
 have hs:=h0.step
 refine ⟨⟨hle,fun k h=>absurd rfl h,fun j hj=>?_,hs.os,hs.tape,hs.output,hs.size,hs.kept,hs.fresh,?_⟩,hv,fun k b hk hg=>?_,h0.inj⟩
 ·by_cases e:j = st.nt
  ·subst e;exact ⟨Nat.le_refl _,Nat.lt_succ_self _⟩
  ·exact absurd (by simp [addT,e]) hj
 ·refine ⟨hs.gi.low,fun j cs' hj=>?_,hs.gi.base⟩
  by_cases e:j = st.nt
  ·subst e
   rw [hsame] at hj
   injection hj with hj
   subst hj
   exact hT
  ·exact hs.gi.tok j cs' (by simpa [addT,e] using hj)
 ·obtain ⟨p,s,arr,ty,h1,h2,h3,h4⟩:=h0.blk k b hk hg
  exact ⟨p,s,arr,ty,h1,h2,h3,h4.mono hle⟩
theorem rat_token {x:Value} {z:X} {base nt:Nat} (hz:z.kd ≠ 1) (hsm:FE.small (val z) = true) (hr:RatP u base x (FE.ofQ (val z))) (hlow:∀ k p s,E.rho k = some (p,s) → p < base) :
 ∃ cs:TokD,(∃ G,(∀ b ∈ G,b < u.heap.size∧∀ k s,E.rho k ≠ some (b,s))∧TVal val nt G u cs)∧RelV (addT E nt cs) (.s (rat nt z)) x:=by
 obtain ⟨va,vb,rfl,h1,h2,_⟩:=hr
 obtain ⟨A,c,rfl,hl,hc,_⟩:=id h1
 obtain ⟨B,d,rfl,hm,hd,_⟩:=id h2
 have f1:=ro_fresh h1
 have f2:=ro_fresh h2
 generalize hR:FE.ofQ (val z) = R at *
 let cs:TokD:=⟨#[.bool R.neg,.slice A R.mag.length c,.slice B R.den.length d],z⟩
 have hsame:(addT E nt cs).sig nt = some cs:=by simp [addT]
 refine ⟨cs,⟨(match A with | some a=>if R.mag = [] then [] else [a.block] | none=>[]) ++ (match B with | some b=>if R.den = [] then [] else [b.block] | none=>[]),fun b hbm=>?_,?_⟩,?_⟩
 ·have key:base ≤ b∧b < u.heap.size:=by
   rcases List.mem_append.1 hbm with hbm | hbm
   ·cases A with
    | none=>simp at hbm
    | some a =>
     by_cases hx:R.mag = []
     ·simp [hx] at hbm
     ·simp [hx] at hbm
      subst hbm
      exact f1 hx a rfl
   ·cases B with
    | none=>simp at hbm
    | some a =>
     by_cases hx:R.den = []
     ·simp [hx] at hbm
     ·simp [hx] at hbm
      subst hbm
      exact f2 hx a rfl
  exact ⟨key.2,fun k s hk=>by have:=hlow k b s hk;omega⟩
 ·unfold TVal
  rw [if_neg hz]
  show TRat (val z) _ u #[.bool R.neg,.slice A R.mag.length c,.slice B R.den.length d]
  unfold TRat
  rw [hR]
  refine ⟨hsm,A,c,B,d,rfl,⟨hl,hc,hm,hd⟩,h1.reads,h2.reads,fun a ha hx=>?_,fun a ha hx=>?_⟩
  ·subst ha;simp [hx]
  ·subst ha;simp [hx]
 ·refine ⟨cs.cs,rfl,⟨cs,hsame,⟨rfl,rfl⟩,?_,?_⟩,⟨cs,hsame,⟨rfl,rfl⟩,?_,?_⟩,⟨cs,hsame,⟨rfl,rfl⟩,?_,?_⟩,trivial⟩ <;> simp
theorem cur_open {k0 p:Nat} {b:Blk} (hg:GI (toks val drw) E w) (hm:BlkOk E w k0 b) (h8:asCur b.cells = some p) :
 ∃ g s A n c y,E.rho k0 = some (g,s)∧E.fix = fixOf A n c y∧g < w.heap.size∧n ≤ 1048576∧Byt y∧(n ≠ 0 → ∀ a,A = some a → a.block ≠ g)∧BE w A n y∧CE s w g A n c (stp n y p).1 (stp n y p).2:=by
 obtain ⟨g,s,arr,ty,hrho,hh,hsz,hrl⟩:=hm
 obtain ⟨G,hG,A,n,cp,y,hfix,hbe,hby,hn,hfoot,hdr⟩:=id hg.base
 have hlt:=hg.low _ _ _ hrho
 rw [asCur_inv h8] at hrl
 have hcell:∀ (o:Nat) (c:C) (v:Value),(curC p)[o]? = some c → (∀ x,RelC E c x → x = v) → w.cell? ⟨g,o,none⟩ = some v:=by
  intro o c v hc hx
  obtain ⟨x,h1,h2⟩:=hrl.get o c hc
  rw [cell_of hh,← hx x h2,← h1,Array.getElem?_toList]
 refine ⟨g,s,A,n,cp,y,hrho,hfix,hlt,hn,hby,fun hn0 a ha e=>?_,hbe,stp_le n y p,hcell 0 _ _ rfl ?_,hcell 1 _ _ rfl ?_,hcell 2 _ _ rfl ?_,fun o=>frozen_of_row _ _ _ _ _ hh,arr,ty,hh,hsz⟩
 ·have:=(hG _ (hfoot hn0 a ha)).2 k0 s
  rw [e] at this
  exact this hrho
 all_goals
  rintro x ⟨hx,_⟩
  rw [hfix] at hx
  have hx':some _ = some x:=hx
  injection hx' with hx'
  exact hx'.symm
theorem cur_turned {k0 g s p:Nat} {A:Option Addr} {n c:Nat} {y:Nat → Int} {v:V} {x:Value} {rd:Option (List Nat)} (hst:StOk st) (h0:k0 < st.nb)
 (hp:Pre (toks val drw) E w st ⟨v,⟨st.mem.set k0 (some ⟨curC p⟩),st.nb,st.nt⟩,[k0],rd⟩) (hrho:E.rho k0 = some (g,s)) (hfix:E.fix = fixOf A n c y)
 (hc:CE s u g A n c (stp n y p).1 (stp n y p).2) (hf:CF g w u) (hv:RelV E v x) :
 Out (toks val drw) E w st ⟨v,⟨st.mem.set k0 (some ⟨curC p⟩),st.nb,st.nt⟩,[k0],rd⟩ E u x:=by
 obtain ⟨arr',ty',hh',hsz'⟩:=hc.row
 refine out_write hst h0 hp hrho hf hh' hsz' ?_ hv
 have hcur:=cur_rel hfix p
 have e3:∀ o v,u.cell? ⟨g,o,none⟩ = some v → arr'.toList[o]? = some v:=fun o v ho=>by rw [Array.getElem?_toList,← cell_of hh'];exact ho
 have a0:=e3 0 _ hc.sl
 have a1:=e3 1 _ hc.at_
 have a2:=e3 2 _ hc.hash
 match hl:arr'.toList,a0,a1,a2 with
 | u0 :: u1 :: u2 :: rest,a0,a1,a2 =>
  simp at a0 a1 a2
  subst a0 a1 a2
  exact ⟨hcur.1,hcur.2.1,hcur.2.2.1,trivial⟩
 | [],a0,_,_=>simp at a0
 | [_],_,a1,_=>simp at a1
 | [_,_],_,_,a2=>simp at a2
/-! ### The contracts -/
noncomputable def curAt (l:List V) (st:St):Option (Nat × Nat):=ob (one l) fun c=>ob (cPtr c) fun a=>bi (Nat.beq a.2 0) (ob (st.mem.get a.1) fun b=>ob (asCur b.cells) fun p=>some (a.1,p)) none
noncomputable def orByte (l:List V) (st:St):Option R:=ob (curAt l st) fun q=>some ⟨.s (.c (.dr 0 q.2 256)),⟨st.mem.set q.1 (some ⟨curC (Nat.add q.2 1)⟩),st.nb,st.nt⟩,[q.1],some [q.1]⟩
noncomputable def orFew (ux:Nat → Option X) (l:List V) (st:St):Option R :=
 ob (curAt l st) fun q=>ob (ux q.2) fun z=>some ⟨.s (rat st.nt z),⟨st.mem.set q.1 (some ⟨curC (Nat.add q.2 2)⟩),st.nb,Nat.add st.nt 1⟩,[q.1],some [q.1]⟩
theorem curAt_inv {l:List V} {q:Nat × Nat} (h:curAt l st = some q):∃ c b,one l = some c∧c = .ptr q.1 0∧st.mem.get q.1 = some b∧asCur b.cells = some q.2:=by
 obtain ⟨c,h1,h⟩:=ob_inv h
 obtain ⟨⟨k0,o⟩,h2,h⟩:=ob_inv h
 obtain ⟨h3,h⟩:=bi_inv h
 obtain ⟨b,h4,h⟩:=ob_inv h
 obtain ⟨p,h5,h⟩:=ob_inv h
 injection h with h
 subst h
 have h3:=beq_inv h3
 simp only at h3
 subst h3
 exact ⟨c,b,h1,cPtr_inv h2,h4,h5⟩
theorem byte_nat {n:Nat} {y:Nat → Int} (c:Nat) (A:Option Addr) (p:Nat):nxtB n y (stp n y p) = (((fixOf A n c y).byte p:Nat):Int):=(Int.toNat_of_nonneg (nxtB_in n y _).1).symm
theorem byte_lt {n:Nat} {y:Nat → Int} (c:Nat) (A:Option Addr) (p:Nat):(fixOf A n c y).byte p < 256:=by
 have h1:=byte_nat (y:=y) (n:=n) c A p
 have h2:=nxtB_in n y (stp n y p)
 omega
theorem orByte_ok:OrcOne Tryz.prog (toks val drw) 156 orByte:=by
 intro vl st r hr hst
 obtain ⟨⟨k0,p⟩,h1,hr⟩:=ob_inv hr
 injection hr with hr
 subst hr
 obtain ⟨c,b,h2,h3,h4,h5⟩:=curAt_inv h1
 simp only at h3 h4 h5
 refine ⟨eff_write hst h4,Tryz.call156,fun E w vs hrel hp=>?_⟩
 obtain ⟨x1,rfl,hv1⟩:=one_inv h2 hrel
 rw [h3] at hv1
 obtain ⟨g,s,hrho,rfl⟩:=hv1
 obtain ⟨g',s',A,n,cp,y,hrho',hfix,hlt,hn,hby,hne,hbe,hce⟩:=cur_open hp.gi (hp.blk k0 b (by simp [inR]) h4) h5
 rw [hrho] at hrho'
 injection hrho' with e
 injection e with e1 e2
 subst e1;subst e2
 refine (eByte s g n cp (stp n y p).1 (stp n y p).2 A y w hlt hn hby hne hbe hce).mono fun e u ⟨he,hc,hf⟩=>?_
 have he':e = .returned (.int .i64 (nxtB n y (stp n y p))):=he
 have hc':CE s u g A n cp (stp n y (p + 1)).1 (stp n y (p + 1)).2:=hc
 refine ⟨_,E,he',cur_turned hst (hst.lt h4) hp hrho hfix hc' hf ?_⟩
 show Value.int .i64 _ = Value.int .i64 _
 rw [hfix,byte_nat cp A p,Nat.mod_eq_of_lt (byte_lt cp A p),Int.zero_add]
theorem few_val {n:Nat} {y:Nat → Int} (c:Nat) (A:Option Addr) (p:Nat) :
 fewN n y (stp n y p) = (((fixOf A n c y).byte p % 21:Nat):Int) - 10∧(fewD n y (stp n y p)).natAbs = fewNat ((fixOf A n c y).byte (p + 1) % 5)∧0 < fewNat ((fixOf A n c y).byte (p + 1) % 5):=by
 refine ⟨?_,?_⟩
 ·unfold fewN
  rw [byte_nat c A p,Int.natCast_emod]
  rfl
 ·have e:fewD n y (stp n y p) = fewL.getD ((nxtB n y (stp n y (p + 1))) % 5).toNat 0:=rfl
  rw [e,byte_nat c A (p + 1)]
  have h:((((fixOf A n c y).byte (p + 1):Nat):Int) % 5).toNat = (fixOf A n c y).byte (p + 1) % 5:=by omega
  rw [h]
  have h5:(fixOf A n c y).byte (p + 1) % 5 < 5:=Nat.mod_lt _ (by decide)
  generalize (fixOf A n c y).byte (p + 1) % 5 = q at *
  have:q = 0 ∨ q = 1 ∨ q = 2 ∨ q = 3 ∨ q = 4:=by omega
  rcases this with rfl | rfl | rfl | rfl | rfl <;> decide
theorem eff_write_tok {k0:Nat} {b0 b1:Blk} {v:V} (hst:StOk st) (h0:st.mem.get k0 = some b0):Eff st ⟨v,⟨st.mem.set k0 (some b1),st.nb,Nat.add st.nt 1⟩,[k0],some [k0]⟩:=by
 have h:=eff_write (b1:=b1) (v:=v) hst h0
 exact ⟨h.nb,Nat.le_succ _,h.same,h.live,⟨h.ok.nb,h.ok.dom⟩,h.rdw⟩
theorem orFew_ok {ux:Nat → Option X} (hu:UxOk val drw ux):OrcOne Tryz.prog (toks val drw) 79 (orFew ux):=by
 intro vl st r hr hst
 obtain ⟨⟨k0,p⟩,h1,hr⟩:=ob_inv hr
 obtain ⟨z,hz,hr⟩:=ob_inv hr
 injection hr with hr
 subst hr
 obtain ⟨c,b,h2,h3,h4,h5⟩:=curAt_inv h1
 simp only at h3 h4 h5 hz
 obtain ⟨gz,ez⟩:=hu p z hz
 refine ⟨eff_write_tok hst h4,Tryz.call79,fun E w vs hrel hp=>?_⟩
 obtain ⟨x1,rfl,hv1⟩:=one_inv h2 hrel
 rw [h3] at hv1
 obtain ⟨g,s,hrho,rfl⟩:=hv1
 obtain ⟨g',s',A,n,cp,y,hrho',hfix,hlt,hn,hby,hne,hbe,hce⟩:=cur_open hp.gi (hp.blk k0 b (by simp [inR]) h4) h5
 rw [hrho] at hrho'
 injection hrho' with e
 injection e with e1 e2
 subst e1;subst e2
 refine (eFew s g n cp (stp n y p).1 (stp n y p).2 A y w hlt hn hby hne hbe hce).mono fun e u ⟨v,he,hr,hc,hf⟩=>?_
 have hc':CE s u g A n cp (stp n y (p + 2)).1 (stp n y (p + 2)).2:=hc
 obtain ⟨q1,q2,q3⟩:=few_val (n:=n) (y:=y) cp A p
 have hr':RatP u w.heap.size v (FE.lowI (fewN n y (stp n y p)) (fewD n y (stp n y p)).natAbs):=hr
 rw [q1,q2] at hr'
 have ez':val z = _root_.mkRat ((((fixOf A n cp y).byte p % 21:Nat):Int) - 10) (fewNat ((fixOf A n cp y).byte (p + 1) % 5)):=by
  rw [ez,← fix_of hp.gi,hfix];rfl
 rw [low_is z q3 ez' gz.sm] at hr'
 have hn0:=hp.newT st.nt (Nat.le_refl _) (Nat.lt_succ_self _)
 have hp0:Pre (toks val drw) E w st ⟨vB true,⟨st.mem.set k0 (some ⟨curC (p + 2)⟩),st.nb,st.nt⟩,[k0],some [k0]⟩:=⟨hp.gi,hp.blk,hp.inj,hp.newB,fun j h1 h2=>by have:j < st.nt:=h2;omega⟩
 have h0:=cur_turned (x:=.bool true) hst (hst.lt h4) hp0 hrho hfix hc' hf rfl
 obtain ⟨cs,hT,hv⟩:=rat_token (nt:=st.nt) gz.kd gz.sm hr' (fun k p s hk=>hp.gi.low k p s hk)
 exact ⟨v,_,he,out_newtok h0 hn0 hT hv⟩
end
theorem OI.cf {w w':World} {base g:Nat} {v:Value} {xs:List Int} (h:OI w base v xs) (hf:CF g w w') (hg:g < base):OI w' base v xs:=by
 rcases h.2 with ⟨rfl,h0⟩ | ⟨k,cap,cur,rfl,hb,hh,hnc,hcm,hcs,htake⟩
 ·exact ⟨h.1,.inl ⟨rfl,h0⟩⟩
 ·refine ⟨h.1,.inr ⟨k,cap,cur,rfl,hb,?_,hnc,hcm,hcs,htake⟩⟩
  rw [hf.block k ((Array.getElem?_eq_some_iff.1 hh).1) (by omega)]
  exact hh
def flags (xs:List Int) (n:Nat):List Bool:=(List.range n).map fun (i:Nat)=>decide ((i:Int) ∈ xs)
def BArr (w:World) (g:Nat) (bs:List Bool):Prop:=w.heap[g]? = some (.cells (bs.map Value.bool).toArray 4 (0,0))
theorem BArr.set {w:World} {g:Nat} {bs:List Bool} (h:BArr w g bs) (i:Nat) (b:Bool):BArr (w.setCell ⟨g,i,none⟩ (.bool b)) g (bs.set i b):=by
 unfold BArr at *
 simp only [World.setCell,Array.getElem?_modify,h,if_true]
 simp [List.map_set]
theorem BArr.cell {w:World} {g:Nat} {bs:List Bool} (h:BArr w g bs) (i:Nat) (hi:i < bs.length):w.cell? ⟨g,i,none⟩ = some (.bool bs[i]):=by
 rw [cell_of_row w g i _ _ (0,0) h]
 simp [hi]
theorem BArr.froz {w:World} {g:Nat} {bs:List Bool} (h:BArr w g bs) (i:Nat):w.frozen? ⟨g,i,none⟩ = false:=frozen_of_row _ _ _ _ _ h
section
variable {val:X → Rat} {drw:Drw} {E:Env} {w u:World} {st:St}
end
end Go.Proofs.YtcblajhfehadaaaGreat
