/-
 Shared texts (X8).
-/
import Derived.Test.YtchbnlkambncnaaGreatDoorX1
import Derived.Test.YtchbnlkambncnaaGreatDoorX4
import Derived.Test.YtchbnlkambncnaaGreatDoorX6
import Derived.Test.YtchbnlkambncnaaGreatDoorX7
set_option maxRecDepth 100000
set_option maxHeartbeats 4000000
namespace Go.SX
theorem biq {α:Type} (c:Bool) (a b:α):bi c a b = if c then a else b:=by cases c <;> rfl
abbrev M:=List (Nat × Int)
noncomputable def fz {α:Type} (n:Nat) (f:Nat → α):α:=@Nat.rec (fun _=>α) (f 0) (fun j _=>f (Nat.succ j)) n
theorem fz_eq {α:Type} (n:Nat) (f:Nat → α):fz n f = f n:=by cases n <;> rfl
noncomputable def iadd (a b:Int):Int :=
 @Int.rec (fun _=>Int) (fun m=>@Int.rec (fun _=>Int) (fun n=>.ofNat (Nat.add m n)) (fun n=>bi (Nat.ble (Nat.add n 1) m) (.ofNat (Nat.sub m (Nat.add n 1))) (.negSucc (Nat.sub n m))) b)
  (fun m=>@Int.rec (fun _=>Int) (fun n=>bi (Nat.ble (Nat.add m 1) n) (.ofNat (Nat.sub n (Nat.add m 1))) (.negSucc (Nat.sub m n))) (fun n=>.negSucc (Nat.add (Nat.add m n) 1)) b) a
theorem iadd_eq (a b:Int):iadd a b = a + b:=by
 unfold iadd
 cases a <;> cases b <;> simp only [biq,Nat.add_eq,Nat.sub_eq,Nat.ble_eq]
 ·rename_i m n;show Int.ofNat _ = _;simp
 ·rename_i m n
  split
  ·show Int.ofNat _ = _;rw [Int.negSucc_eq];simp only [Int.ofNat_eq_natCast];omega
  ·rw [Int.negSucc_eq,Int.negSucc_eq];simp only [Int.ofNat_eq_natCast];omega
 ·rename_i m n
  split
  ·show Int.ofNat _ = _;rw [Int.negSucc_eq];simp only [Int.ofNat_eq_natCast];omega
  ·rw [Int.negSucc_eq,Int.negSucc_eq];simp only [Int.ofNat_eq_natCast];omega
 ·rename_i m n
  rw [Int.negSucc_eq,Int.negSucc_eq,Int.negSucc_eq];omega
noncomputable def imul (a b:Int):Int :=
 @Int.rec (fun _=>Int) (fun m=>@Int.rec (fun _=>Int) (fun n=>.ofNat (Nat.mul m n)) (fun n=>bi (Nat.beq m 0) (.ofNat 0) (.negSucc (Nat.sub (Nat.mul m (Nat.add n 1)) 1))) b)
  (fun m=>@Int.rec (fun _=>Int) (fun n=>bi (Nat.beq n 0) (.ofNat 0) (.negSucc (Nat.sub (Nat.mul n (Nat.add m 1)) 1))) (fun n=>.ofNat (Nat.mul (Nat.add m 1) (Nat.add n 1))) b) a
theorem imul_eq (a b:Int):imul a b = a * b:=by
 unfold imul
 cases a <;> cases b <;> simp only [biq,Nat.add_eq,Nat.sub_eq,Nat.mul_eq,Nat.beq_eq]
 ·rename_i m n;show Int.ofNat _ = _;simp
 ·rename_i m n
  split
  ·rename_i h;subst h;simp
  ·rename_i h
   have:0 < m * (n + 1):=Nat.mul_pos (by omega) (by omega)
   rw [Int.negSucc_eq,Int.negSucc_eq];simp only [Int.ofNat_eq_natCast]
   rw [Int.mul_neg]
   have e:((m:Int) * ((n:Int) + 1)) = ((m * (n + 1):Nat):Int):=by simp
   rw [e];omega
 ·rename_i m n
  split
  ·rename_i h;subst h;simp
  ·rename_i h
   have:0 < n * (m + 1):=Nat.mul_pos (by omega) (by omega)
   rw [Int.negSucc_eq,Int.negSucc_eq];simp only [Int.ofNat_eq_natCast]
   rw [Int.neg_mul,Int.mul_comm]
   have e:((n:Int) * ((m:Int) + 1)) = ((n * (m + 1):Nat):Int):=by simp
   rw [e];omega
 ·rename_i m n
  rw [Int.negSucc_eq,Int.negSucc_eq,Int.neg_mul_neg]
  simp
noncomputable def cons0 (m:Nat) (c:Int) (r:M):M :=
 @Int.rec (fun _=>M) (fun n=>@Nat.rec (fun _=>M) r (fun j _=>(m,.ofNat (Nat.succ j)) :: r) n) (fun n=>fz n fun n=>(m,.negSucc n) :: r) c
noncomputable def addM (p:M):M → M :=
 @List.rec (Nat × Int) (fun _=>M → M) (fun q=>q)
  (fun a p ihp=>fun q=>@List.rec (Nat × Int) (fun _=>M) (a :: p)
   (fun b q ihq=>bi (Nat.beq a.1 b.1) (cons0 a.1 (iadd a.2 b.2) (ihp q)) (bi (Nat.ble (Nat.add a.1 1) b.1) (a :: ihp (b :: q)) (b :: ihq))) q) p
noncomputable def sclM (a:Nat × Int) (q:M):M :=
 @List.rec (Nat × Int) (fun _=>M) [] (fun b _ ih=>fz (Nat.add b.1 a.1) fun m=>cons0 m (imul b.2 a.2) ih) q
noncomputable def mulM (p q:M):M:=@List.rec (Nat × Int) (fun _=>M) [] (fun a _ ih=>addM (sclM a q) ih) p
noncomputable def lorM (p:M):Nat:=@List.rec (Nat × Int) (fun _=>Nat) 0 (fun a _ ih=>Nat.lor a.1 ih) p
/-! ### What polynomials mean -/
def mon:List Rat → Nat → Rat
 | [],_=>1
 | r :: l,m=>r ^ (m % 16) * mon l (m / 16)
def ev (l:List Rat):M → Rat
 | []=>0
 | (m,c) :: p=>(c:Rat) * mon l m + ev l p
theorem ev_cons0 (l:List Rat) (m:Nat) (c:Int) (r:M):ev l (cons0 m c r) = (c:Rat) * mon l m + ev l r:=by
 unfold cons0
 cases c with
 | ofNat n =>
  cases n with
  | zero=>show ev l r = _;simp [Rat.zero_mul,Rat.zero_add]
  | succ j=>rfl
 | negSucc n=>show ev l (fz n fun n=>(m,.negSucc n) :: r) = _;rw [fz_eq];rfl
theorem ev_addM (l:List Rat):∀ p q:M,ev l (addM p q) = ev l p + ev l q
 | [],q=>by show ev l q = _;simp [ev,Rat.zero_add]
 | a :: p,[]=>by show ev l (a :: p) = _;simp [ev,Rat.add_zero]
 | a :: p,b :: q=>by
  show ev l (bi (Nat.beq a.1 b.1) (cons0 a.1 (iadd a.2 b.2) (addM p q)) (bi (Nat.ble (Nat.add a.1 1) b.1) (a :: addM p (b :: q)) (b :: addM (a :: p) q))) = _
  rw [biq,biq]
  split
  ·rename_i h
   have h:=Nat.eq_of_beq_eq_true h
   rw [ev_cons0,ev_addM l p q,iadd_eq]
   obtain ⟨m,c⟩:=a;obtain ⟨m',d⟩:=b
   simp only at h
   subst h
   simp only [ev]
   rw [Rat.intCast_add]
   grind
  ·split
   ·show ev l ((a.1,a.2) :: addM p (b :: q)) = _
    simp only [ev]
    rw [ev_addM l p (b :: q)]
    simp only [ev]
    grind
   ·show ev l ((b.1,b.2) :: addM (a :: p) q) = _
    simp only [ev]
    rw [ev_addM l (a :: p) q]
    simp only [ev]
    grind
def Dig (m:Nat):Prop:=∀ v,v < 64 → m.testBit (4 * v + 3) = false
def mask:Nat:=61755780926568637559237858671300217521743991821674967487710711470887002474632
theorem mask_bit:∀ v,v < 64 → mask.testBit (4 * v + 3) = true:=by decide
theorem dig_of_land {m:Nat} (h:Nat.land m mask = 0):Dig m:=by
 intro v hv
 have:(Nat.land m mask).testBit (4 * v + 3) = false:=by rw [h];simp
 have e:(m &&& mask).testBit (4 * v + 3) = false:=this
 rw [Nat.testBit_and,mask_bit v hv,Bool.and_true] at e
 exact e
theorem Dig.lor {a b:Nat} (h:Dig (Nat.lor a b)):Dig a∧Dig b:=by
 constructor <;> intro v hv <;> have e:(a ||| b).testBit (4 * v + 3) = false:=h v hv
 ·rw [Nat.testBit_or,Bool.or_eq_false_iff] at e;exact e.1
 ·rw [Nat.testBit_or,Bool.or_eq_false_iff] at e;exact e.2
theorem Dig.all:∀ {p:M},Dig (lorM p) → ∀ a ∈ p,Dig a.1
 | [],_,a,ha=>by simp at ha
 | b :: p,h,a,ha=>by
  have h':Dig (Nat.lor b.1 (lorM p)):=h
  rcases List.mem_cons.1 ha with rfl | ha
  ·exact h'.lor.1
  ·exact Dig.all h'.lor.2 a ha
def DigK (k m:Nat):Prop:=∀ v,v < k → m.testBit (4 * v + 3) = false
theorem DigK.head {k m:Nat} (h:DigK (k + 1) m):m % 16 < 8:=by
 have e:=h 0 (by omega)
 simp only [Nat.mul_zero,Nat.zero_add] at e
 rw [Nat.testBit_eq_decide_div_mod_eq] at e
 simp at e
 omega
theorem DigK.tail {k m:Nat} (h:DigK (k + 1) m):DigK k (m / 16):=by
 intro v hv
 have e:=h (v + 1) (by omega)
 have:4 * (v + 1) + 3 = 4 + (4 * v + 3):=by omega
 rw [this] at e
 rw [show (16:Nat) = 2 ^ 4 from rfl,Nat.testBit_div_two_pow]
 rw [show 4 * v + 3 + 4 = 4 + (4 * v + 3) by omega];exact e
theorem rpow_add (r:Rat) (a:Nat):∀ b:Nat,r ^ (a + b) = r ^ a * r ^ b
 | 0=>by rw [Nat.add_zero,Rat.pow_zero,Rat.mul_one]
 | b + 1=>by rw [← Nat.add_assoc,Rat.pow_succ,Rat.pow_succ,rpow_add r a b,Rat.mul_assoc]
theorem mon_add:∀ (l:List Rat) (a b:Nat),DigK l.length a → DigK l.length b → mon l (a + b) = mon l a * mon l b
 | [],a,b,_,_=>by simp [mon]
 | r :: l,a,b,ha,hb=>by
  have h1:=DigK.head ha
  have h2:=DigK.head hb
  have e1:(a + b) % 16 = a % 16 + b % 16:=by omega
  have e2:(a + b) / 16 = a / 16 + b / 16:=by omega
  simp only [mon]
  rw [e1,e2,mon_add l _ _ (DigK.tail ha) (DigK.tail hb),rpow_add]
  grind
theorem ev_sclM (l:List Rat) (hl:l.length ≤ 64) (a:Nat × Int) (ha:Dig a.1):∀ q:M,(∀ b ∈ q,Dig b.1) → ev l (sclM a q) = (a.2:Rat) * mon l a.1 * ev l q
 | [],_=>by show ev l [] = _;simp [ev,Rat.mul_zero]
 | b :: q,h=>by
  show ev l (fz (Nat.add b.1 a.1) fun m=>cons0 m (imul b.2 a.2) (sclM a q)) = _
  rw [fz_eq,ev_cons0,ev_sclM l hl a ha q fun b hb=>h b (List.mem_cons_of_mem _ hb),imul_eq,Rat.intCast_mul]
  have hb:=h b List.mem_cons_self
  have:mon l (Nat.add b.1 a.1) = mon l b.1 * mon l a.1:=mon_add l _ _ (fun v hv=>hb v (by omega)) (fun v hv=>ha v (by omega))
  rw [this]
  obtain ⟨m,c⟩:=b
  simp only [ev]
  grind
theorem ev_mulM (l:List Rat) (hl:l.length ≤ 64):∀ p q:M,(∀ b ∈ p,Dig b.1) → (∀ b ∈ q,Dig b.1) → ev l (mulM p q) = ev l p * ev l q
 | [],q,_,_=>by show ev l [] = _;simp [ev,Rat.zero_mul]
 | a :: p,q,hp,hq=>by
  show ev l (addM (sclM a q) (mulM p q)) = _
  rw [ev_addM,ev_sclM l hl a (hp a List.mem_cons_self) q hq,ev_mulM l hl p q (fun b hb=>hp b (List.mem_cons_of_mem _ hb)) hq]
  obtain ⟨m,c⟩:=a
  simp only [ev]
  grind
noncomputable def mulX (p q:M):Option M:=bi (Nat.beq (Nat.land (lorM p) mask) 0) (bi (Nat.beq (Nat.land (lorM q) mask) 0) (some (mulM p q)) none) none
theorem bis_inv {α:Type} {c:Bool} {a b:α} (h:bi c (some a) none = some b):c = true∧a = b:=by
 cases c with
 | true=>injection h with h;exact ⟨rfl,h⟩
 | false=>cases h
theorem ev_mulX {l:List Rat} (hl:l.length ≤ 64) {p q r:M} (h:mulX p q = some r):ev l r = ev l p * ev l q:=by
 unfold mulX at h
 cases h1:Nat.beq (Nat.land (lorM p) mask) 0 with
 | false=>rw [h1] at h;cases h
 | true =>
  rw [h1] at h
  cases h2:Nat.beq (Nat.land (lorM q) mask) 0 with
  | false=>rw [h2] at h;cases h
  | true =>
   rw [h2] at h
   have h:some (mulM p q) = some r:=h
   injection h with h
   subst h
   exact ev_mulM l hl p q (Dig.all (dig_of_land (Nat.eq_of_beq_eq_true h1))) (Dig.all (dig_of_land (Nat.eq_of_beq_eq_true h2)))
/-! ### Content -/
noncomputable def iabs (c:Int):Nat:=@Int.rec (fun _=>Nat) (fun m=>m) (fun m=>Nat.add m 1) c
theorem iabs_eq (c:Int):iabs c = c.natAbs:=by cases c <;> rfl
noncomputable def gcdM (d:Nat) (p:M):Nat:=@List.rec (Nat × Int) (fun _=>Nat → Nat) (fun g=>g) (fun a _ ih g=>bi (Nat.beq g 1) 1 (ih (Nat.gcd (iabs a.2) g))) p d
noncomputable def idiv (c:Int) (g:Nat):Int:=@Int.rec (fun _=>Int) (fun m=>.ofNat (Nat.div m g)) (fun m=>.negSucc (Nat.sub (Nat.div (Nat.add m 1) g) 1)) c
noncomputable def divM (g:Nat) (p:M):M:=@List.rec (Nat × Int) (fun _=>M) [] (fun a _ ih=>cons0 a.1 (idiv a.2 g) ih) p
theorem gcdM_dvd:∀ (p:M) (d:Nat),gcdM d p ∣ d∧∀ a ∈ p,gcdM d p ∣ a.2.natAbs
 | [],d=>⟨Nat.dvd_refl _,fun a h=>by simp at h⟩
 | a :: p,d=>by
  have e:gcdM d (a :: p) = bi (Nat.beq d 1) 1 (gcdM (Nat.gcd (iabs a.2) d) p):=rfl
  rw [e,biq]
  split
  ·exact ⟨Nat.one_dvd _,fun _ _=>Nat.one_dvd _⟩
  ·obtain ⟨h1,h2⟩:=gcdM_dvd p (Nat.gcd (iabs a.2) d)
   refine ⟨Nat.dvd_trans h1 (Nat.gcd_dvd_right _ _),fun b hb=>?_⟩
   rcases List.mem_cons.1 hb with rfl | hb
   ·rw [← iabs_eq];exact Nat.dvd_trans h1 (Nat.gcd_dvd_left _ _)
   ·exact h2 b hb
theorem idiv_mul {c:Int} {g:Nat} (hg:0 < g) (h:g ∣ c.natAbs):idiv c g * (g:Int) = c:=by
 unfold idiv
 cases c with
 | ofNat m =>
  show Int.ofNat (m / g) * (g:Int) = _
  have h':g ∣ m:=h
  have:=Nat.div_mul_cancel h'
  simp only [Int.ofNat_eq_natCast]
  exact_mod_cast this
 | negSucc m =>
  show Int.negSucc ((m + 1) / g - 1) * (g:Int) = _
  have h':g ∣ m + 1:=h
  have e:=Nat.div_mul_cancel h'
  have hp:0 < (m + 1) / g:=Nat.div_pos (Nat.le_of_dvd (by omega) h') hg
  rw [Int.negSucc_eq,Int.negSucc_eq]
  have:((m + 1) / g - 1:Nat) + 1 = (m + 1) / g:=by omega
  have e2:(((m + 1) / g - 1:Nat):Int) + 1 = ((m + 1) / g:Nat):=by exact_mod_cast this
  rw [e2,Int.neg_mul]
  have e3:(((m + 1) / g:Nat):Int) * (g:Int) = ((m + 1:Nat):Int):=by exact_mod_cast e
  rw [e3];simp
theorem ev_divM (l:List Rat) {g:Nat} (hg:0 < g):∀ p:M,(∀ a ∈ p,g ∣ a.2.natAbs) → ev l (divM g p) * (g:Rat) = ev l p
 | [],_=>by show ev l [] * _ = _;simp [ev,Rat.zero_mul]
 | a :: p,h=>by
  show ev l (cons0 a.1 (idiv a.2 g) (divM g p)) * _ = _
  rw [ev_cons0,Rat.add_mul,ev_divM l hg p fun b hb=>h b (List.mem_cons_of_mem _ hb)]
  have e:=idiv_mul hg (h a List.mem_cons_self)
  obtain ⟨m,c⟩:=a
  simp only [ev]
  simp only at e
  have:((idiv c g:Int):Rat) * (g:Rat) = (c:Rat):=by
   rw [← Rat.intCast_natCast,← Rat.intCast_mul,e]
  grind
/-! ### Fractions of polynomials -/
def X.val (l:List Rat) (x:X):Rat:=ev l x.ps / (x.den:Rat)
noncomputable def kM (c:Int) (p:M):M:=@List.rec (Nat × Int) (fun _=>M) [] (fun b _ ih=>cons0 b.1 (imul b.2 c) ih) p
theorem ev_kM (l:List Rat) (c:Int):∀ p:M,ev l (kM c p) = (c:Rat) * ev l p
 | []=>by show ev l [] = _;simp [ev,Rat.mul_zero]
 | b :: p=>by
  show ev l (cons0 b.1 (imul b.2 c) (kM c p)) = _
  rw [ev_cons0,ev_kM l c p,imul_eq,Rat.intCast_mul]
  obtain ⟨m,d⟩:=b
  simp only [ev]
  grind
noncomputable def normX (d:Nat) (p:M):X :=
 fz (gcdM d p) fun g=>bi (Nat.beq g 1) ⟨0,d,p⟩ (fz (Nat.div d g) fun e=>⟨0,e,divM g p⟩)
theorem natCast_ne {d:Nat} (h:0 < d):(d:Rat) ≠ 0:=by
 intro e
 have:(d:Rat) = ((0:Nat):Rat):=e
 rw [Rat.natCast_inj] at this
 omega
theorem normX_val (l:List Rat) {d:Nat} (hd:0 < d) (p:M):(normX d p).val l = ev l p / (d:Rat)∧0 < (normX d p).den:=by
 unfold normX
 rw [fz_eq,biq]
 split
 ·exact ⟨rfl,hd⟩
 ·rw [fz_eq]
  obtain ⟨h1,h2⟩:=gcdM_dvd p d
  have hg:0 < gcdM d p:=Nat.pos_of_dvd_of_pos h1 hd
  have hq:0 < d / gcdM d p:=Nat.div_pos (Nat.le_of_dvd hd h1) hg
  refine ⟨?_,hq⟩
  show ev l (divM (gcdM d p) p) / ((d / gcdM d p:Nat):Rat) = _
  have e:=ev_divM l hg p h2
  have e2:(d:Rat) = ((d / gcdM d p:Nat):Rat) * (gcdM d p:Rat):=by
   rw [← Rat.natCast_mul,Nat.div_mul_cancel h1]
  rw [e2,← e]
  have n1:=natCast_ne hg
  have n2:=natCast_ne hq
  generalize ((d / gcdM d p:Nat):Rat) = a at *
  generalize (gcdM d p:Rat) = b at *
  grind
noncomputable def addF (x y:X) (g:Nat):X :=
 fz (Nat.div y.den g) fun fy=>fz (Nat.div x.den g) fun fx=>fz (Nat.mul x.den fy) fun d=>normX d (addM (kM (.ofNat fy) x.ps) (kM (.ofNat fx) y.ps))
noncomputable def xadd (x y:X):Option X :=
 bi (Nat.ble 1 x.den) (bi (Nat.ble 1 y.den) (some (bi (Nat.beq x.den y.den) (normX x.den (addM x.ps y.ps)) (fz (Nat.gcd x.den y.den) (addF x y)))) none) none
theorem ble_one {n:Nat} (h:Nat.ble 1 n = true):0 < n:=Nat.le_of_ble_eq_true h
theorem xadd_val {l:List Rat} {x y z:X} (h:xadd x y = some z):z.val l = x.val l + y.val l∧0 < z.den:=by
 unfold xadd at h
 cases h1:Nat.ble 1 x.den with
 | false=>rw [h1] at h;cases h
 | true =>
  rw [h1] at h
  obtain ⟨h2,h⟩:=bis_inv (show bi (Nat.ble 1 y.den) (some _) none = some z from h)
  have hx:=ble_one h1
  have hy:=ble_one h2
  subst h
  rw [biq]
  split
  ·rename_i he
   have he:=Nat.eq_of_beq_eq_true he
   obtain ⟨e,p⟩:=normX_val l hx (addM x.ps y.ps)
   refine ⟨?_,p⟩
   rw [e,ev_addM]
   unfold X.val
   rw [← he]
   have:=natCast_ne hx
   grind
  ·rw [fz_eq]
   unfold addF
   rw [fz_eq,fz_eq,fz_eq]
   have g1:=Nat.gcd_dvd_left x.den y.den
   have g2:=Nat.gcd_dvd_right x.den y.den
   generalize Nat.gcd x.den y.den = g at *
   have hg:0 < g:=Nat.pos_of_dvd_of_pos g1 hx
   have hfy:0 < y.den / g:=Nat.div_pos (Nat.le_of_dvd hy g2) hg
   have hfx:0 < x.den / g:=Nat.div_pos (Nat.le_of_dvd hx g1) hg
   have hd:0 < x.den * (y.den / g):=Nat.mul_pos hx hfy
   obtain ⟨e,p⟩:=normX_val l hd (addM (kM (.ofNat (y.den / g)) x.ps) (kM (.ofNat (x.den / g)) y.ps))
   refine ⟨?_,p⟩
   show (normX (x.den * (y.den / g)) (addM (kM (.ofNat (y.den / g)) x.ps) (kM (.ofNat (x.den / g)) y.ps))).val l = _
   rw [e,ev_addM,ev_kM,ev_kM]
   unfold X.val
   have ex:(x.den:Rat) = ((x.den / g:Nat):Rat) * (g:Rat):=by rw [← Rat.natCast_mul,Nat.div_mul_cancel g1]
   have ey:(y.den:Rat) = ((y.den / g:Nat):Rat) * (g:Rat):=by rw [← Rat.natCast_mul,Nat.div_mul_cancel g2]
   have n1:=natCast_ne hg
   have n2:=natCast_ne hfx
   have n3:=natCast_ne hfy
   rw [Rat.natCast_mul,ex,ey]
   simp only [Int.ofNat_eq_natCast,Rat.intCast_natCast]
   generalize ((x.den / g:Nat):Rat) = a at *
   generalize ((y.den / g:Nat):Rat) = b at *
   generalize (g:Rat) = c at *
   grind
noncomputable def xneg (x:X):X:=⟨0,x.den,kM (-1) x.ps⟩
theorem xneg_val (l:List Rat) (x:X):(xneg x).val l = - x.val l:=by
 show ev l (kM (-1) x.ps) / (x.den:Rat) = - (ev l x.ps / (x.den:Rat))
 rw [ev_kM]
 have:(((-1:Int)):Rat) = -1:=rfl
 rw [this]
 grind
noncomputable def xsub (x y:X):Option X:=xadd x (xneg y)
theorem xsub_val {l:List Rat} {x y z:X} (h:xsub x y = some z):z.val l = x.val l - y.val l∧0 < z.den:=by
 obtain ⟨e,p⟩:=xadd_val (l:=l) h
 exact ⟨by rw [e,xneg_val,← Rat.sub_eq_add_neg],p⟩
noncomputable def xmul0 (x y:X) (d:Nat):Option X:=ob (mulX x.ps y.ps) fun p=>some (normX d p)
noncomputable def xmul (x y:X):Option X:=fz (Nat.mul x.den y.den) fun d=>bi (Nat.ble 1 d) (xmul0 x y d) none
theorem ob_inv' {α β:Type} {x:Option α} {f:α → Option β} {b:β} (h:ob x f = some b):∃ a,x = some a∧f a = some b:=by
 cases x with
 | none=>cases h
 | some a=>exact ⟨a,rfl,h⟩
theorem xmul_val {l:List Rat} (hl:l.length ≤ 64) {x y z:X} (h:xmul x y = some z):z.val l = x.val l * y.val l∧0 < z.den:=by
 unfold xmul at h
 rw [fz_eq] at h
 cases h1:Nat.ble 1 (Nat.mul x.den y.den) with
 | false=>rw [h1] at h;cases h
 | true =>
  rw [h1] at h
  have hd:=ble_one h1
  obtain ⟨p,hp,h⟩:=ob_inv' (show ob (mulX x.ps y.ps) (fun p=>some (normX (Nat.mul x.den y.den) p)) = some z from h)
  injection h with h
  subst h
  obtain ⟨e,q⟩:=normX_val l hd p
  refine ⟨?_,q⟩
  rw [e,ev_mulX hl hp]
  unfold X.val
  have:((Nat.mul x.den y.den:Nat):Rat) = (x.den:Rat) * (y.den:Rat):=Rat.natCast_mul _ _
  rw [this]
  have hx:0 < x.den:=Nat.pos_of_ne_zero fun e=>by rw [e] at hd;simp at hd
  have hy:0 < y.den:=Nat.pos_of_ne_zero fun e=>by rw [e] at hd;simp at hd
  have n1:=natCast_ne hx
  have n2:=natCast_ne hy
  grind
/-! ### Bounds -/
def Bnd (h:Nat) (v:Rat):Prop:=∃ D z:Int,0 < D∧D ≤ 2 ^ h∧v * (D:Rat) = (z:Rat)∧-(2 ^ h) ≤ z∧z ≤ 2 ^ h
def BndL:List Rat → List Nat → Prop
 | [],_=>True
 | r :: l,h :: hs=>Bnd h r∧BndL l hs
 | _ :: _,[]=>False
noncomputable def wsum (hs:List Nat):Nat → Nat :=
 @List.rec Nat (fun _=>Nat → Nat) (fun _=>0) (fun h _ ih E=>bi (Nat.beq E 0) 0 (Nat.add (Nat.mul (Nat.mod E 16) h) (ih (Nat.div E 16)))) hs
theorem wsum_zero:∀ hs:List Nat,wsum hs 0 = 0
 | []=>rfl
 | _ :: _=>rfl
theorem wsum_cons (h:Nat) (hs:List Nat) (E:Nat):wsum (h :: hs) E = E % 16 * h + wsum hs (E / 16):=by
 show bi (Nat.beq E 0) 0 (Nat.add (Nat.mul (Nat.mod E 16) h) (wsum hs (Nat.div E 16))) = _
 rw [biq]
 split
 ·rename_i e
  have e:=Nat.eq_of_beq_eq_true e
  subst e
  simp [wsum_zero]
 ·rfl
theorem sub_dig {m E:Nat} (h:m ||| E = E):m % 16 ≤ E % 16∧(m / 16) ||| (E / 16) = E / 16:=by
 constructor
 ·have:(m % 2 ^ 4) ||| (E % 2 ^ 4) = E % 2 ^ 4:=by rw [← Nat.or_mod_two_pow,h]
  have h2:m % 2 ^ 4 ≤ (m % 2 ^ 4) ||| (E % 2 ^ 4):=Nat.left_le_or
  rw [this] at h2
  exact h2
 ·have:(m / 2 ^ 4) ||| (E / 2 ^ 4) = E / 2 ^ 4:=by rw [← Nat.or_div_two_pow,h]
  exact this
theorem pow_nonneg' (h:Nat):(0:Int) < 2 ^ h:=Int.pow_pos (by decide)
theorem mul_bnd {a b A B:Int} (h1:-A ≤ a∧a ≤ A) (h2:-B ≤ b∧b ≤ B):-(A * B) ≤ a * b∧a * b ≤ A * B:=by
 have hA:a.natAbs ≤ A.toNat:=by omega
 have hB:b.natAbs ≤ B.toNat:=by omega
 have h:(a * b).natAbs ≤ A.toNat * B.toNat:=by rw [Int.natAbs_mul];exact Nat.mul_le_mul hA hB
 have e:((A.toNat * B.toNat:Nat):Int) = A * B:=by
  rw [Int.natCast_mul,Int.toNat_of_nonneg (by omega),Int.toNat_of_nonneg (by omega)]
 omega
theorem pow_bnd {z A:Int} (h:-A ≤ z∧z ≤ A):∀ k:Nat,-(A ^ k) ≤ z ^ k∧z ^ k ≤ A ^ k
 | 0=>by simp
 | k + 1=>by
  rw [Int.pow_succ,Int.pow_succ]
  exact mul_bnd (pow_bnd h k) h
theorem rmul_pow (a b:Rat):∀ k:Nat,(a * b) ^ k = a ^ k * b ^ k
 | 0=>by simp [Rat.pow_zero]
 | k + 1=>by rw [Rat.pow_succ,Rat.pow_succ,Rat.pow_succ,rmul_pow a b k];grind
theorem mon_bnd:∀ (l:List Rat) (hs:List Nat),BndL l hs → ∀ E,∃ D:Int,0 < D∧D ≤ 2 ^ wsum hs E ∧
 ∀ m,m ||| E = E → ∃ z:Int,mon l m * (D:Rat) = (z:Rat)∧-(2 ^ wsum hs E) ≤ z∧z ≤ 2 ^ wsum hs E
 | [],hs,_,E=>by
  refine ⟨1,by decide,?_,fun m _=>⟨1,by simp [mon],?_,?_⟩⟩
  ·have:=pow_nonneg' (wsum hs E);omega
  ·have:=pow_nonneg' (wsum hs E);omega
  ·have:=pow_nonneg' (wsum hs E);omega
 | r :: l,h :: hs,⟨hr,hb⟩,E=>by
  obtain ⟨d,z0,d0,d1,e0,b1,b2⟩:=hr
  obtain ⟨D,D0,D1,ih⟩:=mon_bnd l hs hb (E / 16)
  rw [wsum_cons]
  have ep:(2:Int) ^ (E % 16 * h + wsum hs (E / 16)) = (2 ^ h) ^ (E % 16) * 2 ^ wsum hs (E / 16):=by
   rw [Int.pow_add,Nat.mul_comm (E % 16) h,Int.pow_mul]
  have dp:(0:Int) < d ^ (E % 16):=Int.pow_pos d0
  have hp:=pow_nonneg' h
  have dle:=pow_bnd (z:=d) (A:=2 ^ h) ⟨by omega,d1⟩
  have Dle:-(2 ^ wsum hs (E / 16)) ≤ D∧D ≤ 2 ^ wsum hs (E / 16):=⟨by omega,D1⟩
  refine ⟨d ^ (E % 16) * D,Int.mul_pos dp D0,?_,fun m hm=>?_⟩
  ·rw [ep]
   exact (mul_bnd (dle _) Dle).2
  ·obtain ⟨q1,q2⟩:=sub_dig hm
   obtain ⟨z,ez,zb⟩:=ih (m / 16) q2
   refine ⟨z0 ^ (m % 16) * d ^ (E % 16 - m % 16) * z,?_,?_⟩
   ·simp only [mon]
    have hk:E % 16 = m % 16 + (E % 16 - m % 16):=by omega
    generalize E % 16 - m % 16 = k at *
    rw [hk,Int.pow_add]
    rw [Rat.intCast_mul,Rat.intCast_mul,Rat.intCast_mul,Rat.intCast_mul,Rat.intCast_pow,Rat.intCast_pow,Rat.intCast_pow,← ez,← e0,rmul_pow]
    grind
   ·rw [ep]
    have hk:E % 16 = m % 16 + (E % 16 - m % 16):=by omega
    have t:=mul_bnd (pow_bnd (A:=2 ^ h) ⟨b1,b2⟩ (m % 16)) (dle (E % 16 - m % 16))
    rw [← Int.pow_add,← hk] at t
    exact mul_bnd t zb
 | _ :: _,[],hb,_=>hb.elim
noncomputable def absM (p:M):Nat:=@List.rec (Nat × Int) (fun _=>Nat) 0 (fun a _ ih=>Nat.add (iabs a.2) ih) p
theorem ev_bnd {l:List Rat} {hs:List Nat} (hb:BndL l hs) (E:Nat):∃ D:Int,0 < D∧D ≤ 2 ^ wsum hs E ∧
 ∀ p:M,(∀ a ∈ p,a.1 ||| E = E) → ∃ z:Int,ev l p * (D:Rat) = (z:Rat)∧-((absM p:Int) * 2 ^ wsum hs E) ≤ z∧z ≤ (absM p:Int) * 2 ^ wsum hs E:=by
 obtain ⟨D,D0,D1,hm⟩:=mon_bnd l hs hb E
 refine ⟨D,D0,D1,fun p=>?_⟩
 induction p with
 | nil=>intro _;exact ⟨0,by simp [ev,Rat.zero_mul],by simp [absM],by simp [absM]⟩
 | cons a p ih =>
  intro h
  obtain ⟨z,e,b⟩:=ih fun b hb=>h b (List.mem_cons_of_mem _ hb)
  obtain ⟨y,ey,yb⟩:=hm a.1 (h a List.mem_cons_self)
  obtain ⟨m,c⟩:=a
  refine ⟨c * y + z,?_,?_⟩
  ·simp only [ev]
   rw [Rat.intCast_add,Rat.intCast_mul,← e,← ey]
   grind
  ·have t:=mul_bnd (a:=c) (b:=y) (A:=c.natAbs) (B:=2 ^ wsum hs E) ⟨by omega,by omega⟩ yb
   have e:((absM ((m,c) :: p):Nat):Int) = (c.natAbs:Int) + (absM p:Int):=by
    show ((Nat.add (iabs c) (absM p):Nat):Int) = _
    rw [iabs_eq];simp
   rw [e,Int.add_mul]
   omega
theorem lorM_sub:∀ (p:M) (a:Nat × Int),a ∈ p → a.1 ||| lorM p = lorM p
 | [],a,h=>by simp at h
 | b :: p,a,h=>by
  have e:lorM (b :: p) = b.1 ||| lorM p:=rfl
  rw [e]
  rcases List.mem_cons.1 h with rfl | h
  ·rw [← Nat.or_assoc,Nat.or_self]
  ·have:=lorM_sub p a h
   rw [← Nat.or_assoc,Nat.or_comm a.1,Nat.or_assoc,this]
noncomputable def smallS (x:X) (S:Nat):Bool :=
 bi (Nat.ble S 700) (fz (Nat.pow 2 S) fun B=>bi (Nat.ble (Nat.mul x.den B) (Nat.sub (Nat.pow 10 216) 1)) (Nat.ble (Nat.mul (absM x.ps) B) (Nat.sub (Nat.pow 10 216) 1)) false) false
noncomputable def smallX (hs:List Nat) (x:X):Bool:=fz (wsum hs (lorM x.ps)) (smallS x)
theorem bi3' {c d:Bool} (h:bi c d false = true):c = true∧d = true:=by cases c <;> first | (cases h;done) | exact ⟨rfl,h⟩
theorem smallX_lat {l:List Rat} {hs:List Nat} (hb:BndL l hs) {x:X} (h:smallX hs x = true) (hd:0 < x.den) :
 ∃ D B z:Int,0 < D∧D < 10 ^ 216∧B < 10 ^ 216∧x.val l * (D:Rat) = (z:Rat)∧-B ≤ z∧z ≤ B:=by
 unfold smallX at h
 rw [fz_eq] at h
 obtain ⟨h0,h⟩:=bi3' h
 rw [fz_eq] at h
 obtain ⟨h1,h2⟩:=bi3' h
 have h1:=Nat.le_of_ble_eq_true h1
 have h2:=Nat.le_of_ble_eq_true h2
 obtain ⟨D,D0,D1,hp⟩:=ev_bnd hb (lorM x.ps)
 obtain ⟨z,ez,zb⟩:=hp x.ps (lorM_sub x.ps)
 generalize wsum hs (lorM x.ps) = S at *
 have hlim:Nat.sub (Nat.pow 10 216) 1 < 10 ^ 216:=by decide
 have k1:x.den * 2 ^ S < 10 ^ 216:=Nat.lt_of_le_of_lt h1 hlim
 have k2:absM x.ps * 2 ^ S < 10 ^ 216:=Nat.lt_of_le_of_lt h2 hlim
 have hd':(0:Int) < (x.den:Int):=by omega
 refine ⟨(x.den:Int) * D,(absM x.ps:Int) * 2 ^ S,z,Int.mul_pos hd' D0,?_,?_,?_,zb⟩
 ·have:(x.den:Int) * D ≤ (x.den:Int) * 2 ^ S:=Int.mul_le_mul_of_nonneg_left D1 (by omega)
  have e:(x.den:Int) * 2 ^ S = ((x.den * 2 ^ S:Nat):Int):=by simp
  have k1':((x.den * 2 ^ S:Nat):Int) < ((10 ^ 216:Nat):Int):=by exact_mod_cast k1
  have e2:((10 ^ 216:Nat):Int) = 10 ^ 216:=by simp
  omega
 ·have e:(absM x.ps:Int) * 2 ^ S = ((absM x.ps * 2 ^ S:Nat):Int):=by simp
  have k1':((absM x.ps * 2 ^ S:Nat):Int) < ((10 ^ 216:Nat):Int):=by exact_mod_cast k2
  have e2:((10 ^ 216:Nat):Int) = 10 ^ 216:=by simp
  omega
 ·rw [← ez]
  unfold X.val
  rw [Rat.intCast_mul,Rat.intCast_natCast]
  have:=natCast_ne hd
  grind
/-! ### Signs -/
noncomputable def posM (p:M):Bool:=@List.rec (Nat × Int) (fun _=>Bool) true (fun a _ ih=>@Int.rec (fun _=>Bool) (fun n=>@Nat.rec (fun _=>Bool) false (fun _ _=>ih) n) (fun _=>false) a.2) p
noncomputable def negM (p:M):Bool:=@List.rec (Nat × Int) (fun _=>Bool) true (fun a _ ih=>@Int.rec (fun _=>Bool) (fun _=>false) (fun _=>ih) a.2) p
noncomputable def posE (fl:List Bool):Nat → Bool :=
 @List.rec Bool (fun _=>Nat → Bool) (fun E=>Nat.beq E 0) (fun b _ ih E=>bi (Nat.beq E 0) true (bi (bi b true (Nat.beq (Nat.mod E 16) 0)) (ih (Nat.div E 16)) false)) fl
def PosL:List Rat → List Bool → Prop
 | [],_=>True
 | r :: l,b :: fl=>(b = true → 0 < r)∧PosL l fl
 | _ :: _,[]=>True
theorem mon_zero:∀ l:List Rat,mon l 0 = 1
 | []=>rfl
 | r :: l=>by simp only [mon];rw [show (0:Nat) / 16 = 0 from rfl,mon_zero l,show (0:Nat) % 16 = 0 from rfl,Rat.pow_zero,Rat.mul_one]
theorem mon_pos:∀ (fl:List Bool) (l:List Rat),PosL l fl → ∀ E,posE fl E = true → ∀ m,m ||| E = E → 0 < mon l m
 | [],l,_,E,hE,m,hm=>by
  have hE:Nat.beq E 0 = true:=hE
  have hE:=Nat.eq_of_beq_eq_true hE
  subst hE
  have:m = 0:=by rw [Nat.or_zero] at hm;exact hm
  rw [this,mon_zero];decide
 | b :: fl,[],_,E,_,m,_=>by simp only [mon];decide
 | b :: fl,r :: l,⟨hr,hl⟩,E,hE,m,hm=>by
  have hE:bi (Nat.beq E 0) true (bi (bi b true (Nat.beq (Nat.mod E 16) 0)) (posE fl (Nat.div E 16)) false) = true:=hE
  rw [biq] at hE
  split at hE
  ·rename_i h0
   have h0:=Nat.eq_of_beq_eq_true h0
   subst h0
   have:m = 0:=by rw [Nat.or_zero] at hm;exact hm
   rw [this,mon_zero];decide
  ·obtain ⟨h1,h2⟩:=bi3' hE
   obtain ⟨q1,q2⟩:=sub_dig hm
   have:=mon_pos fl l hl (E / 16) h2 (m / 16) q2
   simp only [mon]
   refine Rat.mul_pos ?_ this
   cases b with
   | true=>exact Rat.pow_pos (hr rfl)
   | false =>
    have h1:Nat.beq (Nat.mod E 16) 0 = true:=h1
    have h1:=Nat.eq_of_beq_eq_true h1
    have h1:E % 16 = 0:=h1
    have:m % 16 = 0:=by omega
    rw [this,Rat.pow_zero];decide
theorem int_pos {c:Int} (h:0 < c):(0:Rat) < (c:Rat):=by
 have:((0:Int):Rat) < (c:Rat):=Rat.intCast_lt_intCast.2 h
 exact this
theorem ev_pos {fl:List Bool} {l:List Rat} (hl:PosL l fl) {E:Nat} (hE:posE fl E = true):∀ p:M,(∀ a ∈ p,a.1 ||| E = E) → posM p = true → 0 ≤ ev l p∧(p ≠ [] → 0 < ev l p)
 | [],_,_=>⟨by simp only [ev];decide,fun h=>absurd rfl h⟩
 | (m,c) :: p,h,hp=>by
  have hp':@Int.rec (fun _=>Bool) (fun n=>@Nat.rec (fun _=>Bool) false (fun _ _=>posM p) n) (fun _=>false) c = true:=hp
  have hm:=mon_pos fl l hl E hE m (h (m,c) List.mem_cons_self)
  cases c with
  | negSucc n=>cases hp'
  | ofNat n =>
   cases n with
   | zero=>cases hp'
   | succ n =>
    obtain ⟨h1,_⟩:=ev_pos hl hE p (fun a ha=>h a (List.mem_cons_of_mem _ ha)) hp'
    have hc:(0:Rat) < ((Int.ofNat (n + 1):Int):Rat):=int_pos (by simp only [Int.ofNat_eq_natCast];omega)
    have h2:=Rat.mul_pos hc hm
    have:0 < ev l ((m,Int.ofNat (n + 1)) :: p):=by
     simp only [ev]
     generalize ((Int.ofNat (n + 1):Int):Rat) * mon l m = a at *
     generalize ev l p = b at *
     grind
    exact ⟨Rat.le_of_lt this,fun _=>this⟩
theorem neg_pos:∀ {p:M},negM p = true → posM (kM (-1) p) = true∧(kM (-1) p = [] → p = [])∧∀ a ∈ kM (-1) p,∃ b ∈ p,b.1 = a.1
 | [],_=>⟨rfl,fun _=>rfl,fun a ha=>by cases ha⟩
 | (m,c) :: p,h=>by
  have h':@Int.rec (fun _=>Bool) (fun _=>false) (fun _=>negM p) c = true:=h
  cases c with
  | ofNat n=>cases h'
  | negSucc n =>
   obtain ⟨h1,_,h3⟩:=neg_pos (p:=p) h'
   have e:kM (-1) ((m,Int.negSucc n) :: p) = (m,Int.ofNat (n + 1)) :: kM (-1) p:=by
    show cons0 m (imul (Int.negSucc n) (-1)) (kM (-1) p) = _
    rw [imul_eq]
    have:Int.negSucc n * -1 = Int.ofNat (n + 1):=by rw [Int.negSucc_eq];simp only [Int.ofNat_eq_natCast];omega
    rw [this];rfl
   rw [e]
   refine ⟨h1,(fun h=>by cases h),fun a ha=>?_⟩
   rcases List.mem_cons.1 ha with rfl | ha
   ·exact ⟨_,List.mem_cons_self,rfl⟩
   ·obtain ⟨b,hb,e⟩:=h3 a ha
    exact ⟨b,List.mem_cons_of_mem _ hb,e⟩
noncomputable def sgnM (fl:List Bool) (p:M):Option Int :=
 @List.rec (Nat × Int) (fun _=>Option Int) (some 0) (fun _ _ _=>bi (posE fl (lorM p)) (bi (posM p) (some 1) (bi (negM p) (some (-1)) none)) none) p
theorem sgnM_ok {fl:List Bool} {l:List Rat} (hl:PosL l fl) {p:M} {s:Int} (h:sgnM fl p = some s) :
 (s = 0∧ev l p = 0) ∨ (s = 1∧0 < ev l p) ∨ (s = -1∧ev l p < 0):=by
 cases p with
 | nil=>injection h with h;exact .inl ⟨h.symm,rfl⟩
 | cons a p =>
  have h:bi (posE fl (lorM (a :: p))) (bi (posM (a :: p)) (some 1) (bi (negM (a :: p)) (some (-1)) none)) none = some s:=h
  rw [biq] at h
  split at h
  ·rename_i hE
   have hs:=lorM_sub (a :: p)
   rw [biq] at h
   split at h
   ·rename_i hp
    injection h with h
    exact .inr (.inl ⟨h.symm,(ev_pos hl hE _ hs hp).2 (by simp)⟩)
   ·rw [biq] at h
    split at h
    ·rename_i hn
     injection h with h
     refine .inr (.inr ⟨h.symm,?_⟩)
     obtain ⟨h1,h2,h3⟩:=neg_pos hn
     have:=(ev_pos hl hE (kM (-1) (a :: p)) (fun b hb=>by obtain ⟨c,hc,e⟩:=h3 b hb;rw [← e];exact hs c hc) h1).2 (fun e=>by have:=h2 e;cases this)
     rw [ev_kM] at this
     have e:(((-1:Int)):Rat) = -1:=rfl
     rw [e] at this
     generalize ev l (a :: p) = v at *
     grind
    ·cases h
  ·cases h
theorem val_sign {l:List Rat} {x:X} (hd:0 < x.den):(ev l x.ps = 0 → x.val l = 0)∧(0 < ev l x.ps → 0 < x.val l)∧(ev l x.ps < 0 → x.val l < 0):=by
 have hp:(0:Rat) < (x.den:Rat):=by rw [← Rat.intCast_natCast];exact int_pos (by omega)
 unfold X.val
 generalize (x.den:Rat) = d at *
 generalize ev l x.ps = v at *
 have hi:0 < d⁻¹:=Rat.inv_pos.2 hp
 refine ⟨fun h=>by rw [h,Rat.div_def,Rat.zero_mul],fun h=>?_,fun h=>?_⟩
 ·rw [Rat.div_def];exact Rat.mul_pos h hi
 ·rw [Rat.div_def]
  have:0 < (-v) * d⁻¹:=Rat.mul_pos (by grind) hi
  grind
noncomputable def xsgn (fl:List Bool) (x:X):Option Int:=bi (Nat.ble 1 x.den) (sgnM fl x.ps) none
def SgnOk (s:Int) (v:Rat):Prop:=(s = 0∧v = 0) ∨ (s = 1∧0 < v) ∨ (s = -1∧v < 0)
theorem xsgn_ok {fl:List Bool} {l:List Rat} (hl:PosL l fl) {x:X} {s:Int} (h:xsgn fl x = some s):SgnOk s (x.val l):=by
 unfold xsgn at h
 rw [biq] at h
 split at h
 ·rename_i hd
  have hd:=ble_one hd
  obtain ⟨a,b,c⟩:=val_sign (l:=l) (x:=x) hd
  rcases sgnM_ok hl h with ⟨e,h⟩ | ⟨e,h⟩ | ⟨e,h⟩
  ·exact .inl ⟨e,a h⟩
  ·exact .inr (.inl ⟨e,b h⟩)
  ·exact .inr (.inr ⟨e,c h⟩)
 ·cases h
/-! ### Variables that are told by polynomials -/
noncomputable def partM (w k:Nat) (p:M):M :=
 @List.rec (Nat × Int) (fun _=>M) [] (fun a _ ih=>bi (Nat.beq (Nat.mod (Nat.div a.1 w) 16) k) (fz (Nat.sub a.1 (Nat.mul k w)) fun m=>(m,a.2) :: ih) ih) p
def digM (w m:Nat):Nat:=m / w % 16
def wv (v:Nat):Nat:=16 ^ v
theorem mon_dig:∀ (v:Nat) (l:List Rat) (r:Rat),l[v]? = some r → ∀ m,mon l m = mon l (m - digM (wv v) m * wv v) * r ^ digM (wv v) m
 | 0,[],r,h,m=>by simp at h
 | 0,q :: l,r,h,m=>by
  simp at h
  subst h
  simp only [mon,digM,wv,Nat.pow_zero,Nat.div_one,Nat.mul_one]
  have e1:(m - m % 16) % 16 = 0:=by omega
  have e2:(m - m % 16) / 16 = m / 16:=by omega
  rw [e1,e2,Rat.pow_zero]
  grind
 | v + 1,[],r,h,m=>by simp at h
 | v + 1,q :: l,r,h,m=>by
  simp at h
  have ih:=mon_dig v l r h (m / 16)
  have hw:wv (v + 1) = 16 * wv v:=by unfold wv;rw [Nat.pow_succ];omega
  have hd:digM (wv (v + 1)) m = digM (wv v) (m / 16):=by
   unfold digM
   rw [hw,← Nat.div_div_eq_div_mul]
  have e0:digM (wv v) (m / 16) * wv v ≤ m / 16:=by
   unfold digM
   have h1:m / 16 / wv v % 16 ≤ m / 16 / wv v:=Nat.mod_le _ _
   have h2:m / 16 / wv v * wv v ≤ m / 16:=Nat.div_mul_le_self _ _
   exact Nat.le_trans (Nat.mul_le_mul_right _ h1) h2
  simp only [mon]
  rw [hd,hw]
  generalize digM (wv v) (m / 16) = d at *
  generalize wv v = W at *
  have e3:d * (16 * W) = 16 * (d * W):=by rw [← Nat.mul_assoc,Nat.mul_comm d 16,Nat.mul_assoc]
  rw [e3]
  generalize d * W = z at *
  have e1:(m - 16 * z) % 16 = m % 16:=by omega
  have e2:(m - 16 * z) / 16 = m / 16 - z:=by omega
  rw [e1,e2,ih]
  grind
def evT (l:List Rat) (w k:Nat):M → Rat
 | []=>0
 | (m,c) :: p=>(if digM w m ≤ k then (c:Rat) * mon l m else 0) + evT l w k p
theorem partM_cons (w k:Nat) (a:Nat × Int) (p:M):partM w k (a :: p) = if digM w a.1 = k then (a.1 - k * w,a.2) :: partM w k p else partM w k p:=by
 show bi (Nat.beq (Nat.mod (Nat.div a.1 w) 16) k) (fz (Nat.sub a.1 (Nat.mul k w)) fun m=>(m,a.2) :: partM w k p) (partM w k p) = _
 rw [biq,fz_eq]
 unfold digM
 by_cases h:a.1 / w % 16 = k
 ·have:Nat.beq (Nat.mod (Nat.div a.1 w) 16) k = true:=by rw [Nat.beq_eq];exact h
  rw [if_pos this,if_pos h];rfl
 ·have:¬ Nat.beq (Nat.mod (Nat.div a.1 w) 16) k = true:=fun e=>h (Nat.eq_of_beq_eq_true e)
  rw [if_neg this,if_neg h]
theorem ev_part {l:List Rat} {v:Nat} {r:Rat} (hv:l[v]? = some r) (k:Nat):∀ p:M,evT l (wv v) (k + 1) p = evT l (wv v) k p + ev l (partM (wv v) (k + 1) p) * r ^ (k + 1)
 | []=>by show (0:Rat) = 0 + ev l [] * _;simp [ev,Rat.zero_mul,Rat.add_zero]
 | (m,c) :: p=>by
  rw [partM_cons]
  simp only [evT]
  rw [ev_part hv k p]
  by_cases h:digM (wv v) m = k + 1
  ·rw [if_pos (by omega),if_neg (by omega),if_pos h]
   simp only [ev]
   have:=mon_dig v l r hv m
   rw [h] at this
   rw [this]
   grind
  ·rw [if_neg h]
   by_cases h2:digM (wv v) m ≤ k
   ·rw [if_pos (by omega),if_pos h2];grind
   ·rw [if_neg (by omega),if_neg h2];grind
theorem ev_part0 {l:List Rat} {v:Nat} {r:Rat} (hv:l[v]? = some r):∀ p:M,evT l (wv v) 0 p = ev l (partM (wv v) 0 p)
 | []=>rfl
 | (m,c) :: p=>by
  rw [partM_cons]
  simp only [evT]
  rw [ev_part0 hv p]
  by_cases h:digM (wv v) m = 0
  ·rw [if_pos (by omega),if_pos h]
   simp only [ev]
   rw [Nat.zero_mul,Nat.sub_zero]
  ·rw [if_neg h,if_neg (by omega)];grind
theorem evT_all (l:List Rat) (w k:Nat):∀ p:M,(∀ a ∈ p,digM w a.1 ≤ k) → evT l w k p = ev l p
 | [],_=>rfl
 | (m,c) :: p,h=>by
  simp only [evT,ev]
  have h0:digM w m ≤ k:=h (m,c) List.mem_cons_self
  rw [if_pos h0,evT_all l w k p fun a ha=>h a (List.mem_cons_of_mem _ ha)]
noncomputable def oneM:M:=[(0,1)]
theorem ev_oneM (l:List Rat):ev l oneM = 1:=by
 show (((1:Int)):Rat) * mon l 0 + 0 = 1
 rw [mon_zero]
 have:(((1:Int)):Rat) = 1:=rfl
 rw [this];grind
noncomputable def elimR (w:Nat) (N D p:M):Nat → Option (M × M) :=
 @Nat.rec (fun _=>Option (M × M)) (some (partM w 0 p,oneM))
  (fun k ih=>ob ih fun q=>ob (mulX q.1 D) fun a=>ob (mulX q.2 N) fun np=>ob (mulX (partM w (Nat.succ k) p) np) fun b=>some (addM a b,np))
theorem elimR_ok {l:List Rat} (hl:l.length ≤ 64) {v:Nat} {r:Rat} (hv:l[v]? = some r) {N D:M} (hr:r * ev l D = ev l N) (p:M) :
 ∀ (k:Nat) (q:M × M),elimR (wv v) N D p k = some q → ev l q.1 = evT l (wv v) k p * ev l D ^ k∧ev l q.2 = r ^ k * ev l D ^ k
 | 0,q,h=>by
  have h:some (partM (wv v) 0 p,oneM) = some q:=h
  injection h with h
  subst h
  simp only [Rat.pow_zero]
  rw [ev_oneM,ev_part0 hv]
  exact ⟨by grind,by grind⟩
 | k + 1,q,h=>by
  obtain ⟨q0,h0,h⟩:=ob_inv' (show ob (elimR (wv v) N D p k) _ = some q from h)
  obtain ⟨a,h1,h⟩:=ob_inv' h
  obtain ⟨np,h2,h⟩:=ob_inv' h
  obtain ⟨b,h3,h⟩:=ob_inv' h
  injection h with h
  subst h
  obtain ⟨e1,e2⟩:=elimR_ok hl hv hr p k q0 h0
  have g1:=ev_mulX hl h1
  have g2:=ev_mulX hl h2
  have g3:=ev_mulX hl h3
  refine ⟨?_,?_⟩
  ·show ev l (addM a b) = _
   rw [ev_addM,g1,g3,g2,e1,e2,ev_part hv,← hr]
   have e:partM (wv v) (Nat.succ k) p = partM (wv v) (k + 1) p:=rfl
   rw [e]
   simp only [Rat.pow_succ]
   grind
  ·show ev l np = _
   rw [g2,e2,← hr]
   simp only [Rat.pow_succ]
   grind
noncomputable def nilM (p:M):Bool:=@List.rec (Nat × Int) (fun _=>Bool) true (fun _ _ _=>false) p
theorem nilM_inv {p:M} (h:nilM p = true):p = []:=by
 cases p with
 | nil=>rfl
 | cons a p=>cases h
noncomputable def ztM (els:List (Nat × M × M)):M → Bool :=
 @List.rec (Nat × M × M) (fun _=>M → Bool) (fun p=>nilM p)
  (fun e _ ih p=>bi (nilM p) true (fz (Nat.mod (Nat.div (lorM p) e.1) 16) fun E=>bi (Nat.beq E 0) (ih p) (@Option.rec (M × M) (fun _=>Bool) false (fun q=>ih q.1) (elimR e.1 e.2.1 e.2.2 p E)))) els
def ElOk (l:List Rat) (e:Nat × M × M):Prop:=∃ v r,e.1 = wv v∧l[v]? = some r∧r * ev l e.2.2 = ev l e.2.1∧ev l e.2.2 ≠ 0
theorem dig_sub {w m E:Nat} (h:m ||| E = E) (hw:∃ v,w = wv v):digM w m ≤ digM w E:=by
 obtain ⟨v,rfl⟩:=hw
 unfold digM wv
 have e:(16:Nat) ^ v = 2 ^ (4 * v):=by rw [show (16:Nat) = 2 ^ 4 from rfl,← Nat.pow_mul]
 rw [e]
 have h1:(m / 2 ^ (4 * v)) ||| (E / 2 ^ (4 * v)) = E / 2 ^ (4 * v):=by rw [← Nat.or_div_two_pow,h]
 exact (sub_dig h1).1
theorem ztM_ok {l:List Rat} (hl:l.length ≤ 64):∀ {els:List (Nat × M × M)},(∀ e ∈ els,ElOk l e) → ∀ {p:M},ztM els p = true → ev l p = 0
 | [],_,p,h=>by rw [nilM_inv (show nilM p = true from h)];rfl
 | e :: els,he,p,h=>by
  have h:bi (nilM p) true (fz (Nat.mod (Nat.div (lorM p) e.1) 16) fun E=>bi (Nat.beq E 0) (ztM els p) (@Option.rec (M × M) (fun _=>Bool) false (fun q=>ztM els q.1) (elimR e.1 e.2.1 e.2.2 p E))) = true:=h
  rw [fz_eq,biq] at h
  split at h
  ·rename_i hn
   rw [nilM_inv hn];rfl
  ·rw [biq] at h
   split at h
   ·exact ztM_ok hl (fun x hx=>he x (List.mem_cons_of_mem _ hx)) h
   ·obtain ⟨v,r,e1,e2,e3,e4⟩:=he e List.mem_cons_self
    cases hq:elimR e.1 e.2.1 e.2.2 p (Nat.mod (Nat.div (lorM p) e.1) 16) with
    | none=>rw [hq] at h;cases h
    | some q =>
     rw [hq] at h
     have hz:=ztM_ok hl (fun x hx=>he x (List.mem_cons_of_mem _ hx)) (show ztM els q.1 = true from h)
     rw [e1] at hq
     obtain ⟨g1,_⟩:=elimR_ok hl e2 e3 p _ q hq
     rw [hz] at g1
     have hall:=evT_all l (wv v) (digM (wv v) (lorM p)) p fun a ha=>dig_sub (lorM_sub p a ha) ⟨v,rfl⟩
     have ek:Nat.mod (Nat.div (lorM p) (wv v)) 16 = digM (wv v) (lorM p):=rfl
     rw [ek,hall] at g1
     have hne:ev l e.2.2 ^ digM (wv v) (lorM p) ≠ 0:=by
      intro e0
      generalize digM (wv v) (lorM p) = k at e0
      induction k with
      | zero=>rw [Rat.pow_zero] at e0;exact absurd e0 (by decide)
      | succ k ih =>
       rw [Rat.pow_succ] at e0
       rcases Rat.mul_eq_zero.1 e0 with h | h
       ·exact ih h
       ·exact e4 h
     rcases Rat.mul_eq_zero.1 g1.symm with h | h
     ·exact h
     ·exact absurd h hne
/-! ### Quotients -/
noncomputable def izer (c:Int):Bool:=@Int.rec (fun _=>Bool) (fun n=>Nat.beq n 0) (fun _=>false) c
noncomputable def eqM (p:M):M → Bool :=
 @List.rec (Nat × Int) (fun _=>M → Bool) (fun q=>nilM q) (fun a _ ih q=>@List.rec (Nat × Int) (fun _=>Bool) false (fun b q _=>bi (Nat.beq a.1 b.1) (bi (izer (iadd a.2 (imul b.2 (-1)))) (ih q) false) false) q) p
theorem izer_inv {c:Int} (h:izer c = true):c = 0:=by
 cases c with
 | ofNat n=>have h:Nat.beq n 0 = true:=h
            rw [Nat.eq_of_beq_eq_true h];rfl
 | negSucc n=>cases h
theorem eqM_inv:∀ {p q:M},eqM p q = true → p = q
 | [],q,h=>(nilM_inv (show nilM q = true from h)).symm
 | a :: p,[],h=>by cases h
 | a :: p,b :: q,h=>by
  obtain ⟨h1,h⟩:=bi3' (show bi (Nat.beq a.1 b.1) (bi (izer (iadd a.2 (imul b.2 (-1)))) (eqM p q) false) false = true from h)
  obtain ⟨h2,h3⟩:=bi3' h
  have e1:=Nat.eq_of_beq_eq_true h1
  have e2:=izer_inv h2
  rw [iadd_eq,imul_eq] at e2
  obtain ⟨m,c⟩:=a;obtain ⟨m',d⟩:=b
  simp only at e1 e2
  have e2':c = d:=by omega
  rw [e1,e2',eqM_inv h3]
noncomputable def lookQ (q:M) (invs:List (M × X)):Option X:=@List.rec (M × X) (fun _=>Option X) none (fun a _ ih=>bi (eqM a.1 q) (some a.2) ih) invs
theorem lookQ_inv {q:M}:∀ {invs:List (M × X)} {z:X},lookQ q invs = some z → (q,z) ∈ invs
 | [],z,h=>by cases h
 | a :: invs,z,h=>by
  have h:bi (eqM a.1 q) (some a.2) (lookQ q invs) = some z:=h
  rw [biq] at h
  split at h
  ·rename_i e
   injection h with h
   rw [← eqM_inv e,← h];exact List.mem_cons_self
  ·exact List.mem_cons_of_mem _ (lookQ_inv h)
def InvOk (l:List Rat) (invs:List (M × X)):Prop:=∀ e ∈ invs,0 < e.2.den∧ev l e.1 * e.2.val l = 1
noncomputable def xinvC (invs:List (M × X)) (y:X) (c:Nat):Option X:=bi (Nat.ble 1 c) (ob (lookQ (divM c y.ps) invs) fun z=>fz (Nat.mul c z.den) fun d=>some (normX d (kM (Int.ofNat y.den) z.ps))) none
noncomputable def xinv (invs:List (M × X)) (y:X):Option X:=bi (Nat.ble 1 y.den) (fz (gcdM 0 y.ps) (xinvC invs y)) none
theorem xinv_val {l:List Rat} {invs:List (M × X)} (hi:InvOk l invs) {y z:X} (h:xinv invs y = some z):y.val l * z.val l = 1∧0 < z.den:=by
 unfold xinv at h
 cases h1:Nat.ble 1 y.den with
 | false=>rw [h1] at h;cases h
 | true =>
  rw [h1] at h
  have hd:=ble_one h1
  have h:fz (gcdM 0 y.ps) (xinvC invs y) = some z:=h
  rw [fz_eq] at h
  unfold xinvC at h
  cases h2:Nat.ble 1 (gcdM 0 y.ps) with
  | false=>rw [h2] at h;cases h
  | true =>
   rw [h2] at h
   have hc:=ble_one h2
   obtain ⟨q,hq,h⟩:=ob_inv' (show ob (lookQ (divM (gcdM 0 y.ps) y.ps) invs) _ = some z from h)
   rw [fz_eq] at h
   injection h with h
   subst h
   obtain ⟨g1,g2⟩:=hi _ (lookQ_inv hq)
   simp only at g1 g2
   obtain ⟨_,hdv⟩:=gcdM_dvd y.ps 0
   have e1:=ev_divM l hc y.ps hdv
   have hp:0 < gcdM 0 y.ps * q.den:=Nat.mul_pos hc g1
   obtain ⟨e2,p2⟩:=normX_val l hp (kM (Int.ofNat y.den) q.ps)
   refine ⟨?_,p2⟩
   have e2:(normX (Nat.mul (gcdM 0 y.ps) q.den) (kM (Int.ofNat y.den) q.ps)).val l = _:=e2
   rw [e2,ev_kM]
   unfold X.val at g2 ⊢
   rw [← e1,Rat.natCast_mul]
   simp only [Int.ofNat_eq_natCast,Rat.intCast_natCast]
   have n1:=natCast_ne hd
   have n2:=natCast_ne hc
   have n3:=natCast_ne g1
   generalize ev l (divM (gcdM 0 y.ps) y.ps) = a at *
   generalize ev l q.ps = b at *
   generalize (gcdM 0 y.ps:Rat) = c at *
   generalize (q.den:Rat) = d at *
   generalize (y.den:Rat) = e at *
   grind
noncomputable def xdiv (invs:List (M × X)) (x y:X):Option X:=ob (xinv invs y) fun z=>xmul x z
theorem xdiv_val {l:List Rat} (hl:l.length ≤ 64) {invs:List (M × X)} (hi:InvOk l invs) {x y z:X} (h:xdiv invs x y = some z):y.val l ≠ 0∧z.val l = x.val l / y.val l∧0 < z.den:=by
 obtain ⟨q,hq,h⟩:=ob_inv' h
 obtain ⟨e1,_⟩:=xinv_val hi hq
 obtain ⟨e2,p⟩:=xmul_val hl h
 have hne:y.val l ≠ 0:=fun e=>by rw [e,Rat.zero_mul] at e1;exact absurd e1 (by decide)
 refine ⟨hne,?_,p⟩
 rw [e2]
 generalize y.val l = a at *
 generalize q.val l = b at *
 grind
/-! ### Comparisons -/
noncomputable def cmpD (fl:List Bool) (els:List (Nat × M × M)) (d:X):Option Int :=
 @Option.rec Int (fun _=>Option Int) (bi (ztM els d.ps) (some 0) none) (fun s=>some s) (xsgn fl d)
noncomputable def xcmp (fl:List Bool) (els:List (Nat × M × M)) (x y:X):Option Int:=ob (xsub x y) fun d=>cmpD fl els d
theorem cmpD_ok {l:List Rat} (hl:l.length ≤ 64) {fl:List Bool} (hp:PosL l fl) {els:List (Nat × M × M)} (he:∀ e ∈ els,ElOk l e) {d:X} {s:Int} (h:cmpD fl els d = some s):SgnOk s (d.val l):=by
 unfold cmpD at h
 cases hs:xsgn fl d with
 | some t =>
  rw [hs] at h
  injection h with h
  subst h
  exact xsgn_ok hp hs
 | none =>
  rw [hs] at h
  have h:bi (ztM els d.ps) (some 0) none = some s:=h
  rw [biq] at h
  split at h
  ·rename_i hz
   injection h with h
   refine .inl ⟨h.symm,?_⟩
   unfold X.val
   rw [ztM_ok hl he hz,Rat.div_def,Rat.zero_mul]
  ·cases h
theorem xcmp_ok {l:List Rat} (hl:l.length ≤ 64) {fl:List Bool} (hp:PosL l fl) {els:List (Nat × M × M)} (he:∀ e ∈ els,ElOk l e) {x y:X} {s:Int} (h:xcmp fl els x y = some s):SgnOk s (x.val l - y.val l):=by
 obtain ⟨d,hd,h⟩:=ob_inv' h
 rw [← (xsub_val hd).1]
 exact cmpD_ok hl hp he h
end Go.SX
namespace Go.Proofs.YtchbnlkambncnaaGreatDoor
open Go.RowKit Go.Joins Go.SX
def TRat (v:Rat) (F:List Nat) (w:World) (cs:Array Value):Prop :=
 FE.small v = true∧∃ A c B d,cs = #[.bool (FE.ofQ v).neg,.slice A (FE.ofQ v).mag.length c,.slice B (FE.ofQ v).den.length d]∧((FE.ofQ v).mag.length ≤ c∧c ≤ maxLen∧(FE.ofQ v).den.length ≤ d∧d ≤ maxLen)∧RI w A (FE.ofQ v).mag∧RI w B (FE.ofQ v).den ∧
  (∀ a,A = some a → (FE.ofQ v).mag ≠ [] → a.block ∈ F)∧(∀ a,B = some a → (FE.ofQ v).den ≠ [] → a.block ∈ F)
def TSet (s:Nat) (F:List Nat) (w:World) (cs:Array Value):Prop :=
 ∃ A c xs,cs = #[.slice A xs.length c]∧xs.length ≤ 64∧xs.length ≤ c∧c ≤ maxLen∧RI w A xs∧(∀ i:Nat,2 ^ (i + 1) ≤ s → ((i:Int) ∈ xs ↔ s.testBit i = true))∧(∀ a,A = some a → xs ≠ [] → a.block ∈ F)
def TVal (val:X → Rat) (_:Nat) (F:List Nat) (w:World) (t:TokD):Prop:=if t.x.kd = 1 then TSet t.x.den F w t.cs else TRat (val t.x) F w t.cs
theorem RI.same {w w':World} {A:Option Addr} {xs:List Int} (h:RI w A xs) (hs:∀ a,A = some a → xs ≠ [] → w'.heap[a.block]? = w.heap[a.block]?):RI w' A xs:=by
 intro hx
 obtain ⟨b,off,rfl,hlt,hc⟩:=h hx
 have e:=hs _ rfl hx
 simp only at e
 have hb:b < w'.heap.size:=by
  have:=Array.getElem?_eq_getElem hlt
  rw [← e] at this
  exact (Array.getElem?_eq_some_iff.1 this).1
 exact ⟨b,off,rfl,hb,fun i hi=>by rw [World.cell?_of_block e];exact hc i hi⟩
def stp (n:Nat) (y:Nat → Int):Nat → Nat × Int
 | 0=>(0,hsh n y (min n 4000))
 | p + 1=>nxt n (stp n y p)
def fixOf (A:Option Addr) (n c:Nat) (y:Nat → Int):Fix where
 code:=.slice A n c
 cur:=fun p=>#[.slice A n c,.int .i64 (stp n y p).1,.int .i64 (stp n y p).2]
 byte:=fun p=>(nxtB n y (stp n y p)).toNat
structure Drw where
 tab:Nat → Nat → Option Nat
 fx:Fix
def DrOk (drw:Drw) (f:Fix):Prop:=f = drw.fx∧∀ p m r,drw.tab p m = some r → f.byte p % m = r
def BaseOk (drw:Drw) (f:Fix) (F:List Nat) (w:World):Prop :=
 ∃ A n c y,f = fixOf A n c y∧BE w A n y∧Byt y∧n ≤ 1048576∧(n ≠ 0 → ∀ a,A = some a → a.block ∈ F)∧DrOk drw f
theorem BE.same {w w':World} {A:Option Addr} {n:Nat} {y:Nat → Int} (h:BE w A n y) (hs:n ≠ 0 → ∀ a,A = some a → w'.heap[a.block]? = w.heap[a.block]?):BE w' A n y:=by
 intro hn
 obtain ⟨b,o,rfl,hlt,hc⟩:=h hn
 have e:=hs hn _ rfl
 simp only at e
 have hb:b < w'.heap.size:=by
  have:=Array.getElem?_eq_getElem hlt
  rw [← e] at this
  exact (Array.getElem?_eq_some_iff.1 this).1
 exact ⟨b,o,rfl,hb,fun j hj=>by rw [World.cell?_of_block e];exact hc j hj⟩
def toks (val:X → Rat) (drw:Drw):Toks where
 TV:=TVal val
 stab:=fun j F w w' t h ht=>by
  unfold TVal at *
  split
  ·rename_i hk
   rw [if_pos hk] at ht
   obtain ⟨A,c,xs,e,h1,h2,h3,h4,h5,h6⟩:=ht
   exact ⟨A,c,xs,e,h1,h2,h3,h4.same fun a ha hx=>h _ (h6 a ha hx),h5,h6⟩
  ·rename_i hk
   rw [if_neg hk] at ht
   obtain ⟨h0,A,c,B,d,e,hl,h1,h2,h3,h4⟩:=ht
   exact ⟨h0,A,c,B,d,e,hl,h1.same fun a ha hx=>h _ (h3 a ha hx),h2.same fun a ha hx=>h _ (h4 a ha hx),h3,h4⟩
 base:=BaseOk drw
 bstab:=fun f F w w' h ⟨A,n,c,y,e,h1,h2,h3,h4,h5⟩=>⟨A,n,c,y,e,h1.same fun hn a ha=>h _ (h4 hn a ha),h2,h3,h4,h5⟩
 bcode:=fun f F w ⟨A,n,c,y,e,h1,h2,h3,h4,h5⟩=>⟨A,n,c,by rw [e];rfl,h3⟩
def rat (j:Nat) (x:X):S:=.agg [.cell j 0 x,.cell j 1 x,.cell j 2 x]
theorem rat_cells {val:X → Rat} {drw:Drw} {E:Env} {w:World} (hg:GI (toks val drw) E w) {j:Nat} {x y z:X} {a b c:Value} (hx:x.kd ≠ 1)
 (h1:RelC E (.cell j 0 x) a) (h2:RelC E (.cell j 1 y) b) (h3:RelC E (.cell j 2 z) c):FE.small (val x) = true∧RatV w (.agg #[a,b,c]) (FE.ofQ (val x)):=by
 obtain ⟨cs,e1,⟨f1,g1⟩,_⟩:=h1
 obtain ⟨cs',e2,⟨f2,g2⟩,_⟩:=h2
 obtain ⟨cs'',e3,⟨f3,g3⟩,_⟩:=h3
 rw [e1] at e2 e3
 injection e2 with e2;injection e3 with e3
 subst e2;subst e3
 obtain ⟨F,_,ht⟩:=hg.tok j cs e1
 have ht:TVal val j F w cs:=ht
 unfold TVal at ht
 rw [if_neg (by rw [f1];exact hx),f1] at ht
 obtain ⟨h0,A,c1,B,d,e,hb,ra,rb,_⟩:=ht
 rw [e] at g1 g2 g3
 simp at g1 g2 g3
 subst g1;subst g2;subst g3
 exact ⟨h0,A,c1,B,d,rfl,hb,ra,rb⟩
theorem rat_val {val:X → Rat} {drw:Drw} {E:Env} {w:World} (hg:GI (toks val drw) E w) {j:Nat} {x y z:X} (hx:x.kd ≠ 1) {v:Value} (hr:RelS E (.agg [.cell j 0 x,.cell j 1 y,.cell j 2 z]) v):FE.small (val x) = true∧RatV w v (FE.ofQ (val x)):=by
 obtain ⟨arr,rfl,h⟩:=hr
 match hl:arr.toList,h with
 | [a,b,c],⟨h1,h2,h3,_⟩ =>
  have:arr = #[a,b,c]:=Array.toList_inj.1 hl
  rw [this]
  exact rat_cells hg hx h1 h2 h3
 | [],h=>exact h.elim
 | [_],h=>exact h.2.elim
 | [_,_],h=>exact h.2.2.elim
 | _ :: _ :: _ :: _ :: _,h=>exact h.2.2.2.elim
section
variable {K:Toks} {E:Env} {w u:World} {st:St}
theorem out_below {v:V} {x:Value} {rd:Option (List Nat)} (hg:GI K E w) (hb:Below w.heap.size w u) (hv:RelV E v x):Out K E w st ⟨v,st,[],rd⟩ E u x:=by
 refine ⟨⟨.refl E,fun k h=>absurd rfl h,fun j h=>absurd rfl h,hb.os,hb.tape,hb.output,hb.size,fun b hlt _=>hb.block b hlt,fun k p s h1 h2=>by have:k < st.nb:=h2;omega,?_⟩,hv,
  fun k b hk=>?_,fun k k' b b' p s s' hk=>?_⟩
 ·exact gi_grow hg rfl rfl (fun k p s hk=>Nat.lt_of_lt_of_le (hg.low k p s hk) hb.size) hb.size (fun k p s hk _=>⟨k,s,hk⟩) (fun b hlt _=>hb.block b hlt)
 ·rcases hk with hk | hk
  ·simp at hk
  ·have:k < st.nb:=hk.2
   omega
 ·rcases hk with hk | hk
  ·simp at hk
  ·have:k < st.nb:=hk.2
   omega
def addT (E:Env) (j:Nat) (cs:TokD):Env:={ E with sig:=fun i=>if i = j then some cs else E.sig i }
theorem ro_fresh {base:Nat} {A:Option Addr} {n c:Nat} {xs:List Int} (h:RO w base (.slice A n c) xs):xs ≠ [] → ∀ a,A = some a → base ≤ a.block∧a.block < w.heap.size:=by
 intro hx a ha
 have hr:=h.reads hx
 obtain ⟨A',c',he,_,_,h2⟩:=h
 injection he with e1 e2 e3
 obtain ⟨g,e,hb,_⟩:=h2 hx
 obtain ⟨b,o,e',hlt,_⟩:=hr
 rw [ha] at e1 e'
 injection e' with e'
 rw [← e1] at e
 injection e with e
 subst e'
 injection e with e _
 subst e
 exact ⟨hb,hlt⟩
theorem out_token {val:X → Rat} {drw:Drw} {x:Value} {z:X} (hz:z.kd ≠ 1) (hsm:FE.small (val z) = true) {rd:Option (List Nat)} (hg:GI (toks val drw) E w) (hb:Below w.heap.size w u) (hn:E.sig st.nt = none) (hr:RatP u w.heap.size x (FE.ofQ (val z))) :
 ∃ F,Out (toks val drw) E w st ⟨.s (rat st.nt z),⟨st.mem,st.nb,st.nt + 1⟩,[],rd⟩ F u x:=by
 obtain ⟨va,vb,rfl,h1,h2,_⟩:=hr
 obtain ⟨A,c,rfl,hl,hc,_⟩:=id h1
 obtain ⟨B,d,rfl,hm,hd,_⟩:=id h2
 have f1:=ro_fresh h1
 have f2:=ro_fresh h2
 generalize hR:FE.ofQ (val z) = R at *
 let cs:TokD:=⟨#[.bool R.neg,.slice A R.mag.length c,.slice B R.den.length d],z⟩
 have hsame:(addT E st.nt cs).sig st.nt = some cs:=by simp [addT]
 have hle:E.le (addT E st.nt cs):=by
  refine ⟨fun _ _ h=>h,fun j v hj=>?_,rfl⟩
  have:j ≠ st.nt:=fun e=>by rw [e,hn] at hj;cases hj
  simp [addT,this,hj]
 refine ⟨addT E st.nt cs,⟨hle,fun k h=>absurd rfl h,fun j hj=>?_,hb.os,hb.tape,hb.output,hb.size,fun b hlt _=>hb.block b hlt,fun k p s h1 h2=>by have:k < st.nb:=h2;omega,?_⟩,?_,fun k b hk=>?_,fun k k' b b' p s s' hk=>?_⟩
 ·by_cases e:j = st.nt
  ·subst e;exact ⟨Nat.le_refl _,Nat.lt_succ_self _⟩
  ·exact absurd (by simp [addT,e]) hj
 ·have hbase:∃ F,(∀ b ∈ F,b < u.heap.size∧∀ k s,(addT E st.nt cs).rho k ≠ some (b,s))∧(toks val drw).base (addT E st.nt cs).fix F u:=by
   obtain ⟨G,hG,hB⟩:=hg.base
   exact ⟨G,fun b hbm=>⟨Nat.lt_of_lt_of_le (hG b hbm).1 hb.size,(hG b hbm).2⟩,(toks val drw).bstab _ G w u (fun b hbm=>hb.block b (hG b hbm).1) hB⟩
  refine ⟨fun k p s hk=>Nat.lt_of_lt_of_le (hg.low k p s hk) hb.size,fun j cs' hj=>?_,hbase⟩
  by_cases e:j = st.nt
  ·subst e
   rw [hsame] at hj
   injection hj with hj
   subst hj
   refine ⟨(match A with | some a=>if R.mag = [] then [] else [a.block] | none=>[]) ++ (match B with | some b=>if R.den = [] then [] else [b.block] | none=>[]),fun b hbm=>?_,?_⟩
   ·have key:w.heap.size ≤ b∧b < u.heap.size:=by
     rcases List.mem_append.1 hbm with hbm | hbm
     ·cases A with
      | none=>simp at hbm
      | some a =>
       by_cases hx:R.mag = []
       ·simp [hx] at hbm
       ·simp [hx] at hbm
        subst hbm
        exact f1 hx a rfl
     ·cases B with
      | none=>simp at hbm
      | some a =>
       by_cases hx:R.den = []
       ·simp [hx] at hbm
       ·simp [hx] at hbm
        subst hbm
        exact f2 hx a rfl
    exact ⟨key.2,fun k s hk=>by have:=hg.low k b s hk;omega⟩
   ·show TVal val st.nt _ u cs
    unfold TVal
    rw [if_neg hz]
    show TRat (val z) _ u #[.bool R.neg,.slice A R.mag.length c,.slice B R.den.length d]
    unfold TRat
    rw [hR]
    refine ⟨hsm,A,c,B,d,rfl,⟨hl,hc,hm,hd⟩,h1.reads,h2.reads,fun a ha hx=>?_,fun a ha hx=>?_⟩
    ·subst ha;simp [hx]
    ·subst ha;simp [hx]
  ·have hj':E.sig j = some cs':=by simpa [addT,e] using hj
   obtain ⟨G,hG,hT⟩:=hg.tok j cs' hj'
   exact ⟨G,fun b hbm=>⟨Nat.lt_of_lt_of_le (hG b hbm).1 hb.size,(hG b hbm).2⟩,(toks val drw).stab j G w u cs' (fun b hbm=>hb.block b (hG b hbm).1) hT⟩
 ·refine ⟨cs.cs,rfl,⟨cs,hsame,⟨rfl,rfl⟩,?_,?_⟩,⟨cs,hsame,⟨rfl,rfl⟩,?_,?_⟩,⟨cs,hsame,⟨rfl,rfl⟩,?_,?_⟩,trivial⟩ <;> simp
 ·rcases hk with hk | hk
  ·simp at hk
  ·have:k < st.nb:=hk.2
   have:st.nb ≤ k:=hk.1
   omega
 ·rcases hk with hk | hk
  ·simp at hk
  ·have:k < st.nb:=hk.2
   have:st.nb ≤ k:=hk.1
   omega
end
theorem sTrim_any (xs:List Int) (n c:Nat) (hn:xs.length = n) (hn1:n ≤ 1073741824) (hnc:n ≤ c) (A:Option Addr) (w:World) (ha:RI w A xs) :
 Calls Tryz.prog 174 #[.slice A n c] w fun e w'=>e = .returned (.slice A (FE.trim xs).length c)∧w' = w:=by
 go_enter Tryz.func174,Tryz.ntmps174
 go_wp2_with fail
 go_loop [3] (fun v=>∃ k:Nat,k ≤ n∧v = .int .i64 k∧FE.trim xs = FE.trim (xs.take k)) (fun v=>(intOf v).toNat)
 case atStart=>exact ⟨n,Nat.le_refl _,rfl,by rw [List.take_of_length_le (by omega)]⟩
 case round =>
  obtain ⟨k,hk,rfl,ht⟩:=hrel
  have HT:=Lib.hid ht;clear ht
  by_cases hk0:k = 0
  ·subst hk0
   have h0:decide ((0:Int) < ((0:Nat):Int)) = false:=by simp
   go_wp2
   go_ret
   exact ⟨by rw [HT.out];rfl,rfl⟩
  ·obtain ⟨j,rfl⟩:∃ j,k = j + 1:=⟨k - 1,by omega⟩
   obtain ⟨b,o,rfl,hb,hc⟩:=ha (by intro h;subst h;simp at hn;omega)
   have e1:=hc j (by omega)
   clear hc
   have h0:(0:Int) < ((j + 1:Nat):Int):=by omega
   by_cases hx:xs.getD j 0 = 0
   ·have hz:=trim_zero xs j (by omega) hx
    have HZ:=Lib.hid hz;clear hz
    rw [hx] at e1
    clear hx
    go_wp2
    go_round
    case rel=>exact ⟨j,by omega,by go_num,by rw [HT.out];exact HZ.out⟩
    case measure=>simp [intOf]
   ·have hz:=trim_ne xs j (by omega) hx
    have HZ:=Lib.hid hz;clear hz
    generalize xs.getD j 0 = x at *
    have hx0:(x == 0) = false:=by simpa using hx
    have HX:=Lib.hid hx;clear hx
    go_wp2
    go_ret
    exact ⟨by rw [HT.out,HZ.out];rfl,rfl⟩
theorem sCmp_any (xs ys:List Int) (n m c d:Nat) (hn:xs.length = n) (hm:ys.length = m) (hn1:n ≤ 4611686018427387904) (hm1:m ≤ 4611686018427387904) (A B:Option Addr) (w:World) (ha:RI w A xs) (hb:RI w B ys) :
 Calls Tryz.prog 219 #[.slice A n c,.slice B m d] w fun e w'=>e = .returned (.int .i64 (cmpL xs ys))∧∃ k,w' = w.drewN k:=by
 by_cases hnm:n = m
 ·subst hnm
  have hh:((n:Int) != n) = false:=by simp
  have hL:cmpL xs ys = cmpAt xs ys n:=by rw [cmpL,hn,hm,if_pos rfl]
  rw [hL]
  clear hL
  go_enter Tryz.func219,Tryz.ntmps219
  go_wp2_with fail
  go_loopw [5] (fun i wr=>∃ k:Nat,k ≤ n∧i = .int .i64 ((k:Int) - 1)∧cmpAt xs ys n = cmpAt xs ys k∧∃ q,wr = w.drewN q) (fun i _=>(intOf i + 1).toNat)
  case atStart=>exact ⟨n,Nat.le_refl _,rfl,rfl,0,rfl⟩
  case round =>
   obtain ⟨k,hk,rfl,hc,q,rfl⟩:=hrel
   have HC:=Lib.hid hc;clear hc
   by_cases hk0:k = 0
   ·subst hk0
    go_wp2
    go_ret
    exact ⟨ret_int (by rw [HC.out];rfl),q,rfl⟩
   ·obtain ⟨j,rfl⟩:∃ j,k = j + 1:=⟨k - 1,by omega⟩
    rw [show ((j + 1:Nat):Int) - 1 = (j:Int) by omega]
    obtain ⟨b1,o1,rfl,hb1,hc1⟩:=ha (by intro h;subst h;simp at hn;omega)
    obtain ⟨b2,o2,rfl,hb2,hc2⟩:=hb (by intro h;subst h;simp at hm;omega)
    have e1:=hc1 j (by omega)
    have e2:=hc2 j (by omega)
    clear hc1 hc2
    have hj:cmpAt xs ys (j + 1) = if xs.getD j 0 = ys.getD j 0 then cmpAt xs ys j else cmpI (xs.getD j 0) (ys.getD j 0):=rfl
    generalize xs.getD j 0 = x at *
    generalize ys.getD j 0 = y at *
    have Hj:=Lib.hid hj;clear hj
    rcases Int.lt_trichotomy x y with hxy | hxy | hxy
    ·have hd:decide (x < y) = true:=by simpa using hxy
     go_wp2
     go_quiet (fail)
     go_wp2
     go_ret
     exact ⟨ret_int (by rw [HC.out,Hj.out,if_neg (by omega),cmpI,if_pos hxy]),q + nq,World.drewN_drewN _ _ _⟩
    ·subst hxy
     have hd:decide (x < x) = false:=by simp
     go_wp2
     go_quiet (fail)
     simp only [World.drewN_drewN]
     generalize q + nq = q2
     go_wp2
     go_quiet (fail)
     go_wp2
     go_roundw
     case rel=>exact ⟨j,by omega,rfl,by rw [HC.out,Hj.out,if_pos trivial],q2 + nq,rfl⟩
     case measure=>simp [intOf]
    ·have hd:decide (x < y) = false:=by simp;omega
     have hd2:decide (y < x) = true:=by simpa using hxy
     go_wp2
     go_quiet (fail)
     simp only [World.drewN_drewN]
     generalize q + nq = q2
     go_wp2
     go_quiet (fail)
     go_wp2
     go_ret
     exact ⟨ret_int (by rw [HC.out,Hj.out,if_neg (by omega),cmpI,if_neg (by omega),if_pos hxy]),q2 + nq,World.drewN_drewN _ _ _⟩
 ·have hh:((n:Int) != m) = true:=by simp;omega
  have hL:cmpL xs ys = cmpI n m:=by rw [cmpL,hn,hm,if_neg hnm]
  rw [hL]
  clear hL
  rcases Nat.lt_or_ge n m with hlt | hge
  ·have hd:decide (n < m) = true:=by simpa using hlt
   go_enter Tryz.func219,Tryz.ntmps219
   go_wp2
   go_ret
   exact ⟨ret_int (by rw [cmpI,if_pos (by omega)]),0,rfl⟩
  ·have hd:decide (n < m) = false:=by simp;omega
   go_enter Tryz.func219,Tryz.ntmps219
   go_wp2
   go_ret
   exact ⟨ret_int (by rw [cmpI,if_neg (by omega),if_pos (by omega)]),0,rfl⟩
theorem sCmp_nat (p q:Nat) (n m c d:Nat) (hn:(FE.toL p).length = n) (hm:(FE.toL q).length = m) (hn1:n ≤ 65536) (hm1:m ≤ 65536) (A B:Option Addr) (w:World) (ha:RI w A (FE.toL p)) (hb:RI w B (FE.toL q)) :
 Calls Tryz.prog 219 #[.slice A n c,.slice B m d] w fun e w'=>e = .returned (.int .i64 (cmpI p q))∧∃ k,w' = w.drewN k:=by
 have h:=sCmp_any _ _ n m c d hn hm (by omega) (by omega) A B w ha hb
 rwa [FE.cmpL_spec (FE.toL_dig _) (FE.toL_top _) (FE.toL_dig _) (FE.toL_top _),FE.val_toL,FE.val_toL] at h
theorem sNatOf_any (N:Nat) (hN:N ≤ 4611686018427387904) (w:World) :
 Calls Tryz.prog 134 #[.int .i64 N] w fun e w'=>∃ v,e = .returned v∧RO w' w.heap.size v (FE.toL N)∧Below w.heap.size w w':=by
 go_enter Tryz.func134,Tryz.ntmps134
 go_wp2_with fail
 go_loopw [0,3] (fun r v wr=>∃ (q:Nat) (zs:List Int),q ≤ N∧r = .int .i64 q∧1000000000 ^ zs.length * q ≤ N∧FE.toL N = zs ++ FE.toL q∧OI wr w.heap.size v zs∧Below w.heap.size w wr) (fun r _ _=>(intOf r).toNat)
 case atStart=>exact ⟨N,[],Nat.le_refl _,rfl,by simp,by simp,OI.of_arr (g:=w.heap.size) (cap:=0) ⟨[],rfl,Nat.zero_le _,heap_alloc_new _ _⟩ (Nat.le_refl _),(Below.refl _ _).alloc (Nat.le_refl _) _⟩
 case round =>
  obtain ⟨q,zs,hq,rfl,hl1,hL,hown,hbel⟩:=hrel
  have HL:=Lib.hid hL;clear hL
  by_cases hq0:q = 0
  ·subst hq0
   go_wp2
   go_ret
   exact ⟨_,rfl,RO.of_own (by rw [HL.out,FE.toL_zero,List.append_nil];exact hown),hbel⟩
  ·have hlen:=natOf_len hq0 hl1 hN
   have HL1:=Lib.hid hl1;clear hl1
   go_wp2_with (at_builtin;refine append1 rfl _ _ _ rfl Tryz.underlying41 Tryz.intInfo w.heap.size _ zs rfl (hown.alloc _) ⟨wr.heap.size,0,none⟩ _ rfl (cell_new1 _ _ _) (by omega) (by have:=hbel.size;simp;omega) ?_)
   intro v' w1 hown1 hb1'
   go_wp2
   go_roundw
   case rel=>exact ⟨q / 1000000000,zs ++ [((q % 1000000000:Nat):Int)],by omega,by go_num,natOf_step HL1.out,by rw [HL.out];exact toL_step zs q hq0,by simpa using hown1,(hbel.alloc hbel.size _).trans hb1'⟩
   case measure=>simp [intOf];omega
theorem sSmall_any (xs:List Int) (n c:Nat) (d:Int) (hn:xs.length = n) (hn1:n ≤ 1048576) (hxd:FE.Dig xs) (hd0:0 < d) (hd1:d ≤ 1000000000)
 (A:Option Addr) (w:World) (ha:RI w A xs) :
 Calls Tryz.prog 218 #[.slice A n c,.int .i64 d] w fun e w'=>∃ v,e = .returned (.tuple #[v,.int .i64 (FE.val xs % d)])∧RO w' w.heap.size v (FE.toL (FE.val xs / d).toNat)∧Below w.heap.size w w':=by
 go_enter Tryz.func218,Tryz.ntmps218
 go_wp2_with (at_make;refine makeInts rfl _ _ _ rfl Tryz.underlying41 Tryz.intInfo n n _ _ rfl rfl rfl rfl (Nat.le_refl _) (by omega) ?_;intro harr0)
 go_loopw [7,8] (fun r i wr=>∃ (k:Nat) (zs:List Int) (q:Int),k ≤ n∧i = .int .i64 ((k:Int) - 1)∧r = .int .i64 q∧0 ≤ q∧q < d∧zs.length = n∧FE.Dig zs∧(∀ j,j < k → zs.getD j 0 = 0) ∧
  FE.val xs = d * FE.val zs + FE.bp k * q + FE.val (xs.take k)∧Arr wr w.heap.size n zs∧Below w.heap.size w wr) (fun _ i _=>(intOf i + 1).toNat)
 case atStart=>exact ⟨n,List.replicate n 0,0,Nat.le_refl _,rfl,rfl,by omega,hd0,by simp,FE.Dig.replicate n,fun j hj=>by simp [hj],by rw [FE.val_replicate,List.take_of_length_le (by omega)];simp,harr0,(Below.refl _ _).alloc (Nat.le_refl _) _⟩
 case round =>
  obtain ⟨k,zs,q,hk,rfl,rfl,hq0,hq1,hz,hzd,hzz,hv,harr,hbel⟩:=hrel
  have HZ:=Lib.hid hz;clear hz
  have HV:=Lib.hid hv;clear hv
  have HZZ:=Lib.hid hzz;clear hzz
  clear harr0
  by_cases hk0:k = 0
  ·subst hk0
   have hfin:FE.val xs = d * FE.val zs + q:=by have:=HV.out;simp [FE.bp_zero,FE.val] at this;exact this
   have hz0:=FE.val_nonneg hzd
   have hq:FE.val xs / d = FE.val zs:=by
    rw [hfin,Int.add_comm,Int.add_mul_ediv_left _ _ (by omega),Int.ediv_eq_zero_of_lt hq0 hq1];omega
   have hr:FE.val xs % d = q:=by rw [hfin,Int.add_comm,Int.add_mul_emod_self_left];exact Int.emod_eq_of_lt hq0 hq1
   have ht:FE.trim zs = FE.toL (FE.val xs / d).toNat:=FE.trim_eq hzd (by rw [hq];omega)
   have HR:=Lib.hid hr
   have HT:=Lib.hid ht
   clear hfin hq hr ht
   go_wp2_with (go_at_call 174;refine (sTrim_any zs n n HZ.out (by omega) (Nat.le_refl _) _ _ harr.reads).mono ?_;rintro e w' ⟨rfl,rfl⟩)
   go_ret2
   refine ⟨_,by rw [HR.out];rfl,?_,hbel⟩
   rw [← HT.out]
   exact RO.of_trim harr (Nat.le_refl _)
  ·obtain ⟨j,rfl⟩:=Nat.exists_eq_succ_of_ne_zero hk0
   obtain ⟨b1,o1,rfl,hb1,hc1⟩:=ha (by intro h;subst h;simp at hn;omega)
   have e1:=(hbel.cell (p:=⟨b1,o1 + j,none⟩) hb1).trans (hc1 j (by omega))
   have hzl:=HZ.out
   have e2:=harr.cell j (by omega)
   have e3:=harr.frozen j
   have hstep:=FE.divStep hd0 hq0 hq1 hxd (by omega) (hzl.trans hn.symm) hzd (HZZ.out j (by omega)) HV.out rfl
   have hx:=hxd.getD j
   clear hc1 hzl
   generalize hxe:xs.getD j 0 = x at *
   generalize hye:zs.getD j 0 = y at *
   have hs1:=hstep.1
   have hs2:=hstep.2.1
   have hm0:=Int.emod_nonneg (q * 1000000000 + x) (show d ≠ 0 by omega)
   have hm1:=Int.emod_lt_of_pos (q * 1000000000 + x) hd0
   have HS:=Lib.hid hstep;clear hstep hxe hye
   go_wp2
   go_roundw
   case rel =>
    refine ⟨j,zs.set j ((q * 1000000000 + x) / d),_,by omega,by go_num,rfl,hm0,hm1,by simp;exact HZ.out,HS.out.2.2.1,?_,HS.out.2.2.2,harr.set j (by have:=HZ.out;omega) _,hbel.setCell (Nat.le_refl _) _⟩
    intro j' hj'
    rw [FE.getD_set,if_neg (by omega)]
    exact HZZ.out j' (by omega)
   case measure=>simp [intOf]
theorem sMul_core (xs ys:List Int) (n m c d:Nat) (hn:xs.length = n) (hm:ys.length = m) (hn1:n ≤ 1048576) (hm1:m ≤ 1048576) (hxd:FE.Dig xs) (hyd:FE.Dig ys) (hn0:0 < n) (hm0:0 < m)
 (A B:Option Addr) (w:World) (ha:RI w A xs) (hb:RI w B ys) :
 Calls Tryz.prog 222 #[.slice A n c,.slice B m d] w fun e w'=>∃ v,e = .returned v∧RO w' w.heap.size v (FE.toL (FE.val xs * FE.val ys).toNat)∧Below w.heap.size w w':=by
 have z1:((n:Int) == 0) = false:=by simp;omega
 have z2:((m:Int) == 0) = false:=by simp;omega
 go_enter Tryz.func222,Tryz.ntmps222
 go_wp2_with (at_make;refine makeInts rfl _ _ _ rfl Tryz.underlying41 Tryz.intInfo (n + m) (n + m) _ _ rfl rfl (by simp) (by simp) (Nat.le_refl _) (by omega) ?_;intro harr0)
 go_loopw [28] (fun i wr=>∃ (k:Nat) (zs:List Int),k ≤ n∧i = .int .i64 k∧zs.length = n + m∧FE.Dig zs∧(∀ j,k + m ≤ j → zs.getD j 0 = 0) ∧
  FE.val zs = FE.val (xs.take k) * FE.val ys∧Arr wr w.heap.size (n + m) zs∧Below w.heap.size w wr) (fun i _=>n - (intOf i).toNat)
 case atStart=>exact ⟨0,List.replicate (n + m) 0,Nat.zero_le _,rfl,by simp,FE.Dig.replicate _,by intro j _;by_cases h:j < n + m <;> simp [h],by rw [FE.val_replicate];simp [FE.val],harr0,(Below.refl _ _).alloc (Nat.le_refl _) _⟩
 case round =>
  obtain ⟨i,zs,hi,rfl,hz,hzd,hzz,hv,harr,hbel⟩:=hrel
  have HZ:=Lib.hid hz;clear hz
  have HV:=Lib.hid hv;clear hv
  have HZZ:=Lib.hid hzz;clear hzz
  clear harr0
  by_cases hin:i < n
  ·obtain ⟨b1,o1,rfl,hb1',hc1⟩:=ha (by intro h;subst h;simp at hn;omega)
   have e1:=(hbel.cell (p:=⟨b1,o1 + i,none⟩) hb1').trans (hc1 i (by omega))
   have hx:=hxd.getD i
   clear hc1
   generalize hxe:xs.getD i 0 = x at *
   have HX:=Lib.hid hxe;clear hxe
   go_wp2_with fail
   obtain ⟨wo,hwo⟩:∃ wo:World,wo = wr:=⟨_,rfl⟩
   subst hwo
   go_loopw [8,35] (fun r kk wq=>∃ (k:Nat) (us:List Int) (cy:Int),k ≤ m∧kk = .int .i64 k∧r = .int .i64 cy∧0 ≤ cy∧cy < 1000000000∧us.length = n + m∧FE.Dig us∧(∀ j,i + m ≤ j → us.getD j 0 = 0) ∧
    FE.val us + FE.bp (i + k) * cy = FE.val (xs.take i) * FE.val ys + FE.bp i * (x * FE.val (ys.take k))∧Arr wq w.heap.size (n + m) us∧Below w.heap.size w wq) (fun _ kk _=>m - (intOf kk).toNat)
   case atStart=>exact ⟨0,zs,0,Nat.zero_le _,rfl,rfl,by omega,by omega,HZ.out,hzd,HZZ.out,by rw [HV.out];simp [FE.val],harr,hbel⟩
   case round =>
    clear harr hzd HZ HV HZZ hbel e1
    obtain ⟨k,us,cy,hk,rfl,rfl,hq0,hq1,hu,hud,huz,hv,harr,hbel⟩:=hrel
    have HU:=Lib.hid hu;clear hu
    have HV:=Lib.hid hv;clear hv
    have HUZ:=Lib.hid huz;clear huz
    by_cases hkm:k < m
    ·obtain ⟨b2,o2,rfl,hb2',hc2⟩:=hb (by intro h;subst h;simp at hm;omega)
     have e2:=(hbel.cell (p:=⟨b2,o2 + k,none⟩) hb2').trans (hc2 k (by omega))
     have hul:=HU.out
     have e3:=harr.cell (i + k) (by omega)
     have e4:=harr.frozen (i + k)
     have hy:=hyd.getD k
     have hu1:=hud.getD (i + k)
     have hmm:=FE.mul_bound hx ⟨hy.1,by omega⟩
     have hstep:=FE.mulStep hud (by omega) hx hyd hq0 hq1 HV.out rfl
     clear hc2 hul
     generalize hye:ys.getD k 0 = y at *
     generalize hze:us.getD (i + k) 0 = z at *
     have hp:=hmm.1
     have hp1:=hmm.2.1
     generalize hpe:x * y = p at *
     have HP:=Lib.hid hpe;clear hpe
     have HS:=Lib.hid hstep;clear hstep hye hze
     rw [← HP.out] at hp hp1
     go_wp2
     go_roundw
     case rel =>
      refine ⟨k + 1,us.set (i + k) ((z + x * y + cy) % 1000000000),(z + x * y + cy) / 1000000000,by omega,by go_num,rfl,?_,?_,by simp;exact HU.out,?_,?_,?_,harr.set (i + k) (by have:=HU.out;omega) _,hbel.setCell (Nat.le_refl _) _⟩
      all_goals rw [HP.out]
      ·exact HS.out.2.2.1
      ·exact HS.out.2.2.2
      ·exact HS.out.1
      ·intro j' hj'
       rw [FE.getD_set,if_neg (by omega)]
       exact HUZ.out j' hj'
      ·exact HS.out.2.1
     case measure=>simp [intOf];omega
    ·have hkm':k = m:=by omega
     subst hkm'
     have hul:=HU.out
     have e3:=harr.cell (i + k) (by omega)
     have e4:=harr.frozen (i + k)
     have hrow:=FE.mulRow (xs:=xs) (ys:=ys) (i:=i) hud (by omega) (by rw [hm];exact HUZ.out _ (Nat.le_refl _)) hq0 hq1 (by rw [hm,HX.out];exact HV.out)
     rw [hm] at hrow
     have hz0:us.getD (i + k) 0 = 0:=HUZ.out _ (Nat.le_refl _)
     rw [hz0] at e3 hrow
     rw [Int.zero_add] at hrow
     clear hul hz0
     have HS:=Lib.hid hrow;clear hrow
     go_wp2
     go_roundw
     case rel =>
      refine ⟨i + 1,us.set (i + k) cy,by omega,by go_num,by simp;exact HU.out,HS.out.1,?_,HS.out.2,harr.set (i + k) (by have:=HU.out;omega) _,hbel.setCell (Nat.le_refl _) _⟩
      intro j' hj'
      rw [FE.getD_set,if_neg (by omega)]
      exact HUZ.out j' (by omega)
     case measure=>simp [intOf];omega
  ·have hin':i = n:=by omega
   subst hin'
   have ht:FE.trim zs = FE.toL (FE.val xs * FE.val ys).toNat:=FE.trim_eq hzd (by
    rw [HV.out,List.take_of_length_le (by omega)]
    have:=Int.mul_nonneg (FE.val_nonneg hxd) (FE.val_nonneg hyd)
    omega)
   have HT:=Lib.hid ht
   clear ht
   go_wp2_with (go_at_call 174;refine (sTrim_any zs (i + m) (i + m) HZ.out (by omega) (Nat.le_refl _) _ _ harr.reads).mono ?_;rintro e w' ⟨rfl,rfl⟩)
   go_ret
   refine ⟨_,rfl,?_,hbel⟩
   rw [← HT.out]
   exact RO.of_trim harr (Nat.le_refl _)
theorem sMul_any (xs ys:List Int) (n m c d:Nat) (hn:xs.length = n) (hm:ys.length = m) (hn1:n ≤ 1048576) (hm1:m ≤ 1048576) (hxd:FE.Dig xs) (hyd:FE.Dig ys)
 (A B:Option Addr) (w:World) (ha:RI w A xs) (hb:RI w B ys) :
 Calls Tryz.prog 222 #[.slice A n c,.slice B m d] w fun e w'=>∃ v,e = .returned v∧RO w' w.heap.size v (FE.toL (FE.val xs * FE.val ys).toNat)∧Below w.heap.size w w':=by
 by_cases hn0:n = 0
 ·subst hn0
  have hx:xs = []:=List.eq_nil_of_length_eq_zero hn
  subst hx
  have e:FE.toL (FE.val [] * FE.val ys).toNat = []:=by simp [FE.val,FE.toL_zero]
  rw [e]
  clear e
  go_enter Tryz.func222,Tryz.ntmps222
  go_wp2
  go_ret
  exact ⟨_,rfl,RO.nil _ _ _ _ (Nat.zero_le _),Below.refl _ _⟩
 ·by_cases hm0:m = 0
  ·subst hm0
   have hx:ys = []:=List.eq_nil_of_length_eq_zero hm
   subst hx
   have e:FE.toL (FE.val xs * FE.val []).toNat = []:=by simp [FE.val,FE.toL_zero]
   rw [e]
   clear e
   have z1:((n:Int) == 0) = false:=by simp;omega
   have Z:=Lib.hid hn0;clear hn0
   go_enter Tryz.func222,Tryz.ntmps222
   go_wp2
   go_ret
   exact ⟨_,rfl,RO.nil _ _ _ _ (Nat.zero_le _),Below.refl _ _⟩
  ·exact sMul_core xs ys n m c d hn hm hn1 hm1 hxd hyd (by omega) (by omega) A B w ha hb
theorem sMul_nat (p q:Nat) (n m c d:Nat) (hn:(FE.toL p).length = n) (hm:(FE.toL q).length = m) (hn1:n ≤ 65536) (hm1:m ≤ 65536) (A B:Option Addr) (w:World) (ha:RI w A (FE.toL p)) (hb:RI w B (FE.toL q)) :
 Calls Tryz.prog 222 #[.slice A n c,.slice B m d] w fun e w'=>∃ v,e = .returned v∧RO w' w.heap.size v (FE.toL (p * q))∧Below w.heap.size w w':=by
 have h:=sMul_any _ _ n m c d hn hm (by omega) (by omega) (FE.toL_dig _) (FE.toL_dig _) A B w ha hb
 rwa [FE.val_toL,FE.val_toL,← Int.natCast_mul,Int.toNat_natCast] at h
theorem OI.form {w:World} {base:Nat} {v:Value} {xs:List Int} (h:OI w base v xs):∃ A c,v = .slice A xs.length c∧xs.length ≤ c∧RI w A xs∧RO w base (.slice A (FE.trim xs).length c) (FE.trim xs):=by
 have hro:=RO.of_own h
 obtain ⟨A,c,rfl,h1,h2,h3⟩:=hro
 refine ⟨A,c,rfl,h1,RO.reads (RO.of_own h),A,c,rfl,?_,h2,fun hx=>?_⟩
 ·have:=trim_len xs;omega
 ·obtain ⟨g,e,hg,ha⟩:=h3 (by intro e;subst e;exact hx rfl)
  refine ⟨g,e,hg,?_⟩
  rw [trim_take xs]
  exact ha.cut _
theorem sAdd_any (xs ys:List Int) (n m c d:Nat) (hn:xs.length = n) (hm:ys.length = m) (hn1:n ≤ 65536) (hm1:m ≤ 65536) (hxd:FE.Dig xs) (hxt:FE.Top xs) (hyd:FE.Dig ys) (hyt:FE.Top ys)
 (A B:Option Addr) (w:World) (ha:RI w A xs) (hb:RI w B ys) :
 Calls Tryz.prog 265 #[.slice A n c,.slice B m d] w fun e w'=>∃ v,e = .returned v∧RO w' w.heap.size v (FE.toL (FE.val xs + FE.val ys).toNat)∧Below w.heap.size w w':=by
 go_enter Tryz.func265,Tryz.ntmps265
 go_wp2_with fail
 go_loopw [5,6,7] (fun v c i wr=>∃ (k:Nat) (zs:List Int) (cy:Int),i = .int .i64 k∧c = .int .i64 cy∧0 ≤ cy∧cy ≤ 1∧k ≤ 131073∧(k ≤ n ∨ k ≤ m ∨ (FE.Top zs∧cy = 0))∧zs.length = k∧FE.Dig zs ∧
  FE.val zs + FE.bp k * cy = FE.val (List.take k xs) + FE.val (List.take k ys)∧OI wr w.heap.size v zs∧Below w.heap.size w wr) (fun _ _ i _=>131074 - (intOf i).toNat)
 case atStart=>exact ⟨0,[],0,rfl,rfl,by omega,by omega,by omega,.inl (Nat.zero_le _),rfl,FE.Dig.nil,by simp [FE.val],OI.of_arr (g:=w.heap.size) (cap:=0) ⟨[],rfl,Nat.zero_le _,heap_alloc_new _ _⟩ (Nat.le_refl _),(Below.refl _ _).alloc (Nat.le_refl _) _⟩
 case round =>
  obtain ⟨k,zs,cy,rfl,rfl,hc0,hc1,hkb,hor,hz,hzd,hzv,hown,hbel⟩:=hrel
  have HZ:=Lib.hid hz;clear hz
  have HV:=Lib.hid hzv;clear hzv
  have HOR:=Lib.hid hor;clear hor
  by_cases hkn:k < n
  ·by_cases hkm:k < m
   ·skip
    obtain ⟨b1,o1,rfl,hb1,hc1'⟩:=ha (by intro h;rw [h] at hn;simp at hn;omega)
    have e1:=(hbel.cell (p:=⟨b1,o1 + k,none⟩) hb1).trans (hc1' k (by omega))
    clear hc1'
    obtain ⟨b2,o2,rfl,hb2,hc2'⟩:=hb (by intro h;rw [h] at hm;simp at hm;omega)
    have e2:=(hbel.cell (p:=⟨b2,o2 + k,none⟩) hb2).trans (hc2' k (by omega))
    clear hc2'
    have hx:=hxd.getD k
    have hy:=hyd.getD k
    have hstep:=FE.addStep (X:=xs) (Y:=ys) (s:=cy + xs.getD k 0 + ys.getD k 0) HZ.out hzd HV.out (by omega)
    generalize hxe:xs.getD k 0 = x at *
    clear hxe
    generalize hye:ys.getD k 0 = y at *
    clear hye
    have HS:=Lib.hid hstep;clear hstep
    go_wp2_with (at_builtin;refine append1 rfl _ _ _ rfl Tryz.underlying41 Tryz.intInfo w.heap.size _ zs rfl (hown.alloc _) ⟨wr.heap.size,0,none⟩ _ rfl (cell_new1 _ _ _) (by have:=HZ.out;omega) (by have:=hbel.size;simp;omega) ?_)
    intro v' w1 hown1 hb1'
    go_wp2
    go_roundw
    case rel=>exact ⟨k + 1,zs ++ [(cy + x + y) % 1000000000],(cy + x + y) / 1000000000,by go_num,rfl,by omega,by omega,by omega,.inl (by omega),by simp;exact HZ.out,HS.out.1,HS.out.2,hown1,(hbel.alloc hbel.size _).trans hb1'⟩
    case measure=>simp [intOf];omega
   ·skip
    obtain ⟨b1,o1,rfl,hb1,hc1'⟩:=ha (by intro h;rw [h] at hn;simp at hn;omega)
    have e1:=(hbel.cell (p:=⟨b1,o1 + k,none⟩) hb1).trans (hc1' k (by omega))
    clear hc1'
    have hx:=hxd.getD k
    have hy:=hyd.getD k
    have hy0:ys.getD k 0 = 0:=by simp [List.getElem?_eq_none (show ys.length ≤ k by omega)]
    have hstep:=FE.addStep (X:=xs) (Y:=ys) (s:=cy + xs.getD k 0) HZ.out hzd HV.out (by omega)
    clear hy0 hy
    generalize hxe:xs.getD k 0 = x at *
    clear hxe
    have HS:=Lib.hid hstep;clear hstep
    go_wp2_with (at_builtin;refine append1 rfl _ _ _ rfl Tryz.underlying41 Tryz.intInfo w.heap.size _ zs rfl (hown.alloc _) ⟨wr.heap.size,0,none⟩ _ rfl (cell_new1 _ _ _) (by have:=HZ.out;omega) (by have:=hbel.size;simp;omega) ?_)
    intro v' w1 hown1 hb1'
    go_wp2
    go_roundw
    case rel=>exact ⟨k + 1,zs ++ [(cy + x) % 1000000000],(cy + x) / 1000000000,by go_num,rfl,by omega,by omega,by omega,.inl (by omega),by simp;exact HZ.out,HS.out.1,HS.out.2,hown1,(hbel.alloc hbel.size _).trans hb1'⟩
    case measure=>simp [intOf];omega
  ·by_cases hkm:k < m
   ·skip
    obtain ⟨b2,o2,rfl,hb2,hc2'⟩:=hb (by intro h;rw [h] at hm;simp at hm;omega)
    have e2:=(hbel.cell (p:=⟨b2,o2 + k,none⟩) hb2).trans (hc2' k (by omega))
    clear hc2'
    have hx:=hxd.getD k
    have hy:=hyd.getD k
    have hx0:xs.getD k 0 = 0:=by simp [List.getElem?_eq_none (show xs.length ≤ k by omega)]
    have hstep:=FE.addStep (X:=xs) (Y:=ys) (s:=cy + ys.getD k 0) HZ.out hzd HV.out (by omega)
    clear hx0 hx
    generalize hye:ys.getD k 0 = y at *
    clear hye
    have HS:=Lib.hid hstep;clear hstep
    go_wp2_with (at_builtin;refine append1 rfl _ _ _ rfl Tryz.underlying41 Tryz.intInfo w.heap.size _ zs rfl (hown.alloc _) ⟨wr.heap.size,0,none⟩ _ rfl (cell_new1 _ _ _) (by have:=HZ.out;omega) (by have:=hbel.size;simp;omega) ?_)
    intro v' w1 hown1 hb1'
    go_wp2
    go_roundw
    case rel=>exact ⟨k + 1,zs ++ [(cy + y) % 1000000000],(cy + y) / 1000000000,by go_num,rfl,by omega,by omega,by omega,.inr (.inl (by omega)),by simp;exact HZ.out,HS.out.1,HS.out.2,hown1,(hbel.alloc hbel.size _).trans hb1'⟩
    case measure=>simp [intOf];omega
   ·by_cases hcy:0 < cy
    ·have hkk:k ≤ n ∨ k ≤ m:=by
      rcases HOR.out with h | h | h
      ·exact .inl h
      ·exact .inr h
      ·omega
     have hx:=hxd.getD k
     have hy:=hyd.getD k
     have hx0:xs.getD k 0 = 0:=by simp [List.getElem?_eq_none (show xs.length ≤ k by omega)]
     have hy0:ys.getD k 0 = 0:=by simp [List.getElem?_eq_none (show ys.length ≤ k by omega)]
     have hstep:=FE.addStep (X:=xs) (Y:=ys) (s:=cy) HZ.out hzd HV.out (by omega)
     clear hx0 hx
     clear hy0 hy
     have HS:=Lib.hid hstep;clear hstep
     have hcy1:cy = 1:=by omega
     subst hcy1
     go_wp2_with (at_builtin;refine append1 rfl _ _ _ rfl Tryz.underlying41 Tryz.intInfo w.heap.size _ zs rfl (hown.alloc _) ⟨wr.heap.size,0,none⟩ _ rfl (cell_new1 _ _ _) (by have:=HZ.out;omega) (by have:=hbel.size;simp;omega) ?_)
     intro v' w1 hown1 hb1'
     go_wp2
     go_roundw
     case rel=>exact ⟨k + 1,zs ++ [1],0,by go_num,rfl,by omega,by omega,by omega,.inr (.inr ⟨FE.top_snoc _ (by omega),rfl⟩),by simp;exact HZ.out,by simpa using HS.out.1,by simpa using HS.out.2,by simpa using hown1,(hbel.alloc hbel.size _).trans hb1'⟩
     case measure=>simp [intOf];omega
    ·have hcy0:cy = 0:=by omega
     subst hcy0
     have hv:=HV.out
     rw [List.take_of_length_le (by omega),List.take_of_length_le (by omega)] at hv
     simp only [Int.mul_zero,Int.add_zero] at hv
     have hx0:=FE.val_nonneg hxd
     have hy0:=FE.val_nonneg hyd
     have htop:FE.Top zs:=by
      rcases HOR.out with h | h | h
      ·refine FE.top_of_ge hzd fun hne=>?_
       have h1:=FE.val_ge hxd hxt (by intro e;subst e;simp at hn;have:=HZ.out;have:zs = []:=List.eq_nil_of_length_eq_zero (by omega);exact hne this)
       have h2:=HZ.out
       rw [show zs.length - 1 = xs.length - 1 by omega]
       omega
      ·refine FE.top_of_ge hzd fun hne=>?_
       have h1:=FE.val_ge hyd hyt (by intro e;subst e;simp at hm;have:=HZ.out;have:zs = []:=List.eq_nil_of_length_eq_zero (by omega);exact hne this)
       have h2:=HZ.out
       rw [show zs.length - 1 = ys.length - 1 by omega]
       omega
      ·exact h.1
     have hfin:zs = FE.toL (FE.val xs + FE.val ys).toNat:=FE.eq_toL hzd htop (by rw [hv];omega)
     have HF:=Lib.hid hfin
     clear hv hx0 hy0 htop hfin
     go_wp2
     go_ret
     exact ⟨_,rfl,RO.of_own (by rw [← HF.out];exact hown),hbel⟩
theorem sAdd_nat (p q:Nat) (n m c d:Nat) (hn:(FE.toL p).length = n) (hm:(FE.toL q).length = m) (hn1:n ≤ 65536) (hm1:m ≤ 65536) (A B:Option Addr) (w:World) (ha:RI w A (FE.toL p)) (hb:RI w B (FE.toL q)) :
 Calls Tryz.prog 265 #[.slice A n c,.slice B m d] w fun e w'=>∃ v,e = .returned v∧RO w' w.heap.size v (FE.toL (p + q))∧Below w.heap.size w w':=by
 have h:=sAdd_any _ _ n m c d hn hm hn1 hm1 (FE.toL_dig _) (FE.toL_top _) (FE.toL_dig _) (FE.toL_top _) A B w ha hb
 rwa [FE.val_toL,FE.val_toL,← Int.natCast_add,Int.toNat_natCast] at h
theorem sSub_any (xs ys:List Int) (n m c d:Nat) (hn:xs.length = n) (hm:ys.length = m) (hn1:n ≤ 65536) (hmn:m ≤ n) (hxd:FE.Dig xs) (hyd:FE.Dig ys) (hle:FE.val ys ≤ FE.val xs)
 (A B:Option Addr) (w:World) (ha:RI w A xs) (hb:RI w B ys) :
 Calls Tryz.prog 221 #[.slice A n c,.slice B m d] w fun e w'=>∃ v,e = .returned v∧RO w' w.heap.size v (FE.toL (FE.val xs - FE.val ys).toNat)∧Below w.heap.size w w':=by
 have HLE:=Lib.hid hle;clear hle
 go_enter Tryz.func221,Tryz.ntmps221
 go_wp2_with fail
 go_loopw [5,6,12] (fun v r i wr=>∃ (k:Nat) (zs:List Int) (bo:Int),k ≤ n∧i = .int .i64 k∧r = .int .i64 bo∧(bo = 0 ∨ bo = 1)∧zs.length = k∧FE.Dig zs ∧
  FE.val zs = FE.val (xs.take k) - FE.val (ys.take k) + FE.bp k * bo∧OI wr w.heap.size v zs∧Below w.heap.size w wr) (fun _ _ i _=>n - (intOf i).toNat)
 case atStart=>exact ⟨0,[],0,Nat.zero_le _,rfl,rfl,.inl rfl,rfl,FE.Dig.nil,by simp [FE.val],OI.of_arr (g:=w.heap.size) (cap:=0) ⟨[],rfl,Nat.zero_le _,heap_alloc_new _ _⟩ (Nat.le_refl _),(Below.refl _ _).alloc (Nat.le_refl _) _⟩
 case round =>
  obtain ⟨k,zs,bo,hk,rfl,rfl,hbo,hz,hzd,hv,hown,hbel⟩:=hrel
  have HZ:=Lib.hid hz;clear hz
  have HV:=Lib.hid hv;clear hv
  have HBO:=Lib.hid hbo
  have hbo1:0 ≤ bo∧bo ≤ 1:=by omega
  clear hbo
  by_cases hkn:k < n
  ·obtain ⟨b1,o1,rfl,hb1',hc1⟩:=ha (by intro h;subst h;simp at hn;omega)
   have e2:=(hbel.cell (p:=⟨b1,o1 + k,none⟩) hb1').trans (hc1 k (by omega))
   clear hc1
   have hx:=hxd.getD k
   have hstep:=FE.subStep (xs:=xs) (ys:=ys) HZ.out hzd hxd hyd HBO.out HV.out rfl
   by_cases hkm:k < m
   ·skip
    obtain ⟨b2,o2,rfl,hb2',hc2⟩:=hb (by intro h;subst h;simp at hm;omega)
    have e4:=(hbel.cell (p:=⟨b2,o2 + k,none⟩) hb2').trans (hc2 k (by omega))
    clear hc2
    have hy:=hyd.getD k
    generalize hye:ys.getD k 0 = y at *
    generalize hxe:xs.getD k 0 = x at *
    clear hxe hye
    by_cases ht:x - bo - y < 0
    ·rw [if_pos ht,if_pos ht] at hstep
     have HS:=Lib.hid hstep;clear hstep
     go_wp2_with (at_builtin;refine append1 rfl _ _ _ rfl Tryz.underlying41 Tryz.intInfo w.heap.size _ zs rfl (hown.alloc _) ⟨wr.heap.size,0,none⟩ _ rfl (cell_new1 _ _ _) (by have:=HZ.out;omega) (by have:=hbel.size;simp;omega) ?_)
     intro v' w1 hown1 hb1'
     go_wp2
     go_roundw
     case rel=>exact ⟨k + 1,zs ++ [x - bo - y + 1000000000],1,by omega,by go_num,rfl,.inr rfl,by simp;exact HZ.out,HS.out.1,HS.out.2,hown1,(hbel.alloc hbel.size _).trans hb1'⟩
     case measure=>simp [intOf];omega
    ·rw [if_neg ht,if_neg ht] at hstep
     have HS:=Lib.hid hstep;clear hstep
     go_wp2_with (at_builtin;refine append1 rfl _ _ _ rfl Tryz.underlying41 Tryz.intInfo w.heap.size _ zs rfl (hown.alloc _) ⟨wr.heap.size,0,none⟩ _ rfl (cell_new1 _ _ _) (by have:=HZ.out;omega) (by have:=hbel.size;simp;omega) ?_)
     intro v' w1 hown1 hb1'
     go_wp2
     go_roundw
     case rel=>exact ⟨k + 1,zs ++ [x - bo - y],0,by omega,by go_num,rfl,.inl rfl,by simp;exact HZ.out,HS.out.1,HS.out.2,hown1,(hbel.alloc hbel.size _).trans hb1'⟩
     case measure=>simp [intOf];omega
   ·skip
    have hy0:ys.getD k 0 = 0:=by simp [List.getElem?_eq_none (show ys.length ≤ k by omega)]
    rw [hy0] at hstep
    simp only [Int.sub_zero] at hstep
    clear hy0
    generalize hxe:xs.getD k 0 = x at *
    clear hxe
    by_cases ht:x - bo < 0
    ·rw [if_pos ht,if_pos ht] at hstep
     have HS:=Lib.hid hstep;clear hstep
     go_wp2_with (at_builtin;refine append1 rfl _ _ _ rfl Tryz.underlying41 Tryz.intInfo w.heap.size _ zs rfl (hown.alloc _) ⟨wr.heap.size,0,none⟩ _ rfl (cell_new1 _ _ _) (by have:=HZ.out;omega) (by have:=hbel.size;simp;omega) ?_)
     intro v' w1 hown1 hb1'
     go_wp2
     go_roundw
     case rel=>exact ⟨k + 1,zs ++ [x - bo + 1000000000],1,by omega,by go_num,rfl,.inr rfl,by simp;exact HZ.out,HS.out.1,HS.out.2,hown1,(hbel.alloc hbel.size _).trans hb1'⟩
     case measure=>simp [intOf];omega
    ·rw [if_neg ht,if_neg ht] at hstep
     have HS:=Lib.hid hstep;clear hstep
     go_wp2_with (at_builtin;refine append1 rfl _ _ _ rfl Tryz.underlying41 Tryz.intInfo w.heap.size _ zs rfl (hown.alloc _) ⟨wr.heap.size,0,none⟩ _ rfl (cell_new1 _ _ _) (by have:=HZ.out;omega) (by have:=hbel.size;simp;omega) ?_)
     intro v' w1 hown1 hb1'
     go_wp2
     go_roundw
     case rel=>exact ⟨k + 1,zs ++ [x - bo],0,by omega,by go_num,rfl,.inl rfl,by simp;exact HZ.out,HS.out.1,HS.out.2,hown1,(hbel.alloc hbel.size _).trans hb1'⟩
     case measure=>simp [intOf];omega
  ·have hkn':k = n:=by omega
   subst hkn'
   have hend:=FE.subEnd (ys:=ys) hxd (by omega) (HZ.out.trans hn.symm) hzd HBO.out (by rw [hn];exact HV.out) HLE.out
   have HE:=Lib.hid hend;clear hend
   obtain ⟨A',c',rfl,hlc,hri,hro⟩:=hown.form
   rw [HZ.out] at hlc ⊢
   go_wp2_with (go_at_call 174;refine (sTrim_any zs k c' HZ.out (by omega) hlc _ _ hri).mono ?_;rintro e w' ⟨rfl,rfl⟩)
   go_ret
   refine ⟨_,rfl,?_,hbel⟩
   rw [← HE.out]
   exact hro
theorem sSub_nat (p q:Nat) (n m c d:Nat) (hn:(FE.toL p).length = n) (hm:(FE.toL q).length = m) (hn1:n ≤ 65536) (hle:q ≤ p) (A B:Option Addr) (w:World) (ha:RI w A (FE.toL p)) (hb:RI w B (FE.toL q)) :
 Calls Tryz.prog 221 #[.slice A n c,.slice B m d] w fun e w'=>∃ v,e = .returned v∧RO w' w.heap.size v (FE.toL (p - q))∧Below w.heap.size w w':=by
 have hl:=toL_len_mono hle
 have h:=sSub_any _ _ n m c d hn hm hn1 (by omega) (FE.toL_dig _) (FE.toL_dig _) (by rw [FE.val_toL,FE.val_toL];omega) A B w ha hb
 rwa [FE.val_toL,FE.val_toL,← Int.natCast_sub hle,Int.toNat_natCast] at h
end Go.Proofs.YtchbnlkambncnaaGreatDoor
