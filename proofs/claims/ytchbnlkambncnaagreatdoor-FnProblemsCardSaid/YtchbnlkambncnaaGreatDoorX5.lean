/-
 Shared texts (X5).
-/
import Derived.Test.YtchbnlkambncnaaGreatDoorX4
set_option maxRecDepth 100000
set_option maxHeartbeats 4000000
namespace Go.Proofs.YtchbnlkambncnaaGreatDoor
namespace FE
def nv (l:List Int):Nat:=(val l).toNat
theorem nv_toL (n:Nat):nv (toL n) = n:=by rw [nv,val_toL,Int.toNat_natCast]
def digB (l:List Int):Bool:=l.all fun x=>decide (0 ≤ x) && decide (x < 1000000000)
theorem digB_iff {l:List Int}:digB l = true ↔ Dig l:=by simp [digB,Dig]
def topB (l:List Int):Bool:=l.getLast? != some 0
theorem topB_iff {l:List Int}:topB l = true ↔ Top l:=by
 unfold topB Top
 cases l with
 | nil=>simp
 | cons x l=>rw [List.getLast?_eq_some_getLast (by simp)];simp
def natOk (l:List Int):Bool:=decide (l.length ≤ 60) && (topB l && digB l)
theorem natOk_iff {l:List Int}:natOk l = true ↔ NatOk l:=by
 simp only [natOk,NatOk,digB_iff,topB_iff,Bool.and_eq_true,decide_eq_true_eq]
 exact ⟨fun ⟨a,b,c⟩=>⟨a,c,b⟩,fun ⟨a,b,c⟩=>⟨a,c,b⟩⟩
theorem toL_nv {l:List Int} (h:natOk l = true):toL (nv l) = l:=toL_val (natOk_iff.1 h).2.1 (natOk_iff.1 h).2.2
theorem natOk_len {l:List Int} (h:natOk l = true):l.length ≤ 60:=(natOk_iff.1 h).1
theorem natOk_of_toL {n:Nat} (h:(toL n).length ≤ 60):natOk (toL n) = true:=natOk_iff.2 ⟨h,toL_dig n,toL_top n⟩
def bigOk (s:Bool) (l:List Int):Bool:=natOk l && (!s || !l.isEmpty)
def ratOk (r:RatD):Bool:=(bigOk r.neg r.mag && (natOk r.den && !r.den.isEmpty)) && ((decide (r.mag.length ≤ 24) && decide (r.den.length ≤ 24)) && Nat.gcd (nv r.mag) (nv r.den) == 1)
def mkR (s:Bool) (p q:Nat):RatD:=⟨s && decide (p ≠ 0),toL p,toL q⟩
def few (p:Nat):Bool:=decide ((toL p).length ≤ 24)
def low (s:Bool) (p q:Nat):RatD :=
 if q = 0 then zR else if few (p / Nat.gcd p q) && few (q / Nat.gcd p q) then mkR s (p / Nat.gcd p q) (q / Nat.gcd p q) else zR
structure OkR (r:RatD) (p q:Nat):Prop where
 mag:r.mag = toL p
 den:r.den = toL q
 p0:r.neg = true → p ≠ 0
 q0:q ≠ 0
 pl:(toL p).length ≤ 24
 ql:(toL q).length ≤ 24
 gcd:Nat.gcd p q = 1
theorem ratOk_iff {r:RatD}:ratOk r = true ↔ OkR r (nv r.mag) (nv r.den):=by
 constructor
 ·intro h
  simp only [ratOk,bigOk,Bool.and_eq_true,decide_eq_true_eq,beq_iff_eq,Bool.or_eq_true,Bool.not_eq_true',List.isEmpty_eq_false_iff] at h
  obtain ⟨⟨⟨h1,h2⟩,h3,h4⟩,⟨h5,h6⟩,h7⟩:=h
  have e1:=toL_nv h1
  have e2:=toL_nv h3
  refine ⟨e1.symm,e2.symm,fun hs h0=>?_,fun h0=>h4 ?_,by rw [e1];exact h5,by rw [e2];exact h6,h7⟩
  ·rcases h2 with h2 | h2
   ·rw [h2] at hs;cases hs
   ·rw [h0,toL_zero] at e1;exact h2 e1.symm
  ·rw [h0,toL_zero] at e2;exact e2.symm
 ·intro h
  have l1:r.mag.length ≤ 24:=by rw [h.mag];exact h.pl
  have l2:r.den.length ≤ 24:=by rw [h.den];exact h.ql
  have n1:natOk r.mag = true:=by rw [h.mag];exact natOk_of_toL (by have:=h.pl;omega)
  have n2:natOk r.den = true:=by rw [h.den];exact natOk_of_toL (by have:=h.ql;omega)
  have hd:r.den ≠ []:=by rw [h.den];intro e;exact h.q0 (toL_eq_nil.1 e)
  have hm:r.neg = true → r.mag ≠ []:=by intro hs;rw [h.mag];intro e;exact h.p0 hs (toL_eq_nil.1 e)
  simp only [ratOk,bigOk,Bool.and_eq_true,decide_eq_true_eq,beq_iff_eq,Bool.or_eq_true,Bool.not_eq_true',List.isEmpty_eq_false_iff]
  refine ⟨⟨⟨n1,?_⟩,n2,hd⟩,⟨l1,l2⟩,h.gcd⟩
  cases hs:r.neg
  ·exact .inl rfl
  ·exact .inr (hm hs)
theorem OkR.ok {r:RatD} {p q:Nat} (h:OkR r p q):ratOk r = true:=by
 refine ratOk_iff.2 ?_
 have e1:nv r.mag = p:=by rw [h.mag,nv_toL]
 have e2:nv r.den = q:=by rw [h.den,nv_toL]
 rw [e1,e2];exact h
theorem OkR.nmag {r:RatD} {p q:Nat} (h:OkR r p q):nv r.mag = p:=by rw [h.mag,nv_toL]
theorem OkR.nden {r:RatD} {p q:Nat} (h:OkR r p q):nv r.den = q:=by rw [h.den,nv_toL]
def Res (r:RatD):Prop:=r = zR ∨ ratOk r = true
theorem Res.den {r:RatD} (h:Res r):(r.den.length == 0) = !ratOk r:=by
 rcases h with rfl | h
 ·decide
 ·rw [h]
  have h':=ratOk_iff.1 h
  have:r.den ≠ []:=by rw [h'.den];intro e;exact h'.q0 (toL_eq_nil.1 e)
  simpa using this
def num (r:RatD):Int:=if r.neg then -(nv r.mag:Int) else nv r.mag
def lowI (n:Int) (q:Nat):RatD:=low (decide (n < 0)) n.natAbs q
def radd (r s:RatD):RatD:=if ratOk r && ratOk s then lowI (num r * nv s.den + num s * nv r.den) (nv r.den * nv s.den) else zR
def rsub (r s:RatD):RatD:=if ratOk r && ratOk s then lowI (num r * nv s.den - num s * nv r.den) (nv r.den * nv s.den) else zR
def rmul (r s:RatD):RatD:=if ratOk r && ratOk s then lowI (num r * num s) (nv r.den * nv s.den) else zR
def rdiv (r s:RatD):RatD:=if ratOk r && ratOk s then low (r.neg != s.neg) (nv r.mag * nv s.den) (nv r.den * nv s.mag) else zR
def rsign (r:RatD):Int:=if ratOk r then (if r.mag.isEmpty then 0 else if r.neg then -1 else 1) else 0
def rint (n:Int):RatD:=⟨decide (n < 0),toL n.natAbs,[1]⟩
end FE
open Go.RowKit
def cmpI (a b:Int):Int:=if a < b then -1 else if b < a then 1 else 0
def cmpAt (xs ys:List Int):Nat → Int
 | 0=>0
 | i + 1=>if xs.getD i 0 = ys.getD i 0 then cmpAt xs ys i else cmpI (xs.getD i 0) (ys.getD i 0)
def cmpL (xs ys:List Int):Int:=if xs.length = ys.length then cmpAt xs ys xs.length else cmpI xs.length ys.length
theorem cmpCompare (a b:Int) (w:World) :
 Calls Tryz.prog 184 #[.int .i64 a,.int .i64 b] w fun e w'=>e = .returned (.int .i64 (cmpI a b))∧w' = w:=by
 go_enter Tryz.func184,Tryz.ntmps184
 go_wp2
 all_goals go_ret
 ·exact ⟨by rw [cmpI,if_pos (by assumption)];rfl,rfl⟩
 ·exact ⟨by rw [cmpI,if_neg (by omega),if_pos (by assumption)];rfl,rfl⟩
 ·exact ⟨by rw [cmpI,if_neg (by omega),if_neg (by omega)];rfl,rfl⟩
theorem natCmp_any (xs ys:List Int) (n m c d:Nat) (hn:xs.length = n) (hm:ys.length = m) (hn1:n ≤ 4611686018427387904) (hm1:m ≤ 4611686018427387904) (A B:Option Addr) (w:World) (ha:RI w A xs) (hb:RI w B ys) :
 Calls Tryz.prog 143 #[.slice A n c,.slice B m d] w fun e w'=>e = .returned (.int .i64 (cmpL xs ys))∧∃ k,w' = w.drewN k:=by
 by_cases hnm:n = m
 ·subst hnm
  have hh:((n:Int) != n) = false:=by simp
  have hL:cmpL xs ys = cmpAt xs ys n:=by rw [cmpL,hn,hm,if_pos rfl]
  rw [hL]
  clear hL
  go_enter Tryz.func143,Tryz.ntmps143
  go_wp2_with fail
  go_loopw [5] (fun i wr=>∃ k:Nat,k ≤ n∧i = .int .i64 ((k:Int) - 1)∧cmpAt xs ys n = cmpAt xs ys k∧∃ q,wr = w.drewN q) (fun i _=>(intOf i + 1).toNat)
  case atStart=>exact ⟨n,Nat.le_refl _,rfl,rfl,0,rfl⟩
  case round =>
   obtain ⟨k,hk,rfl,hc,q,rfl⟩:=hrel
   have HC:=Lib.hid hc;clear hc
   by_cases hk0:k = 0
   ·subst hk0
    go_wp2
    go_ret
    exact ⟨ret_int (by rw [HC.out];rfl),q,rfl⟩
   ·obtain ⟨j,rfl⟩:=Nat.exists_eq_succ_of_ne_zero hk0
    obtain ⟨b1,o1,rfl,hb1,hc1⟩:=ha (by intro h;subst h;simp at hn;omega)
    obtain ⟨b2,o2,rfl,hb2,hc2⟩:=hb (by intro h;subst h;simp at hm;omega)
    have e1:=hc1 j (by omega)
    have e2:=hc2 j (by omega)
    clear hc1 hc2
    have hj:cmpAt xs ys (j + 1) = if xs.getD j 0 = ys.getD j 0 then cmpAt xs ys j else cmpI (xs.getD j 0) (ys.getD j 0):=rfl
    generalize xs.getD j 0 = x at *
    generalize ys.getD j 0 = y at *
    have Hj:=Lib.hid hj;clear hj
    by_cases hxy:x = y
    ·subst hxy
     have hx1:(x != x) = false:=by simp
     go_wp2
     go_quiet (fail)
     go_wp2
     go_roundw
     case rel=>exact ⟨j,by omega,by go_num,by rw [HC.out,Hj.out,if_pos trivial],_,rfl⟩
     case measure=>simp [intOf]
    ·have hx1:(x != y) = true:=by simpa using hxy
     have Hxy:=Lib.hid hxy;clear hxy
     go_wp2
     go_quiet (fail)
     simp only [World.drewN_drewN]
     generalize q + nq = q2
     go_wp2
     go_quiet ((go_at_call 184;exact quiet_add_same (cmpCompare _ _ _)))
     go_wp2
     go_ret
     exact ⟨ret_int (by rw [HC.out,Hj.out,if_neg Hxy.out]),q2 + nq,World.drewN_drewN _ _ _⟩
 ·have hh:((n:Int) != m) = true:=by simp;omega
  have hL:cmpL xs ys = cmpI n m:=by rw [cmpL,hn,hm,if_neg hnm]
  rw [hL]
  clear hL
  have Hnm:=Lib.hid hnm;clear hnm
  go_enter Tryz.func143,Tryz.ntmps143
  go_wp2_with (go_at_call 184;refine (cmpCompare _ _ _).mono ?_;rintro e w' ⟨rfl,rfl⟩)
  go_ret
  exact ⟨rfl,0,rfl⟩
open Go.Joins
def inB (n lo hi:Int):Bool:=decide (lo ≤ n) && decide (n ≤ hi)
theorem inB_true {n lo hi:Int} (h:lo ≤ n) (h2:n ≤ hi):inB n lo hi = true:=by simp [inB,h,h2]
theorem inB_lo {n lo hi:Int} (h:¬ lo ≤ n):inB n lo hi = false:=by simp [inB];omega
theorem inB_hi {n lo hi:Int} (h:¬ n ≤ hi):inB n lo hi = false:=by simp [inB];omega
theorem iWithin (n lo hi:Int) (w:World) :
 Calls Tryz.prog 67 #[.int .i64 n,.int .i64 lo,.int .i64 hi] w fun e w'=>e = .returned (.bool (inB n lo hi))∧w' = w:=by
 by_cases h1:lo ≤ n
 ·by_cases h2:n ≤ hi
  ·rw [inB_true h1 h2]
   go_enter Tryz.func67,Tryz.ntmps67
   go_wp2
   go_ret
   exact ⟨rfl,rfl⟩
  ·rw [inB_hi h2]
   go_enter Tryz.func67,Tryz.ntmps67
   go_wp2
   go_ret
   exact ⟨rfl,rfl⟩
 ·rw [inB_lo h1]
  go_enter Tryz.func67,Tryz.ntmps67
  go_wp2
  go_ret
  exact ⟨rfl,rfl⟩
theorem sIn (n lo hi:Int) (w:World) :
 Calls Tryz.prog 116 #[.int .i64 n,.int .i64 lo,.int .i64 hi] w fun e w'=>e = .returned (.bool (inB n lo hi))∧w' = w:=by
 by_cases h1:lo ≤ n
 ·by_cases h2:n ≤ hi
  ·rw [inB_true h1 h2]
   go_enter Tryz.func116,Tryz.ntmps116
   go_wp2
   go_ret
   exact ⟨rfl,rfl⟩
  ·rw [inB_hi h2]
   go_enter Tryz.func116,Tryz.ntmps116
   go_wp2
   go_ret
   exact ⟨rfl,rfl⟩
 ·rw [inB_lo h1]
  go_enter Tryz.func116,Tryz.ntmps116
  go_wp2
  go_ret
  exact ⟨rfl,rfl⟩
theorem iNatOk1 (x:Int) (w:World) :
 Calls Tryz.prog 108 #[.int .i64 x] w fun e w'=>e = .returned (.bool (!inB x 0 999999999))∧w' = w:=by
 go_enter Tryz.func108,Tryz.ntmps108
 go_wp2_with fail
 refine (iWithin _ _ _ _).mono ?_
 rintro e w1 ⟨rfl,rfl⟩
 go_wp2
 go_ret
 exact ⟨rfl,rfl⟩
namespace FE
theorem digB_take {l:List Int} {k:Nat} (hk:k < l.length) (h:digB (l.take k) = true) (hx:inB (l.getD k 0) 0 999999999 = true):digB (l.take (k + 1)) = true:=by
 rw [digB_iff] at h ⊢
 rw [List.take_succ_eq_append_getElem hk]
 have e:l[k] = l.getD k 0:=by simp [hk]
 rw [e]
 simp only [inB,Bool.and_eq_true,decide_eq_true_eq] at hx
 exact h.append (Dig.cons hx.1 (by omega) Dig.nil)
theorem digB_bad {l:List Int} {k:Nat} (hk:k < l.length) (hx:inB (l.getD k 0) 0 999999999 = false):digB l = false:=by
 cases h:digB l
 ·rfl
 ·have:=(digB_iff.1 h).get k hk
  have e:l[k] = l.getD k 0:=by simp [hk]
  rw [e] at this
  simp only [inB,Bool.and_eq_false_iff,decide_eq_false_iff_not] at hx
  omega
theorem topB_last {l:List Int} {k:Nat} (h:l.length = k + 1):topB l = (l.getD k 0 != 0):=by
 unfold topB
 rw [List.getLast?_eq_getElem?,h,Nat.add_sub_cancel]
 have hk:k < l.length:=by omega
 simp [hk]
 rfl
theorem natOk_long {l:List Int} (h:60 < l.length):natOk l = false:=by simp [natOk];omega
theorem natOk_zero {l:List Int} {k:Nat} (h:l.length = k + 1) (h0:l.getD k 0 = 0):natOk l = false:=by simp only [natOk,topB_last h,h0];simp
theorem natOk_dig {l:List Int} {k:Nat} (h:l.length = k + 1) (hl:l.length ≤ 60) (h0:l.getD k 0 ≠ 0):natOk l = digB l:=by simp only [natOk,topB_last h,hl,bne_iff_ne.2 h0];simp
theorem natOk_bad {l:List Int} (h:digB l = false):natOk l = false:=by simp [natOk,h]
end FE
theorem iIndex (xs:List Int) (n c:Nat) (hn:xs.length = n) (hn1:n ≤ 4611686018427387904) (A:Option Addr) (w:World) (ha:RI w A xs) :
 Calls Tryz.prog 142 #[.slice A n c,.func (.func 108) #[] #[]] w fun e w'=>∃ r:Int,e = .returned (.int .i64 r)∧(FE.digB xs = !decide (0 ≤ r))∧w' = w:=by
 have HN:=Lib.hid hn;clear hn
 go_enter Tryz.func142,Tryz.ntmps142
 go_wp2_with fail
 go_loop [8] (fun u=>∃ k:Nat,k ≤ n∧u = .int .i64 k∧FE.digB (xs.take k) = true) (fun u=>n - (intOf u).toNat)
 case atStart=>exact ⟨0,Nat.zero_le _,rfl,rfl⟩
 case round =>
  obtain ⟨k,hk,rfl,ht⟩:=hrel
  have HT:=Lib.hid ht;clear ht
  by_cases hkn:k = n
  ·subst hkn
   have h0:decide ((k:Int) < (k:Int)) = false:=by simp
   go_wp2
   go_ret
   refine ⟨-1,rfl,?_,rfl⟩
   have:=HT.out
   rw [List.take_of_length_le (by rw [HN.out];exact Nat.le_refl _)] at this
   rw [this];rfl
  ·have hlt:(k:Int) < (n:Int):=by omega
   have hkl:k < xs.length:=by rw [HN.out];omega
   obtain ⟨b,off,rfl,hb,hc⟩:=ha (by intro h;subst h;simp at hkl)
   have e1:=hc k hkl
   have HB:=Lib.hid (fun h=>FE.digB_bad (l:=xs) hkl h)
   have HG:=Lib.hid (fun h=>FE.digB_take (l:=xs) hkl HT.out h)
   clear hc hkl
   generalize xs.getD k 0 = x at *
   have hC:=fun W=>iNatOk1 x W
   obtain ⟨q,hq⟩:∃ q,inB x 0 999999999 = q:=⟨_,rfl⟩
   simp only [hq] at hC
   rw [hq] at HB HG
   clear hq
   replace hC:=Lib.hid hC
   cases q
   ·have hF:=HB.out rfl
    have HF:=Lib.hid hF;clear hF
    go_wp2_with fail
    refine (hC.out _).mono ?_
    rintro e w1 ⟨rfl,rfl⟩
    go_wp2
    go_ret
    exact ⟨_,rfl,by rw [HF.out];simp,rfl⟩
   ·have hF:=HG.out rfl
    have HF:=Lib.hid hF;clear hF
    go_wp2_with fail
    refine (hC.out _).mono ?_
    rintro e w1 ⟨rfl,rfl⟩
    go_wp2
    go_round
    case rel=>exact ⟨k + 1,by omega,rfl,HF.out⟩
    case measure=>simp [intOf];omega
theorem iContains (xs:List Int) (n c:Nat) (hn:xs.length = n) (hn1:n ≤ 4611686018427387904) (A:Option Addr) (w:World) (ha:RI w A xs) :
 Calls Tryz.prog 107 #[.slice A n c,.func (.func 108) #[] #[]] w fun e w'=>e = .returned (.bool (!FE.digB xs))∧w' = w:=by
 go_enter Tryz.func107,Tryz.ntmps107
 go_wp2_with fail
 refine (iIndex xs n c hn hn1 A _ ha).mono ?_
 rintro e w1 ⟨r,rfl,hd,rfl⟩
 have HD:=Lib.hid hd;clear hd
 go_wp2
 go_ret
 exact ⟨ret_bool (by rw [HD.out];simp),rfl⟩
theorem iNatOk (xs:List Int) (n c:Nat) (hn:xs.length = n) (hn1:n ≤ 4611686018427387904) (A:Option Addr) (w:World) (ha:RI w A xs) :
 Calls Tryz.prog 75 #[.slice A n c] w fun e w'=>e = .returned (.bool (FE.natOk xs))∧w' = w:=by
 by_cases h60:n ≤ 60
 ·cases n with
  | zero =>
   have hx:xs = []:=List.eq_nil_of_length_eq_zero hn
   subst hx
   have HC:=Lib.hid (iContains [] 0 c rfl (by omega) A w ha)
   clear hn
   go_enter Tryz.func75,Tryz.ntmps75
   go_wp2_with fail
   refine HC.out.mono ?_
   rintro e w1 ⟨rfl,rfl⟩
   go_wp2
   go_ret
   exact ⟨rfl,rfl⟩
  | succ k =>
   have HC:=Lib.hid (iContains xs (k + 1) c hn (by omega) A w ha)
   obtain ⟨b,off,rfl,hb,hc⟩:=ha (by intro h;subst h;simp at hn)
   have e1:=hc k (by omega)
   have z0:(((k:Int) + 1) == 0) = false:=by simp;omega
   have HN:=Lib.hid hn
   clear hc hn
   by_cases hx0:xs.getD k 0 = 0
   ·have HF:=Lib.hid (FE.natOk_zero HN.out hx0)
    rw [hx0] at e1
    clear hx0
    go_enter Tryz.func75,Tryz.ntmps75
    go_wp2
    go_ret
    exact ⟨ret_bool HF.out.symm,rfl⟩
   ·have HF:=Lib.hid (FE.natOk_dig HN.out (by rw [HN.out];exact h60) hx0)
    generalize xs.getD k 0 = x at *
    have hx1:(x != 0) = true:=by simp [hx0]
    go_enter Tryz.func75,Tryz.ntmps75
    go_wp2_with fail
    refine HC.out.mono ?_
    rintro e w1 ⟨rfl,rfl⟩
    go_wp2
    go_ret
    exact ⟨ret_bool (by rw [HF.out]),rfl⟩
 ·have HF:=Lib.hid (FE.natOk_long (show 60 < xs.length by omega))
  clear hn
  go_enter Tryz.func75,Tryz.ntmps75
  go_wp2
  go_ret
  exact ⟨ret_bool HF.out.symm,rfl⟩
theorem sNatOk (xs:List Int) (n c:Nat) (hn:xs.length = n) (hn1:n ≤ 4611686018427387904) (A:Option Addr) (w:World) (ha:RI w A xs) :
 Calls Tryz.prog 173 #[.slice A n c] w fun e w'=>e = .returned (.bool (FE.natOk xs))∧w' = w:=by
 have HN:=Lib.hid hn;clear hn
 go_enter Tryz.func173,Tryz.ntmps173
 go_wp2_with fail
 go_loop [7] (fun u=>∃ k:Nat,k ≤ n∧u = .int .i64 k∧FE.digB (xs.take k) = true) (fun u=>n - (intOf u).toNat)
 case atStart=>exact ⟨0,Nat.zero_le _,rfl,rfl⟩
 case round =>
  obtain ⟨k,hk,rfl,ht⟩:=hrel
  have HT:=Lib.hid ht;clear ht
  by_cases hkn:k = n
  ·subst hkn
   have h0:decide ((k:Int) < (k:Int)) = false:=by simp
   have HD:=Lib.hid (show FE.digB xs = true by have:=HT.out;rwa [List.take_of_length_le (by rw [HN.out];exact Nat.le_refl _)] at this)
   by_cases h60:k ≤ 60
   ·cases k with
    | zero =>
     have hx:xs = []:=List.eq_nil_of_length_eq_zero HN.out
     subst hx
     go_wp2
     go_ret
     exact ⟨rfl,rfl⟩
    | succ k =>
     obtain ⟨b,off,rfl,hb,hc⟩:=ha (by intro h;have:=HN.out;rw [h] at this;simp at this)
     have e1:=hc k (by have:=HN.out;omega)
     have z0:(((k:Int) + 1) == 0) = false:=by simp;omega
     clear hc
     by_cases hx0:xs.getD k 0 = 0
     ·have HF:=Lib.hid (FE.natOk_zero HN.out hx0)
      rw [hx0] at e1
      clear hx0
      go_wp2
      go_ret
      exact ⟨ret_bool HF.out.symm,rfl⟩
     ·have HF:=Lib.hid (show FE.natOk xs = true by rw [FE.natOk_dig HN.out (by rw [HN.out];exact h60) hx0];exact HD.out)
      generalize xs.getD k 0 = x at *
      have hx1:(x != 0) = true:=by simp [hx0]
      go_wp2
      go_ret
      exact ⟨ret_bool HF.out.symm,rfl⟩
   ·have HF:=Lib.hid (FE.natOk_long (show 60 < xs.length by have:=HN.out;omega))
    go_wp2
    go_ret
    exact ⟨ret_bool HF.out.symm,rfl⟩
  ·have hlt:(k:Int) < (n:Int):=by omega
   have hkl:k < xs.length:=by rw [HN.out];omega
   obtain ⟨b,off,rfl,hb,hc⟩:=ha (by intro h;subst h;simp at hkl)
   have e1:=hc k hkl
   have HB:=Lib.hid (fun h=>FE.digB_bad (l:=xs) hkl h)
   have HG:=Lib.hid (fun h=>FE.digB_take (l:=xs) hkl HT.out h)
   clear hc hkl
   generalize xs.getD k 0 = x at *
   have hC:=fun W=>sIn x 0 999999999 W
   obtain ⟨q,hq⟩:∃ q,inB x 0 999999999 = q:=⟨_,rfl⟩
   simp only [hq] at hC
   rw [hq] at HB HG
   clear hq
   replace hC:=Lib.hid hC
   cases q
   ·have HF:=Lib.hid (FE.natOk_bad (HB.out rfl))
    go_wp2_with fail
    refine (hC.out _).mono ?_
    rintro e w1 ⟨rfl,rfl⟩
    go_wp2
    go_ret
    exact ⟨ret_bool HF.out.symm,rfl⟩
   ·have HF:=Lib.hid (HG.out rfl)
    go_wp2_with fail
    refine (hC.out _).mono ?_
    rintro e w1 ⟨rfl,rfl⟩
    go_wp2
    go_round
    case rel=>exact ⟨k + 1,by omega,rfl,HF.out⟩
    case measure=>simp [intOf];omega
namespace FE
theorem cmpAt_spec {xs ys:List Int} (hx:Dig xs) (hy:Dig ys):∀ k:Nat,k ≤ xs.length → k ≤ ys.length → cmpAt xs ys k = cmpI (val (xs.take k)) (val (ys.take k))
 | 0,_,_=>by simp [cmpAt,val,cmpI]
 | k + 1,h1,h2=>by
  have ih:=cmpAt_spec hx hy k (by omega) (by omega)
  have ax:=val_lt (hx.take k)
  have ay:=val_lt (hy.take k)
  have bx:=val_nonneg (hx.take k)
  have b_y:=val_nonneg (hy.take k)
  rw [List.length_take,Nat.min_eq_left (by omega)] at ax ay
  rw [cmpAt,ih,val_take_succ',val_take_succ']
  generalize xs.getD k 0 = x
  generalize ys.getD k 0 = y
  have hb:=bp_pos k
  split
  ·rename_i h
   subst h
   unfold cmpI
   simp only [Int.add_lt_add_iff_right]
  ·rename_i h
   unfold cmpI
   rcases Int.lt_or_le x y with hl | hl
   ·have:=Int.mul_le_mul_of_nonneg_left (show x + 1 ≤ y by omega) (show 0 ≤ bp k by omega)
    rw [Int.mul_add] at this
    rw [if_pos hl,if_pos (by omega)]
   ·have hl':y < x:=by omega
    have:=Int.mul_le_mul_of_nonneg_left (show y + 1 ≤ x by omega) (show 0 ≤ bp k by omega)
    rw [Int.mul_add] at this
    rw [if_neg (by omega),if_pos hl',if_neg (by omega),if_pos (by omega)]
theorem cmpL_spec {xs ys:List Int} (hx:Dig xs) (hxt:Top xs) (hy:Dig ys) (hyt:Top ys):cmpL xs ys = cmpI (val xs) (val ys):=by
 unfold cmpL
 split
 ·rename_i h
  rw [cmpAt_spec hx hy _ (Nat.le_refl _) (by omega),List.take_of_length_le (Nat.le_refl _),List.take_of_length_le (by omega)]
 ·rename_i h
  rcases Nat.lt_or_ge xs.length ys.length with hl | hl
  ·have h1:=val_lt hx
   have h2:=val_ge hy hyt (by intro e;subst e;simp at hl)
   have h3:=bp_mono (show xs.length ≤ ys.length - 1 by omega)
   unfold cmpI
   rw [if_pos (by omega),if_pos (by omega)]
  ·have hl':ys.length < xs.length:=by omega
   have h1:=val_lt hy
   have h2:=val_ge hx hxt (by intro e;subst e;simp at hl')
   have h3:=bp_mono (show ys.length ≤ xs.length - 1 by omega)
   unfold cmpI
   rw [if_neg (by omega),if_pos (by omega),if_neg (by omega),if_pos (by omega)]
theorem val_top2 {vs:List Int} {n:Nat} (h:vs.length = n + 2):val vs = val (vs.take n) + bp n * (vs.getD (n + 1) 0 * 1000000000 + vs.getD n 0):=by
 have e:val vs = val (vs.take (n + 1 + 1)):=by rw [List.take_of_length_le (by omega)]
 rw [e,val_take_succ',val_take_succ',bp_mul_succ];grind
theorem val_top3 {ws:List Int} {n:Nat} (h:ws.length = n + 3):val ws = val (ws.take n) + bp n * ((ws.getD (n + 2) 0 * 1000000000 + ws.getD (n + 1) 0) * 1000000000 + ws.getD n 0):=by
 have e:val ws = val (ws.take (n + 1 + 1 + 1)):=by rw [List.take_of_length_le (by omega)]
 rw [e,val_take_succ',val_take_succ',val_take_succ',bp_mul_succ,bp_mul_succ,bp_mul_succ];grind
def NoMore (W V q:Int):Prop:=∀ t:Int,0 ≤ t → t ≤ 999999999 → t * V ≤ W → t ≤ q
section digit
variable {W V P wl vl top u2 v1 v2:Int}
theorem guess (hP:0 < P) (hwl:wl < P) (hvl:0 ≤ vl) (hW:W = wl + P * (top * 1000000000 + u2)) (hV:V = vl + P * (v1 * 1000000000 + v2)) (hu2:u2 < 1000000000) (hv2:0 ≤ v2) (hv1:0 < v1) (_htop:0 ≤ top) :
 NoMore W V (if 999999999 < top / v1 then 999999999 else top / v1):=by
 intro t h0 h1 h2
 have h3:t * v1 ≤ top:=by
  rcases Int.lt_or_le top (t * v1) with h | h
  ·exfalso
   have e1:t * (P * (v1 * 1000000000)) ≤ t * V:=by
    refine Int.mul_le_mul_of_nonneg_left ?_ h0
    have:P * (v1 * 1000000000 + v2) = P * (v1 * 1000000000) + P * v2:=Int.mul_add _ _ _
    have:=Int.mul_nonneg (show 0 ≤ P by omega) hv2
    omega
   have e2:P * ((top + 1) * 1000000000) ≤ P * (t * v1 * 1000000000):=Int.mul_le_mul_of_nonneg_left (by omega) (by omega)
   have e3:t * (P * (v1 * 1000000000)) = P * (t * v1 * 1000000000):=by grind
   have e4:P * ((top + 1) * 1000000000) = P * (top * 1000000000 + u2) + P * (1000000000 - u2):=by grind
   have e5:P * 1 ≤ P * (1000000000 - u2):=Int.mul_le_mul_of_nonneg_left (by omega) (by omega)
   omega
  ·exact h
 have h4:t ≤ top / v1:=(Int.le_ediv_iff_mul_le hv1).2 h3
 split <;> omega
theorem correct {q rest:Int} (hP:0 < P) (hwl:wl < P) (hvl:0 ≤ vl) (hW:W = wl + P * (top * 1000000000 + u2)) (hV:V = vl + P * (v1 * 1000000000 + v2)) (hr:rest = top - q * v1)
 (hno:NoMore W V q) (hc:rest * 1000000000 + u2 < q * v2):NoMore W V (q - 1):=by
 intro t h0 h1 h2
 have h3:=hno t h0 h1 h2
 rcases Int.lt_or_le t q with h | h
 ·omega
 ·exfalso
  have e:t = q:=by omega
  subst e
  have e1:P * (t * (v1 * 1000000000 + v2)) ≤ t * V:=by
   have:=Int.mul_nonneg h0 hvl
   have e:t * V = P * (t * (v1 * 1000000000 + v2)) + t * vl:=by rw [hV];grind
   omega
  have e2:P * (top * 1000000000 + u2 + 1) ≤ P * (t * (v1 * 1000000000 + v2)):=by
   refine Int.mul_le_mul_of_nonneg_left ?_ (by omega)
   have:t * (v1 * 1000000000 + v2) = t * v1 * 1000000000 + t * v2:=by grind
   omega
  have e3:P * (top * 1000000000 + u2 + 1) = P * (top * 1000000000 + u2) + P:=by grind
  omega
theorem leave {q rest:Int} (hP:0 < P) (hwl:0 ≤ wl) (hvl:vl < P) (hW:W = wl + P * (top * 1000000000 + u2)) (hV:V = vl + P * (v1 * 1000000000 + v2)) (hr:rest = top - q * v1) (hq0:0 ≤ q) (hq1:q ≤ 999999999)
 (hv1:0 < v1) (hv2:0 ≤ v2∧v2 < 1000000000) (hu2:0 ≤ u2) (hvl0:0 ≤ vl) (hc:1000000000 ≤ rest ∨ q * v2 ≤ rest * 1000000000 + u2):q * V ≤ W + V:=by
 have h1:q * (v1 * 1000000000 + v2) ≤ top * 1000000000 + u2:=by
  have e:q * (v1 * 1000000000 + v2) = q * v1 * 1000000000 + q * v2:=by grind
  rcases hc with h | h
  ·have:=Int.mul_le_mul_of_nonneg_left (show v2 ≤ 1000000000 by omega) hq0
   omega
  ·omega
 have h2:q * V ≤ P * (q * (v1 * 1000000000 + v2)) + q * P:=by
  rw [hV,Int.mul_add]
  have:=Int.mul_le_mul_of_nonneg_left (show vl ≤ P by omega) hq0
  have e:q * (P * (v1 * 1000000000 + v2)) = P * (q * (v1 * 1000000000 + v2)):=by grind
  omega
 have h3:=Int.mul_le_mul_of_nonneg_left h1 (show 0 ≤ P by omega)
 have h4:q * P ≤ V:=by
  have e1:P * 1000000000 ≤ P * (v1 * 1000000000 + v2):=Int.mul_le_mul_of_nonneg_left (by omega) (by omega)
  have e2:P * q ≤ P * 1000000000:=Int.mul_le_mul_of_nonneg_left (by omega) (by omega)
  rw [Int.mul_comm q P]
  omega
 omega
theorem noMore_lt {q:Int} (hq0:0 ≤ q) (hq1:q ≤ 999999999) (hno:NoMore W V q) (hWV:W < V * 1000000000):W < q * V + V:=by
 rcases Int.lt_or_le W (q * V + V) with h | h
 ·exact h
 ·exfalso
  have e:(q + 1) * V = q * V + V:=by grind
  by_cases hq:q = 999999999
  ·subst hq;omega
  ·have:=hno (q + 1) (by omega) (by omega) (by omega)
   omega
end digit
end FE
theorem trim_take (l:List Int):FE.trim l = l.take (FE.trim l).length:=by
 induction l with
 | nil=>rfl
 | cons x l ih =>
  simp only [FE.trim]
  split
  ·rfl
  ·rw [List.length_cons,List.take_succ_cons,← ih]
theorem trim_len (l:List Int):(FE.trim l).length ≤ l.length:=by
 have:=congrArg List.length (trim_take l)
 rw [List.length_take] at this
 omega
theorem RO.of_trim {w:World} {base g c:Nat} {xs:List Int} (h:Arr w g c xs) (hb:base ≤ g):RO w base (.slice (some ⟨g,0,none⟩) (FE.trim xs).length c) (FE.trim xs):=by
 have hl:=trim_len xs
 have h1:=h.len
 refine ⟨_,c,rfl,by omega,h1.2,fun _=>⟨g,rfl,hb,?_⟩⟩
 rw [trim_take xs]
 exact h.cut _
theorem trim_zero (xs:List Int) (j:Nat) (hj:j < xs.length) (h:xs.getD j 0 = 0):FE.trim (xs.take (j + 1)) = FE.trim (xs.take j):=by
 rw [List.take_succ_eq_append_getElem hj]
 have:xs[j] = 0:=by simpa [hj] using h
 rw [this,FE.trim_snoc_zero]
theorem trim_ne (xs:List Int) (j:Nat) (hj:j < xs.length) (h:xs.getD j 0 ≠ 0):(FE.trim (xs.take (j + 1))).length = j + 1:=by
 rw [List.take_succ_eq_append_getElem hj]
 have:xs[j] ≠ 0:=by simpa [hj] using h
 rw [FE.trim_snoc_ne _ this]
 simp;omega
theorem trimmed_any (xs:List Int) (n c:Nat) (hn:xs.length = n) (hn1:n ≤ 1073741824) (hnc:n ≤ c) (A:Option Addr) (w:World) (ha:RI w A xs) :
 Calls Tryz.prog 126 #[.slice A n c] w fun e w'=>e = .returned (.slice A (FE.trim xs).length c)∧w' = w:=by
 go_enter Tryz.func126,Tryz.ntmps126
 go_wp2_with fail
 go_loop [0] (fun v=>∃ k:Nat,k ≤ n∧v = .slice A k c∧FE.trim xs = FE.trim (xs.take k)) (fun v=>match v with | .slice _ k _=>k | _=>0)
 case atStart=>exact ⟨n,Nat.le_refl _,rfl,by rw [List.take_of_length_le (by omega)]⟩
 case round =>
  obtain ⟨k,hk,rfl,ht⟩:=hrel
  have HT:=Lib.hid ht;clear ht
  by_cases hk0:k = 0
  ·subst hk0
   have h0:decide ((0:Int) < ((0:Nat):Int)) = false:=by simp
   go_wp2
   go_ret
   exact ⟨by rw [HT.out];rfl,rfl⟩
  ·obtain ⟨j,rfl⟩:=Nat.exists_eq_succ_of_ne_zero hk0
   obtain ⟨b,o,rfl,hb,hc⟩:=ha (by intro h;subst h;simp at hn;omega)
   have e1:=hc j (by omega)
   clear hc
   have h0:(0:Int) < ((j + 1:Nat):Int):=by omega
   by_cases hx:xs.getD j 0 = 0
   ·have hz:=trim_zero xs j (by omega) hx
    have HZ:=Lib.hid hz;clear hz
    rw [hx] at e1
    clear hx
    go_wp2
    go_round
    case rel=>exact ⟨j,by omega,rfl,by rw [HT.out];exact HZ.out⟩
    case measure=>simp
   ·have hz:=trim_ne xs j (by omega) hx
    have HZ:=Lib.hid hz;clear hz
    generalize xs.getD j 0 = x at *
    have hx0:(x == 0) = false:=by simpa using hx
    have HX:=Lib.hid hx;clear hx
    go_wp2
    go_ret
    exact ⟨by rw [HT.out,HZ.out];rfl,rfl⟩
theorem clone_any (xs:List Int) (n c:Nat) (hn:xs.length = n) (hn1:n ≤ 1073741824) (A:Option Addr) (w:World) (ha:RI w A xs) :
 Calls Tryz.prog 81 #[.slice A n c] w fun e w'=>∃ v,e = .returned v∧RO w' w.heap.size v xs∧Below w.heap.size w w':=by
 have hnil:=fun (W:World) (a:Option Addr) (l k:Nat)=>Lib.run_eql_slice_nil (P:=Tryz.prog) W 41 3 a l k 0 0 Tryz.underlying41
 by_cases hA:A = none
 ·subst hA
  have hx:xs = []:=by
   by_cases h:xs = []
   ·exact h
   ·obtain ⟨b,o,h1,_⟩:=ha h
    cases h1
  subst hx
  go_enter Tryz.func81,Tryz.ntmps81
  go_wp2
  go_ret
  exact ⟨_,rfl,RO.nil _ _ _ _ (Nat.zero_le _),Below.refl _ _⟩
 ·obtain ⟨ad,rfl⟩:=Option.ne_none_iff_exists'.1 hA
  go_enter Tryz.func81,Tryz.ntmps81
  go_wp2_with (at_builtin;refine appendAll rfl _ _ _ rfl Tryz.underlying41 Tryz.intInfo w.heap.size _ [] rfl (OI.of_arr (g:=w.heap.size) (cap:=0) ⟨[],rfl,Nat.zero_le _,heap_alloc_new _ _⟩ (Nat.le_refl _)) _ xs n c rfl hn (ha.alloc _) (by simp;omega) (by simp) ?_)
  intro v' w1 hown hb1
  go_wp2
  go_ret
  exact ⟨_,rfl,RO.of_own hown,((Below.refl _ _).alloc (Nat.le_refl _) _).trans hb1⟩
theorem divSmall_any (xs:List Int) (n c:Nat) (d:Int) (hn:xs.length = n) (hn1:n ≤ 1048576) (hxd:FE.Dig xs) (hd0:0 < d) (hd1:d ≤ 1000000000)
 (A:Option Addr) (w:World) (ha:RI w A xs) :
 Calls Tryz.prog 144 #[.slice A n c,.int .i64 d] w fun e w'=>∃ v,e = .returned (.tuple #[v,.int .i64 (FE.val xs % d)])∧RO w' w.heap.size v (FE.toL (FE.val xs / d).toNat)∧Below w.heap.size w w':=by
 go_enter Tryz.func144,Tryz.ntmps144
 go_wp2_with (at_make;refine makeInts rfl _ _ _ rfl Tryz.underlying41 Tryz.intInfo n n _ _ rfl rfl rfl rfl (Nat.le_refl _) (by omega) ?_;intro harr0)
 go_loopw [7,8] (fun r i wr=>∃ (k:Nat) (zs:List Int) (q:Int),k ≤ n∧i = .int .i64 ((k:Int) - 1)∧r = .int .i64 q∧0 ≤ q∧q < d∧zs.length = n∧FE.Dig zs∧(∀ j,j < k → zs.getD j 0 = 0) ∧
  FE.val xs = d * FE.val zs + FE.bp k * q + FE.val (xs.take k)∧Arr wr w.heap.size n zs∧Below w.heap.size w wr) (fun _ i _=>(intOf i + 1).toNat)
 case atStart=>exact ⟨n,List.replicate n 0,0,Nat.le_refl _,rfl,rfl,by omega,hd0,by simp,FE.Dig.replicate n,fun j hj=>by simp [hj],by rw [FE.val_replicate,List.take_of_length_le (by omega)];simp,harr0,(Below.refl _ _).alloc (Nat.le_refl _) _⟩
 case round =>
  obtain ⟨k,zs,q,hk,rfl,rfl,hq0,hq1,hz,hzd,hzz,hv,harr,hbel⟩:=hrel
  have HZ:=Lib.hid hz;clear hz
  have HV:=Lib.hid hv;clear hv
  have HZZ:=Lib.hid hzz;clear hzz
  clear harr0
  by_cases hk0:k = 0
  ·subst hk0
   have hfin:FE.val xs = d * FE.val zs + q:=by have:=HV.out;simp [FE.bp_zero,FE.val] at this;exact this
   have hz0:=FE.val_nonneg hzd
   have hq:FE.val xs / d = FE.val zs:=by
    rw [hfin,Int.add_comm,Int.add_mul_ediv_left _ _ (by omega),Int.ediv_eq_zero_of_lt hq0 hq1];omega
   have hr:FE.val xs % d = q:=by rw [hfin,Int.add_comm,Int.add_mul_emod_self_left];exact Int.emod_eq_of_lt hq0 hq1
   have ht:FE.trim zs = FE.toL (FE.val xs / d).toNat:=FE.trim_eq hzd (by rw [hq];omega)
   have HR:=Lib.hid hr
   have HT:=Lib.hid ht
   clear hfin hq hr ht
   go_wp2_with (go_at_call 126;refine (trimmed_any zs n n HZ.out (by omega) (Nat.le_refl _) _ _ harr.reads).mono ?_;rintro e w' ⟨rfl,rfl⟩)
   go_ret2
   refine ⟨_,by rw [HR.out];rfl,?_,hbel⟩
   rw [← HT.out]
   exact RO.of_trim harr (Nat.le_refl _)
  ·obtain ⟨j,rfl⟩:=Nat.exists_eq_succ_of_ne_zero hk0
   obtain ⟨b1,o1,rfl,hb1,hc1⟩:=ha (by intro h;subst h;simp at hn;omega)
   have e1:=(hbel.cell (p:=⟨b1,o1 + j,none⟩) hb1).trans (hc1 j (by omega))
   have hzl:=HZ.out
   have e2:=harr.cell j (by omega)
   have e3:=harr.frozen j
   have hstep:=FE.divStep hd0 hq0 hq1 hxd (by omega) (hzl.trans hn.symm) hzd (HZZ.out j (by omega)) HV.out rfl
   have hx:=hxd.getD j
   clear hc1 hzl
   generalize hxe:xs.getD j 0 = x at *
   generalize hye:zs.getD j 0 = y at *
   have hs1:=hstep.1
   have hs2:=hstep.2.1
   have hm0:=Int.emod_nonneg (q * 1000000000 + x) (show d ≠ 0 by omega)
   have hm1:=Int.emod_lt_of_pos (q * 1000000000 + x) hd0
   have HS:=Lib.hid hstep;clear hstep hxe hye
   go_wp2
   go_roundw
   case rel =>
    refine ⟨j,zs.set j ((q * 1000000000 + x) / d),_,by omega,by go_num,rfl,hm0,hm1,by simp;exact HZ.out,HS.out.2.2.1,?_,HS.out.2.2.2,harr.set j (by have:=HZ.out;omega) _,hbel.setCell (Nat.le_refl _) _⟩
    intro j' hj'
    rw [FE.getD_set,if_neg (by omega)]
    exact HZZ.out j' (by omega)
   case measure=>simp [intOf]
theorem scaled_any (xs:List Int) (n c N:Nat) (by_:Int) (hn:xs.length = n) (hn1:n ≤ 1048576) (hN:N ≤ 1048576) (hxd:FE.Dig xs) (hb0:0 ≤ by_) (hb1:by_ < 1000000000)
 (A:Option Addr) (w:World) (ha:RI w A xs) :
 Calls Tryz.prog 146 #[.slice A n c,.int .i64 by_,.int .i64 N] w fun e w'=>∃ (g:Nat) (zs:List Int) (cy:Int),e = .returned (.slice (some ⟨g,0,none⟩) N N)∧w.heap.size ≤ g∧Arr w' g N zs∧zs.length = N ∧
  FE.Dig zs∧0 ≤ cy∧FE.val zs + FE.bp N * cy = FE.val (xs.take N) * by_∧Below w.heap.size w w':=by
 go_enter Tryz.func146,Tryz.ntmps146
 go_wp2_with (at_make;refine makeInts rfl _ _ _ rfl Tryz.underlying41 Tryz.intInfo N N _ _ rfl rfl rfl rfl (Nat.le_refl _) (by omega) ?_;intro harr0)
 go_loopw [8,15] (fun r i wr=>∃ (k:Nat) (zs:List Int) (cy:Int),k ≤ N∧i = .int .i64 k∧r = .int .i64 cy∧0 ≤ cy∧cy ≤ by_∧zs.length = N∧FE.Dig zs∧(∀ j,k ≤ j → zs.getD j 0 = 0) ∧
  FE.val zs + FE.bp k * cy = FE.val (xs.take k) * by_∧Arr wr w.heap.size N zs∧Below w.heap.size w wr) (fun _ i _=>N - (intOf i).toNat)
 case atStart=>exact ⟨0,List.replicate N 0,0,Nat.zero_le _,rfl,rfl,by omega,hb0,by simp,FE.Dig.replicate N,by intro j _;by_cases h:j < N <;> simp [h],by rw [FE.val_replicate];simp [FE.val],harr0,(Below.refl _ _).alloc (Nat.le_refl _) _⟩
 case round =>
  obtain ⟨k,zs,cy,hk,rfl,rfl,hq0,hq1,hz,hzd,hzz,hv,harr,hbel⟩:=hrel
  have HZ:=Lib.hid hz;clear hz
  have HV:=Lib.hid hv;clear hv
  have HZZ:=Lib.hid hzz;clear hzz
  clear harr0
  by_cases hkN:k < N
  ·have hzl:=HZ.out
   have e2:=harr.cell k (by omega)
   have e3:=harr.frozen k
   have hstep:=FE.scaleStep (xs:=xs) hzd (by omega) (HZZ.out k (Nat.le_refl _)) hq0 hq1 hb1 hxd HV.out rfl
   have hx:=hxd.getD k
   have hm:=FE.mul_bound hx ⟨hb0,by omega⟩
   clear hzl
   generalize hye:zs.getD k 0 = y at *
   by_cases hkn:k < n
   ·obtain ⟨b1,o1,rfl,hb1',hc1⟩:=ha (by intro h;subst h;simp at hn;omega)
    have e1:=(hbel.cell (p:=⟨b1,o1 + k,none⟩) hb1').trans (hc1 k (by omega))
    clear hc1
    generalize hxe:xs.getD k 0 = x at *
    have HS:=Lib.hid hstep;clear hstep hxe hye
    go_wp2
    go_roundw
    case rel =>
     refine ⟨k + 1,zs.set k _,_,by omega,by go_num,rfl,HS.out.2.2.1,HS.out.2.2.2,by simp;exact HZ.out,HS.out.1,?_,HS.out.2.1,harr.set k (by have:=HZ.out;omega) _,hbel.setCell (Nat.le_refl _) _⟩
     intro j' hj'
     rw [FE.getD_set,if_neg (by omega)]
     exact HZZ.out j' (by omega)
    case measure=>simp [intOf];omega
   ·have hx0:xs.getD k 0 = 0:=by simp [List.getElem?_eq_none (show xs.length ≤ k by omega)]
    rw [hx0] at hstep hm
    simp only [Int.zero_mul,Int.add_zero] at hstep
    clear hx0 hm hx
    have HS:=Lib.hid hstep;clear hstep hye
    go_wp2
    go_roundw
    case rel =>
     refine ⟨k + 1,zs.set k _,_,by omega,by go_num,rfl,HS.out.2.2.1,HS.out.2.2.2,by simp;exact HZ.out,HS.out.1,?_,HS.out.2.1,harr.set k (by have:=HZ.out;omega) _,hbel.setCell (Nat.le_refl _) _⟩
     intro j' hj'
     rw [FE.getD_set,if_neg (by omega)]
     exact HZZ.out j' (by omega)
    case measure=>simp [intOf];omega
  ·have hkN':k = N:=by omega
   subst hkN'
   go_wp2
   go_ret
   exact ⟨_,zs,cy,rfl,Nat.le_refl _,harr,HZ.out,hzd,hq0,HV.out,hbel⟩
def Only (g:Nat) (w w':World):Prop:=w.grownBy w' (some g)
theorem Only.refl (g:Nat) (w:World):Only g w w:=⟨rfl,rfl,rfl,Nat.le_refl _,fun _ _ _=>rfl⟩
theorem Only.set {g:Nat} {a w:World} (h:Only g a w) (i:Nat) (u:Value):Only g a (w.setCell ⟨g,i,none⟩ u) :=
 ⟨h.os,h.tape,h.output,by simpa [World.setCell] using h.size,fun k hk hne=>(Below.heap_setCell w _ u k (fun e=>hne (by rw [e]))).trans (h.block k hk hne)⟩
theorem Only.drew {g:Nat} {a w:World} (h:Only g a w):Only g a w.drew:=⟨h.os,h.tape,h.output,h.size,h.block⟩
theorem Only.below {g B:Nat} {a w:World} (h:Only g a w) (hg:B ≤ g) (hB:B ≤ a.heap.size):Below B a w :=
 ⟨h.os,h.tape,h.output,h.size,fun k hk=>h.block k (by omega) (fun e=>by injection e with e;omega)⟩
theorem Only.reads {g:Nat} {a w:World} {A:Option Addr} {xs:List Int} (h:Only g a w) (hr:RI a A xs) (hne:∀ b,A = some b → xs ≠ [] → b.block ≠ g):RI w A xs:=by
 intro hx
 obtain ⟨b,off,rfl,hb,hc⟩:=hr hx
 refine ⟨b,off,rfl,Nat.lt_of_lt_of_le hb h.size,fun i hi=>?_⟩
 rw [World.cell?_of_block (w:=a) (w':=w) (h.block b hb (fun e=>hne _ rfl hx (by injection e)))]
 exact hc i hi
theorem Only.arr {g g' cap:Nat} {a w:World} {xs:List Int} (h:Only g a w) (hr:Arr a g' cap xs) (hne:g' ≠ g):Arr w g' cap xs :=
 hr.block (h.block g' hr.lt (fun e=>hne (by injection e)))
theorem subtract_any (us vs:List Int) (off n c1 d cap g:Nat) (q:Int) (hm:vs.length = n) (hus:off + n + 1 ≤ us.length) (hul:us.length ≤ 1048576) (hud:FE.Dig us) (hvd:FE.Dig vs) (hq:0 ≤ q∧q < 1000000000)
 (hlo:- FE.bp n ≤ FE.val ((us.drop off).take (n + 1)) - q * FE.val vs)
 (B:Option Addr) (w:World) (harr:Arr w g cap us) (hb:RI w B vs) (hne:∀ b,B = some b → vs ≠ [] → b.block ≠ g) :
 Calls Tryz.prog 147 #[.slice (some ⟨g,off,none⟩) (n + 1) c1,.slice B n d,.int .i64 q] w fun e w'=>∃ (zs:List Int) (r:Int),e = .returned (.int .i64 r)∧(r = 0 ∨ r = 1)∧zs.length = n + 1∧FE.Dig zs ∧
  FE.val zs = FE.val ((us.drop off).take (n + 1)) - q * FE.val vs + FE.bp (n + 1) * r∧Arr w' g cap (us.take off ++ zs ++ us.drop (off + n + 1))∧Only g w w':=by
 go_enter Tryz.func147,Tryz.ntmps147
 go_wp2_with fail
 have HLO:=Lib.hid hlo;clear hlo
 have HNE:=Lib.hid hne;clear hne
 have hwd:FE.Dig (us.drop off):=hud.drop off
 go_loopw [7,14] (fun r i wr=>∃ (k:Nat) (zs:List Int) (bo:Int),k ≤ n∧i = .int .i64 k∧r = .int .i64 bo∧0 ≤ bo∧bo < 1000000000∧zs.length = k∧FE.Dig zs ∧
  FE.val zs - FE.bp k * bo = FE.val ((us.drop off).take k) - q * FE.val (vs.take k)∧Arr wr g cap ((us.take off ++ zs) ++ us.drop (off + k))∧Only g w wr) (fun _ i _=>n - (intOf i).toNat)
 case atStart=>exact ⟨0,[],0,Nat.zero_le _,rfl,rfl,by omega,by omega,rfl,FE.Dig.nil,by simp [FE.val],by simpa using harr,Only.refl _ _⟩
 case round =>
  obtain ⟨k,zs,bo,hk,rfl,rfl,hb0,hb1,hz,hzd,hv,har,honly⟩:=hrel
  have HZ:=Lib.hid hz;clear hz
  have HV:=Lib.hid hv;clear hv
  have hpl:(us.take off ++ zs).length = off + k:=by simp [HZ.out];omega
  have hlen:off + k < ((us.take off ++ zs) ++ us.drop (off + k)).length:=by rw [List.length_append,hpl,List.length_drop];omega
  have e2:=har.cell (off + k) hlen
  have e3:=har.frozen (off + k)
  rw [FE.getD_mid _ _ _ hpl (by omega)] at e2
  have hwk:(us.drop off).getD k 0 = us.getD (off + k) 0:=by simp
  have hfin:∀ t (wz:World),Arr wz g cap (((us.take off ++ zs) ++ us.drop (off + k)).set (off + k) t) → Arr wz g cap ((us.take off ++ (zs ++ [t])) ++ us.drop (off + (k + 1))):=fun t wz h=>by
   rw [FE.set_mid _ _ _ _ hpl (by omega)] at h
   simpa [Nat.add_assoc] using h
  have HF:=Lib.hid hfin;clear hfin
  have HPL:=Lib.hid hpl;clear hpl
  by_cases hkn:k < n
  ·obtain ⟨b2,o2,rfl,hb2',hc2⟩:=hb (by intro h;subst h;simp at hm;omega)
   have hneq:b2 ≠ g:=HNE.out _ rfl (by intro h;subst h;simp at hm;omega)
   have e4:=(World.cell?_of_block (w:=w) (w':=wr) (a:=⟨b2,o2 + k,none⟩) (honly.block b2 hb2' (fun e=>hneq (by injection e)))).trans (hc2 k (by omega))
   clear hc2
   have hx:=hud.getD (off + k)
   have hy:=hvd.getD k
   have hmm:=FE.mul_bound hy ⟨hq.1,by omega⟩
   have hstep:=FE.takeStep (t:=us.getD (off + k) 0 - bo - vs.getD k 0 * q) HZ.out hzd hwd hvd hb0 hb1 hq HV.out (by rw [hwk]) rfl rfl
   clear hwk
   generalize hye:vs.getD k 0 = y at *
   generalize hxe:us.getD (off + k) 0 = x at *
   clear hxe hye
   by_cases ht:x - bo - y * q < 0
   ·rw [if_pos ht,if_pos ht] at hstep
    have HS:=Lib.hid hstep;clear hstep
    go_wp2
    go_roundw
    case rel=>exact ⟨k + 1,zs ++ [_],_,by omega,by go_num,rfl,HS.out.2.2.1,HS.out.2.2.2,by simp;exact HZ.out,HS.out.1,HS.out.2.1,HF.out _ _ (har.set (off + k) hlen _),honly.set _ _⟩
    case measure=>simp [intOf];omega
   ·rw [if_neg ht,if_neg ht] at hstep
    have HS:=Lib.hid hstep;clear hstep
    go_wp2
    go_roundw
    case rel=>exact ⟨k + 1,zs ++ [x - bo - y * q],0,by omega,by go_num,rfl,by omega,by omega,by simp;exact HZ.out,HS.out.1,HS.out.2.1,HF.out _ _ (har.set (off + k) hlen _),honly.set _ _⟩
    case measure=>simp [intOf];omega
  ·have hkn':k = n:=by omega
   subst hkn'
   have hend:=FE.takeEnd (t:=us.getD (off + k) 0 - bo) HZ.out hzd hwd hm hb0 HV.out HLO.out (by rw [hwk])
   clear hwk
   have hx:=hud.getD (off + k)
   generalize hxe:us.getD (off + k) 0 = x at *
   clear hxe
   have h1:=hend.1
   have h2:=hend.2.1
   have hee:=hend.2.2
   clear hend
   have HE:=Lib.hid hee;clear hee
   by_cases ht:x - bo < 0
   ·go_wp2
    go_ret
    exact ⟨zs ++ [x - bo + 1000000000],1,rfl,.inr rfl,by simp;exact HZ.out,(HE.out.1 ht).1,(HE.out.1 ht).2,by
     have h3:=HF.out _ _ (har.set2 (off + k) hlen (x - bo) (x - bo + 1000000000))
     simpa [Nat.add_assoc] using h3,(honly.set _ _).set _ _⟩
   ·go_wp2
    go_ret
    exact ⟨zs ++ [x - bo],0,rfl,.inl rfl,by simp;exact HZ.out,(HE.out.2 (by omega)).1,(HE.out.2 (by omega)).2,by
     have h3:=HF.out _ _ (har.set (off + k) hlen (x - bo))
     simpa [Nat.add_assoc] using h3,honly.set _ _⟩
theorem addBack_any (us vs:List Int) (off n c1 d cap g N:Nat) (hm:vs.length = n) (hnN:n ≤ N) (hus:off + N ≤ us.length) (hul:us.length ≤ 1048576) (hud:FE.Dig us) (hvd:FE.Dig vs)
 (B:Option Addr) (w:World) (harr:Arr w g cap us) (hb:RI w B vs) (hne:∀ b,B = some b → vs ≠ [] → b.block ≠ g) :
 Calls Tryz.prog 148 #[.slice (some ⟨g,off,none⟩) N c1,.slice B n d] w fun e w'=>∃ (zs:List Int) (cy:Int),e = .returned (.tuple #[])∧0 ≤ cy∧cy ≤ 1∧zs.length = N∧FE.Dig zs ∧
  FE.val zs + FE.bp N * cy = FE.val ((us.drop off).take N) + FE.val vs∧Arr w' g cap (us.take off ++ zs ++ us.drop (off + N))∧Only g w w':=by
 go_enter Tryz.func148,Tryz.ntmps148
 go_wp2_with fail
 have HNE:=Lib.hid hne;clear hne
 have hwd:FE.Dig (us.drop off):=hud.drop off
 go_loopw [4,9] (fun r i wr=>∃ (k:Nat) (zs:List Int) (cy:Int),k ≤ N∧i = .int .i64 k∧r = .int .i64 cy∧0 ≤ cy∧cy ≤ 1∧zs.length = k∧FE.Dig zs ∧
  FE.val zs + FE.bp k * cy = FE.val ((us.drop off).take k) + FE.val (vs.take k)∧Arr wr g cap ((us.take off ++ zs) ++ us.drop (off + k))∧Only g w wr) (fun _ i _=>N - (intOf i).toNat)
 case atStart=>exact ⟨0,[],0,Nat.zero_le _,rfl,rfl,by omega,by omega,rfl,FE.Dig.nil,by simp [FE.val],by simpa using harr,Only.refl _ _⟩
 case round =>
  obtain ⟨k,zs,cy,hk,rfl,rfl,hb0,hb1,hz,hzd,hv,har,honly⟩:=hrel
  have HZ:=Lib.hid hz;clear hz
  have HV:=Lib.hid hv;clear hv
  by_cases hkN:k < N
  ·have hpl:(us.take off ++ zs).length = off + k:=by simp [HZ.out];omega
   have hlen:off + k < ((us.take off ++ zs) ++ us.drop (off + k)).length:=by rw [List.length_append,hpl,List.length_drop];omega
   have e2:=har.cell (off + k) hlen
   have e3:=har.frozen (off + k)
   rw [FE.getD_mid _ _ _ hpl (by omega)] at e2
   have hwk:(us.drop off).getD k 0 = us.getD (off + k) 0:=by simp
   have hfin:∀ t (wz:World),Arr wz g cap (((us.take off ++ zs) ++ us.drop (off + k)).set (off + k) t) → Arr wz g cap ((us.take off ++ (zs ++ [t])) ++ us.drop (off + (k + 1))):=fun t wz h=>by
    rw [FE.set_mid _ _ _ _ hpl (by omega)] at h
    simpa [Nat.add_assoc] using h
   have HF:=Lib.hid hfin;clear hfin hpl
   have hx:=hud.getD (off + k)
   have hy:=hvd.getD k
   have hstep:=FE.addBackStep (t:=us.getD (off + k) 0 + cy + vs.getD k 0) HZ.out hzd hwd hvd hb0 hb1 HV.out (by rw [hwk])
   clear hwk
   by_cases hkn:k < n
   ·obtain ⟨b2,o2,rfl,hb2',hc2⟩:=hb (by intro h;subst h;simp at hm;omega)
    have hneq:b2 ≠ g:=HNE.out _ rfl (by intro h;subst h;simp at hm;omega)
    have e4:=(World.cell?_of_block (w:=w) (w':=wr) (a:=⟨b2,o2 + k,none⟩) (honly.block b2 hb2' (fun e=>hneq (by injection e)))).trans (hc2 k (by omega))
    clear hc2
    generalize hye:vs.getD k 0 = y at *
    generalize hxe:us.getD (off + k) 0 = x at *
    clear hxe hye
    have HS:=Lib.hid hstep;clear hstep
    go_wp2
    go_roundw
    case rel=>exact ⟨k + 1,zs ++ [_],_,by omega,by go_num,rfl,HS.out.2.2.1,HS.out.2.2.2,by simp;exact HZ.out,HS.out.1,HS.out.2.1,HF.out _ _ (har.set (off + k) hlen _),honly.set _ _⟩
    case measure=>simp [intOf];omega
   ·have hy0:vs.getD k 0 = 0:=by simp [List.getElem?_eq_none (show vs.length ≤ k by omega)]
    rw [hy0] at hstep
    simp only [Int.add_zero] at hstep
    clear hy0 hy
    generalize hxe:us.getD (off + k) 0 = x at *
    clear hxe
    have HS:=Lib.hid hstep;clear hstep
    go_wp2
    go_roundw
    case rel=>exact ⟨k + 1,zs ++ [_],_,by omega,by go_num,rfl,HS.out.2.2.1,HS.out.2.2.2,by simp;exact HZ.out,HS.out.1,HS.out.2.1,HF.out _ _ (har.set (off + k) hlen _),honly.set _ _⟩
    case measure=>simp [intOf];omega
  ·have hkN':k = N:=by omega
   subst hkN'
   go_wp2
   go_end0
   exact ⟨zs,cy,rfl,hb0,hb1,HZ.out,hzd,FE.addBackEnd (by omega) HV.out,har,honly⟩
theorem toL_step (zs:List Int) (q:Nat) (hq:q ≠ 0):zs ++ FE.toL q = (zs ++ [((q % 1000000000:Nat):Int)]) ++ FE.toL (q / 1000000000):=by
 rw [FE.toL_pos hq];simp
theorem natOf_len {l:List Int} {q N:Nat} (hq:q ≠ 0) (h:1000000000 ^ l.length * q ≤ N) (hN:N ≤ 4611686018427387904):l.length < 1000:=by
 rcases Nat.lt_or_ge l.length 1000 with h1 | h1
 ·exact h1
 ·exfalso
  have h2:1000000000 ^ 7 ≤ 1000000000 ^ l.length:=Nat.pow_le_pow_right (by omega) (by omega)
  have h3:1000000000 ^ l.length * 1 ≤ 1000000000 ^ l.length * q:=Nat.mul_le_mul_left _ (by omega)
  omega
theorem natOf_step {l:List Int} {q N:Nat} {x:Int} (h:1000000000 ^ l.length * q ≤ N):1000000000 ^ (l ++ [x]).length * (q / 1000000000) ≤ N:=by
 have h1:(l ++ [x]).length = l.length + 1:=by simp
 rw [h1,Nat.pow_succ,Nat.mul_assoc]
 exact Nat.le_trans (Nat.mul_le_mul_left _ (Nat.mul_div_le _ _)) h
theorem natOf_any (N:Nat) (hN:N ≤ 4611686018427387904) (w:World) :
 Calls Tryz.prog 145 #[.int .u64 N] w fun e w'=>∃ v,e = .returned v∧RO w' w.heap.size v (FE.toL N)∧Below w.heap.size w w':=by
 go_enter Tryz.func145,Tryz.ntmps145
 go_wp2_with fail
 go_loopw [0,3] (fun r v wr=>∃ (q:Nat) (zs:List Int),q ≤ N∧r = .int .u64 q∧1000000000 ^ zs.length * q ≤ N∧FE.toL N = zs ++ FE.toL q∧OI wr w.heap.size v zs∧Below w.heap.size w wr) (fun r _ _=>(intOf r).toNat)
 case atStart=>exact ⟨N,[],Nat.le_refl _,rfl,by simp,by simp,OI.of_arr (g:=w.heap.size) (cap:=0) ⟨[],rfl,Nat.zero_le _,heap_alloc_new _ _⟩ (Nat.le_refl _),(Below.refl _ _).alloc (Nat.le_refl _) _⟩
 case round =>
  obtain ⟨q,zs,hq,rfl,hl1,hL,hown,hbel⟩:=hrel
  have HL:=Lib.hid hL;clear hL
  by_cases hq0:q = 0
  ·subst hq0
   go_wp2
   go_ret
   exact ⟨_,rfl,RO.of_own (by rw [HL.out,FE.toL_zero,List.append_nil];exact hown),hbel⟩
  ·have hlen:=natOf_len hq0 hl1 hN
   have HL1:=Lib.hid hl1;clear hl1
   go_wp2_with (at_builtin;refine append1 rfl _ _ _ rfl Tryz.underlying41 Tryz.intInfo w.heap.size _ zs rfl (hown.alloc _) ⟨wr.heap.size,0,none⟩ _ rfl (cell_new1 _ _ _) (by omega) (by have:=hbel.size;simp;omega) ?_)
   intro v' w1 hown1 hb1'
   go_wp2
   go_roundw
   case rel=>exact ⟨q / 1000000000,zs ++ [((q % 1000000000:Nat):Int)],by omega,by go_num,natOf_step HL1.out,by rw [HL.out];exact toL_step zs q hq0,by simpa using hown1,(hbel.alloc hbel.size _).trans hb1'⟩
   case measure=>simp [intOf];omega
theorem gcd_any (a b:Nat) (ha:a ≤ 4611686018427387904) (hb:b ≤ 4611686018427387904) (w:World) :
 Calls Tryz.prog 78 #[.int .i64 a,.int .i64 b] w fun e w'=>e = .returned (.int .i64 (Nat.gcd a b))∧∃ k,w' = w.drewN k:=by
 go_enter Tryz.func78,Tryz.ntmps78
 go_wp2_with fail
 go_loopw [0,1] (fun r s wr=>∃ (p q:Nat),p ≤ 4611686018427387904∧q ≤ 4611686018427387904∧r = .int .i64 p∧s = .int .i64 q∧Nat.gcd a b = Nat.gcd p q∧∃ k,wr = w.drewN k) (fun _ s _=>(intOf s).toNat)
 case atStart=>exact ⟨a,b,ha,hb,rfl,rfl,rfl,0,rfl⟩
 case round =>
  obtain ⟨p,q,hp,hq,rfl,rfl,hg,k,rfl⟩:=hrel
  have HG:=Lib.hid hg;clear hg
  by_cases hq0:q = 0
  ·subst hq0
   go_wp2
   go_ret
   exact ⟨by rw [HG.out,Nat.gcd_zero_right];rfl,k,rfl⟩
  ·have hm:=Nat.mod_lt p (show 0 < q by omega)
   have HM:Nat.gcd p q = Nat.gcd q (p % q):=by rw [Nat.gcd_comm,Nat.gcd_rec,Nat.gcd_comm]
   have HM':=Lib.hid HM;clear HM
   have e1:((p:Int) % (q:Int)) = ((p % q:Nat):Int):=by omega
   have hq1:1 ≤ q:=by omega
   clear hq0
   have E1:=Lib.hid e1;clear e1
   go_wp2
   go_quiet (fail)
   go_wp2
   go_roundw
   case rel=>exact ⟨q,p % q,hq,by omega,rfl,by rw [E1.out],by rw [HG.out,HM'.out],_,World.drewN_drewN _ _ _⟩
   case measure=>simp [intOf];omega
theorem natCmp_val (xs ys:List Int) (n m c d:Nat) (hn:xs.length = n) (hm:ys.length = m) (hn1:n ≤ 1048576) (hm1:m ≤ 1048576) (hxd:FE.Dig xs) (hxt:FE.Top xs) (hyd:FE.Dig ys) (hyt:FE.Top ys)
 (v:Int) (hv:cmpI (FE.val xs) (FE.val ys) = v) (A B:Option Addr) (w:World) (ha:RI w A xs) (hb:RI w B ys) :
 Calls Tryz.prog 143 #[.slice A n c,.slice B m d] w fun e w'=>e = .returned (.int .i64 v)∧∃ k,w' = w.drewN k:=by
 have h:=natCmp_any xs ys n m c d hn hm (by omega) (by omega) A B w ha hb
 rwa [FE.cmpL_spec hxd hxt hyd hyt,hv] at h
theorem natDiv_lt (xs ys:List Int) (n m c d:Nat) (hn:xs.length = n) (hm:ys.length = m) (hn1:n ≤ 65536) (hm1:m ≤ 65536) (hxd:FE.Dig xs) (hxt:FE.Top xs) (hyd:FE.Dig ys) (hyt:FE.Top ys)
 (hlt:FE.val xs < FE.val ys) (A B:Option Addr) (w:World) (ha:RI w A xs) (hb:RI w B ys) :
 Calls Tryz.prog 109 #[.slice A n c,.slice B m d] w fun e w'=>∃ v1 v2,e = .returned (.tuple #[v1,v2])∧RO w' w.heap.size v1 (FE.toL (FE.val xs / FE.val ys).toNat)∧RO w' w.heap.size v2 (FE.toL (FE.val xs % FE.val ys).toNat)∧Below w.heap.size w w':=by
 have hx0:=FE.val_nonneg hxd
 have hq:FE.val xs / FE.val ys = 0:=Int.ediv_eq_zero_of_lt hx0 hlt
 have hr:FE.val xs % FE.val ys = FE.val xs:=Int.emod_eq_of_lt hx0 hlt
 have hL:FE.toL (FE.val xs).toNat = xs:=FE.toL_val hxd hxt
 rw [hq,hr,hL,show FE.toL (0:Int).toNat = [] from FE.toL_zero]
 have C:=fun W h1 h2=>natCmp_val xs ys n m c d hn hm (by omega) (by omega) hxd hxt hyd hyt (-1) (by rw [cmpI,if_pos hlt]) A B W h1 h2
 have HC:=Lib.hid C
 clear C hq hr hL hx0 hlt
 go_enter Tryz.func109,Tryz.ntmps109
 go_wp2_with fail
 refine (HC.out _ ha hb).mono ?_
 rintro e w1 ⟨rfl,k,rfl⟩
 go_wp2_with (go_at_call 81;refine (clone_any xs n c hn (by omega) A _ ((ha.drewN _).alloc _)).mono ?_;rintro e w2 ⟨v2,rfl,hro,hb2⟩)
 go_ret2
 have hsz:w.heap.size ≤ ((w.drewN k).alloc (.cells #[] 3)).heap.size:=by simp
 exact ⟨_,_,rfl,RO.nil _ _ _ _ (Nat.zero_le _),hro.mono hsz,(below_drewN ((Below.refl _ _).alloc (Nat.le_refl _) _) k).trans (hb2.mono hsz)⟩
theorem natDiv_one (xs:List Int) (y:Int) (n c d:Nat) (hn:xs.length = n) (hn1:n ≤ 65536) (hxd:FE.Dig xs) (hxt:FE.Top xs) (hy0:0 < y) (hy1:y < 1000000000)
 (hge:y ≤ FE.val xs) (A B:Option Addr) (w:World) (ha:RI w A xs) (hb:RI w B [y]) :
 Calls Tryz.prog 109 #[.slice A n c,.slice B 1 d] w fun e w'=>∃ v1 v2,e = .returned (.tuple #[v1,v2])∧RO w' w.heap.size v1 (FE.toL (FE.val xs / y).toNat)∧RO w' w.heap.size v2 (FE.toL (FE.val xs % y).toNat)∧Below w.heap.size w w':=by
 have hvy:FE.val [y] = y:=by simp [FE.val]
 have hyd:FE.Dig [y]:=FE.Dig.cons (by omega) hy1 FE.Dig.nil
 have hyt:FE.Top [y]:=by intro h;simp;omega
 obtain ⟨b2,o2,rfl,hb2,hc2⟩:=hb (by simp)
 have e2:=hc2 0 (by simp)
 simp only [List.getD_cons_zero,Nat.add_zero] at e2
 have hr0:=Int.emod_nonneg (FE.val xs) (show y ≠ 0 by omega)
 have hr1:=Int.emod_lt_of_pos (FE.val xs) hy0
 obtain ⟨r,hr⟩:∃ r:Nat,FE.val xs % y = r:=⟨(FE.val xs % y).toNat,by omega⟩
 have hDS:=fun W h1=>divSmall_any xs n c y hn (by omega) hxd hy0 (by omega) A W h1
 have hNO:=fun W=>natOf_any r (by omega) W
 rw [hr]
 simp only [hr] at hDS
 simp only [Int.toNat_natCast]
 have hrl:r ≤ 1000000000:=by omega
 have hsgn:∀ v:Int,v = cmpI (FE.val xs) y → (v = 0 ∨ v = 1):=by intro v hv;unfold cmpI at hv;rw [if_neg (by omega)] at hv;split at hv <;> omega
 obtain ⟨s,hs⟩:∃ s,cmpI (FE.val xs) y = s:=⟨_,rfl⟩
 have C:=fun W h1 h2=>natCmp_val xs [y] n 1 c d hn rfl (by omega) (by omega) hxd hxt hyd hyt s (by rw [hvy];exact hs) A (some ⟨b2,o2,none⟩) W h1 h2
 have hs0:0 ≤ s:=by have:=hsgn s hs.symm;omega
 have HC:=Lib.hid C
 have HDS:=Lib.hid hDS
 have HNO:=Lib.hid hNO
 clear C hDS hNO hs hsgn hvy hge hr hr0 hr1
 go_enter Tryz.func109,Tryz.ntmps109
 go_wp2_with fail
 refine (HC.out _ ha hb).mono ?_
 rintro e w1 ⟨rfl,k,rfl⟩
 go_wp2_with fail
 refine (HDS.out _ (ha.drewN k)).mono ?_
 rintro e w2 ⟨v2,rfl,hro2,hb2'⟩
 go_wp2_with fail
 refine (HNO.out _).mono ?_
 rintro e w3 ⟨v3,rfl,hro3,hb3⟩
 go_wp2
 go_ret2
 exact ⟨_,_,rfl,hro2.later hb3,hro3.mono hb2'.size,(below_self_drewN w k).trans (hb2'.trans (hb3.mono hb2'.size))⟩
namespace FE
theorem normal {ys:List Int} {m:Nat} (hd:Dig ys) (ht:Top ys) (hm:ys.length = m + 1):1 ≤ ys.getD m 0∧1 ≤ 1000000000 / (ys.getD m 0 + 1)∧1000000000 / (ys.getD m 0 + 1) ≤ 500000000∧val ys * (1000000000 / (ys.getD m 0 + 1)) < bp (m + 1):=by
 have h1:=hd.getD m
 have hl:ys ≠ []:=by intro e;subst e;simp at hm
 have htop:ys.getD m 0 ≠ 0:=by
  have:=ht hl
  rw [List.getLast_eq_getElem] at this
  have e:ys.length - 1 = m:=by omega
  simp only [e] at this
  rw [List.getD_eq_getElem?_getD,List.getElem?_eq_getElem (by omega)]
  simpa using this
 have e:val ys = val (ys.take m) + bp m * ys.getD m 0:=by
  have e:val ys = val (ys.take (m + 1)):=by rw [List.take_of_length_le (by omega)]
  rw [e,val_take_succ']
 have hlow:=val_lt (hd.take m)
 rw [List.length_take,Nat.min_eq_left (by omega)] at hlow
 generalize ys.getD m 0 = b at *
 have hb:0 < b + 1:=by omega
 have hf:=Int.ediv_mul_le 1000000000 (show b + 1 ≠ 0 by omega)
 have h2:1 ≤ 1000000000 / (b + 1):=(Int.le_ediv_iff_mul_le hb).2 (by omega)
 have h3:1000000000 / (b + 1) ≤ 500000000:=by
  have:1000000000 / (b + 1) < 500000001:=(Int.ediv_lt_iff_lt_mul hb).2 (by omega)
  omega
 generalize 1000000000 / (b + 1) = f at *
 refine ⟨by omega,h2,h3,?_⟩
 have hv:val ys < bp m * (b + 1):=by rw [e,Int.mul_add];omega
 have h4:val ys * f < bp m * (b + 1) * f:=Int.mul_lt_mul_of_pos_right hv (by omega)
 have h5:bp m * (f * (b + 1)) ≤ bp m * 1000000000:=Int.mul_le_mul_of_nonneg_left hf (by have:=bp_pos m;omega)
 have h6:bp m * (b + 1) * f = bp m * (f * (b + 1)):=by grind
 rw [bp_succ];omega
theorem start {xs ys:List Int} {n m:Nat} {f:Int} (hxd:Dig xs) (hyd:Dig ys) (hyt:Top ys) (hn:xs.length = n) (hm:ys.length = m + 1) (hmn:m + 1 ≤ n) (hf:1 ≤ f) :
 val xs * f < val ys * f * bp (n - (m + 1) + 1):=by
 have h1:=val_lt hxd
 have h2:=val_ge hyd hyt (by intro e;subst e;simp at hm)
 rw [hn] at h1
 rw [hm,Nat.add_sub_cancel] at h2
 have e:n = m + (n - (m + 1) + 1):=by omega
 have h3:bp n = bp m * bp (n - (m + 1) + 1):=by rw [← bp_add,← e]
 have hp:=bp_pos (n - (m + 1) + 1)
 have h4:bp m * bp (n - (m + 1) + 1) ≤ val ys * bp (n - (m + 1) + 1):=Int.mul_le_mul_of_nonneg_right h2 (by omega)
 have h5:val xs < val ys * bp (n - (m + 1) + 1):=by omega
 have h6:=Int.mul_lt_mul_of_pos_right h5 (show 0 < f by omega)
 have h7:val ys * bp (n - (m + 1) + 1) * f = val ys * f * bp (n - (m + 1) + 1):=by grind
 omega
theorem window {us:List Int} {j m:Nat} {V:Int} (hd:Dig us) (hl:j + m + 1 ≤ us.length) (hV:V < bp m) (hlt:val us < V * bp (j + 1)) :
 val us = val (us.take j) + bp j * val ((us.drop j).take (m + 1))∧val (us.drop (j + m + 1)) = 0∧0 ≤ val ((us.drop j).take (m + 1))∧val ((us.drop j).take (m + 1)) < V * 1000000000:=by
 have e1:=val_take_drop us j (by omega)
 have e2:=val_take_drop (us.drop j) (m + 1) (by rw [List.length_drop];omega)
 rw [List.drop_drop] at e2
 have a1:=val_nonneg (hd.take j)
 have a2:=val_nonneg ((hd.drop j).take (m + 1))
 have a3:=val_nonneg (hd.drop (j + (m + 1)))
 have p1:=bp_pos j
 have p2:=bp_pos (m + 1)
 have p3:=bp_pos (j + 1)
 have hz:val (us.drop (j + (m + 1))) = 0:=by
  rcases Int.lt_or_le 0 (val (us.drop (j + (m + 1)))) with h | h
  ·exfalso
   have h1:bp (m + 1) * 1 ≤ bp (m + 1) * val (us.drop (j + (m + 1))):=Int.mul_le_mul_of_nonneg_left (by omega) (by omega)
   have h2:bp j * bp (m + 1) ≤ bp j * val (us.drop j):=Int.mul_le_mul_of_nonneg_left (by omega) (by omega)
   have h3:V * bp (j + 1) ≤ bp m * bp (j + 1):=Int.mul_le_mul_of_nonneg_right (by omega) (by omega)
   have h4:bp j * bp (m + 1) = bp m * bp (j + 1):=by rw [← bp_add,← bp_add];congr 1;omega
   omega
  ·omega
 rw [hz] at e2
 simp only [Int.mul_zero,Int.add_zero] at e2
 rw [e2] at e1
 refine ⟨e1,hz,a2,?_⟩
 rcases Int.lt_or_le (val ((us.drop j).take (m + 1))) (V * 1000000000) with h | h
 ·exact h
 ·exfalso
  have h1:=Int.mul_le_mul_of_nonneg_left h (show 0 ≤ bp j by omega)
  have h2:V * bp (j + 1) = bp j * (V * 1000000000):=by rw [bp_succ];grind
  omega
theorem newU {us Z:List Int} {j m:Nat} (hl:j + m + 1 ≤ us.length) (hZ:Z.length = m + 1) (hz:val (us.drop (j + m + 1)) = 0) :
 (us.take j ++ Z ++ us.drop (j + m + 1)).length = us.length∧val (us.take j ++ Z ++ us.drop (j + m + 1)) = val (us.take j) + bp j * val Z:=by
 constructor
 ·simp [hZ];omega
 ·rw [val_append,val_append,hz,List.length_take,Nat.min_eq_left (by omega)];simp
theorem newU_len {us Z:List Int} {j m:Nat} (hl:j + m + 1 ≤ us.length) (hZ:Z.length = m + 1):(us.take j ++ Z ++ us.drop (j + m + 1)).length = us.length:=by
 simp [hZ];omega
theorem round {us zs Z:List Int} {j m M:Nat} {V q U:Int} (hud:Dig us) (hl:j + m + 1 ≤ us.length) (hV:V < bp m) (hlt:val us < V * bp (j + 1)) (hZ:Z.length = m + 1) (hZd:Dig Z)
 (hZv:val Z = val ((us.drop j).take (m + 1)) - q * V) (hZlt:val Z < V) (hzl:zs.length = M) (hj:j < M) (hz0:zs.getD j 0 = 0) (hU:U = V * val zs + val us) :
 (us.take j ++ Z ++ us.drop (j + m + 1)).length = us.length∧Dig (us.take j ++ Z ++ us.drop (j + m + 1))∧val (us.take j ++ Z ++ us.drop (j + m + 1)) < V * bp j ∧
  U = V * val (zs.set j q) + val (us.take j ++ Z ++ us.drop (j + m + 1)):=by
 obtain ⟨h1,h2,h3,h4⟩:=window hud hl hV hlt
 obtain ⟨h5,h6⟩:=newU hl hZ h2
 refine ⟨h5,((hud.take j).append hZd).append (hud.drop _),?_,?_⟩
 ·rw [h6]
  have a:=val_lt (hud.take j)
  rw [List.length_take,Nat.min_eq_left (by omega)] at a
  have b:=Int.mul_le_mul_of_nonneg_left (show val Z + 1 ≤ V by omega) (show 0 ≤ bp j by have:=bp_pos j;omega)
  rw [Int.mul_add] at b
  rw [Int.mul_comm V];omega
 ·rw [h6,hU,val_set' _ _ _ (by omega),hz0,hZv,h1];grind
theorem low_zero {us:List Int} {m:Nat} {V:Int} (hd:Dig us) (hl:m ≤ us.length) (hV:V < bp m) (hlt:val us < V * bp 0):val (us.take m) = val us:=by
 have e:=val_take_drop us m hl
 have a1:=val_nonneg (hd.take m)
 have a3:=val_nonneg (hd.drop m)
 have p:=bp_pos m
 rw [bp_zero,Int.mul_one] at hlt
 rcases Int.lt_or_le 0 (val (us.drop m)) with h | h
 ·exfalso
  have:=Int.mul_le_mul_of_nonneg_left (show 1 ≤ val (us.drop m) by omega) (show 0 ≤ bp m by omega)
  omega
 ·have:val (us.drop m) = 0:=by omega
  rw [this] at e;omega
theorem finish {x y f z u:Int} (hf:1 ≤ f) (hU:x * f = y * f * z + u) (hu0:0 ≤ u) (hu:u < y * f) (hy:0 < y):x / y = z∧x % y = u / f:=by
 have hu':u = x * f - y * f * z:=by omega
 have hdvd:f ∣ u:=⟨x - y * z,by rw [hu'];grind⟩
 obtain ⟨r,rfl⟩:=hdvd
 have hr0:0 ≤ r:=by
  rcases Int.lt_or_le r 0 with h | h
  ·exfalso
   have:=Int.mul_le_mul_of_nonneg_left (show r ≤ -1 by omega) (show 0 ≤ f by omega)
   omega
  ·exact h
 have hr1:r < y:=by
  rcases Int.lt_or_le r y with h | h
  ·exact h
  ·exfalso
   have:=Int.mul_le_mul_of_nonneg_left h (show 0 ≤ f by omega)
   rw [Int.mul_comm f y] at this
   omega
 have hx:x = y * z + r:=by
  have:f * x = f * (y * z + r):=by grind
  exact Int.eq_of_mul_eq_mul_left (by omega) this
 refine ⟨?_,?_⟩
 ·rw [hx,Int.add_comm,Int.add_mul_ediv_left _ _ (by omega),Int.ediv_eq_zero_of_lt hr0 hr1];omega
 ·rw [hx,Int.add_comm,Int.add_mul_emod_self_left,Int.emod_eq_of_lt hr0 hr1,Int.mul_ediv_cancel_left _ (by omega)]
theorem len_le_of_val {xs ys:List Int} (hxd:Dig xs) (hyd:Dig ys) (hyt:Top ys) (h:val ys ≤ val xs):ys.length ≤ xs.length:=by
 have:=val_lt hxd
 exact (len_le_iff hyd hyt _).2 (by omega)
theorem carry_zero {a cy p b:Int} (ha0:0 ≤ a) (hcy:0 ≤ cy) (h:a + p * cy = b) (hb:b < p) (hp:0 < p):cy = 0:=by
 rcases Int.lt_or_le 0 cy with h1 | h1
 ·exfalso
  have:=Int.mul_le_mul_of_nonneg_left (show 1 ≤ cy by omega) (show 0 ≤ p by omega)
  omega
 ·omega
theorem scaled_fits {xs zs:List Int} {n:Nat} {f cy:Int} (hxd:Dig xs) (hn:xs.length = n) (_hf0:0 ≤ f) (hf:f ≤ 500000000) (hzd:Dig zs) (_hz:zs.length = n + 1) (hcy:0 ≤ cy) (h:val zs + bp (n + 1) * cy = val xs * f):cy = 0:=by
 refine carry_zero (val_nonneg hzd) hcy h ?_ (bp_pos _)
 have h1:=val_lt hxd
 rw [hn] at h1
 have h3:=val_nonneg hxd
 have h2:=Int.mul_le_mul_of_nonneg_left hf h3
 rw [bp_succ]
 omega
theorem scaled_fits' {zs:List Int} {n:Nat} {b cy:Int} (hb:b < bp n) (hzd:Dig zs) (hcy:0 ≤ cy) (h:val zs + bp n * cy = b):cy = 0 :=
 carry_zero (val_nonneg hzd) hcy h hb (bp_pos _)
theorem mid_drop {us Z R:List Int} {j k:Nat} (hj:j ≤ us.length) (hZ:Z.length = k):((us.take j ++ Z ++ R).drop j).take k = Z∧(us.take j ++ Z ++ R).take j = us.take j∧(us.take j ++ Z ++ R).drop (j + k) = R:=by
 have hl:(us.take j).length = j:=by rw [List.length_take];omega
 refine ⟨?_,?_,?_⟩
 ·rw [List.append_assoc,List.drop_append_of_le_length (by omega),List.drop_eq_nil_of_le (by omega),List.nil_append,← hZ,List.take_left']
  rfl
 ·rw [List.append_assoc,List.take_append_of_le_length (by omega),List.take_of_length_le (by omega)]
 ·rw [List.drop_append,List.drop_eq_nil_of_le (by rw [List.length_append];omega),List.nil_append,List.length_append,hl,hZ,Nat.sub_self,List.drop_zero]
end FE
end Go.Proofs.YtchbnlkambncnaaGreatDoor
