/-
 Shared texts (X16).
-/
import Derived.Test.YtchbnlkambncnaaGreatDoorX15
import Derived.Test.YtchbnlkambncnaaGreatDoorX14
import Derived.Test.YtchbnlkambncnaaGreatDoorX12
import Derived.Test.YtchbnlkambncnaaGreatDoorX9
import Derived.Shelf.Strings.OnBuilder
import Derived.Shelf.Strings.BuilderK
import Derived.Shelf.Strconv.Atoi
import Derived.Shelf.Strconv.Itoa3
import Derived.Shelf.Strings.Search3
import Derived.Shelf.Strings.Count
import Derived.Shelf.Strings.Split
import Derived.Shelf.Strings.Cut
import Derived.Test.YtchbnlkambncnaaGreatDoorProg
import Derived.Test.YtchbnlkambncnaaGreatDoorX6
import Derived.Lib.SplitLaws
import Derived.Lib.CutLaws
import Derived.Lib.IndexBytes
import Derived.Lib.SmallJoins
import Derived.RangeFuncNested
import Derived.RangeFuncBound
import Derived.RangeFuncCalls
import Derived.RangeFuncLeaves
import Derived.RangeFuncFrom
import Derived.Shelf.Abstract
import Derived.Shelf.RegionOpen
import Derived.WalkKit
import Derived.OwnWalkIn
import Derived.TacticsInMore
import Derived.LoopNIn
import Derived.LoopIn
set_option maxRecDepth 100000
set_option maxHeartbeats 4000000
namespace Go.Proofs.YtchbnlkambncnaaGreatDoor
open Go.RowKit Go.Joins Go.SX
noncomputable def t5s (n:Nat):List C → Option (List T5) :=
 @Nat.rec (fun _=>List C → Option (List T5)) (fun _=>some [])
  (fun _ ih l=>List.casesOn l none fun a l=>List.casesOn l none fun b l=>List.casesOn l none fun c l=>List.casesOn l none fun d l=>List.casesOn l none fun e l =>
   ob (cInt a) fun a=>ob (cInt b) fun b=>ob (cInt c) fun c=>ob (cInt d) fun d=>ob (cInt e) fun e=>ob (ih l) fun r=>some (⟨a,b,c,d,e⟩ :: r)) n
noncomputable def eqT5 (x y:T5):Bool:=bi (ibeq x.a y.a) (bi (ibeq x.b y.b) (bi (ibeq x.c y.c) (bi (ibeq x.d y.d) (ibeq x.e y.e) false) false) false) false
noncomputable def eqTs (l:List T5):List T5 → Bool :=
 @List.rec T5 (fun _=>List T5 → Bool) (fun m=>List.casesOn m true fun _ _=>false) (fun a _ ih m=>List.casesOn m false fun b m=>bi (eqT5 a b) (ih m) false) l
noncomputable def tsOf (c:C) (st:St):Option (Nat × List T5) :=
 match c with
 | .sl k o n z=>bi (Nat.beq o 0) (bi (Nat.beq z 5) (bi (Nat.ble n 1000) (ob (st.mem.get k) fun b=>ob (t5s n b.cells) fun xs=>some (k,xs)) none) none) none
 | _=>none
noncomputable def orTriEq (l:List V) (st:St):Option R:=ob (two l) fun q=>ob (tsOf q.1 st) fun x=>ob (tsOf q.2 st) fun y=>some ⟨vB (eqTs x.2 y.2),st,[],some [x.1,y.1]⟩
noncomputable def orCmpI (l:List V) (st:St):Option R:=ob (two l) fun q=>ob (cInt q.1) fun x=>ob (cInt q.2) fun y=>some ⟨vI (bi (ible y x) (bi (ible x y) 0 1) (-1)),st,[],some []⟩
theorem bi_and (x y:Bool):bi x y false = (x && y):=by cases x <;> rfl
theorem eqT5_eq (x y:T5):eqT5 x y = (x == y):=by
 obtain ⟨a,b,c,d,e⟩:=x
 obtain ⟨a',b',c',d',e'⟩:=y
 unfold eqT5
 simp only [bi_and,ibeq_eq]
 rw [Bool.eq_iff_iff]
 simp
theorem eqTs_eq:∀ l m:List T5,eqTs l m = (l == m)
 | [],[]=>rfl
 | [],_ :: _=>rfl
 | _ :: _,[]=>rfl
 | a :: l,b :: m=>by
  show bi (eqT5 a b) (eqTs l m) false = _
  rw [eqTs_eq l m,eqT5_eq]
  show _ = ((a == b) && (l == m))
  cases (a == b) <;> rfl
theorem t5s_inv:∀ (n:Nat) (l:List C) (xs:List T5),t5s n l = some xs → xs.length = n∧∀ i x,xs[i]? = some x → l[i * 5]? = some (.int x.a)∧l[i * 5 + 1]? = some (.int x.b)∧l[i * 5 + 2]? = some (.int x.c)∧l[i * 5 + 3]? = some (.int x.d)∧l[i * 5 + 4]? = some (.int x.e)
 | 0,l,xs,h=>by
  injection (show some [] = some xs from h) with h
  subst h
  exact ⟨rfl,fun i x h=>by simp at h⟩
 | n + 1,l,xs,h=>by
  match l,h with
  | a :: b :: c :: d :: e :: l,h =>
   obtain ⟨a',h1,h⟩:=ob_inv (show ob (cInt a) (fun a=>ob (cInt b) fun b=>ob (cInt c) fun c=>ob (cInt d) fun d=>ob (cInt e) fun e=>ob (t5s n l) fun r=>some ((⟨a,b,c,d,e⟩:T5) :: r)) = some xs from h)
   obtain ⟨b',h2,h⟩:=ob_inv h
   obtain ⟨c',h3,h⟩:=ob_inv h
   obtain ⟨d',h4,h⟩:=ob_inv h
   obtain ⟨e',h5,h⟩:=ob_inv h
   obtain ⟨r,h6,h⟩:=ob_inv h
   injection h with h
   subst h
   obtain ⟨k1,k2⟩:=t5s_inv n l r h6
   rw [cInt_inv h1,cInt_inv h2,cInt_inv h3,cInt_inv h4,cInt_inv h5]
   refine ⟨by simp [k1],fun i x hx=>?_⟩
   cases i with
   | zero =>
    simp at hx
    subst hx
    exact ⟨rfl,rfl,rfl,rfl,rfl⟩
   | succ i =>
    obtain ⟨j1,j2,j3,j4,j5⟩:=k2 i x (by simpa using hx)
    rw [show (i + 1) * 5 = i * 5 + 5 by omega]
    refine ⟨by simpa using j1,?_,?_,?_,?_⟩
    ·rw [show i * 5 + 5 + 1 = i * 5 + 1 + 5 by omega];simpa using j2
    ·rw [show i * 5 + 5 + 2 = i * 5 + 2 + 5 by omega];simpa using j3
    ·rw [show i * 5 + 5 + 3 = i * 5 + 3 + 5 by omega];simpa using j4
    ·rw [show i * 5 + 5 + 4 = i * 5 + 4 + 5 by omega];simpa using j5
  | [],h=>cases h
  | [_],h=>cases h
  | [_,_],h=>cases h
  | [_,_,_],h=>cases h
  | [_,_,_,_],h=>cases h
section
variable {K:Toks} {E:Env} {w:World} {st:St}
theorem tsOf_inv {c:C} {q:Nat × List T5} (h:tsOf c st = some q):∃ n b,c = .sl q.1 0 n 5∧n ≤ 1000∧st.mem.get q.1 = some b∧t5s n b.cells = some q.2:=by
 unfold tsOf at h
 split at h
 ·obtain ⟨h1,h⟩:=bi_inv h
  obtain ⟨h2,h⟩:=bi_inv h
  obtain ⟨h3,h⟩:=bi_inv h
  obtain ⟨b,h4,h⟩:=ob_inv h
  obtain ⟨xs,h5,h⟩:=ob_inv h
  injection h with h
  subst h
  rw [beq_inv h1,beq_inv h2]
  exact ⟨_,b,rfl,ble_inv h3,h4,h5⟩
 ·cases h
theorem ts_rel {k n:Nat} {b:Blk} {xs:List T5} {v:Value} (hg:GI K E w) (hm:BlkOk E w k b) (ht:t5s n b.cells = some xs) (hv:RelC E (.sl k 0 n 5) v):∃ A c,v = .slice A n c∧xs.length = n∧TsI w A xs:=by
 obtain ⟨p,s,cp,hrho,rfl,h1,h2⟩:=hv
 obtain ⟨p',s',arr,ty,hrho',hh,hs,hr⟩:=hm
 rw [hrho] at hrho'
 injection hrho' with e
 injection e with e1 e2
 subst e1;subst e2
 obtain ⟨k1,k2⟩:=t5s_inv n _ _ ht
 refine ⟨_,cp,rfl,k1,fun _=>⟨p,rfl,hg.low _ _ _ hrho,fun i hi=>?_⟩⟩
 have e:xs.getD i T5.z = xs[i]:=by simp [hi]
 rw [e]
 obtain ⟨j1,j2,j3,j4,j5⟩:=k2 i _ (List.getElem?_eq_getElem hi)
 have cell:∀ (o:Nat) (z:Int),b.cells[o]? = some (.int z) → w.cell? ⟨p,o,none⟩ = some (.int .i64 z):=by
  intro o z hz
  obtain ⟨x,g1,g2⟩:=hr.get o _ hz
  have g2:x = .int .i64 z:=g2
  rw [cell_of hh,← g2,← g1,Array.getElem?_toList]
 exact ⟨cell _ _ j1,cell _ _ j2,cell _ _ j3,cell _ _ j4,cell _ _ j5⟩
theorem orTriEq_ok:OrcOne Tryz.prog K 61 orTriEq:=by
 intro vl st r hr hst
 obtain ⟨q,h1,hr⟩:=ob_inv hr
 obtain ⟨x,h2,hr⟩:=ob_inv hr
 obtain ⟨y,h3,hr⟩:=ob_inv hr
 injection hr with hr
 subst hr
 obtain ⟨n,b,e1,l1,m1,t1⟩:=tsOf_inv h2
 obtain ⟨m,b',e2,l2,m2,t2⟩:=tsOf_inv h3
 refine ⟨eff_pure hst _ _,Tryz.call61,fun E w vs hrel hp=>?_⟩
 obtain ⟨u,v,rfl,hu,hv⟩:=two_inv h1 hrel
 rw [e1] at hu
 rw [e2] at hv
 obtain ⟨A,c,rfl,g1,g2⟩:=ts_rel hp.gi (hp.blk x.1 b (by simp [inR]) m1) t1 hu
 obtain ⟨B,d,rfl,g3,g4⟩:=ts_rel hp.gi (hp.blk y.1 b' (by simp [inR]) m2) t2 hv
 refine (triEqual x.2 y.2 n m c d g1 g3 (by omega) (by omega) A B w g2 g4).mono fun e u ⟨he,k,hu⟩=>?_
 subst hu
 rw [← eqTs_eq] at he
 exact ⟨_,E,he,out_below hp.gi ⟨rfl,rfl,rfl,Nat.le_refl _,fun _ _=>rfl⟩ rfl⟩
theorem orCmpI_ok:OrcOne Tryz.prog K 184 orCmpI:=by
 intro vl st r hr hst
 obtain ⟨q,h1,hr⟩:=ob_inv hr
 obtain ⟨x,h2,hr⟩:=ob_inv hr
 obtain ⟨y,h3,hr⟩:=ob_inv hr
 injection hr with hr
 subst hr
 refine ⟨eff_pure hst _ _,Tryz.call184,fun E w vs hrel hp=>?_⟩
 obtain ⟨u,v,rfl,hu,hv⟩:=two_inv h1 hrel
 rw [cInt_inv h2] at hu
 rw [cInt_inv h3] at hv
 have hu:u = .int .i64 x:=hu
 have hv:v = .int .i64 y:=hv
 subst hu;subst hv
 refine (cmpCompare x y w).mono fun e u ⟨he,hw⟩=>?_
 subst hw
 refine ⟨_,E,he,out_pure hp.gi ?_⟩
 have:cmpI x y = bi (ible y x) (bi (ible x y) 0 1) (-1):=by
  rw [ible_eq,ible_eq]
  unfold cmpI
  by_cases h:y ≤ x
  ·by_cases g:x ≤ y
   ·rw [if_neg (by omega),if_neg (by omega)];simp [h,g]
   ·rw [if_neg (by omega),if_pos (by omega)];simp [h,g]
  ·rw [if_pos (by omega)];simp [h]
 rw [this]
 rfl
end
theorem CE.later {z:Nat} {w w':World} {g:Nat} {A:Option Addr} {n c i:Nat} {h:Int} (hc:CE z w g A n c i h) (hg:g < w.heap.size) (hb:Below w.heap.size w w'):CE z w' g A n c i h:=hc.same (hb.block g hg)
theorem CE.far {z:Nat} {w:World} {g:Nat} {A:Option Addr} {n c i:Nat} {h:Int} (hc:CE z w g A n c i h) {k o:Nat} (hk:k ≠ g) (x:Value):CE z (w.setCell ⟨k,o,none⟩ x) g A n c i h :=
 hc.same (Below.heap_setCell _ _ _ _ hk.symm)
theorem BE.cf {w w':World} {A:Option Addr} {n g:Nat} {y:Nat → Int} (h:BE w A n y) (hne:n ≠ 0 → ∀ a,A = some a → a.block ≠ g) (hf:CF g w w'):BE w' A n y :=
 h.same fun hn a ha=>hf.block _ (by obtain ⟨b,o,e,hlt,_⟩:=h hn;rw [ha] at e;injection e with e;rw [e];exact hlt) (hne hn a ha)
theorem ePick (z g n c i:Nat) (k:Int) (A:Option Addr) (y:Nat → Int) (xs:List Int) (l d:Nat) (B:Option Addr) (hl:xs.length = l) (h1:1 ≤ l) (h2:l ≤ 256) (w:World) (hgl:g < w.heap.size) (hn:n ≤ 1048576) (hy:Byt y)
 (hne:n ≠ 0 → ∀ a,A = some a → a.block ≠ g) (hb:BE w A n y) (h:CE z w g A n c i k) (hB:RI w B xs) (hBg:∀ a,B = some a → a.block ≠ g) :
 Calls Tryz.prog 56 #[.pointer (some ⟨g,0,none⟩),.slice B l d] w fun e w'=>e = .returned (.int .i64 (xs.getD ((nxtB n y (i,k)) % (l:Int)).toNat 0))∧CE z w' g A n c (nxt n (i,k)).1 (nxt n (i,k)).2∧CF g w w':=by
 have HC:=Lib.hid (fun W (hW:Below w.heap.size w W)=>eBelow z g n c i k A y l (by omega) (by omega) W (Nat.lt_of_lt_of_le hgl hW.size) hn hy hne (hb.same fun hn a ha=>hW.block _ (by obtain ⟨b,o,e,hlt,_⟩:=hb hn;rw [ha] at e;injection e with e;rw [e];exact hlt)) (h.later hgl hW))
 obtain ⟨b,o,rfl,hb',hc⟩:=hB (by intro e;rw [e] at hl;simp at hl;omega)
 have hbg:b ≠ g:=hBg _ rfl
 have HR:=Lib.hid hc
 have HX:=nxtB_in n y (i,k)
 have HE:=Lib.hid (show nxtB n y (i,k) % (l:Int) = (((nxtB n y (i,k)) % (l:Int)).toNat:Int) from (Int.toNat_of_nonneg (Int.emod_nonneg _ (by omega))).symm)
 have hlt:((nxtB n y (i,k)) % (l:Int)).toNat < l:=by
  have:=Int.emod_lt_of_pos (nxtB n y (i,k)) (show (0:Int) < l by omega)
  have:=Int.emod_nonneg (nxtB n y (i,k)) (show (l:Int) ≠ 0 by omega)
  omega
 generalize ((nxtB n y (i,k)) % (l:Int)).toNat = j at *
 clear h hB hc hBg hb hy hne HX
 go_enter Tryz.func56,Tryz.ntmps56
 go_wp2_with fail
 refine (HC.out _ (by exact Below.refl _ _)).mono ?_
 rintro e w1 ⟨he,hc,hf⟩
 have he:e = .returned (.int .i64 (j:Int)):=by rw [he];exact congrArg (fun x=>Ending.returned (.int .i64 x)) HE.out
 subst he
 have hr:w1.cell? ⟨b,o + j,none⟩ = some (.int .i64 (xs.getD j 0)):=(hf.cell hb' hbg).trans (HR.out j (by omega))
 have hc':=Lib.hid hc
 have hf':=Lib.hid hf
 clear hc hf HE HC HR
 obtain ⟨x,hx⟩:∃ x,xs.getD j 0 = x:=⟨_,rfl⟩
 rw [hx] at hr
 replace hx:=Lib.hid hx
 go_wp2
 go_ret
 exact ⟨by rw [hx.out];rfl,hc'.out,hf'.out⟩
def fewL:List Int:=[1,1,1,2,3]
def nx2 (n:Nat) (s:Nat × Int):Nat × Int:=nxt n (nxt n s)
def fewN (n:Nat) (y:Nat → Int) (s:Nat × Int):Int:=nxtB n y s % 21 - 10
def fewD (n:Nat) (y:Nat → Int) (s:Nat × Int):Int:=fewL.getD ((nxtB n y (nxt n s)) % 5).toNat 0
theorem eFew (z g n c i:Nat) (k:Int) (A:Option Addr) (y:Nat → Int) (w:World) (hgl:g < w.heap.size) (hn:n ≤ 1048576) (hy:Byt y)
 (hne:n ≠ 0 → ∀ a,A = some a → a.block ≠ g) (hb:BE w A n y) (h:CE z w g A n c i k) :
 Calls Tryz.prog 26 #[.pointer (some ⟨g,0,none⟩)] w fun e w'=>∃ v,e = .returned v∧RatP w' w.heap.size v (FE.lowI (fewN n y (i,k)) (fewD n y (i,k)).natAbs)∧CE z w' g A n c (nx2 n (i,k)).1 (nx2 n (i,k)).2∧CF g w w':=by
 have HB:=Lib.hid (fun W (hg:g < W.heap.size) (hb:BE W A n y) (hW:CE z W g A n c i k)=>eBelow z g n c i k A y 21 (by decide) (by decide) W hg hn hy hne hb hW)
 have HM:=Lib.hid (show n ≠ 0 → ∀ a,A = some a → a.block < w.heap.size from fun hn a ha=>by obtain ⟨b,o,e,hlt,_⟩:=hb hn;rw [ha] at e;injection e with e;rw [e];exact hlt)
 have HBe:=Lib.hid (fun W (hW:CF g w W)=>hb.cf hne hW)
 have HC:=Lib.hid h
 have HY:=Lib.hid hy
 have HNE:=Lib.hid hne
 have HX:=nxtB_in n y (i,k)
 have HD:1 ≤ fewD n y (i,k)∧fewD n y (i,k) ≤ 3:=by
  unfold fewD
  have h1:=Int.emod_lt_of_pos (nxtB n y (nxt n (i,k))) (show (0:Int) < 5 by omega)
  have h2:=Int.emod_nonneg (nxtB n y (nxt n (i,k))) (show (5:Int) ≠ 0 by omega)
  generalize (nxtB n y (nxt n (i,k))) % 5 = q at *
  have h5:q = 0 ∨ q = 1 ∨ q = 2 ∨ q = 3 ∨ q = 4:=by omega
  rcases h5 with rfl | rfl | rfl | rfl | rfl <;> decide
 have HP:=Lib.hid (fun (W:World) (l d:Nat) (B:Option Addr) (hl:fewL.length = l) h1 h2 hg hb hW hB hBg=>ePick z g n c (nxt n (i,k)).1 (nxt n (i,k)).2 A y fewL l d B hl h1 h2 W hg hn hy hne hb hW hB hBg)
 have HFD:=show fewL.getD ((nxtB n y ((nxt n (i,k)).1,(nxt n (i,k)).2)) % ((5:Nat):Int)).toNat 0 = fewD n y (i,k) from rfl
 have HFN:fewN n y (i,k) = nxtB n y (i,k) % 21 - 10:=rfl
 have H21:=Int.emod_lt_of_pos (nxtB n y (i,k)) (show (0:Int) < 21 by omega)
 have H22:=Int.emod_nonneg (nxtB n y (i,k)) (show (21:Int) ≠ 0 by omega)
 have HN2:=Lib.hid (show nxt n ((nxt n (i,k)).1,(nxt n (i,k)).2) = nx2 n (i,k) from rfl)
 rw [HFN]
 clear HFN
 obtain ⟨x,hx⟩:∃ x,nxtB n y (i,k) % 21 = x:=⟨_,rfl⟩
 obtain ⟨q,hq⟩:∃ q,fewD n y (i,k) = q:=⟨_,rfl⟩
 rw [hx] at H21 H22 ⊢
 rw [hq] at HFD HD ⊢
 clear hq
 have HFD:=Lib.hid HFD
 have HQ:=Lib.hid (fun W=>sRatOf (x - 10) q (by omega) (by omega) HD.1 (by omega) W)
 generalize FE.lowI (x - 10) q.natAbs = R at *
 have HXE:=Lib.hid hx
 clear h hb hy hne HX hx
 go_enter Tryz.func26,Tryz.ntmps26
 go_wp2_with fail
 have al:=below_alloc1 w (.cells #[.bool false,.slice none 0 0,.slice none 0 0] 45)
 have R0:=Slots.new (Below.refl _ (w.alloc (.cells #[.bool false,.slice none 0 0,.slice none 0 0] 45))) (g:=w.heap.size) rfl
 refine (HB.out _ (by simp;omega) (HBe.out _ (CF.later al)) (HC.out.later hgl al)).mono ?_
 rintro e w1 ⟨he,hc1,hf1⟩
 have he:e = .returned (.int .i64 x):=by rw [he];exact congrArg (fun x=>Ending.returned (.int .i64 x)) HXE.out
 subst he
 clear HXE HB
 have hcf:=(CF.later al).trans hf1
 replace R0:=R0.frame hf1 (by omega)
 have hz1:=hf1.size
 simp only [World.size_alloc] at hz1
 have HC1:=Lib.hid hc1
 have HCF:=Lib.hid hcf
 clear hc1 hf1 hcf al HC
 go_wp2_with fail
 have hA:Arr (w1.alloc (.cells #[.int .i64 1,.int .i64 1,.int .i64 1,.int .i64 2,.int .i64 3] 3)) w1.heap.size 5 [1,1,1,2,3]:=⟨[],rfl,by decide,heap_alloc_new _ _⟩
 have hR:=RI.of_own (OI.of_arr hA (Nat.le_refl _))
 have al:=below_alloc1 w1 (.cells #[.int .i64 1,.int .i64 1,.int .i64 1,.int .i64 2,.int .i64 3] 3)
 refine (HP.out _ 5 5 _ rfl (by decide) (by decide) (by simp;omega) (HBe.out _ (HCF.out.trans (CF.later al))) (HC1.out.later (by omega) al) hR (fun a ha=>by injection ha with ha;subst ha;show w1.heap.size ≠ g;omega)).mono ?_
 rintro e w2 ⟨he,hc2,hf2⟩
 rw [HFD.out] at he
 rw [HN2.out] at hc2
 subst he
 have hcf:=(HCF.out.trans (CF.later al)).trans hf2
 replace R0:=(R0.later al).frame hf2 (by omega)
 have hz2:=hf2.size
 simp only [World.size_alloc] at hz2
 have HC2:=Lib.hid hc2
 have HCF:=Lib.hid hcf
 clear hc2 hf2 hcf al HC1 hA hR HP HFD HN2
 go_wp2_with fail
 refine (HQ.out _).mono ?_
 rintro e w5 ⟨v5,rfl,hrp,hb5⟩
 have hcf:=HCF.out.trans (CF.later hb5)
 have hc5:=HC2.out.later (by omega) hb5
 replace R0:=R0.later hb5
 replace hrp:=hrp.mono (base':=w.heap.size + 1) (by omega)
 obtain ⟨A6,n6,c6,B6,m6,d6,rfl⟩:=hrp.shape
 obtain ⟨b0,b1,b2,z0,z1,z2⟩:=R0.c3
 have f6:=hrp.far3 (g:=w.heap.size) (Nat.lt_succ_self _) (.bool R.neg) (.slice A6 n6 c6) (.slice B6 m6 d6)
 have hkg:w.heap.size ≠ g:=by omega
 have hcG:=((hc5.far (o:=0) hkg (.bool R.neg)).far (o:=1) hkg (.slice A6 n6 c6)).far (o:=2) hkg (.slice B6 m6 d6)
 have hfG:=Frame.fresh3 hcf (Nat.le_refl w.heap.size) (.bool R.neg) (.slice A6 n6 c6) (.slice B6 m6 d6)
 replace hcG:=Lib.hid hcG
 replace hfG:=Lib.hid hfG
 clear R0 hrp hcf hc5 HC2 HCF hkg
 go_wp2
 exact bodyPost_ret (v:=.agg #[.bool R.neg,.slice A6 n6 c6,.slice B6 m6 d6]) (by simp [results,Tryz.results26,go_sem,b0,b1,b2]) rfl ⟨_,rfl,f6.mono (by omega),hcG.out,hfG.out⟩
section
variable {val:X → Rat} {drw:Drw} {E:Env} {w u:World} {st:St}
theorem addT_le {j:Nat} {cs:TokD} (hn:E.sig j = none):E.le (addT E j cs) :=
 ⟨fun _ _ h=>h,fun i v hi=>by
  have:i ≠ j:=fun e=>by rw [e,hn] at hi;cases hi
  simp [addT,this,hi],rfl⟩
theorem out_newtok {cs:TokD} {v v0:V} {x x0:Value} {m':T Blk} {W:List Nat} {rd:Option (List Nat)}
 (h0:Out (toks val drw) E w st ⟨v0,⟨m',st.nb,st.nt⟩,W,rd⟩ E u x0) (hn:E.sig st.nt = none)
 (hT:∃ G,(∀ b ∈ G,b < u.heap.size∧∀ k s,E.rho k ≠ some (b,s))∧TVal val st.nt G u cs) (hv:RelV (addT E st.nt cs) v x) :
 Out (toks val drw) E w st ⟨v,⟨m',st.nb,st.nt + 1⟩,W,rd⟩ (addT E st.nt cs) u x:=by
 have hle:=addT_le (cs:=cs) hn
 have hsame:(addT E st.nt cs).sig st.nt = some cs:=by simp [addT]
 have hs:=h0.step
 refine ⟨⟨hle,fun k h=>absurd rfl h,fun j hj=>?_,hs.os,hs.tape,hs.output,hs.size,hs.kept,hs.fresh,?_⟩,hv,fun k b hk hg=>?_,h0.inj⟩
 ·by_cases e:j = st.nt
  ·subst e;exact ⟨Nat.le_refl _,Nat.lt_succ_self _⟩
  ·exact absurd (by simp [addT,e]) hj
 ·refine ⟨hs.gi.low,fun j cs' hj=>?_,hs.gi.base⟩
  by_cases e:j = st.nt
  ·subst e
   rw [hsame] at hj
   injection hj with hj
   subst hj
   exact hT
  ·exact hs.gi.tok j cs' (by simpa [addT,e] using hj)
 ·obtain ⟨p,s,arr,ty,h1,h2,h3,h4⟩:=h0.blk k b hk hg
  exact ⟨p,s,arr,ty,h1,h2,h3,h4.mono hle⟩
theorem rat_token {x:Value} {z:X} {base nt:Nat} (hz:z.kd ≠ 1) (hsm:FE.small (val z) = true) (hr:RatP u base x (FE.ofQ (val z))) (hlow:∀ k p s,E.rho k = some (p,s) → p < base) :
 ∃ cs:TokD,(∃ G,(∀ b ∈ G,b < u.heap.size∧∀ k s,E.rho k ≠ some (b,s))∧TVal val nt G u cs)∧RelV (addT E nt cs) (.s (rat nt z)) x:=by
 obtain ⟨va,vb,rfl,h1,h2,_⟩:=hr
 obtain ⟨A,c,rfl,hl,hc,_⟩:=id h1
 obtain ⟨B,d,rfl,hm,hd,_⟩:=id h2
 have f1:=ro_fresh h1
 have f2:=ro_fresh h2
 generalize hR:FE.ofQ (val z) = R at *
 let cs:TokD:=⟨#[.bool R.neg,.slice A R.mag.length c,.slice B R.den.length d],z⟩
 have hsame:(addT E nt cs).sig nt = some cs:=by simp [addT]
 refine ⟨cs,⟨(match A with | some a=>if R.mag = [] then [] else [a.block] | none=>[]) ++ (match B with | some b=>if R.den = [] then [] else [b.block] | none=>[]),fun b hbm=>?_,?_⟩,?_⟩
 ·have key:base ≤ b∧b < u.heap.size:=by
   rcases List.mem_append.1 hbm with hbm | hbm
   ·cases A with
    | none=>simp at hbm
    | some a =>
     by_cases hx:R.mag = []
     ·simp [hx] at hbm
     ·simp [hx] at hbm
      subst hbm
      exact f1 hx a rfl
   ·cases B with
    | none=>simp at hbm
    | some a =>
     by_cases hx:R.den = []
     ·simp [hx] at hbm
     ·simp [hx] at hbm
      subst hbm
      exact f2 hx a rfl
  exact ⟨key.2,fun k s hk=>by have:=hlow k b s hk;omega⟩
 ·unfold TVal
  rw [if_neg hz]
  show TRat (val z) _ u #[.bool R.neg,.slice A R.mag.length c,.slice B R.den.length d]
  unfold TRat
  rw [hR]
  refine ⟨hsm,A,c,B,d,rfl,⟨hl,hc,hm,hd⟩,h1.reads,h2.reads,fun a ha hx=>?_,fun a ha hx=>?_⟩
  ·subst ha;simp [hx]
  ·subst ha;simp [hx]
 ·refine ⟨cs.cs,rfl,⟨cs,hsame,⟨rfl,rfl⟩,?_,?_⟩,⟨cs,hsame,⟨rfl,rfl⟩,?_,?_⟩,⟨cs,hsame,⟨rfl,rfl⟩,?_,?_⟩,trivial⟩ <;> simp
theorem cur_open {k0 p:Nat} {b:Blk} (hg:GI (toks val drw) E w) (hm:BlkOk E w k0 b) (h8:asCur b.cells = some p) :
 ∃ g s A n c y,E.rho k0 = some (g,s)∧E.fix = fixOf A n c y∧g < w.heap.size∧n ≤ 1048576∧Byt y∧(n ≠ 0 → ∀ a,A = some a → a.block ≠ g)∧BE w A n y∧CE s w g A n c (stp n y p).1 (stp n y p).2:=by
 obtain ⟨g,s,arr,ty,hrho,hh,hsz,hrl⟩:=hm
 obtain ⟨G,hG,A,n,cp,y,hfix,hbe,hby,hn,hfoot,hdr⟩:=id hg.base
 have hlt:=hg.low _ _ _ hrho
 rw [asCur_inv h8] at hrl
 have hcell:∀ (o:Nat) (c:C) (v:Value),(curC p)[o]? = some c → (∀ x,RelC E c x → x = v) → w.cell? ⟨g,o,none⟩ = some v:=by
  intro o c v hc hx
  obtain ⟨x,h1,h2⟩:=hrl.get o c hc
  rw [cell_of hh,← hx x h2,← h1,Array.getElem?_toList]
 refine ⟨g,s,A,n,cp,y,hrho,hfix,hlt,hn,hby,fun hn0 a ha e=>?_,hbe,stp_le n y p,hcell 0 _ _ rfl ?_,hcell 1 _ _ rfl ?_,hcell 2 _ _ rfl ?_,fun o=>frozen_of_row _ _ _ _ _ hh,arr,ty,hh,hsz⟩
 ·have:=(hG _ (hfoot hn0 a ha)).2 k0 s
  rw [e] at this
  exact this hrho
 all_goals
  rintro x ⟨hx,_⟩
  rw [hfix] at hx
  have hx':some _ = some x:=hx
  injection hx' with hx'
  exact hx'.symm
theorem cur_turned {k0 g s p:Nat} {A:Option Addr} {n c:Nat} {y:Nat → Int} {v:V} {x:Value} {rd:Option (List Nat)} (hst:StOk st) (h0:k0 < st.nb)
 (hp:Pre (toks val drw) E w st ⟨v,⟨st.mem.set k0 (some ⟨curC p⟩),st.nb,st.nt⟩,[k0],rd⟩) (hrho:E.rho k0 = some (g,s)) (hfix:E.fix = fixOf A n c y)
 (hc:CE s u g A n c (stp n y p).1 (stp n y p).2) (hf:CF g w u) (hv:RelV E v x) :
 Out (toks val drw) E w st ⟨v,⟨st.mem.set k0 (some ⟨curC p⟩),st.nb,st.nt⟩,[k0],rd⟩ E u x:=by
 obtain ⟨arr',ty',hh',hsz'⟩:=hc.row
 refine out_write hst h0 hp hrho hf hh' hsz' ?_ hv
 have hcur:=cur_rel hfix p
 have e3:∀ o v,u.cell? ⟨g,o,none⟩ = some v → arr'.toList[o]? = some v:=fun o v ho=>by rw [Array.getElem?_toList,← cell_of hh'];exact ho
 have a0:=e3 0 _ hc.sl
 have a1:=e3 1 _ hc.at_
 have a2:=e3 2 _ hc.hash
 match hl:arr'.toList,a0,a1,a2 with
 | u0 :: u1 :: u2 :: rest,a0,a1,a2 =>
  simp at a0 a1 a2
  subst a0 a1 a2
  exact ⟨hcur.1,hcur.2.1,hcur.2.2.1,trivial⟩
 | [],a0,_,_=>simp at a0
 | [_],_,a1,_=>simp at a1
 | [_,_],_,_,a2=>simp at a2
/-! ### The contracts -/
noncomputable def curAt (l:List V) (st:St):Option (Nat × Nat):=ob (one l) fun c=>ob (cPtr c) fun a=>bi (Nat.beq a.2 0) (ob (st.mem.get a.1) fun b=>ob (asCur b.cells) fun p=>some (a.1,p)) none
noncomputable def orByte (l:List V) (st:St):Option R:=ob (curAt l st) fun q=>some ⟨.s (.c (.dr 0 q.2 256)),⟨st.mem.set q.1 (some ⟨curC (Nat.add q.2 1)⟩),st.nb,st.nt⟩,[q.1],some [q.1]⟩
noncomputable def orFew (ux:Nat → Option X) (l:List V) (st:St):Option R :=
 ob (curAt l st) fun q=>ob (ux q.2) fun z=>some ⟨.s (rat st.nt z),⟨st.mem.set q.1 (some ⟨curC (Nat.add q.2 2)⟩),st.nb,Nat.add st.nt 1⟩,[q.1],some [q.1]⟩
theorem curAt_inv {l:List V} {q:Nat × Nat} (h:curAt l st = some q):∃ c b,one l = some c∧c = .ptr q.1 0∧st.mem.get q.1 = some b∧asCur b.cells = some q.2:=by
 obtain ⟨c,h1,h⟩:=ob_inv h
 obtain ⟨⟨k0,o⟩,h2,h⟩:=ob_inv h
 obtain ⟨h3,h⟩:=bi_inv h
 obtain ⟨b,h4,h⟩:=ob_inv h
 obtain ⟨p,h5,h⟩:=ob_inv h
 injection h with h
 subst h
 have h3:=beq_inv h3
 simp only at h3
 subst h3
 exact ⟨c,b,h1,cPtr_inv h2,h4,h5⟩
theorem byte_nat {n:Nat} {y:Nat → Int} (c:Nat) (A:Option Addr) (p:Nat):nxtB n y (stp n y p) = (((fixOf A n c y).byte p:Nat):Int):=(Int.toNat_of_nonneg (nxtB_in n y _).1).symm
theorem byte_lt {n:Nat} {y:Nat → Int} (c:Nat) (A:Option Addr) (p:Nat):(fixOf A n c y).byte p < 256:=by
 have h1:=byte_nat (y:=y) (n:=n) c A p
 have h2:=nxtB_in n y (stp n y p)
 omega
theorem orByte_ok:OrcOne Tryz.prog (toks val drw) 53 orByte:=by
 intro vl st r hr hst
 obtain ⟨⟨k0,p⟩,h1,hr⟩:=ob_inv hr
 injection hr with hr
 subst hr
 obtain ⟨c,b,h2,h3,h4,h5⟩:=curAt_inv h1
 simp only at h3 h4 h5
 refine ⟨eff_write hst h4,Tryz.call53,fun E w vs hrel hp=>?_⟩
 obtain ⟨x1,rfl,hv1⟩:=one_inv h2 hrel
 rw [h3] at hv1
 obtain ⟨g,s,hrho,rfl⟩:=hv1
 obtain ⟨g',s',A,n,cp,y,hrho',hfix,hlt,hn,hby,hne,hbe,hce⟩:=cur_open hp.gi (hp.blk k0 b (by simp [inR]) h4) h5
 rw [hrho] at hrho'
 injection hrho' with e
 injection e with e1 e2
 subst e1;subst e2
 refine (eByte s g n cp (stp n y p).1 (stp n y p).2 A y w hlt hn hby hne hbe hce).mono fun e u ⟨he,hc,hf⟩=>?_
 have he':e = .returned (.int .i64 (nxtB n y (stp n y p))):=he
 have hc':CE s u g A n cp (stp n y (p + 1)).1 (stp n y (p + 1)).2:=hc
 refine ⟨_,E,he',cur_turned hst (hst.lt h4) hp hrho hfix hc' hf ?_⟩
 show Value.int .i64 _ = Value.int .i64 _
 rw [hfix,byte_nat cp A p,Nat.mod_eq_of_lt (byte_lt cp A p),Int.zero_add]
theorem few_val {n:Nat} {y:Nat → Int} (c:Nat) (A:Option Addr) (p:Nat) :
 fewN n y (stp n y p) = (((fixOf A n c y).byte p % 21:Nat):Int) - 10∧(fewD n y (stp n y p)).natAbs = fewNat ((fixOf A n c y).byte (p + 1) % 5)∧0 < fewNat ((fixOf A n c y).byte (p + 1) % 5):=by
 refine ⟨?_,?_⟩
 ·unfold fewN
  rw [byte_nat c A p,Int.natCast_emod]
  rfl
 ·have e:fewD n y (stp n y p) = fewL.getD ((nxtB n y (stp n y (p + 1))) % 5).toNat 0:=rfl
  rw [e,byte_nat c A (p + 1)]
  have h:((((fixOf A n c y).byte (p + 1):Nat):Int) % 5).toNat = (fixOf A n c y).byte (p + 1) % 5:=by omega
  rw [h]
  have h5:(fixOf A n c y).byte (p + 1) % 5 < 5:=Nat.mod_lt _ (by decide)
  generalize (fixOf A n c y).byte (p + 1) % 5 = q at *
  have:q = 0 ∨ q = 1 ∨ q = 2 ∨ q = 3 ∨ q = 4:=by omega
  rcases this with rfl | rfl | rfl | rfl | rfl <;> decide
theorem eff_write_tok {k0:Nat} {b0 b1:Blk} {v:V} (hst:StOk st) (h0:st.mem.get k0 = some b0):Eff st ⟨v,⟨st.mem.set k0 (some b1),st.nb,Nat.add st.nt 1⟩,[k0],some [k0]⟩:=by
 have h:=eff_write (b1:=b1) (v:=v) hst h0
 exact ⟨h.nb,Nat.le_succ _,h.same,h.live,⟨h.ok.nb,h.ok.dom⟩,h.rdw⟩
theorem orFew_ok {ux:Nat → Option X} (hu:UxOk val drw ux):OrcOne Tryz.prog (toks val drw) 26 (orFew ux):=by
 intro vl st r hr hst
 obtain ⟨⟨k0,p⟩,h1,hr⟩:=ob_inv hr
 obtain ⟨z,hz,hr⟩:=ob_inv hr
 injection hr with hr
 subst hr
 obtain ⟨c,b,h2,h3,h4,h5⟩:=curAt_inv h1
 simp only at h3 h4 h5 hz
 obtain ⟨gz,ez⟩:=hu p z hz
 refine ⟨eff_write_tok hst h4,Tryz.call26,fun E w vs hrel hp=>?_⟩
 obtain ⟨x1,rfl,hv1⟩:=one_inv h2 hrel
 rw [h3] at hv1
 obtain ⟨g,s,hrho,rfl⟩:=hv1
 obtain ⟨g',s',A,n,cp,y,hrho',hfix,hlt,hn,hby,hne,hbe,hce⟩:=cur_open hp.gi (hp.blk k0 b (by simp [inR]) h4) h5
 rw [hrho] at hrho'
 injection hrho' with e
 injection e with e1 e2
 subst e1;subst e2
 refine (eFew s g n cp (stp n y p).1 (stp n y p).2 A y w hlt hn hby hne hbe hce).mono fun e u ⟨v,he,hr,hc,hf⟩=>?_
 have hc':CE s u g A n cp (stp n y (p + 2)).1 (stp n y (p + 2)).2:=hc
 obtain ⟨q1,q2,q3⟩:=few_val (n:=n) (y:=y) cp A p
 have hr':RatP u w.heap.size v (FE.lowI (fewN n y (stp n y p)) (fewD n y (stp n y p)).natAbs):=hr
 rw [q1,q2] at hr'
 have ez':val z = _root_.mkRat ((((fixOf A n cp y).byte p % 21:Nat):Int) - 10) (fewNat ((fixOf A n cp y).byte (p + 1) % 5)):=by
  rw [ez,← fix_of hp.gi,hfix];rfl
 rw [low_is z q3 ez' gz.sm] at hr'
 have hn0:=hp.newT st.nt (Nat.le_refl _) (Nat.lt_succ_self _)
 have hp0:Pre (toks val drw) E w st ⟨vB true,⟨st.mem.set k0 (some ⟨curC (p + 2)⟩),st.nb,st.nt⟩,[k0],some [k0]⟩:=⟨hp.gi,hp.blk,hp.inj,hp.newB,fun j h1 h2=>by have:j < st.nt:=h2;omega⟩
 have h0:=cur_turned (x:=.bool true) hst (hst.lt h4) hp0 hrho hfix hc' hf rfl
 obtain ⟨cs,hT,hv⟩:=rat_token (nt:=st.nt) gz.kd gz.sm hr' (fun k p s hk=>hp.gi.low k p s hk)
 exact ⟨v,_,he,out_newtok h0 hn0 hT hv⟩
end
theorem sBigCmp (s t:Bool) (p q:Nat) (hs:s = true → p ≠ 0) (ht:t = true → q ≠ 0) (u v:Value) (w:World) (hu:BigV w u s (FE.toL p)) (hv:BigV w v t (FE.toL q)) (l1:(FE.toL p).length ≤ 65536) (l2:(FE.toL q).length ≤ 65536) :
 Calls Tryz.prog 257 #[u,v] w fun e w'=>e = .returned (.int .i64 (cmpI (sgnI s p) (sgnI t q)))∧Below w.heap.size w w':=by
 obtain ⟨A,c,rfl,_,_,ra⟩:=hu
 obtain ⟨B,d,rfl,_,_,rb⟩:=hv
 have hS:=below_alloc2 w (.cells #[.bool s,.slice A (FE.toL p).length c] 43) (.cells #[.bool t,.slice B (FE.toL q).length d] 43)
 have H1:=Lib.hid (fun W (hW:Below w.heap.size w W)=>sCmp_nat p q _ _ c d rfl rfl l1 l2 A B W (ra.later hW) (rb.later hW))
 have H2:=Lib.hid (fun W (hW:Below w.heap.size w W)=>sCmp_nat q p _ _ d c rfl rfl l2 l1 B A W (rb.later hW) (ra.later hW))
 have S0:=Slots.new (below_step (Below.refl _ ((w.alloc (.cells #[.bool s,.slice A (FE.toL p).length c] 43)).alloc (.cells #[.bool t,.slice B (FE.toL q).length d] 43)))) (g:=w.heap.size) rfl
 have S1:=Slots.new (Below.refl _ ((w.alloc (.cells #[.bool s,.slice A (FE.toL p).length c] 43)).alloc (.cells #[.bool t,.slice B (FE.toL q).length d] 43))) (g:=w.heap.size + 1) (by simp)
 obtain ⟨a0_0,a0_1,_,_⟩:=S0.k2
 obtain ⟨a1_0,a1_1,_,_⟩:=S1.k2
 clear S0 S1 ra rb l1 l2
 generalize (FE.toL p).length = n at *
 generalize (FE.toL q).length = m at *
 cases s
 ·cases t
  ·obtain ⟨R,hR⟩:∃ R,cmpI (sgnI false p) (sgnI false q) = R:=⟨_,rfl⟩
   rw [show cmpI (p:Int) (q:Int) = R from hR] at H1
   rw [hR]
   clear hR H2 hs ht
   go_enter Tryz.func257,Tryz.ntmps257
   go_wp2_with fail
   refine (H1.out _ hS).mono ?_
   rintro e w1 ⟨rfl,k,hw⟩
   have hb:=below_drewN hS k
   rw [← hw] at hb
   clear hw a0_0 a0_1 a1_0 a1_1 hS
   go_wp2
   go_ret
   exact ⟨rfl,hb⟩
  ·have hR:cmpI (sgnI false p) (sgnI true q) = 1:=by
    have:=ht rfl
    unfold cmpI sgnI
    simp only [Bool.false_eq_true,if_false,if_true]
    rw [if_neg (by omega),if_pos (by omega)]
   rw [hR]
   clear hR H1 H2 hs ht
   go_enter Tryz.func257,Tryz.ntmps257
   go_wp2
   go_ret
   exact ⟨rfl,hS⟩
 ·cases t
  ·have hR:cmpI (sgnI true p) (sgnI false q) = -1:=by
    have:=hs rfl
    unfold cmpI sgnI
    simp only [Bool.false_eq_true,if_false,if_true]
    rw [if_pos (by omega)]
   rw [hR]
   clear hR H1 H2 hs ht
   go_enter Tryz.func257,Tryz.ntmps257
   go_wp2
   go_ret
   exact ⟨rfl,hS⟩
  ·obtain ⟨R,hR⟩:∃ R,cmpI (sgnI true p) (sgnI true q) = R:=⟨_,rfl⟩
   rw [show cmpI (q:Int) (p:Int) = R from cmpI_neg.trans hR] at H2
   rw [hR]
   clear hR H1 hs ht
   go_enter Tryz.func257,Tryz.ntmps257
   go_wp2_with fail
   refine (H2.out _ hS).mono ?_
   rintro e w1 ⟨rfl,k,hw⟩
   have hb:=below_drewN hS k
   rw [← hw] at hb
   clear hw a0_0 a0_1 a1_0 a1_1 hS
   go_wp2
   go_ret
   exact ⟨rfl,hb⟩
theorem sCmp4 (x y:RatD) (p q p' q':Nat) (hx:FE.OkR x p q) (hy:FE.OkR y p' q') (u v:Value) (w:World) (hu:RatV w u x) (hv:RatV w v y) :
 Calls Tryz.prog 233 #[u,v] w fun e w'=>e = .returned (.int .i64 (cmpV x y p q p' q'))∧Below w.heap.size w w':=by
 obtain ⟨A,c,B,d,rfl,_,ra,rb⟩:=hu
 obtain ⟨A',c',B',d',rfl,_,ra',rb'⟩:=hv
 have mx:=hx.mag
 have my:=hy.mag
 have dx:=hx.den
 have dy:=hy.den
 rw [mx] at ra
 rw [dx] at rb
 rw [my] at ra'
 rw [dy] at rb'
 have lp:=hx.pl
 have lq:=hx.ql
 have lp':=hy.pl
 have lq':=hy.ql
 have H1:=Lib.hid (fun W (hW:Below w.heap.size w W)=>sMul_nat p q' _ _ c d' rfl rfl (by omega) (by omega) A B' W (ra.later hW) (rb'.later hW))
 have H2:=Lib.hid (fun W (hW:Below w.heap.size w W)=>sMul_nat p' q _ _ c' d rfl rfl (by omega) (by omega) A' B W (ra'.later hW) (rb.later hW))
 have k1:=mul_len24 lp lq'
 have k2:=mul_len24 lp' lq
 have H4:=Lib.hid (fun (n c:Nat) (hn:(FE.toL (p * q')).length = n) (hc:n ≤ c) (A:Option Addr) W (ha:RI W A (FE.toL (p * q')))=>sMake x.neg (p * q') n c hn (by omega) hc A W ha)
 have H5:=Lib.hid (fun (n c:Nat) (hn:(FE.toL (p' * q)).length = n) (hc:n ≤ c) (A:Option Addr) W (ha:RI W A (FE.toL (p' * q)))=>sMake y.neg (p' * q) n c hn (by omega) hc A W ha)
 have n1:(x.neg && decide (p * q' ≠ 0)) = true → p * q' ≠ 0:=fun h=>by simp only [Bool.and_eq_true,decide_eq_true_eq] at h;exact h.2
 have n2:(y.neg && decide (p' * q ≠ 0)) = true → p' * q ≠ 0:=fun h=>by simp only [Bool.and_eq_true,decide_eq_true_eq] at h;exact h.2
 have H3:=fun W (u v:Value) hu hv=>sBigCmp (x.neg && decide (p * q' ≠ 0)) (y.neg && decide (p' * q ≠ 0)) (p * q') (p' * q) n1 n2 u v W hu hv (by omega) (by omega)
 have j1:sgnI x.neg (p * q') = sgnI x.neg p * q':=by cases x.neg <;> simp [sgnI,Int.natCast_mul,Int.neg_mul]
 have j2:sgnI y.neg (p' * q) = sgnI y.neg p' * q:=by cases y.neg <;> simp [sgnI,Int.natCast_mul,Int.neg_mul]
 rw [sgnI_sg,sgnI_sg,j1,j2] at H3
 rw [show cmpI (sgnI x.neg p * (q':Int)) (sgnI y.neg p' * (q:Int)) = cmpV x y p q p' q' from rfl] at H3
 replace H3:=Lib.hid H3
 rw [mx,dx,my,dy]
 clear hx hy mx my dx dy ra rb ra' rb' lp lq lp' lq' k1 k2 n1 n2 j1 j2
 generalize cmpV x y p q p' q' = R at *
 generalize (x.neg && decide (p * q' ≠ 0)) = sb1 at *
 generalize (y.neg && decide (p' * q ≠ 0)) = sb2 at *
 generalize FE.toL (p * q') = m1 at *
 generalize FE.toL (p' * q) = m2 at *
 generalize (FE.toL p).length = n at *
 generalize (FE.toL q).length = m at *
 generalize (FE.toL p').length = n' at *
 generalize (FE.toL q').length = m' at *
 generalize x.neg = s at *
 generalize y.neg = t at *
 have hb1:=below_alloc2 w (.cells #[.bool s,.slice A n c,.slice B m d] 45) (.cells #[.bool t,.slice A' n' c',.slice B' m' d'] 45)
 have S0:=Slots.new (below_step (Below.refl _ ((w.alloc (.cells #[.bool s,.slice A n c,.slice B m d] 45)).alloc (.cells #[.bool t,.slice A' n' c',.slice B' m' d'] 45)))) (g:=w.heap.size) rfl
 have S1:=Slots.new (Below.refl _ ((w.alloc (.cells #[.bool s,.slice A n c,.slice B m d] 45)).alloc (.cells #[.bool t,.slice A' n' c',.slice B' m' d'] 45))) (g:=w.heap.size + 1) (by simp)
 obtain ⟨a0,a1,a2,_,_,_⟩:=S0.c3
 obtain ⟨b0,b1,b2,_,_,_⟩:=S1.c3
 have hM:=S1.1
 clear S0 S1
 go_enter Tryz.func233,Tryz.ntmps233
 go_wp2_with fail
 generalize (w.alloc (.cells #[.bool s,.slice A n c,.slice B m d] 45)).alloc (.cells #[.bool t,.slice A' n' c',.slice B' m' d'] 45) = wb at *
 refine wp_region_held_drew (S:=fun W=>Below wb.heap.size wb W) (by kernel_rfl) (show Below wb.heap.size wb wb.drew from ⟨rfl,rfl,rfl,Nat.le_refl _,fun _ _=>rfl⟩) (fun hHeld=>?_)
 refine qL (i:=0) (v:=?_) rfl (by kernel_rfl) (fun _ _ _ h=>h) (by assumption) (by rfl) (fun W _=>?_) ?_
 rotate_left
 ·go_simp
  try with_reducible rfl
 try simp only [Act.put,List.setIfInBounds_toArray]
 refine qL (i:=1) (v:=?_) rfl (by kernel_rfl) (fun _ _ _ h=>h) (by assumption) (by rfl) (fun W _=>?_) ?_
 rotate_left
 ·go_simp
  try with_reducible rfl
 try simp only [Act.put]
 refine qL (i:=2) (v:=?_) rfl (by kernel_rfl) (fun _ _ _ h=>h) (by assumption) (by rfl) (fun W hSw=>?_) ?_
 rotate_left
 ·have f0:=(Below.cell hSw (p:=⟨w.heap.size,0,none⟩) (show w.heap.size < wb.heap.size by omega)).trans a0
  go_simp
  try with_reducible rfl
 try simp only [Act.put]
 refine qL (i:=3) (v:=?_) rfl (by kernel_rfl) (fun _ _ _ h=>h) (by assumption) (by rfl) (fun W _=>?_) ?_
 rotate_left
 ·go_simp
  try with_reducible rfl
 try simp only [Act.put]
 refine qL (i:=4) (v:=?_) rfl (by kernel_rfl) (fun _ _ _ h=>h) (by assumption) (by rfl) (fun W _=>?_) ?_
 rotate_left
 ·go_simp
  try with_reducible rfl
 try simp only [Act.put]
 refine qL (i:=5) (v:=?_) rfl (by kernel_rfl) (fun _ _ _ h=>h) (by assumption) (by rfl) (fun W hSw=>?_) ?_
 rotate_left
 ·have f0:=(Below.cell hSw (p:=⟨w.heap.size,1,none⟩) (show w.heap.size < wb.heap.size by omega)).trans a1
  go_simp
  try with_reducible rfl
 try simp only [Act.put]
 refine qL (i:=6) (v:=?_) rfl (by kernel_rfl) (fun _ _ _ h=>h) (by assumption) (by rfl) (fun W _=>?_) ?_
 rotate_left
 ·go_simp
  try with_reducible rfl
 try simp only [Act.put]
 refine qL (i:=7) (v:=?_) rfl (by kernel_rfl) (fun _ _ _ h=>h) (by assumption) (by rfl) (fun W hSw=>?_) ?_
 rotate_left
 ·have f0:=(Below.cell hSw (p:=⟨w.heap.size + 1,2,none⟩) (show w.heap.size + 1 < wb.heap.size by omega)).trans b2
  go_simp
  try with_reducible rfl
 try simp only [Act.put]
 refine qL (i:=10) (v:=?_) rfl (by kernel_rfl) (fun _ _ _ h=>h) (by assumption) (by rfl) (fun W _=>?_) ?_
 rotate_left
 ·go_simp
  try with_reducible rfl
 try simp only [Act.put]
 refine qL (i:=11) (v:=?_) rfl (by kernel_rfl) (fun _ _ _ h=>h) (by assumption) (by rfl) (fun W _=>?_) ?_
 rotate_left
 ·go_simp
  try with_reducible rfl
 try simp only [Act.put]
 refine qL (i:=12) (v:=?_) rfl (by kernel_rfl) (fun _ _ _ h=>h) (by assumption) (by rfl) (fun W hSw=>?_) ?_
 rotate_left
 ·have f0:=(Below.cell hSw (p:=⟨w.heap.size + 1,0,none⟩) (show w.heap.size + 1 < wb.heap.size by omega)).trans b0
  go_simp
  try with_reducible rfl
 try simp only [Act.put]
 refine qL (i:=13) (v:=?_) rfl (by kernel_rfl) (fun _ _ _ h=>h) (by assumption) (by rfl) (fun W _=>?_) ?_
 rotate_left
 ·go_simp
  try with_reducible rfl
 try simp only [Act.put]
 refine qL (i:=14) (v:=?_) rfl (by kernel_rfl) (fun _ _ _ h=>h) (by assumption) (by rfl) (fun W _=>?_) ?_
 rotate_left
 ·go_simp
  try with_reducible rfl
 try simp only [Act.put]
 refine qL (i:=15) (v:=?_) rfl (by kernel_rfl) (fun _ _ _ h=>h) (by assumption) (by rfl) (fun W hSw=>?_) ?_
 rotate_left
 ·have f0:=(Below.cell hSw (p:=⟨w.heap.size + 1,1,none⟩) (show w.heap.size + 1 < wb.heap.size by omega)).trans b1
  go_simp
  try with_reducible rfl
 try simp only [Act.put]
 refine qL (i:=16) (v:=?_) rfl (by kernel_rfl) (fun _ _ _ h=>h) (by assumption) (by rfl) (fun W _=>?_) ?_
 rotate_left
 ·go_simp
  try with_reducible rfl
 try simp only [Act.put]
 refine qL (i:=17) (v:=?_) rfl (by kernel_rfl) (fun _ _ _ h=>h) (by assumption) (by rfl) (fun W hSw=>?_) ?_
 rotate_left
 ·have f0:=(Below.cell hSw (p:=⟨w.heap.size,2,none⟩) (show w.heap.size < wb.heap.size by omega)).trans a2
  go_simp
  try with_reducible rfl
 try simp only [Act.put]
 have hBd:Below wb.heap.size wb wb.drew:=⟨rfl,rfl,rfl,Nat.le_refl _,fun _ _=>rfl⟩
 refine qR (i:=8) (by kernel_rfl) rfl (fun K hK=>?_)
 simp only [List.getElem_toArray,List.getElem_cons_succ,List.getElem_cons_zero]
 go_simp
 (go_at_call 222;(with_reducible refine (H1.out _ (below_trans hb1 hBd)).mono ?_);rintro e31 w31 ⟨v31,rfl,h31,hb31⟩)
 try (go_wp2_with fail)
 have hB31:=below_trans hBd hb31
 obtain ⟨A31,c31,rfl,hl31,_⟩:=id h31
 refine hK.out _ _ (hB31) (fun h2=>?_)
 clear hK K hHeld
 have hHeld:=h2
 clear h2
 try simp only [Act.put,List.setIfInBounds_toArray,List.set_cons_zero,List.set_cons_succ]
 refine qR (i:=9) (by kernel_rfl) rfl (fun K hK=>?_)
 simp only [List.getElem_toArray,List.getElem_cons_succ,List.getElem_cons_zero]
 go_simp
 (go_at_call 133;(with_reducible refine (H4.out _ _ rfl hl31 _ _ h31.reads).mono ?_);rintro e32 w32 ⟨v32,rfl,h32,hb32⟩)
 try (go_wp2_with fail)
 have hB32:=below_trans hB31 hb32
 obtain ⟨va32,rfl,_⟩:=id h32
 refine hK.out _ _ (hB32) (fun h2=>?_)
 clear hK K hHeld
 have hHeld:=h2
 clear h2
 try simp only [Act.put,List.setIfInBounds_toArray,List.set_cons_zero,List.set_cons_succ]
 refine qR (i:=18) (by kernel_rfl) rfl (fun K hK=>?_)
 simp only [List.getElem_toArray,List.getElem_cons_succ,List.getElem_cons_zero]
 go_simp
 (go_at_call 222;(with_reducible refine (H2.out _ (below_trans hb1 hB32)).mono ?_);rintro e33 w33 ⟨v33,rfl,h33,hb33⟩)
 try (go_wp2_with fail)
 have hB33:=below_trans hB32 hb33
 obtain ⟨A33,c33,rfl,hl33,_⟩:=id h33
 refine hK.out _ _ (hB33) (fun h2=>?_)
 clear hK K hHeld
 have hHeld:=h2
 clear h2
 try simp only [Act.put,List.setIfInBounds_toArray,List.set_cons_zero,List.set_cons_succ]
 refine qR (i:=19) (by kernel_rfl) rfl (fun K hK=>?_)
 simp only [List.getElem_toArray,List.getElem_cons_succ,List.getElem_cons_zero]
 go_simp
 (go_at_call 133;(with_reducible refine (H5.out _ _ rfl hl33 _ _ h33.reads).mono ?_);rintro e34 w34 ⟨v34,rfl,h34,hb34⟩)
 try (go_wp2_with fail)
 have hB34:=below_trans hB33 hb34
 obtain ⟨va34,rfl,_⟩:=id h34
 refine hK.out _ _ (hB34) (fun h2=>?_)
 clear hK K hHeld
 have hHeld:=h2
 clear h2
 try simp only [Act.put,List.setIfInBounds_toArray,List.set_cons_zero,List.set_cons_succ]
 refine qR (i:=20) (by kernel_rfl) rfl (fun K hK=>?_)
 simp only [List.getElem_toArray,List.getElem_cons_succ,List.getElem_cons_zero]
 go_simp
 (go_at_call 257;(with_reducible refine (H3.out _ _ _ ((h32.later hb33).later hb34).reads h34.reads).mono ?_);rintro e36 w36 ⟨rfl,hb36⟩)
 try (go_wp2_with fail)
 have hB36:=below_trans hB34 hb36
 refine hK.out _ _ (hB36) (fun h2=>?_)
 clear hK K hHeld
 have hHeld:=h2
 clear h2
 try simp only [Act.put,List.setIfInBounds_toArray,List.set_cons_zero,List.set_cons_succ]
 refine qR (i:=21) (by kernel_rfl) rfl (fun K hK=>?_)
 simp only [List.getElem_toArray,List.getElem_cons_succ,List.getElem_cons_zero]
 go_simp
 refine hK.out _ _ (hB36) (fun h2=>?_)
 clear hK K hHeld
 have hHeld:=h2
 clear h2
 try simp only [Act.put,List.setIfInBounds_toArray,List.set_cons_zero,List.set_cons_succ]
 refine wpAnyH_done (by kernel_rfl) ?_ _
 clear hHeld
 have hfin:=below_trans hb1 hB36
 clear a0 a1 a2 b0 b1 b2 hB36 hb36
 go_wp2
 go_ret
 exact ⟨rfl,hfin⟩
theorem sRatCmp (x y:RatD) (p q p' q':Nat) (hx:FE.OkR x p q) (hy:FE.OkR y p' q') (u v:Value) (w:World) (hu:RatV w u x) (hv:RatV w v y) :
 Calls Tryz.prog 195 #[u,v] w fun e w'=>e = .returned (.int .i64 (cmpV x y p q p' q'))∧Below w.heap.size w w':=by
 have fx:=res_few (Or.inr hx.ok)
 have fy:=res_few (Or.inr hy.ok)
 have H1:=Lib.hid (fun W (hW:Below w.heap.size w W)=>sCmp4 x y p q p' q' hx hy u v W (hu.later hW) (hv.later hW))
 have C1:=Lib.hid (fun W (hW:Below w.heap.size w W)=>sRatOk x u W (hu.later hW) fx.1 fx.2)
 have C2:=Lib.hid (fun W (hW:Below w.heap.size w W)=>sRatOk y v W (hv.later hW) fy.1 fy.2)
 rw [hx.ok] at C1
 rw [hy.ok] at C2
 obtain ⟨A,c,B,d,rfl,_,ra,rb⟩:=hu
 obtain ⟨A',c',B',d',rfl,_,ra',rb'⟩:=hv
 clear hx hy fx fy ra rb ra' rb'
 generalize cmpV x y p q p' q' = R at *
 generalize x.mag.length = n at *
 generalize x.den.length = m at *
 generalize y.mag.length = n' at *
 generalize y.den.length = m' at *
 generalize x.neg = s at *
 generalize y.neg = t at *
 go_enter Tryz.func195,Tryz.ntmps195
 go_wp2_with fail
 refine (C1.out _ (below_alloc2 _ _ _)).mono ?_
 rintro e w1 ⟨rfl,hb1⟩
 have S1:=Slots.new hb1 (g:=w.heap.size + 1) (by simp)
 have S0:=Slots.new (below_step hb1) (g:=w.heap.size) rfl
 replace hb1:=below_trans (below_alloc2 _ _ _) hb1
 obtain ⟨a0,a1,a2,_,_,_⟩:=S0.c3
 obtain ⟨b0,b1,b2,_,_,_⟩:=S1.c3
 go_wp2_with fail
 refine (C2.out _ hb1).mono ?_
 rintro e w2 ⟨rfl,hb2⟩
 clear a0 a1 a2 b0 b1 b2
 replace S1:=S1.later hb2
 replace S0:=S0.later hb2
 replace hb1:=below_trans hb1 hb2
 clear hb2
 obtain ⟨a0,a1,a2,_,_,_⟩:=S0.c3
 obtain ⟨b0,b1,b2,_,_,_⟩:=S1.c3
 go_wp2_with fail
 refine (H1.out _ hb1).mono ?_
 rintro e w3 ⟨rfl,hb2⟩
 replace hb1:=below_trans hb1 hb2
 clear a0 a1 a2 b0 b1 b2 S0 S1 hb2
 go_wp2
 go_ret
 exact ⟨rfl,hb1⟩
end Go.Proofs.YtchbnlkambncnaaGreatDoor
namespace Go.Proofs
open Go.Shelf
def Tryz.lays156_ren:Go.Shelf.Ren:=⟨fun | 156=>46 | 165=>88 | 166=>48 | 169=>51 | 240=>91 | 241=>124 | 276=>127 | 277=>168 | n=>n,fun | 31=>54 | 9=>9 | 3=>3 | 4=>4 | 0=>0 | 20=>20 | 72=>92 | 76=>95 | 70=>90 | 37=>22 | 75=>94 | 127=>147 | 164=>177 | 5=>5 | 80=>99 | n=>n,fun | n=>n⟩
theorem Tryz.lays156:Go.Proofs.Lays.n156 Tryz.prog Tryz.lays156_ren:={
 mixed:=by kernel_rfl
 f156:=Tryz.func46.trans (congrArg some (by kernel_rfl))
 f165:=Tryz.func88.trans (congrArg some (by kernel_rfl))
 f166:=Tryz.func48.trans (congrArg some (by kernel_rfl))
 f169:=Tryz.func51.trans (congrArg some (by kernel_rfl))
 f240:=Tryz.func91.trans (congrArg some (by kernel_rfl))
 f241:=Tryz.func124.trans (congrArg some (by kernel_rfl))
 f276:=Tryz.func127.trans (congrArg some (by kernel_rfl))
 f277:=Tryz.func168.trans (congrArg some (by kernel_rfl))
 t0:=Tryz.underlying0
 a0:=Tryz.isAgg0
 z0:=Tryz.sizeOf0
 v0:=Tryz.zeroValue0
 t3:=Tryz.underlying3
 a3:=Tryz.isAgg3
 z3:=Tryz.sizeOf3
 v3:=Tryz.zeroValue3
 t4:=Tryz.underlying4
 a4:=Tryz.isAgg4
 z4:=Tryz.sizeOf4
 v4:=Tryz.zeroValue4
 t9:=Tryz.underlying9
 a9:=Tryz.isAgg9
 z9:=Tryz.sizeOf9
 v9:=Tryz.zeroValue9
 t20:=Tryz.underlying20
 a20:=Tryz.isAgg20
 z20:=Tryz.sizeOf20
 v20:=Tryz.zeroValue20
 t31:=Tryz.underlying54
 a31:=Tryz.isAgg54
 z31:=Tryz.sizeOf54
 v31:=Tryz.zeroValue54
 t37:=Tryz.underlying22
 a37:=Tryz.isAgg22
 z37:=Tryz.sizeOf22
 v37:=Tryz.zeroValue22
 t70:=Tryz.underlying90
 a70:=Tryz.isAgg90
 z70:=Tryz.sizeOf90
 v70:=Tryz.zeroValue90
 t72:=Tryz.underlying92
 a72:=Tryz.isAgg92
 z72:=Tryz.sizeOf92
 v72:=Tryz.zeroValue92
 t75:=Tryz.underlying94
 a75:=Tryz.isAgg94
 z75:=Tryz.sizeOf94
 v75:=Tryz.zeroValue94
 t76:=Tryz.underlying95
 a76:=Tryz.isAgg95
 z76:=Tryz.sizeOf95
 v76:=Tryz.zeroValue95
 t127:=Tryz.underlying147
 a127:=Tryz.isAgg147
 z127:=Tryz.sizeOf147
 v127:=Tryz.zeroValue147
 t164:=Tryz.underlying177
 a164:=Tryz.isAgg177
 z164:=Tryz.sizeOf177
 v164:=Tryz.zeroValue177 }
theorem Tryz.Builder_Extra_156:Builder.Extra Tryz.prog Tryz.lays156_ren:={
 sizeBuilder:=by kernel_rfl
 liesBuilder:=by kernel_rfl
 t5:=Tryz.underlying5
 a5:=Tryz.isAgg5
 z5:=Tryz.sizeOf5
 v5:=Tryz.zeroValue5
 infoByte:=by kernel_rfl
 cellsByte:=by kernel_rfl
 sizeByte:=by kernel_rfl
 neB5:=by decide }
def Tryz.lays169_ren:Go.Shelf.Ren:=⟨fun | 169=>51 | n=>n,fun | 70=>90 | 9=>9 | 0=>0 | 72=>92 | 37=>22 | 127=>147 | 3=>3 | 5=>5 | n=>n,fun | n=>n⟩
theorem Tryz.lays169:Go.Proofs.Lays.n169 Tryz.prog Tryz.lays169_ren:={
 mixed:=by kernel_rfl
 f169:=Tryz.func51.trans (congrArg some (by kernel_rfl))
 t0:=Tryz.underlying0
 a0:=Tryz.isAgg0
 z0:=Tryz.sizeOf0
 v0:=Tryz.zeroValue0
 t3:=Tryz.underlying3
 a3:=Tryz.isAgg3
 z3:=Tryz.sizeOf3
 v3:=Tryz.zeroValue3
 t9:=Tryz.underlying9
 a9:=Tryz.isAgg9
 z9:=Tryz.sizeOf9
 v9:=Tryz.zeroValue9
 t37:=Tryz.underlying22
 a37:=Tryz.isAgg22
 z37:=Tryz.sizeOf22
 v37:=Tryz.zeroValue22
 t70:=Tryz.underlying90
 a70:=Tryz.isAgg90
 z70:=Tryz.sizeOf90
 v70:=Tryz.zeroValue90
 t72:=Tryz.underlying92
 a72:=Tryz.isAgg92
 z72:=Tryz.sizeOf92
 v72:=Tryz.zeroValue92
 t127:=Tryz.underlying147
 a127:=Tryz.isAgg147
 z127:=Tryz.sizeOf147
 v127:=Tryz.zeroValue147 }
theorem Tryz.Builder_Extra_169:Builder.Extra Tryz.prog Tryz.lays169_ren:={
 sizeBuilder:=by kernel_rfl
 liesBuilder:=by kernel_rfl
 t5:=Tryz.underlying5
 a5:=Tryz.isAgg5
 z5:=Tryz.sizeOf5
 v5:=Tryz.zeroValue5
 infoByte:=by kernel_rfl
 cellsByte:=by kernel_rfl
 sizeByte:=by kernel_rfl
 neB5:=by decide }
def Tryz.lays172_ren:Go.Shelf.Ren:=⟨fun | 172=>123 | 244=>166 | 245=>167 | 247=>204 | 279=>205 | 280=>206 | 281=>207 | 282=>208 | 287=>237 | 316=>238 | 171=>93 | 205=>239 | 321=>259 | 322=>260 | 243=>128 | 246=>170 | 283=>209 | 284=>210 | 285=>211 | 286=>212 | 129=>241 | 317=>240 | 318=>242 | 319=>243 | 320=>244 | 337=>261 | 338=>262 | n=>n,fun | 9=>9 | 3=>3 | 75=>94 | 76=>95 | 4=>4 | 5=>5 | 167=>227 | 37=>22 | 0=>0 | 85=>228 | 2=>2 | 168=>230 | 53=>197 | 175=>252 | 46=>150 | 210=>256 | 127=>147 | 145=>270 | 143=>268 | 21=>21 | 171=>233 | 173=>236 | 212=>259 | 51=>249 | 20=>20 | 213=>260 | 232=>272 | 233=>273 | 80=>99 | n=>n,fun | 15=>3 | 16=>4 | 17=>5 | 18=>6 | 19=>7 | n=>n⟩
theorem Tryz.lays172:Go.Proofs.Lays.n172 Tryz.prog Tryz.lays172_ren:={
 mixed:=by kernel_rfl
 f129:=Tryz.func241.trans (congrArg some (by kernel_rfl))
 f171:=Tryz.func93.trans (congrArg some (by kernel_rfl))
 f172:=Tryz.func123.trans (congrArg some (by kernel_rfl))
 f205:=Tryz.func239.trans (congrArg some (by kernel_rfl))
 f243:=Tryz.func128.trans (congrArg some (by kernel_rfl))
 f244:=Tryz.func166.trans (congrArg some (by kernel_rfl))
 f245:=Tryz.func167.trans (congrArg some (by kernel_rfl))
 f246:=Tryz.func170.trans (congrArg some (by kernel_rfl))
 f247:=Tryz.func204.trans (congrArg some (by kernel_rfl))
 f279:=Tryz.func205.trans (congrArg some (by kernel_rfl))
 f280:=Tryz.func206.trans (congrArg some (by kernel_rfl))
 f281:=Tryz.func207.trans (congrArg some (by kernel_rfl))
 f282:=Tryz.func208.trans (congrArg some (by kernel_rfl))
 f283:=Tryz.func209.trans (congrArg some (by kernel_rfl))
 f284:=Tryz.func210.trans (congrArg some (by kernel_rfl))
 f285:=Tryz.func211.trans (congrArg some (by kernel_rfl))
 f286:=Tryz.func212.trans (congrArg some (by kernel_rfl))
 f287:=Tryz.func237.trans (congrArg some (by kernel_rfl))
 f316:=Tryz.func238.trans (congrArg some (by kernel_rfl))
 f317:=Tryz.func240.trans (congrArg some (by kernel_rfl))
 f318:=Tryz.func242.trans (congrArg some (by kernel_rfl))
 f319:=Tryz.func243.trans (congrArg some (by kernel_rfl))
 f320:=Tryz.func244.trans (congrArg some (by kernel_rfl))
 f321:=Tryz.func259.trans (congrArg some (by kernel_rfl))
 f322:=Tryz.func260.trans (congrArg some (by kernel_rfl))
 f337:=Tryz.func261.trans (congrArg some (by kernel_rfl))
 f338:=Tryz.func262.trans (congrArg some (by kernel_rfl))
 t0:=Tryz.underlying0
 a0:=Tryz.isAgg0
 z0:=Tryz.sizeOf0
 v0:=Tryz.zeroValue0
 t2:=Tryz.underlying2
 a2:=Tryz.isAgg2
 z2:=Tryz.sizeOf2
 v2:=Tryz.zeroValue2
 t3:=Tryz.underlying3
 a3:=Tryz.isAgg3
 z3:=Tryz.sizeOf3
 v3:=Tryz.zeroValue3
 t4:=Tryz.underlying4
 a4:=Tryz.isAgg4
 z4:=Tryz.sizeOf4
 v4:=Tryz.zeroValue4
 t5:=Tryz.underlying5
 a5:=Tryz.isAgg5
 z5:=Tryz.sizeOf5
 v5:=Tryz.zeroValue5
 t9:=Tryz.underlying9
 a9:=Tryz.isAgg9
 z9:=Tryz.sizeOf9
 v9:=Tryz.zeroValue9
 t20:=Tryz.underlying20
 a20:=Tryz.isAgg20
 z20:=Tryz.sizeOf20
 v20:=Tryz.zeroValue20
 t21:=Tryz.underlying21
 a21:=Tryz.isAgg21
 z21:=Tryz.sizeOf21
 v21:=Tryz.zeroValue21
 t37:=Tryz.underlying22
 a37:=Tryz.isAgg22
 z37:=Tryz.sizeOf22
 v37:=Tryz.zeroValue22
 t46:=Tryz.underlying150
 a46:=Tryz.isAgg150
 z46:=Tryz.sizeOf150
 v46:=Tryz.zeroValue150
 t51:=Tryz.underlying249
 a51:=Tryz.isAgg249
 z51:=Tryz.sizeOf249
 v51:=Tryz.zeroValue249
 t53:=Tryz.underlying197
 a53:=Tryz.isAgg197
 z53:=Tryz.sizeOf197
 v53:=Tryz.zeroValue197
 t75:=Tryz.underlying94
 a75:=Tryz.isAgg94
 z75:=Tryz.sizeOf94
 v75:=Tryz.zeroValue94
 t76:=Tryz.underlying95
 a76:=Tryz.isAgg95
 z76:=Tryz.sizeOf95
 v76:=Tryz.zeroValue95
 t85:=Tryz.underlying228
 a85:=Tryz.isAgg228
 z85:=Tryz.sizeOf228
 v85:=Tryz.zeroValue228
 t127:=Tryz.underlying147
 a127:=Tryz.isAgg147
 z127:=Tryz.sizeOf147
 v127:=Tryz.zeroValue147
 t143:=Tryz.underlying268
 a143:=Tryz.isAgg268
 z143:=Tryz.sizeOf268
 v143:=Tryz.zeroValue268
 t145:=Tryz.underlying270
 a145:=Tryz.isAgg270
 z145:=Tryz.sizeOf270
 v145:=Tryz.zeroValue270
 t167:=Tryz.underlying227
 a167:=Tryz.isAgg227
 z167:=Tryz.sizeOf227
 v167:=Tryz.zeroValue227
 t168:=Tryz.underlying230
 a168:=Tryz.isAgg230
 z168:=Tryz.sizeOf230
 v168:=Tryz.zeroValue230
 t171:=Tryz.underlying233
 a171:=Tryz.isAgg233
 z171:=Tryz.sizeOf233
 v171:=Tryz.zeroValue233
 t173:=Tryz.underlying236
 a173:=Tryz.isAgg236
 z173:=Tryz.sizeOf236
 v173:=Tryz.zeroValue236
 t175:=Tryz.underlying252
 a175:=Tryz.isAgg252
 z175:=Tryz.sizeOf252
 v175:=Tryz.zeroValue252
 t210:=Tryz.underlying256
 a210:=Tryz.isAgg256
 z210:=Tryz.sizeOf256
 v210:=Tryz.zeroValue256
 t212:=Tryz.underlying259
 a212:=Tryz.isAgg259
 z212:=Tryz.sizeOf259
 v212:=Tryz.zeroValue259
 t213:=Tryz.underlying260
 a213:=Tryz.isAgg260
 z213:=Tryz.sizeOf260
 t232:=Tryz.underlying272
 a232:=Tryz.isAgg272
 z232:=Tryz.sizeOf272
 v232:=Tryz.zeroValue272
 t233:=Tryz.underlying273
 a233:=Tryz.isAgg273
 z233:=Tryz.sizeOf273
 v233:=Tryz.zeroValue273
 g15:=by kernel_rfl
 g16:=by kernel_rfl
 g17:=by kernel_rfl
 g18:=by kernel_rfl
 g19:=by kernel_rfl }
def Tryz.lays171_ren:Go.Shelf.Ren:=⟨fun | 171=>93 | 243=>128 | 246=>170 | 283=>209 | 284=>210 | 285=>211 | 286=>212 | 129=>241 | 317=>240 | 318=>242 | 319=>243 | 320=>244 | 337=>261 | 338=>262 | n=>n,fun | 3=>3 | 9=>9 | 2=>2 | 4=>4 | 171=>233 | 0=>0 | 53=>197 | 37=>22 | 5=>5 | 173=>236 | 212=>259 | 51=>249 | 20=>20 | 213=>260 | 46=>150 | 232=>272 | 233=>273 | n=>n,fun | 17=>5 | 18=>6 | 19=>7 | n=>n⟩
theorem Tryz.lays171:Go.Proofs.Lays.n171 Tryz.prog Tryz.lays171_ren:={
 mixed:=by kernel_rfl
 f129:=Tryz.func241.trans (congrArg some (by kernel_rfl))
 f171:=Tryz.func93.trans (congrArg some (by kernel_rfl))
 f243:=Tryz.func128.trans (congrArg some (by kernel_rfl))
 f246:=Tryz.func170.trans (congrArg some (by kernel_rfl))
 f283:=Tryz.func209.trans (congrArg some (by kernel_rfl))
 f284:=Tryz.func210.trans (congrArg some (by kernel_rfl))
 f285:=Tryz.func211.trans (congrArg some (by kernel_rfl))
 f286:=Tryz.func212.trans (congrArg some (by kernel_rfl))
 f317:=Tryz.func240.trans (congrArg some (by kernel_rfl))
 f318:=Tryz.func242.trans (congrArg some (by kernel_rfl))
 f319:=Tryz.func243.trans (congrArg some (by kernel_rfl))
 f320:=Tryz.func244.trans (congrArg some (by kernel_rfl))
 f337:=Tryz.func261.trans (congrArg some (by kernel_rfl))
 f338:=Tryz.func262.trans (congrArg some (by kernel_rfl))
 t0:=Tryz.underlying0
 a0:=Tryz.isAgg0
 z0:=Tryz.sizeOf0
 v0:=Tryz.zeroValue0
 t2:=Tryz.underlying2
 a2:=Tryz.isAgg2
 z2:=Tryz.sizeOf2
 v2:=Tryz.zeroValue2
 t3:=Tryz.underlying3
 a3:=Tryz.isAgg3
 z3:=Tryz.sizeOf3
 v3:=Tryz.zeroValue3
 t4:=Tryz.underlying4
 a4:=Tryz.isAgg4
 z4:=Tryz.sizeOf4
 v4:=Tryz.zeroValue4
 t5:=Tryz.underlying5
 a5:=Tryz.isAgg5
 z5:=Tryz.sizeOf5
 v5:=Tryz.zeroValue5
 t9:=Tryz.underlying9
 a9:=Tryz.isAgg9
 z9:=Tryz.sizeOf9
 v9:=Tryz.zeroValue9
 t20:=Tryz.underlying20
 a20:=Tryz.isAgg20
 z20:=Tryz.sizeOf20
 v20:=Tryz.zeroValue20
 t37:=Tryz.underlying22
 a37:=Tryz.isAgg22
 z37:=Tryz.sizeOf22
 v37:=Tryz.zeroValue22
 t46:=Tryz.underlying150
 a46:=Tryz.isAgg150
 z46:=Tryz.sizeOf150
 v46:=Tryz.zeroValue150
 t51:=Tryz.underlying249
 a51:=Tryz.isAgg249
 z51:=Tryz.sizeOf249
 v51:=Tryz.zeroValue249
 t53:=Tryz.underlying197
 a53:=Tryz.isAgg197
 z53:=Tryz.sizeOf197
 v53:=Tryz.zeroValue197
 t171:=Tryz.underlying233
 a171:=Tryz.isAgg233
 z171:=Tryz.sizeOf233
 v171:=Tryz.zeroValue233
 t173:=Tryz.underlying236
 a173:=Tryz.isAgg236
 z173:=Tryz.sizeOf236
 v173:=Tryz.zeroValue236
 t212:=Tryz.underlying259
 a212:=Tryz.isAgg259
 z212:=Tryz.sizeOf259
 v212:=Tryz.zeroValue259
 t213:=Tryz.underlying260
 a213:=Tryz.isAgg260
 z213:=Tryz.sizeOf260
 t232:=Tryz.underlying272
 a232:=Tryz.isAgg272
 z232:=Tryz.sizeOf272
 v232:=Tryz.zeroValue272
 t233:=Tryz.underlying273
 a233:=Tryz.isAgg273
 z233:=Tryz.sizeOf273
 v233:=Tryz.zeroValue273
 g17:=by kernel_rfl
 g18:=by kernel_rfl
 g19:=by kernel_rfl }
def Tryz.lays143_ren:Go.Shelf.Ren:=⟨fun | 143=>121 | 219=>165 | 217=>200 | 225=>201 | 224=>202 | 267=>203 | 266=>235 | 314=>236 | n=>n,fun | 9=>9 | 3=>3 | 4=>4 | 5=>5 | 46=>150 | 146=>250 | 51=>249 | n=>n,fun | 1=>0 | n=>n⟩
theorem Tryz.lays143:Go.Proofs.Lays.n143 Tryz.prog Tryz.lays143_ren:={
 mixed:=by kernel_rfl
 f143:=Tryz.func121.trans (congrArg some (by kernel_rfl))
 f217:=Tryz.func200.trans (congrArg some (by kernel_rfl))
 f219:=Tryz.func165.trans (congrArg some (by kernel_rfl))
 f224:=Tryz.func202.trans (congrArg some (by kernel_rfl))
 f225:=Tryz.func201.trans (congrArg some (by kernel_rfl))
 f266:=Tryz.func235.trans (congrArg some (by kernel_rfl))
 f267:=Tryz.func203.trans (congrArg some (by kernel_rfl))
 f314:=Tryz.func236.trans (congrArg some (by kernel_rfl))
 t3:=Tryz.underlying3
 a3:=Tryz.isAgg3
 z3:=Tryz.sizeOf3
 v3:=Tryz.zeroValue3
 t4:=Tryz.underlying4
 a4:=Tryz.isAgg4
 z4:=Tryz.sizeOf4
 v4:=Tryz.zeroValue4
 t5:=Tryz.underlying5
 a5:=Tryz.isAgg5
 z5:=Tryz.sizeOf5
 v5:=Tryz.zeroValue5
 t9:=Tryz.underlying9
 a9:=Tryz.isAgg9
 z9:=Tryz.sizeOf9
 v9:=Tryz.zeroValue9
 t46:=Tryz.underlying150
 a46:=Tryz.isAgg150
 z46:=Tryz.sizeOf150
 v46:=Tryz.zeroValue150
 t51:=Tryz.underlying249
 a51:=Tryz.isAgg249
 z51:=Tryz.sizeOf249
 v51:=Tryz.zeroValue249
 t146:=Tryz.underlying250
 a146:=Tryz.isAgg250
 z146:=Tryz.sizeOf250
 v146:=Tryz.zeroValue250
 g1:=by kernel_rfl }
def Tryz.lays138_ren:Go.Shelf.Ren:=⟨fun | 138=>120 | 195=>162 | 218=>164 | 143=>121 | 219=>165 | 217=>200 | 225=>201 | 224=>202 | 267=>203 | 266=>235 | 314=>236 | n=>n,fun | 9=>9 | 3=>3 | 4=>4 | 5=>5 | 0=>0 | 46=>150 | 146=>250 | 51=>249 | n=>n,fun | 1=>0 | n=>n⟩
theorem Tryz.lays138:Go.Proofs.Lays.n138 Tryz.prog Tryz.lays138_ren:={
 mixed:=by kernel_rfl
 f138:=Tryz.func120.trans (congrArg some (by kernel_rfl))
 f143:=Tryz.func121.trans (congrArg some (by kernel_rfl))
 f195:=Tryz.func162.trans (congrArg some (by kernel_rfl))
 f217:=Tryz.func200.trans (congrArg some (by kernel_rfl))
 f218:=Tryz.func164.trans (congrArg some (by kernel_rfl))
 f219:=Tryz.func165.trans (congrArg some (by kernel_rfl))
 f224:=Tryz.func202.trans (congrArg some (by kernel_rfl))
 f225:=Tryz.func201.trans (congrArg some (by kernel_rfl))
 f266:=Tryz.func235.trans (congrArg some (by kernel_rfl))
 f267:=Tryz.func203.trans (congrArg some (by kernel_rfl))
 f314:=Tryz.func236.trans (congrArg some (by kernel_rfl))
 t0:=Tryz.underlying0
 a0:=Tryz.isAgg0
 z0:=Tryz.sizeOf0
 v0:=Tryz.zeroValue0
 t3:=Tryz.underlying3
 a3:=Tryz.isAgg3
 z3:=Tryz.sizeOf3
 v3:=Tryz.zeroValue3
 t4:=Tryz.underlying4
 a4:=Tryz.isAgg4
 z4:=Tryz.sizeOf4
 v4:=Tryz.zeroValue4
 t5:=Tryz.underlying5
 a5:=Tryz.isAgg5
 z5:=Tryz.sizeOf5
 v5:=Tryz.zeroValue5
 t9:=Tryz.underlying9
 a9:=Tryz.isAgg9
 z9:=Tryz.sizeOf9
 v9:=Tryz.zeroValue9
 t46:=Tryz.underlying150
 a46:=Tryz.isAgg150
 z46:=Tryz.sizeOf150
 v46:=Tryz.zeroValue150
 t51:=Tryz.underlying249
 a51:=Tryz.isAgg249
 z51:=Tryz.sizeOf249
 v51:=Tryz.zeroValue249
 t146:=Tryz.underlying250
 a146:=Tryz.isAgg250
 z146:=Tryz.sizeOf250
 v146:=Tryz.zeroValue250
 g1:=by kernel_rfl }
def Tryz.lays146_ren:Go.Shelf.Ren:=⟨fun | 146=>42 | 221=>85 | 268=>119 | 138=>120 | 143=>121 | 195=>162 | 197=>163 | 218=>164 | 219=>165 | 260=>199 | 217=>200 | 225=>201 | 224=>202 | 267=>203 | 266=>235 | 314=>236 | n=>n,fun | 9=>9 | 31=>54 | 3=>3 | 4=>4 | 0=>0 | 105=>215 | 21=>21 | 5=>5 | 46=>150 | 119=>245 | 139=>248 | 138=>247 | 146=>250 | 51=>249 | n=>n,fun | 1=>0 | 3=>1 | 4=>2 | n=>n⟩
theorem Tryz.lays146:Go.Proofs.Lays.n146 Tryz.prog Tryz.lays146_ren:={
 mixed:=by kernel_rfl
 f138:=Tryz.func120.trans (congrArg some (by kernel_rfl))
 f143:=Tryz.func121.trans (congrArg some (by kernel_rfl))
 f146:=Tryz.func42.trans (congrArg some (by kernel_rfl))
 f195:=Tryz.func162.trans (congrArg some (by kernel_rfl))
 f197:=Tryz.func163.trans (congrArg some (by kernel_rfl))
 f217:=Tryz.func200.trans (congrArg some (by kernel_rfl))
 f218:=Tryz.func164.trans (congrArg some (by kernel_rfl))
 f219:=Tryz.func165.trans (congrArg some (by kernel_rfl))
 f221:=Tryz.func85.trans (congrArg some (by kernel_rfl))
 f224:=Tryz.func202.trans (congrArg some (by kernel_rfl))
 f225:=Tryz.func201.trans (congrArg some (by kernel_rfl))
 f260:=Tryz.func199.trans (congrArg some (by kernel_rfl))
 f266:=Tryz.func235.trans (congrArg some (by kernel_rfl))
 f267:=Tryz.func203.trans (congrArg some (by kernel_rfl))
 f268:=Tryz.func119.trans (congrArg some (by kernel_rfl))
 f314:=Tryz.func236.trans (congrArg some (by kernel_rfl))
 t0:=Tryz.underlying0
 a0:=Tryz.isAgg0
 z0:=Tryz.sizeOf0
 v0:=Tryz.zeroValue0
 t3:=Tryz.underlying3
 a3:=Tryz.isAgg3
 z3:=Tryz.sizeOf3
 v3:=Tryz.zeroValue3
 t4:=Tryz.underlying4
 a4:=Tryz.isAgg4
 z4:=Tryz.sizeOf4
 v4:=Tryz.zeroValue4
 t5:=Tryz.underlying5
 a5:=Tryz.isAgg5
 z5:=Tryz.sizeOf5
 v5:=Tryz.zeroValue5
 t9:=Tryz.underlying9
 a9:=Tryz.isAgg9
 z9:=Tryz.sizeOf9
 v9:=Tryz.zeroValue9
 t21:=Tryz.underlying21
 a21:=Tryz.isAgg21
 z21:=Tryz.sizeOf21
 v21:=Tryz.zeroValue21
 t31:=Tryz.underlying54
 a31:=Tryz.isAgg54
 z31:=Tryz.sizeOf54
 v31:=Tryz.zeroValue54
 t46:=Tryz.underlying150
 a46:=Tryz.isAgg150
 z46:=Tryz.sizeOf150
 v46:=Tryz.zeroValue150
 t51:=Tryz.underlying249
 a51:=Tryz.isAgg249
 z51:=Tryz.sizeOf249
 v51:=Tryz.zeroValue249
 t105:=Tryz.underlying215
 a105:=Tryz.isAgg215
 z105:=Tryz.sizeOf215
 v105:=Tryz.zeroValue215
 t119:=Tryz.underlying245
 a119:=Tryz.isAgg245
 z119:=Tryz.sizeOf245
 t138:=Tryz.underlying247
 a138:=Tryz.isAgg247
 z138:=Tryz.sizeOf247
 v138:=Tryz.zeroValue247
 t139:=Tryz.underlying248
 a139:=Tryz.isAgg248
 z139:=Tryz.sizeOf248
 v139:=Tryz.zeroValue248
 t146:=Tryz.underlying250
 a146:=Tryz.isAgg250
 z146:=Tryz.sizeOf250
 v146:=Tryz.zeroValue250
 g1:=by kernel_rfl
 g3:=by kernel_rfl
 g4:=by kernel_rfl }
def Tryz.lays145_ren:Go.Shelf.Ren:=⟨fun | 145=>86 | 220=>122 | 219=>165 | 217=>200 | 225=>201 | 224=>202 | 267=>203 | 266=>235 | 314=>236 | n=>n,fun | 9=>9 | 4=>4 | 59=>135 | 3=>3 | 5=>5 | 46=>150 | 146=>250 | 51=>249 | n=>n,fun | 1=>0 | n=>n⟩
theorem Tryz.lays145:Go.Proofs.Lays.n145 Tryz.prog Tryz.lays145_ren:={
 mixed:=by kernel_rfl
 f145:=Tryz.func86.trans (congrArg some (by kernel_rfl))
 f217:=Tryz.func200.trans (congrArg some (by kernel_rfl))
 f219:=Tryz.func165.trans (congrArg some (by kernel_rfl))
 f220:=Tryz.func122.trans (congrArg some (by kernel_rfl))
 f224:=Tryz.func202.trans (congrArg some (by kernel_rfl))
 f225:=Tryz.func201.trans (congrArg some (by kernel_rfl))
 f266:=Tryz.func235.trans (congrArg some (by kernel_rfl))
 f267:=Tryz.func203.trans (congrArg some (by kernel_rfl))
 f314:=Tryz.func236.trans (congrArg some (by kernel_rfl))
 t3:=Tryz.underlying3
 a3:=Tryz.isAgg3
 z3:=Tryz.sizeOf3
 v3:=Tryz.zeroValue3
 t4:=Tryz.underlying4
 a4:=Tryz.isAgg4
 z4:=Tryz.sizeOf4
 v4:=Tryz.zeroValue4
 t5:=Tryz.underlying5
 a5:=Tryz.isAgg5
 z5:=Tryz.sizeOf5
 v5:=Tryz.zeroValue5
 t9:=Tryz.underlying9
 a9:=Tryz.isAgg9
 z9:=Tryz.sizeOf9
 v9:=Tryz.zeroValue9
 t46:=Tryz.underlying150
 a46:=Tryz.isAgg150
 z46:=Tryz.sizeOf150
 v46:=Tryz.zeroValue150
 t51:=Tryz.underlying249
 a51:=Tryz.isAgg249
 z51:=Tryz.sizeOf249
 v51:=Tryz.zeroValue249
 t59:=Tryz.underlying135
 a59:=Tryz.isAgg135
 z59:=Tryz.sizeOf135
 v59:=Tryz.zeroValue135
 t146:=Tryz.underlying250
 a146:=Tryz.isAgg250
 z146:=Tryz.sizeOf250
 v146:=Tryz.zeroValue250
 g1:=by kernel_rfl }
end Go.Proofs
namespace Go.Proofs.YtchbnlkambncnaaGreatDoor
open Go.RowKit Go.Joins
abbrev bs (l:List UInt8):ByteArray:=⟨l.toArray⟩
theorem bs_list (l:List UInt8):(bs l).data.toList = l:=by simp
theorem bs_of (s:ByteArray):s = bs s.data.toList:=by cases s;simp [bs]
/-! ### Plain laws -/
def splitL (c:UInt8):List UInt8 → List (List UInt8)
 | []=>[[]]
 | b :: l=>if b = c then [] :: splitL c l else match splitL c l with
  | p :: r=>(b :: p) :: r
  | []=>[[b]]
def cutL (c:UInt8):List UInt8 → List UInt8 × List UInt8 × Bool
 | []=>([],[],false)
 | b :: l=>if b = c then ([],l,true) else (b :: (cutL c l).1,(cutL c l).2.1,(cutL c l).2.2)
theorem splitL_no (c:UInt8):∀ {l:List UInt8},c ∉ l → splitL c l = [l]
 | [],_=>rfl
 | b :: l,h=>by
  have h1:b ≠ c:=fun e=>h (by simp [e])
  have h2:c ∉ l:=fun e=>h (by simp [e])
  rw [splitL,if_neg h1,splitL_no c h2]
theorem splitL_app (c:UInt8):∀ {p:List UInt8} (r:List UInt8),c ∉ p → splitL c (p ++ c :: r) = p :: splitL c r
 | [],r,_=>by simp [splitL]
 | b :: p,r,h=>by
  have h1:b ≠ c:=fun e=>h (by simp [e])
  have h2:c ∉ p:=fun e=>h (by simp [e])
  rw [List.cons_append,splitL,if_neg h1,splitL_app c r h2]
theorem cutL_no (c:UInt8):∀ {l:List UInt8},c ∉ l → cutL c l = (l,[],false)
 | [],_=>rfl
 | b :: l,h=>by
  have h1:b ≠ c:=fun e=>h (by simp [e])
  have h2:c ∉ l:=fun e=>h (by simp [e])
  rw [cutL,if_neg h1,cutL_no c h2]
theorem cutL_app (c:UInt8):∀ {p:List UInt8} (r:List UInt8),c ∉ p → cutL c (p ++ c :: r) = (p,r,true)
 | [],r,_=>by simp [cutL]
 | b :: p,r,h=>by
  have h1:b ≠ c:=fun e=>h (by simp [e])
  have h2:c ∉ p:=fun e=>h (by simp [e])
  rw [List.cons_append,cutL,if_neg h1,cutL_app c r h2]
theorem index_cut (c:UInt8):∀ s:List UInt8,(Lib.index s [c] = -1∧c ∉ s) ∨ ∃ p r,s = p ++ c :: r∧c ∉ p∧Lib.index s [c] = (p.length:Nat)
 | []=>.inl ⟨by rw [Lib.index_one];rfl,by simp⟩
 | b :: l=>by
  rw [Lib.index_one,Lib.indexByte]
  by_cases h:b = c
  ·subst h
   exact .inr ⟨[],l,rfl,by simp,by simp⟩
  ·rcases index_cut c l with ⟨h1,h2⟩ | ⟨p,r,h1,h2,h3⟩
   ·rw [Lib.index_one] at h1
    exact .inl ⟨by simp [h,h1],by simp [h2,Ne.symm h]⟩
   ·rw [Lib.index_one] at h3
    refine .inr ⟨b :: p,r,by rw [h1];rfl,by simp [h2,Ne.symm h],?_⟩
    have:¬ ((p.length:Nat):Int) = -1:=by omega
    simp [h,h3,this]
theorem splitK_L (c:UInt8):∀ (n:Nat) (s:List UInt8),s.length ≤ n → Lib.splitK [c] 0 (Lib.count s [c]) s = splitL c s
 | n,s,hn=>by
  rcases index_cut c s with ⟨h1,h2⟩ | ⟨p,r,h1,h2,h3⟩
  ·rw [Lib.count_miss h1,splitL_no c h2];rfl
  ·rw [Lib.count_hit (by simp) h3,Nat.add_comm,Lib.splitK]
   have hne:¬ (Lib.index s [c] == -1) = true:=fun e=>by have:=beq_iff_eq.1 e;omega
   rw [if_neg hne,h3]
   have hd:s.drop (p.length + [c].length) = r:=by rw [h1];simp [List.drop_append]
   have ht:s.take (((p.length:Nat):Int).toNat + 0) = p:=by rw [h1];simp
   rw [ht,show (((p.length:Nat):Int).toNat + [c].length) = p.length + [c].length from rfl,hd]
   have hl:s.length = p.length + 1 + r.length:=by rw [h1];simp;omega
   match n,hn with
   | 0,hn=>omega
   | n + 1,hn=>rw [splitK_L c n r (by omega),h1,splitL_app c r h2]
theorem splitB_L (c:UInt8) (s:ByteArray):Lib.splitB ⟨#[c]⟩ 0 (Lib.countB s ⟨#[c]⟩) s = (splitL c s.data.toList).map bs:=by
 have h:=Lib.splitB_data ⟨#[c]⟩ 0 (Lib.countB s ⟨#[c]⟩) s
 have h2:Lib.splitK (ByteArray.mk #[c]).data.toList 0 (Lib.countB s ⟨#[c]⟩) s.data.toList = splitL c s.data.toList:=splitK_L c _ s.data.toList (Nat.le_refl _)
 rw [h2] at h
 rw [← h,List.map_map]
 have:(bs ∘ fun x:ByteArray=>x.data.toList) = id:=by funext x;exact (bs_of x).symm
 rw [this,List.map_id]
theorem cut_L (c:UInt8) (s:List UInt8):Lib.cut s [c] = cutL c s:=by
 unfold Lib.cut
 rcases index_cut c s with ⟨h1,h2⟩ | ⟨p,r,h1,h2,h3⟩
 ·rw [h1,cutL_no c h2];rfl
 ·rw [h3,if_pos (by omega)]
  rw [h1,cutL_app c r h2]
  simp [List.drop_append]
/-! ### Walks -/
theorem cItoa (i:Nat) (hi:i < 100) (w:World):Calls Tryz.prog 93 #[.int .i64 i] w fun e w'=>e = .returned (.string (bs (Lib.decDigits i)))∧w' = w :=
 Any.strconv_Itoa_small Tryz.lays171 i hi w
theorem cAtoi (s:ByteArray) (n:Int) (hl:s.size ≤ 18) (h:Lib.atoi s.data.toList = some n) (w:World) :
 Calls Tryz.prog 123 #[.string s] w fun e w'=>e = .returned (.tuple #[.int .i64 n,.nilIface])∧Below w.heap.size w w' :=
 (Any.strconv_Atoi Tryz.lays172 s n hl h w).mono fun _ _ ⟨he,t,hw⟩=>⟨he,by subst hw;exact below_bytesWorld _ _ _ _ (Nat.le_refl _)⟩
theorem cIndexL (s:ByteArray) (c:UInt8) (w:World):Calls Tryz.prog 165 #[.string s,.string ⟨#[c]⟩] w fun e w'=>e = .returned (.int .i64 (Lib.indexB s ⟨#[c]⟩))∧w' = w :=
 (Any.stringslite_Index_one { Tryz.lays145 with } s c w).mono fun _ _ ⟨he,hw⟩=>⟨by rw [he,← Lib.index_one],hw⟩
theorem cIndex (s:ByteArray) (c:UInt8) (w:World):Calls Tryz.prog 121 #[.string s,.string ⟨#[c]⟩] w fun e w'=>e = .returned (.int .i64 (Lib.indexB s ⟨#[c]⟩))∧w' = w :=
 (Any.strings_Index_one Tryz.lays143 s c w).mono fun _ _ ⟨he,hw⟩=>⟨by rw [he,← Lib.index_one],hw⟩
theorem cCount (s:ByteArray) (c:UInt8) (w:World):Calls Tryz.prog 120 #[.string s,.string ⟨#[c]⟩] w fun e w'=>e = .returned (.int .i64 (Lib.countB s ⟨#[c]⟩))∧w' = w :=
 (Any.strings_Count_one Tryz.lays138 s c w).mono fun _ _ ⟨he,hw⟩=>⟨by rw [he];show Ending.returned (Value.int .i64 ((s.data.toList.count c:Nat):Int)) = .returned (.int .i64 ((Lib.count s.data.toList [c]:Nat):Int));rw [Lib.count_one],hw⟩
theorem strInfo:(Tryz.prog.info? 9).map (fun i=>(i.zero,i.size,i.bytes)) = some (some (.string ByteArray.empty),1,16):=by kernel_rfl
theorem cSplit (s:ByteArray) (c:UInt8) (hs:s.size < 4294967281) (w:World) :
 Calls Tryz.prog 42 #[.string s,.string ⟨#[c]⟩] w fun e w' =>
  e = .returned (.slice (some ⟨w.heap.size,0,none⟩) (splitL c s.data.toList).length (splitL c s.data.toList).length)∧w' = w.alloc (.cells ((splitL c s.data.toList).map fun l=>Value.string (bs l)).toArray 9):=by
 have h1:1 ≤ (ByteArray.mk #[c]).size:=Nat.le_refl _
 have hle:=Lib.countB_le (ByteArray.mk #[c]) h1 s.size s (Nat.le_refl _)
 have hlen:=Lib.splitB_all (ByteArray.mk #[c]) h1 0 _ s rfl
 have C:=Any.strings_genSplit_core (n:=-1) (N:=Lib.countB s ⟨#[c]⟩ + 1) (sv:=0) { Tryz.lays146 with } strInfo s ⟨#[c]⟩ w hs h1 (Nat.zero_le _) (fun x cc _=>cIndex x c _) (cCount s c w) (by decide) (by decide) (by rw [if_pos (by decide)];omega)
 rw [Nat.add_sub_cancel,hlen] at C
 have e2:Lib.cellsOf (Lib.splitB ⟨#[c]⟩ 0 (Lib.countB s ⟨#[c]⟩) s) (Lib.countB s ⟨#[c]⟩ + 1) = ((Lib.splitB ⟨#[c]⟩ 0 (Lib.countB s ⟨#[c]⟩) s).map Value.string).toArray:=by rw [← hlen];exact Lib.cellsOf_full _
 rw [e2,← hlen,splitB_L,List.length_map,List.map_map] at C
 have e3:(Value.string ∘ bs) = fun l=>Value.string (bs l):=rfl
 rw [e3] at C
 generalize splitL c s.data.toList = r at *
 have C:=Lib.hid C
 clear hlen e2 hle h1
 go_enter Tryz.func42,Tryz.ntmps42
 go_wp2_with fail
 refine C.out.mono ?_
 rintro e w' ⟨rfl,rfl⟩
 go_wp2
 go_ret
 exact ⟨rfl,rfl⟩
theorem cCutL (s:ByteArray) (c:UInt8) (hs:s.size < 4294967281) (w:World) :
 Calls Tryz.prog 122 #[.string s,.string ⟨#[c]⟩] w fun e w'=>e = .returned (.tuple #[.string (bs (cutL c s.data.toList).1),.string (bs (cutL c s.data.toList).2.1),.bool (cutL c s.data.toList).2.2])∧∃ n,w' = w.drewN n:=by
 have C:=Lib.hid (cIndexL s c w)
 rcases Lib.indexB_cases s ⟨#[c]⟩ with hix | ⟨i,hix,hroom⟩
 ·obtain ⟨e1,e2,e3⟩:=Lib.cutB_miss s ⟨#[c]⟩ hix
  rw [show (ByteArray.mk #[c]).data.toList = [c] from rfl,cut_L] at e1 e2 e3
  rw [show bs (cutL c s.data.toList).1 = _ from e1,show bs (cutL c s.data.toList).2.1 = _ from e2,e3]
  go_enter Tryz.func122,Tryz.ntmps122
  go_wp2_with fail
  refine C.out.mono ?_
  rintro e w' ⟨rfl,rfl⟩
  rw [hix]
  go_wp2
  go_ret3
  exact ⟨rfl,0,rfl⟩
 ·obtain ⟨e1,e2,e3⟩:=Lib.cutB_hit s ⟨#[c]⟩ i hix
  rw [show (ByteArray.mk #[c]).data.toList = [c] from rfl,cut_L] at e1 e2 e3
  rw [show bs (cutL c s.data.toList).1 = _ from e1,e3]
  have hz:(ByteArray.mk #[c]).size = 1:=rfl
  rw [hz] at hroom e2
  rw [show bs (cutL c s.data.toList).2.1 = _ from e2]
  have c1:(0:Int) ≤ ↑i:=by omega
  have c2:(↑i:Int) ≤ ↑s.size:=by omega
  have c3:(0:Int) ≤ ↑i + 1:=by omega
  have c4:(↑i + 1:Int) ≤ ↑s.size:=by omega
  have c5:IntKind.i64.wrap (↑i + 1) = ↑i + 1:=IntWalk.i64_in _ (by omega)
  have mixed:Tryz.prog.follows .mixedOrders = true:=by kernel_rfl
  clear e1 e2 e3 hroom
  go_enter Tryz.func122,Tryz.ntmps122
  go_wp2_with fail
  refine C.out.mono ?_
  rintro e w' ⟨rfl,rfl⟩
  rw [hix]
  go_wp2
  go_region_o
  go_wp2
  go_ret3
  exact ⟨rfl,1,rfl⟩
theorem cCut (s:ByteArray) (c:UInt8) (hs:s.size < 4294967281) (w:World) :
 Calls Tryz.prog 86 #[.string s,.string ⟨#[c]⟩] w fun e w'=>e = .returned (.tuple #[.string (bs (cutL c s.data.toList).1),.string (bs (cutL c s.data.toList).2.1),.bool (cutL c s.data.toList).2.2])∧∃ n,w' = w.drewN n:=by
 have C:=Lib.hid (cCutL s c hs w)
 go_enter Tryz.func86,Tryz.ntmps86
 go_wp2_with fail
 refine C.out.mono ?_
 rintro e w' ⟨rfl,n,rfl⟩
 go_wp2
 go_ret3
 exact ⟨rfl,n,rfl⟩
theorem cJoin (bk o c:Nat) (xs:List ByteArray) (sep:ByteArray) (w:World)
 (hcells:∀ (j:Nat) x,xs[j]? = some x → w.cell? ⟨bk,o + j,none⟩ = some (.string x))
 (hbk:bk < w.heap.size) (hN:xs.length ≤ 140737488355328) (hcap:xs.length ≤ c)
 (hlen:(Lib.join (xs.map (·.data.toList)) sep.data.toList).length ≤ 140737488355328) :
 Calls Tryz.prog 46 #[.slice (some ⟨bk,o,none⟩) xs.length c,.string sep] w fun e w'=>e = .returned (.string (bs (Lib.join (xs.map (·.data.toList)) sep.data.toList)))∧Below w.heap.size w w' :=
 Any.strings_Join Tryz.lays156 Tryz.Builder_Extra_156 bk o c xs sep w hcells hbk hN hcap hlen
/-! ### Plain laws -/
def dd (n:Nat):List UInt8:=if n < 10 then [UInt8.ofNat (48 + n)] else [UInt8.ofNat (48 + n / 10),UInt8.ofNat (48 + n % 10)]
theorem dec_dd {n:Nat} (h:n < 100):Lib.decDigits n = dd n:=by
 rw [Lib.decDigits]
 unfold dd
 split
 ·rfl
 ·rw [Lib.decDigits,dif_pos (by omega)];rfl
theorem dd_all:∀ n,n < 100 → (1 ≤ (dd n).length∧(dd n).length ≤ 2)∧((dd n).all fun b=>decide (48 ≤ b.toNat) && decide (b.toNat ≤ 57)) = true∧Lib.decFrom 0 (dd n) = some n∧Lib.atoi (dd n) = some (n:Int):=by decide
theorem dd_len {n:Nat} (h:n < 100):1 ≤ (dd n).length∧(dd n).length ≤ 2:=(dd_all n h).1
theorem dd_dig {n:Nat} (h:n < 100) {b:UInt8} (hb:b ∈ dd n):48 ≤ b.toNat∧b.toNat ≤ 57:=by
 have:=List.all_eq_true.1 (dd_all n h).2.1 b hb
 simpa using this
theorem dd_no {n:Nat} (h:n < 100) {c:UInt8} (hc:c.toNat < 48 ∨ 57 < c.toNat):c ∉ dd n:=fun hm=>by
 have:=dd_dig h hm
 omega
theorem bs_size (l:List UInt8):(bs l).size = l.length:=by show l.toArray.size = _;simp
theorem cFormatInt (i:Nat) (hi:i < 100) (w:World):Calls Tryz.prog 50 #[.int .i64 i] w fun e w'=>e = .returned (.string (bs (dd i)))∧w' = w:=by
 have C:=Lib.hid (fun W=>cItoa i hi W)
 rw [dec_dd hi] at C
 clear hi
 generalize dd i = l at *
 go_enter Tryz.func50,Tryz.ntmps50
 go_wp2_with fail
 refine (C.out _).mono ?_
 rintro e w' ⟨rfl,rfl⟩
 go_wp2
 go_ret
 exact ⟨rfl,rfl⟩
theorem cParseInt (i:Nat) (hi:i < 100) (w:World):Calls Tryz.prog 87 #[.string (bs (dd i))] w fun e w'=>e = .returned (.tuple #[.int .i64 i,.bool true])∧Below w.heap.size w w':=by
 have C:=Lib.hid (fun W=>cAtoi (bs (dd i)) i (by rw [bs_size];have:=dd_len hi;omega) (by rw [bs_list];exact (dd_all i hi).2.2.2) W)
 have D:=Lib.hid (fun W=>cFormatInt i hi W)
 clear hi
 generalize bs (dd i) = s at *
 go_enter Tryz.func87,Tryz.ntmps87
 go_wp2_with fail
 refine (C.out _).mono ?_
 rintro e w1 ⟨rfl,hb⟩
 go_wp2_with fail
 refine (D.out _).mono ?_
 rintro e w2 ⟨rfl,rfl⟩
 go_wp2
 go_ret2
 exact ⟨rfl,hb⟩
theorem cIsDigit (x:Int) (_h0:0 ≤ x) (w:World):Calls Tryz.prog 169 #[.int .u8 x] w fun e w'=>e = .returned (.bool (inB x 48 57))∧w' = w:=by
 by_cases h1:48 ≤ x
 ·by_cases h2:x ≤ 57
  ·rw [inB_true h1 h2]
   go_enter Tryz.func169,Tryz.ntmps169
   go_wp2
   go_ret
   exact ⟨rfl,rfl⟩
  ·rw [inB_hi h2]
   go_enter Tryz.func169,Tryz.ntmps169
   go_wp2
   go_ret
   exact ⟨rfl,rfl⟩
 ·rw [inB_lo h1]
  go_enter Tryz.func169,Tryz.ntmps169
  go_wp2
  go_ret
  exact ⟨rfl,rfl⟩
theorem cIsDigits (s:ByteArray) (hd:∀ b ∈ s.data.toList,48 ≤ b.toNat∧b.toNat ≤ 57) (h0:s.size ≠ 0) (hs:s.size ≤ 1000000) (w:World) :
 Calls Tryz.prog 125 #[.string s] w fun e w'=>e = .returned (.bool true)∧w' = w:=by
 have C:=Lib.hid cIsDigit
 have D:=Lib.hid hd
 have hne:(s.toList == []) = false:=by
  rw [beq_eq_false_iff_ne,ByteArray.toList_eq];intro e;apply h0;rw [Lib.size_eq,e];rfl
 clear hd
 go_enter Tryz.func125,Tryz.ntmps125
 go_wp2_with fail
 go_loop [6] (fun v=>∃ k:Nat,k ≤ s.size∧v = .int .i64 k) (fun v=>s.size - (RowKit.intOf v).toNat)
 case atStart=>exact ⟨0,Nat.zero_le _,rfl⟩
 case round =>
  obtain ⟨k,hk,rfl⟩:=hrel
  by_cases hkn:k < s.size
  ·obtain ⟨x,hx⟩:∃ x,s[k]'hkn = x:=⟨_,rfl⟩
   have hm:x ∈ s.data.toList:=by rw [← hx];exact Array.getElem_mem_toList _
   have h48:=D.out x hm
   have E:=Lib.hid (C.out x.toNat (by omega))
   rw [inB_true (by omega) (by omega)] at E
   clear hm h48
   go_wp2_with fail
   refine (E.out _).mono ?_
   rintro e w1 ⟨rfl,rfl⟩
   go_wp2
   go_round
   case rel=>exact ⟨k + 1,by omega,by go_num⟩
   case measure=>simp [RowKit.intOf];omega
  ·have hkn:¬ ((k:Int) < (s.size:Int)):=by omega
   go_wp2
   go_ret
   exact ⟨rfl,rfl⟩
open Go.Shelf
attribute [local go_sem] Oper.semAt_some
theorem back_nil (F:Fence) (n:Nat) (hf:F.fn 171) (hro:F.round = none) (B:Nat) (A:Option Addr) (c n0:Nat) (w:World) (hB:B < w.heap.size) (hc:w.cell? ⟨B,0,none⟩ = some (.slice A 0 c)) :
 SeqStopsK F n Tryz.prog 171 #[.pointer (some ⟨B,0,none⟩)] (fun x:Empty=>x.elim) (Below n0) (fun ys=>ys = []) (fun _=>False) 0 w:=fun l J Jx W hW _ _ hY h0=>by
 have hc':=(hW.cell (p:=⟨B,0,none⟩) hB).trans hc
 clear hY hc
 refine callsIn_of_wp Tryz.func171 rfl hf ?_ hro
 simp only [Tryz.ntmps171,List.size_toArray,List.length_cons,List.length_nil,Nat.reduceAdd,Nat.reduceSub,Array.replicate_succ,Array.replicate_zero,List.push_toArray,List.append_toArray,List.nil_append,List.cons_append]
 gi_wp2
 gi_loopw [3] (fun i wr=>i = .int .i64 (-1)∧J [] wr) (fun _ _=>0)
 case atStart=>exact ⟨rfl,h0⟩
 case round =>
  obtain ⟨rfl,hJs⟩:=hrel
  gi_wp2
  go_end0
  exact ⟨⟨_,rfl⟩,.inl ⟨[],rfl,hJs⟩⟩
theorem back_in (F:Fence) (n:Nat) (hf:F.fn 129) (hro:F.round = none) (a:Option Addr) (len cap:Nat) (w:World) :
 CallsIn F n Tryz.prog 129 #[.slice a len cap] w fun e w'=>e = .returned (.func (.func 171) #[] #[.pointer (some ⟨w.heap.size,0,none⟩)])∧w' = w.alloc (.cells #[.slice a len cap] 41):=by
 refine callsIn_of_wp Tryz.func129 rfl hf ?_ hro
 simp only [Tryz.ntmps129,List.size_toArray,List.length_cons,List.length_nil,Nat.reduceAdd,Nat.reduceSub,Array.replicate_succ,Array.replicate_zero,List.push_toArray,List.append_toArray,List.nil_append,List.cons_append]
 gi_wp2
 go_ret
 exact ⟨rfl,rfl⟩
theorem cWrite (B b:Nat) (l:List UInt8) (s:ByteArray) (w:World) (h:Lib.IsBuilderF 92 5 B b (Lib.byteCells l) w) (hlen:l.length + s.size ≤ 140737488355328) (hBw:B ≤ w.heap.size) :
 Calls Tryz.prog 48 #[.pointer (some ⟨b,0,none⟩),.string s] w fun e w'=>e = .returned (.tuple #[.int .i64 s.size,.nilIface])∧(Lib.IsBuilderF 92 5 B b (Lib.byteCells (l ++ s.data.toList)) w'∧Below B w w'∧Lib.OthersKept 5 (some b) w w') :=
 (Any.Builder_WriteString_k { Tryz.lays156 with } Tryz.Builder_Extra_156 B b _ s w h (by simpa [Lib.byteCells] using hlen) hBw).mono fun e w' ⟨he,h1,h2,h3⟩=>⟨he,.inr (by
  have e1:Lib.byteCells (l ++ s.data.toList) = Lib.byteCells l ++ Lib.strCells s:=by simp [Lib.byteCells,Lib.strCells]
  rw [e1];exact h1),h2,h3⟩
theorem cString (B b:Nat) (l:List UInt8) (w:World) (h:Lib.IsBuilderF 92 5 B b (Lib.byteCells l) w) (hBw:B ≤ w.heap.size) :
 Calls Tryz.prog 51 #[.pointer (some ⟨b,0,none⟩)] w fun e w'=>e = .returned (.string (bs l))∧Below B w w'∧Lib.OthersKept 5 (some b) w w' :=
 (Any.Builder_String_any_k Tryz.lays169 Tryz.Builder_Extra_169 B b l w h hBw).mono fun _ _ ⟨he,_,h2,h3⟩=>⟨he,h2,h3⟩
theorem isBuilder_grown {T e B b:Nat} {xs:List Value} {w w':World} {row:Option Nat} (h:Lib.IsBuilderF T e B b xs w) (hg:w.grownBy w' row) (hr:∀ r,row = some r → ∃ o:Obj,w.heap[r]? = some o∧o.isCells = false):Lib.IsBuilderF T e B b xs w':=by
 have key:∀ p,Lib.BuilderAtF T e B b p xs w → Lib.BuilderAtF T e B b p xs w':=by
  rintro p ⟨hB,v,hbk,hown,hne⟩
  have hlt:b < w.heap.size:=(Array.getElem?_eq_some_iff.1 hbk).1
  refine ⟨hB,v,?_,hown.kept hg ?_,hne⟩
  ·rw [hg.block b hlt (fun e=>by
    obtain ⟨o,h1,h2⟩:=hr b e.symm
    rw [hbk] at h1
    injection h1 with h1
    subst h1
    cases h2)]
   exact hbk
  ·rcases hown.2 with ⟨rfl,_⟩ | ⟨g,cap,cur,fz,rfl,_,hgg,_⟩
   ·exact .inl rfl
   ·refine .inr fun e=>?_
    obtain ⟨o,h1,h2⟩:=hr g e.symm
    rw [hgg] at h1
    injection h1 with h1
    subst h1
    cases h2
 exact h.elim (fun x=>.inl (key _ x)) (fun x=>.inr (key _ x))
theorem fmtNat_in (n:Nat) (hn:n < 100) (A:Option Addr) (c:Nat) (hc:1 ≤ c) (_hm:c ≤ maxLen) (w:World) (ha:RI w A [(n:Int)]) (hok:FE.natOk [(n:Int)] = true) :
 CallsIn Fence.wide 4 Tryz.prog 95 #[.slice A 1 c] w fun e w'=>e = .returned (.string (bs (dd n)))∧Below w.heap.size w w':=by
 have C:=Lib.hid (callsIn_wide (n:=3) |>.2 (iNatOk [(n:Int)] 1 c rfl (by omega) A w ha))
 rw [hok] at C
 have F:=Lib.hid (fun W=>callsIn_wide (n:=3) |>.2 (cFormatInt n hn W))
 obtain ⟨b,o,rfl,hlt,hcell⟩:=ha (by simp)
 have c0:w.cell? ⟨b,o,none⟩ = some (.int .i64 n):=by simpa using hcell 0 (by simp)
 have hsz:(dd n).length ≤ 2:=(dd_len hn).2
 clear hn hcell ha
 generalize dd n = l at *
 refine callsIn_of_wp_marks Tryz.func95 rfl trivial ?_ rfl
 simp only [Tryz.ntmps95,List.size_toArray,List.length_cons,List.length_nil,Nat.reduceAdd,Nat.reduceSub,Array.replicate_succ,Array.replicate_zero,List.push_toArray,List.append_toArray,List.nil_append,List.cons_append]
 gi_wp2_with fail
 refine ⟨trivial,C.out.mono ?_⟩
 rintro e w1 ⟨rfl,rfl⟩
 clear C
 gi_wp2_with fail
 refine ⟨trivial,(F.out _).mono ?_⟩
 rintro e w2 ⟨rfl,hw2⟩
 clear F
 have hfr:Lib.IsBuilderF 92 5 w1.heap.size w1.heap.size (Lib.byteCells []) w2:=by rw [hw2];exact Lib.IsBuilderF.of (Lib.fresh_isBuilder _ _ _)
 have hb2:Below w1.heap.size w1 w2:=by rw [hw2];exact below_alloc1 _ _
 have W1:=Lib.hid (callsIn_wide (n:=3) |>.2 (cWrite w1.heap.size w1.heap.size [] (bs l) w2 hfr (by rw [bs_size];simp;omega) hb2.size))
 clear hfr hw2
 gi_wp2_with fail
 refine ⟨trivial,W1.out.mono ?_⟩
 rintro e w3 ⟨rfl,hB3,hb3,hk3⟩
 clear W1
 replace hB3:Lib.IsBuilderF 92 5 w1.heap.size w1.heap.size (Lib.byteCells l) w3:=by simpa [bs] using hB3
 replace hb3:=hb2.trans hb3
 have hBB:=Lib.hid hB3
 clear hB3 hb2 hk3
 gi_wp2_with fail
 refine ⟨trivial,(back_in Fence.wide 3 trivial rfl _ _ _ _).mono ?_⟩
 rintro e w4 ⟨rfl,hw4⟩
 gi_wp2_with fail
 have hb5:Below w1.heap.size w1 (w3.alloc (.cells #[.slice (some ⟨b,o,none⟩) 0 c] 41)):=hb3.alloc hb3.size _
 have hsz3:=hb3.size
 have hB5:Lib.IsBuilderF 92 5 w1.heap.size w1.heap.size (Lib.byteCells l) (w3.alloc (.cells #[.slice (some ⟨b,o,none⟩) 0 c] 41)) :=
  isBuilder_grown hBB.out (World.grownBy_alloc _ _ none) (fun r e=>by cases e)
 refine wpIn_rangeFunc_ownF (α:=Empty) rfl (by decide) (gf:=171) (lb:=#[.pointer (some ⟨w3.heap.size,0,none⟩)]) rfl trivial (enters_of Tryz.func171 (by kernel_rfl) rfl)
  (back_nil Fence.wide 3 trivial rfl w3.heap.size (some ⟨b,o,none⟩) c w1.heap.size _ (by simp) (by simp)) belowK_t (belowK_b (by simp;omega)) (Below.refl _ _) (fun x=>x.elim)
  (fun _ W=>Lib.IsBuilderF 92 5 w1.heap.size w1.heap.size (Lib.byteCells l) W∧Below w1.heap.size w1 W)
  (fun _ _ _=>False)
  (OwnFrom.and (fun s A B row hs hg hr=>isBuilder_grown hs hg (fun r e=>(hr r e).2)) (ownFrom_below (Nat.le_refl _) (by simp;omega)))
  (fun _ _ _ _ _ hs _ _=>hs)
  ⟨hB5,hb5⟩
  (fun x=>x.elim) ?assign ?body ?done ?stop
 case assign=>intro l x;exact x.elim
 case body=>intro l pre x;exact x.elim
 case stop =>
  rintro D c pre W _ _ h _
  exact h.elim
 case done =>
  rintro D ys W hD rfl ⟨hB6,hb6⟩ hK
  have S1:=Lib.hid (callsIn_wide (n:=3) |>.2 (cString w1.heap.size w1.heap.size l W hB6 hb6.size))
  clear hB6 hB5 hBB
  gi_wp2_with fail
  refine ⟨trivial,S1.out.mono ?_⟩
  rintro e w7 ⟨rfl,hb7,hk7⟩
  have hK7:w7.heap[D]? = some (.deferred (some [])):=hk7 D _ hK (fun e=>by injection e with e;simp at hD;omega) (fun c fz e=>by cases e)
  gi_wp2
  refine ⟨by simp,.inl ⟨_,_,rfl,run_takeDeferred hK7,?_⟩⟩
  exact ⟨_,results_tmp rfl _ _ _,rfl,(hb6.trans hb7).trans (belowK_b (w:=w1) (Nat.le_refl _) w7 D _ _ (by simp at hD;omega) hK7 rfl rfl)⟩
theorem toL_ok {n:Nat} (h:n < 1000000000):FE.natOk (FE.toL n) = true:=by
 refine FE.natOk_of_toL ?_
 by_cases h0:n = 0
 ·subst h0;rw [FE.toL_zero];simp
 ·rw [toL_one (by omega) h];simp
theorem cFormatNat (n:Nat) (hn:n < 100) (A:Option Addr) (c:Nat) (hc:(FE.toL n).length ≤ c) (hm:c ≤ maxLen) (w:World) (ha:RI w A (FE.toL n)) :
 Calls Tryz.prog 95 #[.slice A (FE.toL n).length c] w fun e w'=>e = .returned (.string (bs (dd n)))∧Below w.heap.size w w':=by
 by_cases h0:n = 0
 ·subst h0
  rw [FE.toL_zero] at *
  have C:=Lib.hid (iNatOk [] 0 c rfl (by omega) A w ha)
  have hok:FE.natOk [] = true:=by have:=toL_ok (n:=0) (by decide);rwa [FE.toL_zero] at this
  rw [hok] at C
  have e0:dd 0 = [48]:=rfl
  rw [e0]
  clear ha hc hok e0
  show Calls Tryz.prog 95 #[.slice A 0 c] w _
  go_enter Tryz.func95,Tryz.ntmps95
  go_wp2_with fail
  refine C.out.mono ?_
  rintro e w1 ⟨rfl,rfl⟩
  go_wp2
  go_ret
  exact ⟨rfl,Below.refl _ _⟩
 ·have e:=toL_one (show 0 < n by omega) (show n < 1000000000 by omega)
  have hok:=toL_ok (show n < 1000000000 by omega)
  rw [e] at hc ha hok ⊢
  exact callsIn_wide.1 (fmtNat_in n hn A c hc hm w ha hok)
end Go.Proofs.YtchbnlkambncnaaGreatDoor
namespace Go.Proofs.YtchbnlkambncnaaGreatDoor
open Go.RowKit Go.Joins
theorem cParseNat (n:Nat) (hn:n < 100) (w:World) :
 Calls Tryz.prog 90 #[.string (bs (dd n))] w fun e w'=>∃ v,e = .returned (.tuple #[v,.bool true])∧RO w' w.heap.size v (FE.toL n)∧Below w.heap.size w w':=by
 have hl:=dd_len hn
 have C:=Lib.hid (cIsDigits (bs (dd n)) (by rw [bs_list];exact fun b hb=>dd_dig hn hb) (by rw [bs_size];omega) (by rw [bs_size];omega) w)
 have F:=Lib.hid (fun A c hc hm W ha=>cFormatNat n hn A c hc hm W ha)
 have D:=Lib.hid ((dd_all n hn).2.2.1)
 have G:=Lib.hid (fun b hb=>dd_dig hn (b:=b) hb)
 obtain ⟨s,hs⟩:∃ s,s = bs (dd n):=⟨_,rfl⟩
 have hz:s.size = (dd n).length:=by rw [hs,bs_size]
 have hd:s.data.toList = dd n:=by rw [hs,bs_list]
 rw [← hd] at D G
 rw [← hs] at C F ⊢
 rw [← hz] at hl
 clear hs hz hd
 obtain ⟨h1,h2⟩:=hl
 go_enter Tryz.func90,Tryz.ntmps90
 go_wp2_with fail
 refine C.out.mono ?_
 rintro e w1 ⟨rfl,rfl⟩
 have g1:¬ (540 < (s.size:Int)):=by omega
 clear C
 go_wp2_with fail
 go_loopw [4,5] (fun v r wr=>(r = .int .i64 s.size∧OI wr w1.heap.size v []∧Below w1.heap.size w1 wr) ∨ (r = .int .i64 (s.size - 9)∧OI wr w1.heap.size v [(n:Int)]∧Below w1.heap.size w1 wr)) (fun _ r _=>(intOf r).toNat)
 case atStart=>exact .inl ⟨rfl,OI.of_arr (g:=w1.heap.size) (cap:=0) ⟨[],rfl,Nat.zero_le _,heap_alloc_new _ _⟩ (Nat.le_refl _),(Below.refl _ _).alloc (Nat.le_refl _) _⟩
 case round =>
  rcases hrel with ⟨rfl,hown,hbel⟩ | ⟨rfl,hown,hbel⟩
  ·have c1:(0:Int) < (s.size:Int):=by omega
   have c2:IntKind.i64.wrap ((s.size:Int) - 9) = (s.size:Int) - 9:=IntWalk.i64_in _ (by omega)
   have c4:max (0:Int) ((s.size:Int) - 9) = 0:=by omega
   have hex:s.extract 0 s.size = s:=by rw [ByteArray.extract_zero_size]
   have hcv:=Lib.run_convert_string_bytes (P:=Tryz.prog) wr 9 22 5 s (u:=.string) Tryz.underlying9 Tryz.underlying22 Tryz.underlying5
   have hB:∀ j,j < s.size → (Lib.bytesWorld wr 5 s).cell? ⟨wr.heap.size,j,none⟩ = some (.int .u8 (s.data.toList.getD j 0).toNat):=fun j hj=>Lib.bytesWorld_cell wr 5 s j hj
   have hbW:Below wr.heap.size wr (Lib.bytesWorld wr 5 s):=below_bytesWorld _ _ _ _ (Nat.le_refl _)
   obtain ⟨W1,hW1⟩:∃ W1,W1 = Lib.bytesWorld wr 5 s:=⟨_,rfl⟩
   rw [← hW1] at hcv hB hbW
   have hown1:=hown.later hbW
   have hbel1:=hbel.trans (hbW.mono hbel.size)
   have HB:=Lib.hid hB
   clear hB hW1 hown
   go_wp2_with fail
   go_loop [32,6] (fun vi vn=>∃ (k acc:Nat),k ≤ s.size∧vi = .int .i64 k∧vn = .int .i64 acc∧Hid (Lib.decFrom 0 (s.data.toList.take k) = some acc)) (fun vi _=>s.size - (RowKit.intOf vi).toNat)
   case atStart=>exact ⟨0,0,Nat.zero_le _,rfl,rfl,rfl⟩
   case round =>
    obtain ⟨k,acc,hk,rfl,rfl,hacc⟩:=hrel
    by_cases hkn:k < s.size
    ·obtain ⟨x,hx⟩:∃ x,x = s.data.toList.getD k 0:=⟨_,rfl⟩
     have hxk:s.data.toList[k]? = some x:=by
      rw [hx,List.getD,List.getElem?_eq_getElem (by rw [← Lib.size_eq];exact hkn)]
      rfl
     have hc1:W1.cell? ⟨wr.heap.size,k,none⟩ = some (.int .u8 x.toNat):=by rw [hx];exact HB.out k hkn
     obtain ⟨dv,hdv⟩:=Lib.digit_of_decFrom _ 0 n D.out k x hxk
     obtain ⟨h48,h57,hde⟩:=Lib.digitVal_eq hdv
     have hlt:=Lib.decFrom_take_lt hacc.out (by omega)
     have Hxk:=Lib.hid hxk
     have Hdv:=Lib.hid hdv
     clear hx hxk hdv
     go_wp2
     go_round
     case rel=>exact ⟨k + 1,acc * 10 + dv,by omega,by go_num,by first | go_num | (congr 1;omega),Lib.decFrom_take _ k 0 acc x dv hacc.out Hxk.out Hdv.out⟩
     case measure=>simp [RowKit.intOf];omega
    ·have hke:k = s.size:=by omega
     subst hke
     have hfin:acc = n:=by
      have h1:=hacc.out
      rw [List.take_of_length_le (by rw [← Lib.size_eq];exact Nat.le_refl _),D.out] at h1
      exact (Option.some.inj h1).symm
     subst hfin
     clear hex hcv HB hk hkn
     go_wp2_with (at_builtin;refine append1 rfl _ _ _ rfl Tryz.underlying41 Tryz.intInfo w1.heap.size _ [] rfl (hown1.alloc _) ⟨W1.heap.size,0,none⟩ _ rfl (cell_new1 _ _ _) (by simp) (by have:=hbel1.size;simp;omega) ?_)
     intro v' w2 hown2 hb2
     go_wp2
     go_roundw
     case rel=>exact .inr ⟨by go_num,by simpa using hown2,(hbel1.alloc hbel1.size _).trans hb2⟩
     case measure=>simp [intOf];omega
  ·have c1:¬ ((0:Int) < (s.size:Int) - 9):=by omega
   obtain ⟨A,c,rfl,hl,hm,hro⟩:=RO.of_own hown
   have hri:RI wr A [(n:Int)]:=(RO.of_own hown).reads
   have T:=Lib.hid (trimmed_any [(n:Int)] 1 c rfl (by omega) hl A wr hri)
   have ht:FE.trim [(n:Int)] = FE.toL n:=by
    by_cases h0:n = 0
    ·subst h0;rw [FE.toL_zero];rfl
    ·rw [toL_one (by omega) (by omega)];simp [FE.trim,h0]
   rw [ht] at T
   have hlc:(FE.toL n).length ≤ c:=by
    have:=trim_len [(n:Int)]
    rw [ht] at this
    exact Nat.le_trans this hl
   have hro2:RO wr w1.heap.size (.slice A (FE.toL n).length c) (FE.toL n):=by
    by_cases h0:n = 0
    ·subst h0;rw [FE.toL_zero];exact ⟨A,c,rfl,Nat.zero_le _,hm,fun h=>absurd rfl h⟩
    ·rw [toL_one (by omega) (by omega)];exact RO.of_own hown
   have F1:=Lib.hid (F.out A c hlc hm wr hro2.reads)
   have hro3:=Lib.hid (fun W hW=>hro2.later (w':=W) hW)
   clear hl hro hri ht hlc hown hro2 F
   obtain ⟨ln,hln⟩:∃ l,FE.toL n = l:=⟨_,rfl⟩
   rw [hln] at T F1 hro3
   have HL:=Lib.hid hln
   clear hln
   go_wp2_with fail
   refine T.out.mono ?_
   rintro e w2 ⟨rfl,rfl⟩
   go_wp2_with fail
   refine F1.out.mono ?_
   rintro e w3 ⟨rfl,hb3⟩
   go_wp2
   go_ret2
   exact ⟨_,rfl,by rw [HL.out];exact hro3.out _ hb3,hbel.trans (hb3.mono hbel.size)⟩
end Go.Proofs.YtchbnlkambncnaaGreatDoor
