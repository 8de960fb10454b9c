/-
 Shared texts (X1).
-/
import Derived.Test.YtchbnlkambncnaaGreatDoorRows
import Derived.WalkKit
import Derived.ProofKit
import Derived.OpenShut
import Derived.OpenVars
import Derived.ChangeSame
import Derived.JoinedOf
import Derived.JoinedAt
import Derived.RowKit3
import Derived.Lib.SmallJoins
import Derived.Orders
import Derived.KernelRfl
import Derived.Laws.Cells
import Derived.Laws.CopyRow
namespace Go.Proofs.YtchbnlkambncnaaGreatDoor
open Go.ChangeShapes Go.WideShapes Go.ChangeAt Go.RowKit Go.Joins Go.WideElems
def rowed (P:Program) (ts:List TypeId):Bool:=ts.all fun t=>P.readableRec t && decide (t < P.types.size)
theorem trodAll_stays {H:Type} {enc:TypeId × Value → H} {P:Program} (hl:laidOutB P = true) {W W':World} {sp':Nat → Bool} :
 ∀ {ts:List TypeId} {vs:List Value} {ds:List (DataW H)} {p:List MemPlace},rowed P ts = true → (∀ x ∈ p,W.sameAt W' x) →
  DataW.TrodAll enc P W 0 (fun _=>true) true ts vs ds p → (∀ x ∈ p,sp' x.block = true) → DataW.TrodAll enc P W' 0 sp' true ts vs ds p
 | [],_,_,_,_,_,h,_=>by
  obtain ⟨rfl,rfl,rfl⟩:=trodAll_nil h
  exact trodAll_mk0
 | t :: ts,_,_,_,hr,hlt,h,hs=>by
  obtain ⟨v,vs1,d,ds1,a,b,rfl,rfl,rfl,h1,h2⟩:=trodAll_cons h
  simp only [rowed,List.all_cons,Bool.and_eq_true,decide_eq_true_eq] at hr
  obtain ⟨n,h1⟩:=h1
  refine trodAll_cons_mk ⟨n,DataW.trod_stays (kids_book hl hr.1.1) (book_sized hr.1.1) (fun h=>by cases h) ⟨hr.1.2,book_self t⟩ h1 (fun x hx=>hlt x (by simp [hx])) (fun x hx=>hs x (by simp [hx]))⟩
   (trodAll_stays hl (by simpa [rowed] using hr.2) (fun x hx=>hlt x (by simp [hx])) h2 (fun x hx=>hs x (by simp [hx])))
theorem law_post {H:Type} {enc:TypeId × Value → H} {P:Program} {tb:TypeId} {f:Func} {s:ChangeSpec} {apart fresh handsOn again:Bool} {W W':World} {args:Array Value} {ds gs:List (DataW H)} {before:List MemPlace}
 (hl:laidOutB P = true) (hv:s.vars = []) (hr:rowed P f.params.toList = true)
 (hb:Below W.heap.size W W') (hres:f.resultTypes = #[tb]) (htb:P.underlying tb = some .bool)
 (hfn:s.fn H ds = { results:=[.lit (.bool true)],args:=ds })
 (hW:DataW.Whole enc P f.params.toList s.vars apart W args.toList ds gs before) :
 s.post enc P f apart fresh handsOn again W args (.bool true) W':=by
 have hW':=hW
 have hlt:=hW.lt
 obtain ⟨p,q,hA,hV,rfl,hz,hn⟩:=hW
 have hgs:gs = []∧q = []:=by
  rw [hv] at hV
  cases gs with
  | nil=>exact ⟨rfl,hV⟩
  | cons _ _=>exact hV.elim
 obtain ⟨rfl,rfl⟩:=hgs
 simp only [List.append_nil] at hlt hz hn hW' ⊢
 have hbl:∀ x ∈ p,x.block < W.heap.size:=fun x hx=>hlt x hx
 have hA':∀ sp:Nat → Bool,(∀ x ∈ p,sp x.block = true) → DataW.TrodAll enc P W' 0 sp true f.params.toList args.toList ds p :=
  fun sp hs=>trodAll_stays hl hr (fun x hx=>hb.same (hbl x hx)) hA hs
 have hR:∀ (b:Nat) (sp:Nat → Bool) (hd:Bool),DataW.TrodAll enc P W' b sp hd f.resultTypes.toList ((Value.bool true).resultList f.resultTypes.size) (s.fn H (ds ++ [])).results []:=by
  intro b sp hd
  simp only [List.append_nil]
  rw [hfn,hres]
  exact trodAll_mk1 (shut_bool htb true)
 have hA2:∀ sp:Nat → Bool,(∀ x ∈ p,sp x.block = true) → DataW.TrodAll enc P W' 0 sp true f.params.toList args.toList (s.fn H (ds ++ [])).args p:=by
  intro sp hs
  simp only [List.append_nil]
  rw [hfn]
  exact hA' sp hs
 have hV2:∀ sp:Nat → Bool,DataW.TrodVars enc P W' sp s.vars (s.fn H (ds ++ [])).vars []:=by
  intro sp
  simp only [List.append_nil]
  rw [hfn,hv]
  exact (rfl:([]:List MemPlace) = [])
 refine ⟨ds,[],p,[],p,[],hW',hR _ _ _,hA2 _ (fun x hx=>by simpa using hbl x hx),hV2 _,hb.frame _,fun _=>?_⟩
 refine ⟨?_,_,_,([] ++ p) ++ [],⟨[] ++ p,[],trodAll_append (hA2 _ (fun _ _=>rfl)) (hR _ _ _),hV2 _,rfl,?_,?_⟩,?_⟩
 ·rw [hres]
  intro j t r h1 h2
  cases j with
  | zero =>
   simp at h1
   subst h1
   simp [Value.resultList] at h2
   subst h2
   exact okWide_bool_mk htb _
  | succ j=>simp at h1
 ·intro b off hp
  simp only [List.nil_append,List.append_nil] at hp
  rw [hb.frozen (hbl _ hp)]
  exact hz b off hp
 ·intro ha
  simpa using hn ha
 ·intro x hx _
  simpa using hx
end Go.Proofs.YtchbnlkambncnaaGreatDoor
namespace Go.SX
structure X where
 kd:Nat
 den:Nat
 ps:List (Nat × Int)
inductive C where
 | bool (b:Bool)
 | int (n:Int)
 | u64 (n:Nat)
 | sl (k o n z:Nat)
 | nsl
 | ptr (k o:Nat)
 | nptr
 | fn (f:Nat) (caps:List (Nat × Nat))
 | nfn
 | cell (j i:Nat) (x:X)
 | code
 | cur (p i:Nat)
 | small
 | dr (a:Int) (p n:Nat)
 | rg (lo hi:Int)
 | esl
 | str (l:List (Nat × Nat))
inductive S where
 | c (x:C)
 | agg (l:List C)
inductive V where
 | s (x:S)
 | tup (l:List S)
inductive T (α:Type) where
 | lf
 | nd (l:T α) (v:Option α) (r:T α)
noncomputable abbrev bi {α:Type} (c:Bool) (a b:α):α:=@Bool.rec (fun _=>α) b a c
noncomputable abbrev ob {α β:Type} (x:Option α) (f:α → Option β):Option β:=@Option.rec α (fun _=>Option β) none f x
noncomputable def pthF (d:Nat):Nat → List Bool :=
 @Nat.rec (fun _=>Nat → List Bool) (fun _=>[]) (fun _ ih n=>bi (Nat.beq n 0) [] (bi (Nat.beq (Nat.mod n 2) 1) (true :: ih (Nat.div n 2)) (false :: ih (Nat.sub (Nat.div n 2) 1)))) d
noncomputable def pth (n:Nat):List Bool:=pthF 24 n
noncomputable def T.getP {α:Type} (t:T α):List Bool → Option α :=
 @T.rec α (fun _=>List Bool → Option α) (fun _=>none) (fun _ v _ gl gr p=>@List.rec Bool (fun _=>Option α) v (fun b p _=>@Bool.rec (fun _=>Option α) (gr p) (gl p) b) p) t
noncomputable def T.oneP {α:Type} (x:Option α) (p:List Bool):T α :=
 @List.rec Bool (fun _=>T α) (.nd .lf x .lf) (fun b _ ih=>@Bool.rec (fun _=>T α) (.nd .lf none ih) (.nd ih none .lf) b) p
noncomputable def T.setP {α:Type} (x:Option α) (t:T α):List Bool → T α :=
 @T.rec α (fun _=>List Bool → T α) (fun p=>T.oneP x p)
  (fun l v r gl gr p=>@List.rec Bool (fun _=>T α) (.nd l x r) (fun b p _=>@Bool.rec (fun _=>T α) (.nd l v (gr p)) (.nd (gl p) v r) b) p) t
noncomputable def T.get {α:Type} (t:T α) (n:Nat):Option α:=t.getP (pth n)
noncomputable def T.set {α:Type} (t:T α) (n:Nat) (x:Option α):T α:=t.setP x (pth n)
structure Blk where
 cells:List C
structure St where
 mem:T Blk
 nb:Nat
 nt:Nat
structure R where
 v:V
 st:St
 w:List Nat
 rd:Option (List Nat)
noncomputable def strC (l:List UInt8):List (Nat × Nat):=@List.rec UInt8 (fun _=>List (Nat × Nat)) [] (fun b _ ih=>(0,b.toNat) :: ih) l
noncomputable def ofVal:Value → Option C
 | .bool b=>some (.bool b)
 | .int .i64 n=>some (.int n)
 | .int .u64 (.ofNat n)=>some (.u64 n)
 | .slice none 0 0=>some .nsl
 | .pointer none=>some .nptr
 | .nilFunc=>some .nfn
 | .string s=>some (.str (strC s.data.toList))
 | _=>none
noncomputable def mapO {α β:Type} (f:α → Option β) (l:List α):Option (List β) :=
 @List.rec α (fun _=>Option (List β)) (some []) (fun a _ ih=>ob (f a) fun b=>ob ih fun r=>some (b :: r)) l
noncomputable def ofConst:Value → Option S
 | .agg cs=>ob (mapO ofVal cs.toList) fun l=>some (.agg l)
 | v=>ob (ofVal v) fun c=>some (.c c)
def S.cells:S → List C
 | .c x=>[x]
 | .agg l=>l
abbrev Fr:=T V
noncomputable def opnd (fr:Fr) (x:Operand):Option V :=
 Operand.casesOn x (fun t=>fr.get t) (fun v=>ob (ofConst v) fun s=>some (.s s)) (fun _=>none) (fun f=>some (.s (.c (.fn f []))))
abbrev Ev:=Operand → Option V
noncomputable abbrev vS (v:V):Option S:=V.casesOn v (fun s=>some s) (fun _=>none)
noncomputable abbrev sC (s:S):Option C:=S.casesOn s (fun c=>some c) (fun _=>none)
noncomputable def opS (fr:Ev) (x:Operand):Option S:=ob (fr x) vS
noncomputable def opC (fr:Ev) (x:Operand):Option C:=ob (fr x) fun v=>ob (vS v) sC
noncomputable def nth {α:Type} (l:List α):Nat → Option α :=
 @List.rec α (fun _=>Nat → Option α) (fun _=>none) (fun a _ ih n=>bi (Nat.beq n 0) (some a) (ih (Nat.sub n 1))) l
noncomputable def dropN {α:Type} (l:List α):Nat → List α :=
 @List.rec α (fun _=>Nat → List α) (fun _=>[]) (fun a l ih n=>bi (Nat.beq n 0) (a :: l) (ih (Nat.sub n 1))) l
noncomputable def takeN {α:Type} (l:List α):Nat → Option (List α) :=
 @List.rec α (fun _=>Nat → Option (List α)) (fun n=>bi (Nat.beq n 0) (some []) none) (fun a _ ih n=>bi (Nat.beq n 0) (some []) (ob (ih (Nat.sub n 1)) fun r=>some (a :: r))) l
noncomputable def len {α:Type} (l:List α):Nat :=
 @List.rec α (fun _=>Nat) 0 (fun _ _ ih=>Nat.add ih 1) l
noncomputable def app {α:Type} (l r:List α):List α :=
 @List.rec α (fun _=>List α) r (fun a _ ih=>a :: ih) l
noncomputable def setAll {α:Type} (l:List α):Nat → List α → Option (List α) :=
 @List.rec α (fun _=>Nat → List α → Option (List α)) (fun _ xs=>List.casesOn xs (some []) (fun _ _=>none))
  (fun a l ih n xs=>bi (Nat.beq n 0) (List.casesOn xs (some (a :: l)) (fun x xs=>ob (ih 0 xs) fun r=>some (x :: r))) (ob (ih (Nat.sub n 1) xs) fun r=>some (a :: r))) l
noncomputable abbrev ible (a b:Int):Bool:=Int.casesOn a (fun m=>Int.casesOn b (fun n=>Nat.ble m n) (fun _=>false)) (fun m=>Int.casesOn b (fun _=>true) (fun n=>Nat.ble n m))
noncomputable abbrev ibeq (a b:Int):Bool:=Int.casesOn a (fun m=>Int.casesOn b (fun n=>Nat.beq m n) (fun _=>false)) (fun m=>Int.casesOn b (fun _=>false) (fun n=>Nat.beq m n))
abbrev vI (n:Int):V:=.s (.c (.int n))
abbrev vB (b:Bool):V:=.s (.c (.bool b))
noncomputable def rng (n:Int):Option V:=bi (ible (-9223372036854775808) n) (bi (ible n 9223372036854775807) (some (vI n)) none) none
noncomputable def isAggB (P:Program) (t:Nat):Option Bool :=
 ob (P.underlying t) fun d=>match d with
 | .struct _=>some true
 | .array _ _=>some true
 | _=>some false
noncomputable def szOf (P:Program) (t:Nat):Option Nat:=ob (P.info? t) fun i=>some i.size
noncomputable def zeroOf (P:Program) (t:Nat):Option (List C) :=
 ob (P.info? t) fun i=>ob i.zero fun v=>ob (ofConst v) fun s=>some s.cells
noncomputable def zeroE (P:Program) (t z:Nat):Option (List C) :=
 ob (zeroOf P t) fun cs=>ob (P.info? t) fun i=>bi (Nat.beq (len cs) z) (bi (Nat.ble 1 z) (bi (Nat.ble i.bytes 1000000) (some cs) none) none) none
noncomputable def partA (n:Nat) (cs:List C) (off:Nat):Option S:=ob (takeN (dropN cs off) n) fun l=>some (.agg l)
noncomputable def partC (cs:List C) (off:Nat):Option S:=ob (nth cs off) fun c=>some (.c c)
noncomputable def partS (P:Program) (t:Nat) (cs:List C) (off:Nat):Option S :=
 ob (isAggB P t) fun b=>bi b (ob (szOf P t) fun n=>partA n cs off) (partC cs off)
abbrev pureV (st:St) (v:V):Option R:=some ⟨v,st,[],some []⟩
abbrev pure1 (st:St) (x:S):Option R:=some ⟨.s x,st,[],some []⟩
noncomputable def alloc (st:St) (cs:List C) (v:Nat → C):Option R :=
 bi (Nat.ble (Nat.add st.nb 1) 8388608) (some ⟨.s (.c (v st.nb)),⟨st.mem.set st.nb (some ⟨cs⟩),Nat.add st.nb 1,st.nt⟩,[],some []⟩) none
abbrev pC (k:Nat):C:=.ptr k 0
noncomputable def fillC (pl:Nat → Option (Nat × Nat)) (l:List (Nat × S)):List C → Option (List C) :=
 @List.rec (Nat × S) (fun _=>List C → Option (List C)) (fun cs=>some cs)
  (fun p _ ih cs=>ob (pl p.1) fun q=>bi (Nat.beq (len p.2.cells) q.2) (bi (Nat.beq q.2 0) none (ob (setAll cs q.1 p.2.cells) ih)) none) l
noncomputable def repl {α:Type} (n:Nat) (z:List α):List α:=@Nat.rec (fun _=>List α) [] (fun _ ih=>app z ih) n
noncomputable def cmpI (op:BinOp) (a b:Int):Option V :=
 match op with
 | .eql=>some (vB (ibeq a b))
 | .neq=>some (vB (bi (ibeq a b) false true))
 | .lss=>some (vB (bi (ible b a) false true))
 | .leq=>some (vB (ible a b))
 | .gtr=>some (vB (bi (ible a b) false true))
 | .geq=>some (vB (ible b a))
 | .add=>rng (a + b)
 | .sub=>rng (a - b)
 | .mul=>rng (a * b)
 | .quo=>bi (ibeq b 0) none (rng (Int.tdiv a b))
 | .rem=>bi (ibeq b 0) none (rng (Int.tmod a b))
 | _=>none
noncomputable def drOk (a b:Int) (n:Nat):Bool:=ible (-1000000) a && ible a 1000000 && ible (-1000000) b && ible b 1000000 && Nat.ble n 1000000 && Nat.ble 1 n
noncomputable def eqB (op:BinOp) (b:Bool):Option V :=
 match op with
 | .eql=>some (vB b)
 | .neq=>some (vB (bi b false true))
 | _=>none
noncomputable def drI (op:BinOp) (b:Int) (p n:Nat) (a:Int):Option V :=
 match op with
 | .sub=>bi (drOk a b n) (some (.s (.c (.dr (b - a) p n)))) none
 | .geq=>bi (drOk a b n) (bi (ible a b) (some (vB true)) none) none
 | .lss=>bi (drOk a b n) (bi (ible a b) (some (vB false)) none) none
 | .leq=>bi (drOk a b n) (bi (ible (b + n - 1) a) (some (vB true)) none) none
 | .gtr=>bi (drOk a b n) (bi (ible (b + n - 1) a) (some (vB false)) none) none
 | _=>none
noncomputable def rgI (op:BinOp) (lo hi a:Int):Option V :=
 match op with
 | .geq=>bi (ible a lo) (some (vB true)) none
 | .lss=>bi (ible a lo) (some (vB false)) none
 | .leq=>bi (ible hi a) (some (vB true)) none
 | .gtr=>bi (ible hi a) (some (vB false)) none
 | _=>none
noncomputable def isBool (d:TypeDesc):Bool:=match d with | .bool=>true | _=>false
noncomputable def isSlice (d:TypeDesc):Bool:=match d with | .slice _=>true | _=>false
/-! Texts: bytes (0, n) and the texts of drawn numbers (k, place of the draw). -/
noncomputable def eqTE (a b:Nat × Nat):Bool:=bi (Nat.beq a.1 b.1) (Nat.beq a.2 b.2) false
noncomputable def eqT (l:List (Nat × Nat)):List (Nat × Nat) → Bool :=
 @List.rec (Nat × Nat) (fun _=>List (Nat × Nat) → Bool) (fun r=>List.casesOn r true (fun _ _=>false)) (fun a _ ih r=>List.casesOn r false (fun b r=>bi (eqTE a b) (ih r) false)) l
noncomputable def allB (l:List (Nat × Nat)):Bool:=@List.rec (Nat × Nat) (fun _=>Bool) true (fun a _ ih=>bi (Nat.beq a.1 0) (bi (Nat.ble a.2 255) ih false) false) l
noncomputable def hasB (l:List (Nat × Nat)):Bool:=@List.rec (Nat × Nat) (fun _=>Bool) false (fun a _ ih=>bi (Nat.beq a.1 0) true ih) l
noncomputable def nilT (l:List (Nat × Nat)):Bool:=@List.rec (Nat × Nat) (fun _=>Bool) true (fun _ _ _=>false) l
noncomputable def eqStr (a b:List (Nat × Nat)):Option Bool :=
 bi (eqT a b) (some true) (bi (bi (allB a) (allB b) false) (some false) (bi (bi (nilT a) (hasB b) false) (some false) (bi (bi (nilT b) (hasB a) false) (some false) none)))
noncomputable def strX (op:BinOp) (a b:List (Nat × Nat)):Option V :=
 match op with
 | .add=>bi (Nat.ble (Nat.add (len a) (len b)) 1048576) (some (.s (.c (.str (app a b))))) none
 | .eql=>ob (eqStr a b) fun t=>some (vB t)
 | .neq=>ob (eqStr a b) fun t=>some (vB (bi t false true))
 | _=>none
noncomputable def binX (d:TypeDesc) (op:BinOp) (x y:C):Option V :=
 match x,y with
 | .bool a,.bool b=>bi (isBool d) (eqB op (bi a b (bi b false true))) none
 | .u64 a,.u64 b=>match op with
  | .shr=>bi (Nat.ble b 63) (some (.s (.c (.u64 (Nat.div a (Nat.pow 2 b)))))) none
  | .and=>bi (Nat.ble a 1048576) (bi (Nat.beq b 4294967295) (some (.s (.c (.u64 a)))) none) none
  | .mul=>bi (Nat.ble (Nat.mul a b) 18446744073709551615) (some (.s (.c (.u64 (Nat.mul a b))))) none
  | .add=>bi (Nat.ble (Nat.add a b) 18446744073709551615) (some (.s (.c (.u64 (Nat.add a b))))) none
  | .gtr=>some (vB (bi (Nat.ble a b) false true))
  | _=>none
 | .small,.int b=>match op with
  | .gtr=>bi (ible 1048576 b) (some (vB false)) none
  | _=>none
 | .int a,.dr b p n=>match op with
  | .add=>bi (drOk a b n) (some (.s (.c (.dr (a + b) p n)))) none
  | _=>none
 | .dr b p n,.int a=>drI op b p n a
 | .rg lo hi,.int a=>rgI op lo hi a
 | .dr b p n,.dr b' p' n'=>bi (ibeq b b') (bi (Nat.beq p p') (bi (Nat.beq n n') (eqB op true) none) none) none
 | .nsl,.nsl=>bi (isSlice d) (eqB op true) none
 | .sl ..,.nsl=>bi (isSlice d) (eqB op false) none
 | .str a,.str b=>strX op a b
 | _,_=>none
abbrev cInt (c:C):Option Int:=match c with | .int n=>some n | _=>none
noncomputable def binT (P:Program) (t:Nat) (op:BinOp) (x y:C):Option V:=ob (P.underlying t) fun d=>binX d op x y
noncomputable def binB (P:Program) (t:Nat) (op:BinOp) (x y:C):Option V :=
 @Option.rec Int (fun _=>Option V) (binT P t op x y) (fun a=>@Option.rec Int (fun _=>Option V) (binT P t op x y) (fun b=>cmpI op a b) (cInt y)) (cInt x)
noncomputable def toN (c:C):Option Nat:=ob (cInt c) fun n=>Int.casesOn n (fun m=>some m) (fun _=>none)
noncomputable def place (P:Program) (fields:List Field) (i:Nat):Option (Nat × Nat) :=
 ob (nth fields i) fun f=>ob (szOf P f.type) fun n=>some (f.offset,n)
noncomputable def places (P:Program) (fields:List Field):Option (List (Nat × Nat)) :=
 @List.rec Field (fun _=>Option (List (Nat × Nat))) (some []) (fun f _ ih=>ob (szOf P f.type) fun n=>ob ih fun r=>some ((f.offset,n) :: r)) fields
noncomputable def parts (fr:Ev) (l:List (Nat × Operand)):Option (List (Nat × S)) :=
 @List.rec (Nat × Operand) (fun _=>Option (List (Nat × S))) (some []) (fun p _ ih=>ob (opS fr p.2) fun s=>ob ih fun r=>some ((p.1,s) :: r)) l
abbrev cPtr (c:C):Option (Nat × Nat):=match c with | .ptr k o=>some (k,o) | _=>none
noncomputable def ptrs (fr:Ev) (l:List Operand):Option (List (Nat × Nat)) :=
 @List.rec Operand (fun _=>Option (List (Nat × Nat))) (some []) (fun x _ ih=>ob (opC fr x) fun c=>ob (cPtr c) fun p=>ob ih fun r=>some (p :: r)) l
noncomputable def capV (l:List (Nat × Nat)):List V :=
 @List.rec (Nat × Nat) (fun _=>List V) [] (fun p _ ih=>.s (.c (.ptr p.1 p.2)) :: ih) l
noncomputable def slCells (st:St) (c:C):Option (List C) :=
 match c with
 | .nsl=>some []
 | .sl k o n z=>ob (st.mem.get k) fun b=>takeN (dropN b.cells o) (Nat.mul n z)
 | .esl=>some []
 | _=>none
noncomputable def slLen (c:C):Option Nat :=
 match c with
 | .nsl=>some 0
 | .sl _ _ n _=>some n
 | .esl=>some 0
 | _=>none
noncomputable def slBlk (x:C) (r:List Nat):List Nat:=match x with | .sl k _ _ _=>k :: r | _=>r
noncomputable def appendR (st:St) (s x:C) (n z:Nat) (cs:List C):Option R :=
 bi (Nat.ble (Nat.add st.nb 1) 8388608) (match s with
  | .sl k o _ z'=>bi (Nat.beq o 0) (bi (Nat.beq z' z) (some ⟨.s (.c (.sl st.nb 0 n z)),⟨(st.mem.set k none).set st.nb (some ⟨cs⟩),Nat.add st.nb 1,st.nt⟩,[k],some (k :: slBlk x [])⟩) none) none
  | .nsl=>some ⟨.s (.c (.sl st.nb 0 n z)),⟨st.mem.set st.nb (some ⟨cs⟩),Nat.add st.nb 1,st.nt⟩,[],some (slBlk x [])⟩
  | _=>none) none
noncomputable def dSlice (d:TypeDesc):Option Nat:=match d with | .slice e=>some e | _=>none
noncomputable def isSl (x:C):Bool:=match x with | .sl ..=>true | _=>false
noncomputable def slSize (x:C) (z:Nat):Bool:=match x with | .sl _ _ _ z'=>Nat.beq z' z | _=>true
noncomputable def appendV (P:Program) (st:St) (sT:Nat) (s x:C):Option R :=
 ob (P.underlying sT) fun d=>ob (dSlice d) fun elem=>ob (szOf P elem) fun z=>ob (zeroE P elem z) fun _=>ob (slLen s) fun n=>ob (slLen x) fun m =>
 ob (slCells st s) fun cs=>ob (slCells st x) fun ds=>bi (slSize x z) (
 bi (Nat.ble (Nat.add n m) 1048576) (bi (bi (Nat.ble 1 m) true (isSl s)) (appendR st s x (Nat.add n m) z (app cs ds)) none) none) none
noncomputable def bound (fr:Ev) (x:Option Operand) (d:Nat):Option Nat :=
 @Option.rec Operand (fun _=>Option Nat) (some d) (fun o=>ob (opC fr o) toN) x
abbrev CallFn:=Nat → List V → St → Option R
noncomputable def args (fr:Ev) (l:List Operand):Option (List V) :=
 @List.rec Operand (fun _=>Option (List V)) (some []) (fun x _ ih=>ob (fr x) fun v=>ob ih fun r=>some (v :: r)) l
noncomputable def vC (v:V):Option C:=ob (vS v) sC
noncomputable def two (l:List V):Option (C × C) :=
 match l with
 | [a,b]=>ob (vC a) fun x=>ob (vC b) fun y=>some (x,y)
 | _=>none
noncomputable def one (l:List V):Option C :=
 match l with
 | [a]=>vC a
 | _=>none
noncomputable def lenV (st:St) (c:C):Option R :=
 match c with
 | .code=>pure1 st (.c .small)
 | c=>ob (slLen c) fun n=>pureV st (vI n)
noncomputable def minV (st:St) (l:List V) (mx:Bool):Option R :=
 ob (two l) fun p=>ob (cInt p.1) fun a=>ob (cInt p.2) fun b=>pureV st (vI (bi mx (bi (ible a b) b a) (bi (ible a b) a b)))
noncomputable def copyC (st:St) (k o m k':Nat) (cs:List C):Option R :=
 ob (st.mem.get k) fun b=>ob (setAll b.cells o cs) fun ds=>some ⟨vI (Int.ofNat m),⟨st.mem.set k (some ⟨ds⟩),st.nb,st.nt⟩,[k],some [k,k']⟩
noncomputable def copyM (st:St) (k o k' o' z m:Nat):Option R :=
 bi (Nat.beq m 0) (pureV st (vI 0)) (ob (st.mem.get k') fun b=>ob (takeN (dropN b.cells o') (Nat.mul m z)) (copyC st k o m k'))
noncomputable def copyV (P:Program) (st:St) (e:Nat) (x y:C):Option R :=
 match x,y with
 | .sl k o n z,.sl k' o' n' z'=>ob (szOf P e) fun s=>bi (Nat.beq s z) (bi (Nat.beq z z') (bi (Nat.ble 1 z) (copyM st k o k' o' z (bi (Nat.ble n' n) n' n)) none) none) none
 | _,_=>none
noncomputable def builtinV (P:Program) (b:Builtin) (ts:List Nat) (l:List V) (st:St):Option R :=
 match b with
 | .len=>List.casesOn ts none fun t _=>ob (P.underlying t) fun d=>bi (isSlice d) (ob (one l) (lenV st)) none
 | .append=>ob (two l) fun p=>List.casesOn ts none fun t ts=>List.casesOn ts none fun u _=>ob (P.underlying u) fun d=>bi (isSlice d) (appendV P st t p.1 p.2) none
 | .min=>minV st l false
 | .max=>minV st l true
 | .copy=>ob (two l) fun p=>List.casesOn ts none fun t _=>ob (P.underlying t) fun d=>ob (dSlice d) fun e=>copyV P st e p.1 p.2
 | _=>none
noncomputable def opLoad (P:Program) (t:Nat) (fr:Ev) (a:Operand) (st:St):Option R :=
 ob (opC fr a) fun c=>ob (cPtr c) fun p=>ob (st.mem.get p.1) fun b=>ob (partS P t b.cells p.2) fun s=>some ⟨.s s,st,[],some [p.1]⟩
noncomputable def opStore (P:Program) (t:Nat) (fr:Ev) (a x:Operand) (st:St):Option R :=
 ob (opC fr a) fun c=>ob (cPtr c) fun p=>ob (opS fr x) fun s=>ob (szOf P t) fun n=>ob (st.mem.get p.1) fun b =>
 bi (Nat.beq (len s.cells) n) (bi (Nat.ble 1 n) (ob (setAll b.cells p.2 s.cells) fun cs=>some ⟨.tup [],⟨st.mem.set p.1 (some ⟨cs⟩),st.nb,st.nt⟩,[p.1],some [p.1]⟩) none) none
noncomputable def opBuild (P:Program) (t:Nat) (fr:Ev) (ps:List (Nat × Operand)) (st:St):Option R :=
 ob (zeroOf P t) fun z=>ob (parts fr ps) fun l=>ob (P.underlying t) fun d=>match d with
 | .struct fields=>ob (places P fields.toList) fun pl=>ob (fillC (nth pl) l z) fun cs=>pure1 st (.agg cs)
 | .array _ e=>ob (szOf P e) fun n=>ob (fillC (fun i=>some (Nat.mul i n,n)) l z) fun cs=>pure1 st (.agg cs)
 | _=>none
noncomputable def opBuildSlice (P:Program) (t n:Nat) (fr:Ev) (ps:List (Nat × Operand)) (st:St):Option R :=
 ob (P.underlying t) fun d=>ob (dSlice d) fun e=>ob (szOf P e) fun m=>ob (zeroE P e m) fun z=>ob (parts fr ps) fun l =>
 bi (Nat.ble (Nat.mul n m) 16777216) (ob (fillC (fun i=>some (Nat.mul i m,m)) l (repl n z)) fun cs=>alloc st cs fun k=>.sl k 0 n m) none
noncomputable def opMakeSlice (P:Program) (t:Nat) (fr:Ev) (l c:Operand) (st:St):Option R :=
 ob (P.underlying t) fun d=>ob (dSlice d) fun e=>ob (opC fr l) fun l=>ob (opC fr c) fun c=>ob (toN l) fun n=>ob (toN c) fun m =>
 ob (szOf P e) fun k=>ob (zeroE P e k) fun z=>bi (Nat.beq n m) (bi (Nat.ble n 1048576) (alloc st (repl n z) fun b=>.sl b 0 n k) none) none
abbrev cSl (c:C):Option (Nat × Nat × Nat × Nat):=match c with | .sl k o n z=>some (k,o,n,z) | _=>none
abbrev dArr (d:TypeDesc):Option (Nat × Nat):=match d with | .array n e=>some (n,e) | _=>none
noncomputable def slicing (st:St) (k off n z l h:Nat):Option R :=
 bi (Nat.ble l h) (bi (Nat.ble h n) (bi (Nat.beq n l) (bi (Nat.beq l 0) (pure1 st (.c (.sl k off h z))) (pure1 st (.c .esl))) (pure1 st (.c (.sl k (Nat.add off (Nat.mul l z)) (Nat.sub h l) z)))) none) none
noncomputable def opSlice (P:Program) (t:Nat) (fr:Ev) (x:Operand) (lo hi:Option Operand) (st:St):Option R :=
 ob (P.underlying t) fun d=>ob (opC fr x) fun c=>match d with
 | .array n e=>ob (cPtr c) fun p=>ob (bound fr lo 0) fun l=>ob (bound fr hi n) fun h=>ob (szOf P e) fun z=>ob (st.mem.get p.1) fun b =>
  bi (Nat.ble (Nat.add p.2 (Nat.mul n z)) (len b.cells)) (bi (Nat.beq n 0) none (bi (Nat.ble n 1000000) (ob (slicing st p.1 p.2 n z l h) fun r=>some ⟨r.v,r.st,r.w,some [p.1]⟩) none)) none
 | .slice e=>ob (cSl c) fun q=>ob (bound fr lo 0) fun l=>ob (bound fr hi q.2.2.1) fun h=>ob (szOf P e) fun z'=>bi (Nat.beq q.2.2.2 z') (slicing st q.1 q.2.1 q.2.2.1 q.2.2.2 l h) none
 | _=>none
noncomputable def dStruct (d:TypeDesc):Option (List Field):=match d with | .struct fs=>some fs.toList | _=>none
noncomputable def opFieldAddr (P:Program) (t:Nat) (fr:Ev) (x:Operand) (f:Nat) (st:St):Option R :=
 ob (P.underlying t) fun d=>ob (dStruct d) fun fields=>ob (opC fr x) fun c=>ob (cPtr c) fun p=>ob (place P fields f) fun q =>
 bi (Nat.beq q.2 0) none (pure1 st (.c (.ptr p.1 (Nat.add p.2 q.1))))
abbrev sAgg (s:S):Option (List C):=match s with | .agg l=>some l | _=>none
noncomputable def opField (P:Program) (t:Nat) (fr:Ev) (x:Operand) (f:Nat) (st:St):Option R :=
 ob (P.underlying t) fun d=>ob (dStruct d) fun fields=>ob (opS fr x) fun s=>ob (sAgg s) fun l=>ob (nth fields f) fun fd=>ob (partS P fd.type l fd.offset) fun s=>pure1 st s
noncomputable def opIndexAddr (P:Program) (t:Nat) (fr:Ev) (x i:Operand) (st:St):Option R :=
 ob (P.underlying t) fun d=>ob (opC fr x) fun c=>ob (opC fr i) fun j=>ob (toN j) fun i=>match d with
 | .array n e=>ob (cPtr c) fun p=>ob (szOf P e) fun z=>bi (Nat.ble (Nat.add i 1) n) (pure1 st (.c (.ptr p.1 (Nat.add p.2 (Nat.mul i z))))) none
 | .slice e=>ob (cSl c) fun q=>ob (szOf P e) fun z=>bi (Nat.ble (Nat.add i 1) q.2.2.1) (bi (Nat.beq q.2.2.2 z) (pure1 st (.c (.ptr q.1 (Nat.add q.2.1 (Nat.mul i z))))) none) none
 | _=>none
noncomputable def opIndex (P:Program) (t:Nat) (fr:Ev) (x i:Operand) (st:St):Option R :=
 ob (P.underlying t) fun d=>ob (dArr d) fun a=>ob (opS fr x) fun s=>ob (sAgg s) fun l=>ob (opC fr i) fun j=>ob (toN j) fun i =>
 ob (szOf P a.2) fun z=>bi (Nat.ble (Nat.add i 1) a.1) (ob (partS P a.2 l (Nat.mul i z)) fun s=>pure1 st s) none
noncomputable abbrev vTup (v:V):Option (List S):=V.casesOn v (fun _=>none) (fun l=>some l)
noncomputable def opExtract (fr:Ev) (x:Operand) (i:Nat) (st:St):Option R :=
 ob (fr x) fun v=>ob (vTup v) fun l=>ob (nth l i) fun s=>pure1 st s
noncomputable def opBin (P:Program) (op:BinOp) (t:Nat) (fr:Ev) (x y:Operand) (st:St):Option R :=
 ob (opC fr x) fun a=>ob (opC fr y) fun b=>ob (binB P t op a b) fun v=>pureV st v
noncomputable def unX (op:UnOp) (c:C) (st:St):Option R :=
 match op,c with
 | .not,.bool b=>pureV st (vB (bi b false true))
 | .neg,.int n=>ob (rng (0 - n)) fun v=>pureV st v
 | _,_=>none
noncomputable def convX (d:TypeDesc) (c:C) (st:St):Option R :=
 match d,c with
 | .int .u64,.int (.ofNat n)=>bi (Nat.ble n 9223372036854775807) (pure1 st (.c (.u64 n))) none
 | .int .i64,.u64 n=>bi (Nat.ble n 9223372036854775807) (pure1 st (.c (.int (.ofNat n)))) none
 | .int .i64,.int n=>ob (rng n) fun v=>pureV st v
 | _,_=>none
noncomputable def opConvert (P:Program) (src dst:Nat) (fr:Ev) (x:Operand) (st:St):Option R :=
 ob (P.underlying src) fun _=>ob (P.underlying dst) fun d=>ob (opC fr x) fun c=>convX d c st
noncomputable def nilX (c:C) (st:St):Option R :=
 match c with
 | .ptr k off=>pure1 st (.c (.ptr k off))
 | .fn f l=>pure1 st (.c (.fn f l))
 | _=>none
noncomputable def opMakeFunc (fn:Fn) (first caps:List Operand) (fr:Ev) (st:St):Option R :=
 match fn,first with
 | .func f,[]=>ob (ptrs fr caps) fun l=>pure1 st (.c (.fn f l))
 | _,_=>none
abbrev cFn (c:C):Option (Nat × List (Nat × Nat)):=match c with | .fn g l=>some (g,l) | _=>none
noncomputable def opCall (P:Program) (call:CallFn) (fr:Ev) (c:Call) (st:St):Option R :=
 ob (args fr c.args.toList) fun l=>match c.callee with
 | .builtin b=>builtinV P b c.argTypes.toList l st
 | .value f=>ob (opC fr f) fun x=>ob (cFn x) fun g=>call g.1 (app l (capV g.2)) st
 | _=>none
noncomputable def opPick (fr:Ev) (c a b:Operand) (st:St):Option R :=
 ob (opC fr c) fun x=>match x with
 | .bool t=>ob (fr (bi t a b)) fun v=>pureV st v
 | _=>none
abbrev OpF:=Program → CallFn → Ev → St → Option R
noncomputable def xMove (x:Operand):OpF:=fun _ _ fr st=>ob (fr x) (pureV st)
noncomputable def xPick (c a b:Operand):OpF:=fun _ _ fr st=>opPick fr c a b st
noncomputable def xAlloc (t:Nat):OpF:=fun P _ _ st=>ob (zeroOf P t) fun cs=>alloc st cs pC
noncomputable def xBox (_t:Nat) (x:Operand):OpF:=fun _ _ fr st=>ob (opS fr x) fun s=>alloc st s.cells pC
noncomputable def xBuild (t:Nat) (ps:Array (Nat × Operand)):OpF:=fun P _ fr st=>opBuild P t fr ps.toList st
noncomputable def xBuildSlice (t n:Nat) (ps:Array (Nat × Operand)):OpF:=fun P _ fr st=>opBuildSlice P t n fr ps.toList st
noncomputable def xLoad (t:Nat) (a:Operand):OpF:=fun P _ fr st=>opLoad P t fr a st
noncomputable def xStore (t:Nat) (a x:Operand):OpF:=fun P _ fr st=>opStore P t fr a x st
noncomputable def xNil (x:Operand):OpF:=fun _ _ fr st=>ob (opC fr x) fun c=>nilX c st
noncomputable def xBin (op:BinOp) (t:Nat) (x y:Operand) (_:Nat):OpF:=fun P _ fr st=>opBin P op t fr x y st
noncomputable def xUn (op:UnOp) (_:Nat) (x:Operand):OpF:=fun _ _ fr st=>ob (opC fr x) fun c=>unX op c st
noncomputable def xConv (src dst:Nat) (x:Operand):OpF:=fun P _ fr st=>opConvert P src dst fr x st
noncomputable def xFunc (f:Fn) (first caps:Array Operand):OpF:=fun _ _ fr st=>opMakeFunc f first.toList caps.toList fr st
noncomputable def xMakeSlice (t:Nat) (l c:Operand):OpF:=fun P _ fr st=>opMakeSlice P t fr l c st
noncomputable def xSlice (t:Nat) (x:Operand) (lo hi mx:Option Operand):OpF:=fun P _ fr st=>@Option.rec Operand (fun _=>Option R) (opSlice P t fr x lo hi st) (fun _=>none) mx
noncomputable def xFieldAddr (s:Nat) (x:Operand) (f:Nat):OpF:=fun P _ fr st=>opFieldAddr P s fr x f st
noncomputable def xField (s:Nat) (x:Operand) (f:Nat):OpF:=fun P _ fr st=>opField P s fr x f st
noncomputable def xIndexAddr (t:Nat) (x i:Operand):OpF:=fun P _ fr st=>opIndexAddr P t fr x i st
noncomputable def xIndex (t:Nat) (x i:Operand):OpF:=fun P _ fr st=>opIndex P t fr x i st
noncomputable def xExtract (x:Operand) (i:Nat):OpF:=fun _ _ fr st=>opExtract fr x i st
noncomputable def xCall (c:Call):OpF:=fun P call fr st=>opCall P call fr c st
noncomputable def xNo:OpF:=fun _ _ _ _=>none
noncomputable def evOp (op:Op):OpF :=
 @Op.rec (fun _=>OpF) xMove xMove xPick xAlloc xBox xBuild xBuildSlice (fun _ _ _ _=>xNo) xLoad xStore (fun _=>xNo) (fun _=>xNo) xNil xBin xUn xConv
  (fun _ _=>xNo) (fun _ _=>xNo) xFunc (fun _ _=>xNo) (fun _ _=>xNo) xMakeSlice xSlice xFieldAddr xField xIndexAddr xIndex (fun _ _ _ _=>xNo)
  (fun _ _ _ _=>xNo) (fun _ _ _=>xNo) (fun _ _ _ _=>xNo) (fun _ _=>xNo) (fun _ _=>xNo) (fun _=>xNo) (fun _ _ _ _=>xNo) xExtract xCall (fun _=>xNo) (fun _=>xNo)
  (fun _=>xNo) (fun _ _=>xNo) (fun _ _ _=>xNo) (fun _ _=>xNo) op
inductive Ex where
 | normal
 | exit (id:Nat)
 | ret
structure Z where
 e:Ex
 fr:Fr
 st:St
 w:List Nat
noncomputable def setD (fr:Fr) (d:Option Nat) (v:V):Fr:=@Option.rec Nat (fun _=>Fr) fr (fun t=>fr.set t (some v)) d
noncomputable def wantX (t:Bool) (v:V):Option Bool :=
 match v with
 | .s (.c (.bool b))=>some (bi b t (bi t false true))
 | .tup []=>some false
 | _=>none
noncomputable def want (fr:Fr) (ops:List Oper) (g:Option (Nat × Bool)):Option Bool :=
 @Option.rec (Nat × Bool) (fun _=>Option Bool) (some true) (fun q=>ob (nth ops q.1) fun p=>ob p.dst fun d=>ob (fr.get d) (wantX q.2)) g
noncomputable def memb (l:List Nat) (n:Nat):Bool:=@List.rec Nat (fun _=>Bool) false (fun a _ ih=>bi (Nat.beq a n) true ih) l
noncomputable def below (lo:Nat) (l r:List Nat):List Nat :=
 @List.rec Nat (fun _=>List Nat) r (fun a _ ih=>bi (Nat.ble (Nat.add a 1) lo) (a :: ih) ih) l
noncomputable def evOps (P:Program) (call:CallFn) (lo:Nat) (all:List Oper) (l:List Oper):Fr → St → List Nat → Option Z :=
 @List.rec Oper (fun _=>Fr → St → List Nat → Option Z) (fun fr st w=>some ⟨.normal,fr,st,w⟩)
  (fun o _ ih fr st w=>ob (want fr all o.guard) fun b=>bi b
   (ob (evOp o.op P call (opnd fr) st) fun r=>ih (setD fr o.dst r.v) r.st (below lo r.w w))
   (ih (setD fr o.dst (.tup [])) st w)) l
noncomputable def binds (e:Edge):Bool:=match e.ground with | .textOnly _=>false | .gcOnly _=>false | _=>true
noncomputable def orEdges (acc:List Nat) (l:List Edge):Option Nat :=
 @List.rec Edge (fun _=>Option Nat) (some 0) (fun e _ ih=>bi (binds e) (ob ih fun s=>ob (nth acc e.on) fun m=>some (Nat.lor s (Nat.lor (Nat.pow 2 e.on) m))) ih) l
noncomputable def masks (l:List Oper):List Nat → Option (List Nat) :=
 @List.rec Oper (fun _=>List Nat → Option (List Nat)) (fun acc=>some acc) (fun o _ ih acc=>ob (orEdges acc o.after.toList) fun m=>ih (app acc [m])) l
structure En where
 i:Nat
 rd:Option (List Nat)
 w:List Nat
 a:Nat
 b:Nat
noncomputable def isCall (o:Op):Bool :=
 match o with
 | .call c=>(match c.callee with
  | .value _=>true
  | _=>false)
 | _=>false
noncomputable def delAll (l:List Nat) (m:T Blk):T Blk:=@List.rec Nat (fun _=>T Blk) m (fun k _ ih=>ih.set k none) l
noncomputable def restore (l:List Nat) (m0 m:T Blk):T Blk:=@List.rec Nat (fun _=>T Blk) m (fun k _ ih=>ih.set k (m0.get k)) l
noncomputable def hidden (mask:Nat) (l:List En):Option (List Nat) :=
 @List.rec En (fun _=>Option (List Nat)) (some []) (fun e _ ih=>ob ih fun r=>bi (Nat.testBit mask e.i) (some r)
  (bi (Nat.beq e.a e.b) (some (app e.w r)) (bi (Nat.beq (Nat.add e.a 1) e.b) (some (e.a :: app e.w r)) none))) l
noncomputable def disj (l r:List Nat):Bool:=@List.rec Nat (fun _=>Bool) true (fun a _ ih=>bi (memb r a) false ih) l
noncomputable def outside (a b:Nat) (l:List Nat):Bool:=@List.rec Nat (fun _=>Bool) true (fun k _ ih=>bi (Nat.ble (Nat.add k 1) a) ih (bi (Nat.ble b k) ih false)) l
noncomputable def nilB {α:Type} (l:List α):Bool:=@List.rec α (fun _=>Bool) true (fun _ _ _=>false) l
noncomputable def clashR (rd:Option (List Nat)) (e:En):Bool:=@Option.rec (List Nat) (fun _=>Bool) false (fun r=>bi (disj r e.w) (outside e.a e.b r) false) rd
noncomputable def clashW (w:List Nat) (e:En):Bool:=@Option.rec (List Nat) (fun _=>Bool) (nilB w) (fun r=>disj w r) e.rd
noncomputable def clear (f:En → Bool) (mask:Nat) (l:List En):Bool :=
 @List.rec En (fun _=>Bool) true (fun e _ ih=>bi (Nat.testBit mask e.i) ih (bi (f e) ih false)) l
structure SA where
 es:List En
 ew:List En
 fr:Fr
 st:St
 w:List Nat
noncomputable def noteR (i nb:Nat) (r:R) (es:List En):List En :=
 @Option.rec (List Nat) (fun _=>List En) (⟨i,none,r.w,nb,r.st.nb⟩ :: es) (fun l=>bi (nilB l) es (⟨i,some l,r.w,nb,r.st.nb⟩ :: es)) r.rd
noncomputable def noteW (i nb:Nat) (rd:Option (List Nat)) (r:R) (ew:List En):List En :=
 bi (nilB r.w) (bi (Nat.beq r.st.nb nb) ew (⟨i,rd,r.w,nb,r.st.nb⟩ :: ew)) (⟨i,rd,r.w,nb,r.st.nb⟩ :: ew)
noncomputable def anyOp (P:Program) (call:CallFn) (lo:Nat) (o:Oper) (m i:Nat) (s:SA):Option SA :=
 ob (evOp o.op P call (opnd s.fr) s.st) fun r=>bi (clear (clashR r.rd) m s.ew) (bi (bi (nilB r.w) true (clear (clashW r.w) m s.es))
  (some ⟨noteR i s.st.nb r s.es,noteW i s.st.nb r.rd r s.ew,setD s.fr o.dst r.v,r.st,below lo r.w s.w⟩) none) none
noncomputable def anyCall (P:Program) (call:CallFn) (lo:Nat) (o:Oper) (m i:Nat) (s:SA):Option SA :=
 ob (hidden m s.ew) fun h=>ob (evOp o.op P call (opnd s.fr) ⟨delAll h s.st.mem,s.st.nb,s.st.nt⟩) fun r=>bi (bi (nilB r.w) true (clear (clashW r.w) m s.es))
  (some ⟨⟨i,none,r.w,s.st.nb,r.st.nb⟩ :: s.es,noteW i s.st.nb none r s.ew,setD s.fr o.dst r.v,⟨restore h s.st.mem r.st.mem,r.st.nb,r.st.nt⟩,below lo r.w s.w⟩) none
noncomputable def anyStep (P:Program) (call:CallFn) (lo:Nat) (all:List Oper) (o:Oper) (m i:Nat) (s:SA):Option SA :=
 ob (want s.fr all o.guard) fun b=>bi b (bi (isCall o.op) (anyCall P call lo o m i s) (anyOp P call lo o m i s)) (some ⟨s.es,s.ew,setD s.fr o.dst (.tup []),s.st,s.w⟩)
noncomputable def evAny (P:Program) (call:CallFn) (lo:Nat) (all:List Oper) (l:List Oper):List Nat → Nat → SA → Option SA :=
 @List.rec Oper (fun _=>List Nat → Nat → SA → Option SA) (fun _ _ s=>some s)
  (fun o _ ih ms i s=>List.casesOn ms none fun m ms=>ob (anyStep P call lo all o m i s) fun s'=>ih ms (Nat.add i 1) s') l
noncomputable def slots (ops:Array Oper) (x:Oper) (mask:Nat) (l:List Oper):Nat → Bool :=
 @List.rec Oper (fun _=>Nat → Bool) (fun _=>true) (fun y _ ih j=>bi (Nat.testBit mask j) (ih (Nat.add j 1)) (bi (Oper.apart ops x y) (ih (Nat.add j 1)) false)) l
noncomputable def slotsAll (ops:Array Oper) (l:List Oper):List Nat → List Oper → Bool :=
 @List.rec Oper (fun _=>List Nat → List Oper → Bool) (fun _ _=>true)
  (fun x _ ih ms before=>List.casesOn ms false fun m ms=>bi (slots ops x m before 0) (ih ms (app before [x])) false) l
noncomputable def regOk (ops:Array Oper):Option (List Nat):=ob (masks ops.toList []) fun ms=>bi (slotsAll ops ops.toList ms []) (some ms) none
noncomputable def loopZ (f:Fr → St → List Nat → Option Z) (n:Nat):Fr → St → List Nat → Option Z :=
 @Nat.rec (fun _=>Fr → St → List Nat → Option Z) (fun _ _ _=>none)
  (fun _ ih fr st w=>ob (f fr st w) fun z=>Ex.casesOn z.e (ih z.fr z.st z.w) (fun _=>some z) (some z)) n
noncomputable def seqZ (z:Z) (g:Fr → St → List Nat → Option Z):Option Z:=Ex.casesOn z.e (g z.fr z.st z.w) (fun _=>some z) (some z)
noncomputable def blockZ (id:Nat) (z:Z):Option Z:=Ex.casesOn z.e (some z) (fun i=>bi (Nat.beq i id) (some ⟨.normal,z.fr,z.st,z.w⟩) (some z)) (some z)
noncomputable def evCode (P:Program) (call:CallFn) (lo fuel:Nat) (c:Code):Fr → St → List Nat → Option Z :=
 @Code.rec (fun _=>Fr → St → List Nat → Option Z)
  (fun fr st w=>some ⟨.normal,fr,st,w⟩)
  (fun _ ops draw fr st w=>bi draw (ob (regOk ops) fun ms=>ob (evAny P call lo ops.toList ops.toList ms 0 ⟨[],[],fr,st,w⟩) fun s=>some ⟨.normal,s.fr,s.st,s.w⟩) (evOps P call lo ops.toList ops.toList fr st w))
  (fun _ _ fa fb fr st w=>ob (fa fr st w) fun z=>seqZ z fb)
  (fun c _ _ fa fb fr st w=>ob (opC (opnd fr) c) fun x=>match x with
   | .bool t=>bi t (fa fr st w) (fb fr st w)
   | _=>none)
  (fun id _ fb fr st w=>ob (fb fr st w) (blockZ id))
  (fun _ fb fr st w=>loopZ fb fuel fr st w)
  (fun _ _ _ _ _ _ _ _ _=>none)
  (fun i fr st w=>some ⟨.exit i,fr,st,w⟩)
  (fun _ _ _ _ _=>none)
  (fun _ fr st w=>some ⟨.normal,fr,st,w⟩)
  (fun _ _ _ _=>none)
  (fun fr st w=>some ⟨.ret,fr,st,w⟩)
  (fun _ _ _ _=>none) c
noncomputable def dOk (N:Nat) (l:List Oper):Bool:=@List.rec Oper (fun _=>Bool) true (fun o _ ih=>bi (@Option.rec Nat (fun _=>Bool) true (fun t=>Nat.ble (Nat.add t 1) N) o.dst) ih false) l
noncomputable def codeOk (N:Nat) (c:Code):Bool :=
 @Code.rec (fun _=>Bool) true (fun _ ops _=>dOk N ops.toList) (fun _ _ a b=>bi a b false) (fun _ _ _ a b=>bi a b false) (fun _ _ a=>a) (fun _ a=>a) (fun _ _ _ _ _ _=>true) (fun _=>true) (fun _ _=>true) (fun _=>true) (fun _=>true) true (fun _=>true) c
noncomputable def enter (vl:List V):Nat → Fr → Fr :=
 @List.rec V (fun _=>Nat → Fr → Fr) (fun _ fr=>fr) (fun v _ ih i fr=>ih (Nat.add i 1) (fr.set i (some v))) vl
noncomputable def res1 (P:Program) (fr:Fr) (st:St) (r:ResultVar):Option V :=
 match r with
 | .tmp t=>fr.get t
 | .cell a t=>ob (fr.get a) fun v=>ob (vC v) fun c=>ob (cPtr c) fun p=>ob (st.mem.get p.1) fun b=>ob (partS P t b.cells p.2) fun s=>some (.s s)
noncomputable def resV (P:Program) (fr:Fr) (st:St) (l:List ResultVar):Option (List V) :=
 @List.rec ResultVar (fun _=>Option (List V)) (some []) (fun r _ ih=>ob (res1 P fr st r) fun v=>ob ih fun vs=>some (v :: vs)) l
noncomputable def unS (l:List V):Option (List S):=@List.rec V (fun _=>Option (List S)) (some []) (fun v _ ih=>ob (vS v) fun s=>ob ih fun r=>some (s :: r)) l
noncomputable def tupV (l:List V):Option V :=
 match l with
 | [v]=>some v
 | l=>ob (unS l) fun r=>some (.tup r)
noncomputable def finish (P:Program) (fn:Func) (z:Z):Option R :=
 ob (resV P z.fr z.st fn.results.toList) fun vs=>ob (tupV vs) fun v=>some ⟨v,z.st,z.w,none⟩
noncomputable def leave (P:Program) (fn:Func) (z:Z):Option R:=Ex.casesOn z.e (finish P fn z) (fun _=>none) (finish P fn z)
noncomputable def runFn (P:Program) (call:CallFn) (fuel:Nat) (f:Nat) (vl:List V) (st:St):Option R :=
 ob P.funcs[f]? fun fn=>ob fn.body fun c=>bi (Nat.ble fn.ntmps 1000000) (bi (codeOk fn.ntmps c) (bi (Nat.ble (len vl) fn.ntmps) (ob (evCode P call st.nb fuel c (enter vl 0 .lf) st []) (leave P fn)) none) none) none
noncomputable def evCall (P:Program) (orc:Nat → Option (List V → St → Option R)) (fuel:Nat) (d:Nat):CallFn :=
 @Nat.rec (fun _=>CallFn) (fun _ _ _=>none)
  (fun _ ih f vl st=>@Option.rec (List V → St → Option R) (fun _=>Option R) (runFn P ih fuel f vl st) (fun g=>g vl st) (orc f)) d
end Go.SX
namespace Go.SX
theorem beq_dec (n m:Nat):Nat.beq n m = decide (n = m):=by
 rw [Bool.eq_iff_iff];simp [Nat.beq_eq]
theorem bi_eq {α:Type} (c:Bool) (a b:α):bi c a b = if c = true then a else b:=by cases c <;> rfl
theorem ob_inv {α β:Type} {x:Option α} {f:α → Option β} {b:β} (h:ob x f = some b):∃ a,x = some a∧f a = some b:=by
 cases x with
 | none=>cases h
 | some a=>exact ⟨a,rfl,h⟩
theorem bi_inv {α:Type} {c:Bool} {a:Option α} {b:α} (h:bi c a none = some b):c = true∧a = some b:=by
 cases c
 ·cases h
 ·exact ⟨rfl,h⟩
def pval:List Bool → Nat
 | []=>0
 | true :: p=>2 * pval p + 1
 | false :: p=>2 * pval p + 2
theorem pthF_succ (d n:Nat):pthF (d + 1) n = if n = 0 then [] else if n % 2 = 1 then true :: pthF d (n / 2) else false :: pthF d (n / 2 - 1):=by
 show bi (Nat.beq n 0) [] (bi (Nat.beq (Nat.mod n 2) 1) (true :: pthF d (Nat.div n 2)) (false :: pthF d (Nat.sub (Nat.div n 2) 1))) = _
 rw [bi_eq,bi_eq,beq_dec,beq_dec]
 simp only [decide_eq_true_eq]
 rfl
theorem pthF_spec:∀ d n:Nat,(n + 1 < 2 ^ d → pval (pthF d n) = n∧(pthF d n).length < d)∧(2 ^ d ≤ n + 1 → (pthF d n).length = d):=by
 intro d
 induction d with
 | zero=>intro n;simp;rfl
 | succ d ih =>
  intro n
  rw [pthF_succ]
  have hp:2 ^ (d + 1) = 2 * 2 ^ d:=by rw [Nat.pow_succ];omega
  have hpos:0 < 2 ^ d:=Nat.pow_pos (by omega)
  by_cases h0:n = 0
  ·subst h0
   simp only [if_true,pval,List.length_nil]
   refine ⟨fun _=>⟨trivial,by omega⟩,fun h=>by omega⟩
  ·rw [if_neg h0]
   by_cases h1:n % 2 = 1
   ·rw [if_pos h1]
    obtain ⟨a,b⟩:=ih (n / 2)
    refine ⟨fun h=>?_,fun h=>?_⟩
    ·obtain ⟨e,l⟩:=a (by omega)
     simp only [pval,List.length_cons,e];omega
    ·simp only [List.length_cons,b (by omega)]
   ·rw [if_neg h1]
    obtain ⟨a,b⟩:=ih (n / 2 - 1)
    refine ⟨fun h=>?_,fun h=>?_⟩
    ·obtain ⟨e,l⟩:=a (by omega)
     simp only [pval,List.length_cons,e];omega
    ·simp only [List.length_cons,b (by omega)]
theorem pth_inj {n m:Nat} (h:n ≤ 8388608) (e:pth m = pth n):m = n:=by
 have hn:=pthF_spec 24 n
 have hm:=pthF_spec 24 m
 obtain ⟨a,b⟩:=hn.1 (by omega)
 by_cases g:m + 1 < 2 ^ 24
 ·obtain ⟨c,_⟩:=hm.1 g
  have e':pthF 24 m = pthF 24 n:=e
  rw [e'] at c;omega
 ·have c:=hm.2 (by omega)
  have e':pthF 24 m = pthF 24 n:=e
  rw [e'] at c;omega
section
variable {α:Type}
theorem getP_t (l r:T α) (v:Option α) (p:List Bool):(T.nd l v r).getP (true :: p) = l.getP p:=rfl
theorem getP_f (l r:T α) (v:Option α) (p:List Bool):(T.nd l v r).getP (false :: p) = r.getP p:=rfl
theorem getP_oneP (x:Option α):∀ p q:List Bool,(T.oneP x p).getP q = if q = p then x else none
 | [],[]=>rfl
 | [],true :: q=>rfl
 | [],false :: q=>rfl
 | true :: p,[]=>rfl
 | false :: p,[]=>rfl
 | true :: p,true :: q=>by show (T.oneP x p).getP q = _;rw [getP_oneP x p q];simp
 | true :: p,false :: q=>by show (none:Option α) = _;simp
 | false :: p,true :: q=>by show (none:Option α) = _;simp
 | false :: p,false :: q=>by show (T.oneP x p).getP q = _;rw [getP_oneP x p q];simp
theorem getP_setP (x:Option α):∀ (t:T α) (p q:List Bool),(T.setP x t p).getP q = if q = p then x else t.getP q
 | .lf,p,q=>by show (T.oneP x p).getP q = _;rw [getP_oneP];rfl
 | .nd l v r,[],[]=>rfl
 | .nd l v r,[],true :: q=>rfl
 | .nd l v r,[],false :: q=>rfl
 | .nd l v r,true :: p,[]=>rfl
 | .nd l v r,false :: p,[]=>rfl
 | .nd l v r,true :: p,true :: q=>by show (T.setP x l p).getP q = _;rw [getP_setP x l p q];simp [getP_t]
 | .nd l v r,true :: p,false :: q=>by show r.getP q = _;simp [getP_f]
 | .nd l v r,false :: p,true :: q=>by show l.getP q = _;simp [getP_t]
 | .nd l v r,false :: p,false :: q=>by show (T.setP x r p).getP q = _;rw [getP_setP x r p q];simp [getP_f]
theorem get_set (t:T α) (n:Nat) (x:Option α) (m:Nat) (h:n ≤ 8388608):(t.set n x).get m = if m = n then x else t.get m:=by
 show (T.setP x t (pth n)).getP (pth m) = _
 rw [getP_setP]
 by_cases e:m = n
 ·subst e;simp
 ·have:¬ pth m = pth n:=fun g=>e (pth_inj h g)
  simp [e,this];rfl
end
theorem len_eq {α:Type}:∀ l:List α,len l = l.length
 | []=>rfl
 | _ :: l=>by show Nat.add (len l) 1 = _;rw [len_eq l];rfl
theorem app_eq {α:Type}:∀ l r:List α,app l r = l ++ r
 | [],_=>rfl
 | a :: l,r=>by show a :: app l r = _;rw [app_eq l r];rfl
theorem nth_eq {α:Type}:∀ (l:List α) (n:Nat),nth l n = l[n]?
 | [],n=>by simp [nth]
 | a :: l,0=>rfl
 | a :: l,n + 1=>by show nth l (n + 1 - 1) = _;rw [Nat.add_sub_cancel,nth_eq l n];simp
theorem dropN_eq {α:Type}:∀ (l:List α) (n:Nat),dropN l n = l.drop n
 | [],n=>by simp [dropN]
 | a :: l,0=>rfl
 | a :: l,n + 1=>by show dropN l (n + 1 - 1) = _;rw [Nat.add_sub_cancel,dropN_eq l n];simp
theorem takeN_eq {α:Type}:∀ (l:List α) (n:Nat) (r:List α),takeN l n = some r → r = l.take n∧n ≤ l.length
 | [],0,r,h=>by
  have:(some []:Option (List α)) = some r:=h
  injection this with this;subst this;simp
 | [],n + 1,r,h=>by cases h
 | a :: l,0,r,h=>by
  have:(some []:Option (List α)) = some r:=h
  injection this with this;subst this;simp
 | a :: l,n + 1,r,h=>by
  have h':ob (takeN l (n + 1 - 1)) (fun r=>some (a :: r)) = some r:=h
  obtain ⟨q,h1,h2⟩:=ob_inv h'
  rw [Nat.add_sub_cancel] at h1
  injection h2 with h2;subst h2
  obtain ⟨rfl,h3⟩:=takeN_eq l n q h1
  simp;omega
def put {α:Type} (l:List α) (n:Nat) (xs:List α):List α:=l.take n ++ xs ++ l.drop (n + xs.length)
theorem setAll_eq {α:Type}:∀ (l:List α) (n:Nat) (xs r:List α),setAll l n xs = some r → r = put l n xs∧(xs ≠ [] → n + xs.length ≤ l.length)
 | [],n,[],r,h=>by
  have:(some []:Option (List α)) = some r:=h
  injection this with this;subst this;simp [put]
 | [],n,x :: xs,r,h=>by cases h
 | a :: l,0,[],r,h=>by
  have:(some (a :: l):Option (List α)) = some r:=h
  injection this with this;subst this;simp [put]
 | a :: l,0,x :: xs,r,h=>by
  have h':ob (setAll l 0 xs) (fun r=>some (x :: r)) = some r:=h
  obtain ⟨q,h1,h2⟩:=ob_inv h'
  injection h2 with h2;subst h2
  obtain ⟨rfl,h3⟩:=setAll_eq l 0 xs q h1
  refine ⟨by simp [put],fun _=>?_⟩
  by_cases hx:xs = []
  ·subst hx;simp
  ·have:=h3 hx;simp at this ⊢;omega
 | a :: l,n + 1,xs,r,h=>by
  have h':ob (setAll l (n + 1 - 1) xs) (fun r=>some (a :: r)) = some r:=h
  obtain ⟨q,h1,h2⟩:=ob_inv h'
  rw [Nat.add_sub_cancel] at h1
  injection h2 with h2;subst h2
  obtain ⟨rfl,h3⟩:=setAll_eq l n xs q h1
  refine ⟨by simp [put,Nat.add_right_comm],fun hx=>?_⟩
  have:=h3 hx;simp;omega
end Go.SX
namespace Go.SX
structure Fix where
 code:Value
 cur:Nat → Array Value
 byte:Nat → Nat
structure TokD where
 cs:Array Value
 x:X
structure Env where
 rho:Nat → Option (Nat × Nat)
 sig:Nat → Option TokD
 fix:Fix
structure Env.le (E F:Env):Prop where
 rho:∀ k b,E.rho k = some b → F.rho k = some b
 sig:∀ j v,E.sig j = some v → F.sig j = some v
 fix:F.fix = E.fix
theorem Env.le.refl (E:Env):E.le E:=⟨fun _ _ h=>h,fun _ _ h=>h,rfl⟩
theorem Env.le.trans {E F G:Env} (h:E.le F) (g:F.le G):E.le G :=
 ⟨fun k b x=>g.rho k b (h.rho k b x),fun j v x=>g.sig j v (h.sig j v x),g.fix.trans h.fix⟩
def RelP (E:Env):List (Nat × Nat) → List Value → Prop
 | [],[]=>True
 | (k,o) :: l,v :: vs=>(∃ b s,E.rho k = some (b,s)∧v = .pointer (some ⟨b,o,none⟩))∧RelP E l vs
 | _,_=>False
/-! Texts. -/
def dig8 (n:Nat):UInt8:=UInt8.ofNat (48 + n)
def txK (a b:Nat):List UInt8:=if b % 2 = 0 then [dig8 (1 + a % 4)] else if a % 2 = 1 then [dig8 ((1 + a % 4) / 2)] else [dig8 (1 + a % 4),47,dig8 2]
def txF (a:Nat):List UInt8:=if a % 5 = 0 then [45,49] else [dig8 (a % 5 - 1)]
def txE (byte:Nat → Nat) (e:Nat × Nat):List UInt8:=if e.1 = 0 then [UInt8.ofNat e.2] else if e.1 = 1 then txK (byte e.2) (byte (e.2 + 1)) else txF (byte e.2)
def flat (f:Fix) (l:List (Nat × Nat)):List UInt8:=l.flatMap (txE f.byte)
def RelC (E:Env):C → Value → Prop
 | .bool b,v=>v = .bool b
 | .int n,v=>v = .int .i64 n
 | .u64 n,v=>v = .int .u64 n
 | .sl k o n z,v=>∃ b s c,E.rho k = some (b,s)∧v = .slice (some ⟨b,o,none⟩) n c∧n ≤ c∧o + c * z ≤ s∧c ≤ 9223372036854775807
 | .nsl,v=>v = .slice none 0 0
 | .ptr k o,v=>∃ b s,E.rho k = some (b,s)∧v = .pointer (some ⟨b,o,none⟩)
 | .nptr,v=>v = .pointer none
 | .fn f caps,v=>∃ vs:Array Value,v = .func (.func f) #[] vs∧RelP E caps vs.toList
 | .nfn,v=>v = .nilFunc
 | .cell j i x,v=>∃ cs,E.sig j = some cs∧(cs.x = x∧cs.cs[i]? = some v)∧(∀ a,v ≠ .agg a)∧(∀ a,v ≠ .tuple a)
 | .code,v=>v = E.fix.code∧(∀ a,v ≠ .agg a)∧(∀ a,v ≠ .tuple a)
 | .cur p i,v=>(E.fix.cur p)[i]? = some v∧(∀ a,v ≠ .agg a)∧(∀ a,v ≠ .tuple a)
 | .small,v=>∃ n:Nat,n ≤ 1048576∧v = .int .i64 n
 | .dr a p n,v=>v = .int .i64 (a + (E.fix.byte p % n:Nat))
 | .rg lo hi,v=>∃ n:Int,(lo ≤ n∧n ≤ hi)∧v = .int .i64 n
 | .esl,v=>∃ a c,v = .slice a 0 c
 | .str l,v=>v = .string ⟨(flat E.fix l).toArray⟩
def RelL (E:Env):List C → List Value → Prop
 | [],[]=>True
 | c :: l,v :: vs=>RelC E c v∧RelL E l vs
 | _,_=>False
def RelF (E:Env):List C → List Value → Prop
 | [],_=>True
 | c :: l,v :: vs=>RelC E c v∧RelF E l vs
 | _,_=>False
def RelS (E:Env):S → Value → Prop
 | .c x,v=>RelC E x v
 | .agg l,v=>∃ arr:Array Value,v = .agg arr∧RelL E l arr.toList
def RelT (E:Env):List S → List Value → Prop
 | [],[]=>True
 | c :: l,v :: vs=>RelS E c v∧RelT E l vs
 | _,_=>False
def RelV (E:Env):V → Value → Prop
 | .s x,v=>RelS E x v
 | .tup l,v=>∃ arr:Array Value,v = .tuple arr∧RelT E l arr.toList
def RelA (E:Env):List V → List Value → Prop
 | [],[]=>True
 | c :: l,v :: vs=>RelV E c v∧RelA E l vs
 | _,_=>False
theorem RelP.mono {E F:Env} (h:E.le F):∀ {l vs},RelP E l vs → RelP F l vs
 | [],[],_=>trivial
 | (_,_) :: _,_ :: _,⟨⟨b,s,h1,h2⟩,h3⟩=>⟨⟨b,s,h.rho _ _ h1,h2⟩,RelP.mono h h3⟩
 | [],_ :: _,x=>x
 | (_,_) :: _,[],x=>x
theorem RelC.mono {E F:Env} (h:E.le F) {c:C} {v:Value} (r:RelC E c v):RelC F c v:=by
 cases c with
 | sl k o n z=>obtain ⟨b,s,c,h1,h2,h3⟩:=r;exact ⟨b,s,c,h.rho _ _ h1,h2,h3⟩
 | ptr k o=>obtain ⟨b,s,h1,h2⟩:=r;exact ⟨b,s,h.rho _ _ h1,h2⟩
 | fn f caps=>obtain ⟨vs,h1,h2⟩:=r;exact ⟨vs,h1,h2.mono h⟩
 | cell j i x=>obtain ⟨cs,h1,h2⟩:=r;exact ⟨cs,h.sig _ _ h1,h2⟩
 | code=>obtain ⟨h1,h2⟩:=r;exact ⟨by rw [h.fix];exact h1,h2⟩
 | cur p i=>obtain ⟨h1,h2⟩:=r;exact ⟨by rw [h.fix];exact h1,h2⟩
 | dr a p n=>show v = _;rw [h.fix];exact r
 | str l=>show v = _;rw [h.fix];exact r
 | _=>exact r
theorem RelL.mono {E F:Env} (h:E.le F):∀ {l vs},RelL E l vs → RelL F l vs
 | [],[],_=>trivial
 | _ :: _,_ :: _,⟨a,b⟩=>⟨a.mono h,RelL.mono h b⟩
 | [],_ :: _,x=>x
 | _ :: _,[],x=>x
theorem RelF.mono {E F:Env} (h:E.le F):∀ {l vs},RelF E l vs → RelF F l vs
 | [],_,_=>trivial
 | _ :: _,_ :: _,⟨a,b⟩=>⟨a.mono h,RelF.mono h b⟩
 | _ :: _,[],x=>x
theorem RelS.mono {E F:Env} (h:E.le F) {c:S} {v:Value} (r:RelS E c v):RelS F c v:=by
 cases c with
 | c x=>exact RelC.mono h r
 | agg l=>obtain ⟨arr,h1,h2⟩:=r;exact ⟨arr,h1,h2.mono h⟩
theorem RelT.mono {E F:Env} (h:E.le F):∀ {l vs},RelT E l vs → RelT F l vs
 | [],[],_=>trivial
 | _ :: _,_ :: _,⟨a,b⟩=>⟨a.mono h,RelT.mono h b⟩
 | [],_ :: _,x=>x
 | _ :: _,[],x=>x
theorem RelV.mono {E F:Env} (h:E.le F) {c:V} {v:Value} (r:RelV E c v):RelV F c v:=by
 cases c with
 | s x=>exact RelS.mono h r
 | tup l=>obtain ⟨arr,h1,h2⟩:=r;exact ⟨arr,h1,h2.mono h⟩
theorem RelA.mono {E F:Env} (h:E.le F):∀ {l vs},RelA E l vs → RelA F l vs
 | [],[],_=>trivial
 | _ :: _,_ :: _,⟨a,b⟩=>⟨a.mono h,RelA.mono h b⟩
 | [],_ :: _,x=>x
 | _ :: _,[],x=>x
theorem RelC.one {E:Env} {c:C} {v:Value} (r:RelC E c v):(∀ a,v ≠ .agg a)∧(∀ a,v ≠ .tuple a):=by
 cases c with
 | sl k o n z=>obtain ⟨b,s,c,h1,rfl,h3⟩:=r;simp
 | ptr k o=>obtain ⟨b,s,h1,rfl⟩:=r;simp
 | fn f caps=>obtain ⟨vs,rfl,h2⟩:=r;simp
 | cell j i x=>obtain ⟨cs,h1,h2,h3⟩:=r;exact h3
 | code=>exact r.2
 | cur p i=>exact r.2
 | small=>obtain ⟨n,_,rfl⟩:=r;simp
 | rg lo hi=>obtain ⟨n,_,rfl⟩:=r;simp
 | esl=>obtain ⟨a,c,rfl⟩:=r;simp
 | _=>simp only [RelC] at r;subst r;simp
theorem RelC.cells {E:Env} {c:C} {v:Value} (r:RelC E c v):v.cells = #[v]:=by
 have:=r.one.1
 cases v <;> first | rfl | (exact absurd rfl (this _))
theorem RelS.cells {E:Env} {s:S} {v:Value} (r:RelS E s v):RelL E s.cells v.cells.toList:=by
 cases s with
 | c x=>have r':RelC E x v:=r;rw [r'.cells];exact ⟨r,trivial⟩
 | agg l=>obtain ⟨arr,rfl,h⟩:=r;exact h
theorem RelL.length {E:Env}:∀ {l:List C} {vs:List Value},RelL E l vs → vs.length = l.length
 | [],[],_=>rfl
 | _ :: _,_ :: _,⟨_,b⟩=>by simp [RelL.length b]
 | [],_ :: _,x=>x.elim
 | _ :: _,[],x=>x.elim
theorem RelL.get {E:Env}:∀ {l:List C} {vs:List Value} (n:Nat) (c:C),RelL E l vs → l[n]? = some c → ∃ v,vs[n]? = some v∧RelC E c v
 | [],[],n,c,_,h=>by simp at h
 | a :: l,v :: vs,0,c,⟨r,_⟩,h=>by simp at h;subst h;exact ⟨v,rfl,r⟩
 | a :: l,v :: vs,n + 1,c,⟨_,r⟩,h=>by
  simp at h
  obtain ⟨u,h1,h2⟩:=RelL.get n c r h
  exact ⟨u,by simpa using h1,h2⟩
 | [],_ :: _,_,_,x,_=>x.elim
 | _ :: _,[],_,_,x,_=>x.elim
theorem RelT.get {E:Env}:∀ {l:List S} {vs:List Value} (n:Nat) (c:S),RelT E l vs → l[n]? = some c → ∃ v,vs[n]? = some v∧RelS E c v
 | [],[],n,c,_,h=>by simp at h
 | a :: l,v :: vs,0,c,⟨r,_⟩,h=>by simp at h;subst h;exact ⟨v,rfl,r⟩
 | a :: l,v :: vs,n + 1,c,⟨_,r⟩,h=>by
  simp at h
  obtain ⟨u,h1,h2⟩:=RelT.get n c r h
  exact ⟨u,by simpa using h1,h2⟩
 | [],_ :: _,_,_,x,_=>x.elim
 | _ :: _,[],_,_,x,_=>x.elim
theorem RelF.get {E:Env}:∀ {l:List C} {vs:List Value} (n:Nat) (c:C),RelF E l vs → l[n]? = some c → ∃ v,vs[n]? = some v∧RelC E c v
 | [],_,n,c,_,h=>by simp at h
 | a :: l,v :: vs,0,c,⟨r,_⟩,h=>by simp at h;subst h;exact ⟨v,rfl,r⟩
 | a :: l,v :: vs,n + 1,c,⟨_,r⟩,h=>by
  simp at h
  obtain ⟨u,h1,h2⟩:=RelF.get n c r h
  exact ⟨u,by simpa using h1,h2⟩
 | _ :: _,[],_,_,x,_=>x.elim
theorem RelF.length {E:Env}:∀ {l:List C} {vs:List Value},RelF E l vs → l.length ≤ vs.length
 | [],_,_=>by simp
 | _ :: _,_ :: _,⟨_,b⟩=>by simpa using RelF.length b
 | _ :: _,[],x=>x.elim
theorem RelF.drop {E:Env}:∀ {l:List C} {vs:List Value} (n:Nat),RelF E l vs → RelF E (l.drop n) (vs.drop n)
 | [],_,n,_=>by simp [RelF]
 | a :: l,v :: vs,0,h=>h
 | a :: l,v :: vs,n + 1,⟨_,r⟩=>by simpa using RelF.drop n r
 | _ :: _,[],_,x=>x.elim
theorem RelF.take {E:Env}:∀ {l:List C} {vs:List Value} (n:Nat),RelF E l vs → n ≤ l.length → RelL E (l.take n) (vs.take n)
 | _,_,0,_,_=>by simp [RelL]
 | [],_,n + 1,_,h=>by simp at h
 | a :: l,v :: vs,n + 1,⟨r,q⟩,h=>by
  simp only [List.take_succ_cons]
  exact ⟨r,RelF.take n q (by simpa using h)⟩
 | _ :: _,[],_,x,_=>x.elim
theorem RelL.toF {E:Env}:∀ {l:List C} {vs:List Value},RelL E l vs → RelF E l vs
 | [],_,_=>trivial
 | _ :: _,_ :: _,⟨a,b⟩=>⟨a,RelL.toF b⟩
 | _ :: _,[],x=>x.elim
theorem RelF.set {E:Env}:∀ {l:List C} {vs:List Value} (n:Nat) (c:C) (v:Value),RelF E l vs → RelC E c v → RelF E (l.set n c) (vs.set n v)
 | [],_,n,c,v,_,_=>by simp [RelF]
 | a :: l,u :: vs,0,c,v,⟨_,q⟩,h=>⟨h,q⟩
 | a :: l,u :: vs,n + 1,c,v,⟨r,q⟩,h=>⟨r,RelF.set n c v q h⟩
 | _ :: _,[],_,_,_,x,_=>x.elim
theorem RelL.set {E:Env}:∀ {l:List C} {vs:List Value} (n:Nat) (c:C) (v:Value),RelL E l vs → RelC E c v → RelL E (l.set n c) (vs.set n v)
 | [],[],n,c,v,_,_=>by simp [RelL]
 | a :: l,u :: vs,0,c,v,⟨_,q⟩,h=>⟨h,q⟩
 | a :: l,u :: vs,n + 1,c,v,⟨r,q⟩,h=>⟨r,RelL.set n c v q h⟩
 | [],_ :: _,_,_,_,x,_=>x.elim
 | _ :: _,[],_,_,_,x,_=>x.elim
theorem RelL.append {E:Env}:∀ {l r:List C} {vs us:List Value},RelL E l vs → RelL E r us → RelL E (l ++ r) (vs ++ us)
 | [],_,[],_,_,h=>h
 | _ :: _,_,_ :: _,_,⟨a,b⟩,h=>⟨a,RelL.append b h⟩
 | [],_,_ :: _,_,x,_=>x.elim
 | _ :: _,_,[],_,x,_=>x.elim
theorem RelL.appendF {E:Env}:∀ {l r:List C} {vs us:List Value},RelL E l vs → RelF E r us → RelF E (l ++ r) (vs ++ us)
 | [],_,[],_,_,h=>h
 | _ :: _,_,_ :: _,_,⟨a,b⟩,h=>⟨a,RelL.appendF b h⟩
 | [],_,_ :: _,_,x,_=>x.elim
 | _ :: _,_,[],_,x,_=>x.elim
theorem flat_strC (f:Fix):∀ l:List UInt8,flat f (strC l) = l
 | []=>rfl
 | b :: l=>by
  have ih:=flat_strC f l
  show [UInt8.ofNat b.toNat] ++ flat f (strC l) = b :: l
  rw [ih,UInt8.ofNat_toNat]
  rfl
theorem flat_app (f:Fix) (a b:List (Nat × Nat)):flat f (a ++ b) = flat f a ++ flat f b:=List.flatMap_append
theorem ofVal_rel (E:Env) {v:Value} {c:C} (h:ofVal v = some c):RelC E c v:=by
 unfold ofVal at h
 split at h <;> first | (simp at h;done) | (injection h with h;subst h;rfl) | skip
 injection h with h;subst h
 rename_i s
 show Value.string s = .string ⟨(flat E.fix (strC s.data.toList)).toArray⟩
 rw [flat_strC]
theorem mapO_rel (E:Env):∀ {vs:List Value} {l:List C},mapO ofVal vs = some l → RelL E l vs
 | [],l,h=>by
  have h':(some []:Option (List C)) = some l:=h
  injection h' with h';subst h';trivial
 | v :: vs,l,h=>by
  have h':ob (ofVal v) (fun b=>ob (mapO ofVal vs) fun r=>some (b :: r)) = some l:=h
  obtain ⟨c,h1,h'⟩:=ob_inv h'
  obtain ⟨r,h2,h'⟩:=ob_inv h'
  injection h' with h';subst h'
  exact ⟨ofVal_rel E h1,mapO_rel E h2⟩
theorem ofConst_rel (E:Env) {v:Value} {s:S} (h:ofConst v = some s):RelS E s v:=by
 unfold ofConst at h
 split at h
 ·rename_i cs
  obtain ⟨l,h1,h⟩:=ob_inv h
  injection h with h;subst h;exact ⟨cs,rfl,mapO_rel E h1⟩
 ·obtain ⟨c,h1,h⟩:=ob_inv h
  injection h with h;subst h;exact ofVal_rel E h1
def FrOk (E:Env) (fr:Fr) (a:Act):Prop:=∀ t v,fr.get t = some v → ∃ u,a.tmps[t]? = some u∧RelV E v u
theorem FrOk.mono {E F:Env} (h:E.le F) {fr:Fr} {a:Act} (r:FrOk E fr a):FrOk F fr a :=
 fun t v ht=>let ⟨u,h1,h2⟩:=r t v ht;⟨u,h1,h2.mono h⟩
theorem opnd_rel {E:Env} {fr:Fr} {a:Act} (hf:FrOk E fr a) {x:Operand} {v:V} (h:opnd fr x = some v):RelV E v (a.eval x):=by
 cases x with
 | tmp t =>
  obtain ⟨u,h1,h2⟩:=hf t v h
  have:a.eval (.tmp t) = u:=by simp [Act.eval,h1]
  rw [this];exact h2
 | const c =>
  have h':ob (ofConst c) (fun s=>some (V.s s)) = some v:=h
  obtain ⟨s,h1,h'⟩:=ob_inv h'
  injection h' with h';subst h';exact ofConst_rel E h1
 | func f =>
  have h':some (V.s (.c (.fn f []))) = some v:=h
  injection h' with h';subst h';exact ⟨#[],rfl,trivial⟩
 | global g=>cases h
theorem vS_rel {E:Env} {v:V} {s:S} {x:Value} (h:vS v = some s) (r:RelV E v x):RelS E s x:=by
 cases v with
 | s y=>have h':some y = some s:=h
        injection h' with h';subst h';exact r
 | tup l=>cases h
theorem sC_rel {E:Env} {s:S} {c:C} {x:Value} (h:sC s = some c) (r:RelS E s x):RelC E c x:=by
 cases s with
 | c y=>have h':some y = some c:=h
        injection h' with h';subst h';exact r
 | agg l=>cases h
theorem vC_rel {E:Env} {v:V} {c:C} {x:Value} (h:vC v = some c) (r:RelV E v x):RelC E c x:=by
 obtain ⟨s,h1,h2⟩:=ob_inv h
 exact sC_rel h2 (vS_rel h1 r)
def EvOk (E:Env) (ev:Ev) (a:Act):Prop:=∀ x v,ev x = some v → RelV E v (a.eval x)
theorem FrOk.ev {E:Env} {fr:Fr} {a:Act} (hf:FrOk E fr a):EvOk E (opnd fr) a:=fun _ _ h=>opnd_rel hf h
theorem opS_rel {E:Env} {fr:Ev} {a:Act} (hf:EvOk E fr a) {x:Operand} {v:S} (h:opS fr x = some v):RelS E v (a.eval x):=by
 obtain ⟨s,h1,h2⟩:=ob_inv h
 exact vS_rel h2 (hf _ _ h1)
theorem opC_rel {E:Env} {fr:Ev} {a:Act} (hf:EvOk E fr a) {x:Operand} {v:C} (h:opC fr x = some v):RelC E v (a.eval x):=by
 obtain ⟨s,h1,h2⟩:=ob_inv h
 exact vC_rel h2 (hf _ _ h1)
theorem args_rel {E:Env} {fr:Ev} {a:Act} (hf:EvOk E fr a):∀ {l:List Operand} {vs:List V},args fr l = some vs → RelA E vs (l.map a.eval)
 | [],vs,h=>by
  have h':(some []:Option (List V)) = some vs:=h
  injection h' with h';subst h';trivial
 | x :: l,vs,h=>by
  have h':ob (fr x) (fun v=>ob (args fr l) fun r=>some (v :: r)) = some vs:=h
  obtain ⟨v,h1,h'⟩:=ob_inv h'
  obtain ⟨r,h2,h'⟩:=ob_inv h'
  injection h' with h';subst h'
  exact ⟨hf _ _ h1,args_rel hf h2⟩
theorem cPtr_inv {c:C} {p:Nat × Nat} (h:cPtr c = some p):c = .ptr p.1 p.2:=by
 cases c <;> first | (cases h;done) | (injection h with h;subst h;rfl)
theorem ptrs_rel {E:Env} {fr:Ev} {a:Act} (hf:EvOk E fr a):∀ {l:List Operand} {vs:List (Nat × Nat)},ptrs fr l = some vs → RelP E vs (l.map a.eval)
 | [],vs,h=>by
  have h':(some []:Option (List (Nat × Nat))) = some vs:=h
  injection h' with h';subst h';trivial
 | x :: l,vs,h=>by
  have h':ob (opC fr x) (fun c=>ob (cPtr c) fun p=>ob (ptrs fr l) fun r=>some (p :: r)) = some vs:=h
  obtain ⟨c,h1,h'⟩:=ob_inv h'
  obtain ⟨p,h2,h'⟩:=ob_inv h'
  obtain ⟨r,h3,h'⟩:=ob_inv h'
  injection h' with h';subst h'
  have:=opC_rel hf h1
  rw [cPtr_inv h2] at this
  exact ⟨this,ptrs_rel hf h3⟩
theorem RelA.append {E:Env}:∀ {l r:List V} {vs us:List Value},RelA E l vs → RelA E r us → RelA E (l ++ r) (vs ++ us)
 | [],_,[],_,_,h=>h
 | _ :: _,_,_ :: _,_,⟨a,b⟩,h=>⟨a,RelA.append b h⟩
 | [],_,_ :: _,_,x,_=>x.elim
 | _ :: _,_,[],_,x,_=>x.elim
theorem capV_rel {E:Env}:∀ {l:List (Nat × Nat)} {vs:List Value},RelP E l vs → RelA E (capV l) vs
 | [],[],_=>trivial
 | (_,_) :: _,_ :: _,⟨h,r⟩=>⟨h,capV_rel r⟩
 | [],_ :: _,x=>x.elim
 | (_,_) :: _,[],x=>x.elim
end Go.SX
namespace Go.SX
structure Toks where
 TV:Nat → List Nat → World → TokD → Prop
 stab:∀ j F w w' cs,(∀ b ∈ F,w'.heap[b]? = w.heap[b]?) → TV j F w cs → TV j F w' cs
 base:Fix → List Nat → World → Prop
 bstab:∀ f F w w',(∀ b ∈ F,w'.heap[b]? = w.heap[b]?) → base f F w → base f F w'
 bcode:∀ f F w,base f F w → ∃ a n cp,f.code = .slice a n cp∧n ≤ 1048576
def BlkOk (E:Env) (w:World) (k:Nat) (b:Blk):Prop :=
 ∃ p s arr ty,E.rho k = some (p,s)∧w.heap[p]? = some (.cells arr ty (0,0))∧arr.size = s∧RelF E b.cells arr.toList
def CodeOk (E:Env):Prop:=∃ a n cp,E.fix.code = .slice a n cp∧n ≤ 1048576
structure GI (K:Toks) (E:Env) (w:World):Prop where
 low:∀ k p s,E.rho k = some (p,s) → p < w.heap.size
 tok:∀ j cs,E.sig j = some cs → ∃ F,(∀ b ∈ F,b < w.heap.size∧∀ k s,E.rho k ≠ some (b,s))∧K.TV j F w cs
 base:∃ F,(∀ b ∈ F,b < w.heap.size∧∀ k s,E.rho k ≠ some (b,s))∧K.base E.fix F w
theorem GI.code {K:Toks} {E:Env} {w:World} (h:GI K E w):CodeOk E:=by
 obtain ⟨F,_,hb⟩:=h.base
 exact K.bcode _ _ _ hb
structure Step (K:Toks) (E:Env) (w:World) (F:Env) (u:World) (W:List Nat) (nb nb' nt nt':Nat):Prop where
 le:E.le F
 newB:∀ k,F.rho k ≠ E.rho k → nb ≤ k∧k < nb'
 newT:∀ j,F.sig j ≠ E.sig j → nt ≤ j∧j < nt'
 os:u.os = w.os
 tape:u.tape = w.tape
 output:u.output = w.output
 size:w.heap.size ≤ u.heap.size
 kept:∀ b,b < w.heap.size → (∀ k ∈ W,∀ s,E.rho k ≠ some (b,s)) → u.heap[b]? = w.heap[b]?
 fresh:∀ k p s,nb ≤ k → k < nb' → F.rho k = some (p,s) → w.heap.size ≤ p ∨ ∃ k0 ∈ W,∃ s',E.rho k0 = some (p,s')
 gi:GI K F u
structure Out (K:Toks) (E:Env) (w:World) (st:St) (r:R) (F:Env) (u:World) (v:Value):Prop where
 step:Step K E w F u r.w st.nb r.st.nb st.nt r.st.nt
 val:RelV F r.v v
 blk:∀ k b,(k ∈ r.w ∨ st.nb ≤ k∧k < r.st.nb) → r.st.mem.get k = some b → BlkOk F u k b
 inj:∀ k k' b b' p s s',(k ∈ r.w ∨ st.nb ≤ k∧k < r.st.nb) → (k' ∈ r.w ∨ st.nb ≤ k'∧k' < r.st.nb) → r.st.mem.get k = some b → r.st.mem.get k' = some b' →
  F.rho k = some (p,s) → F.rho k' = some (p,s') → k = k'
structure StOk (st:St):Prop where
 nb:st.nb ≤ 8388608
 dom:∀ k,st.nb ≤ k → st.mem.get k = none
structure Eff (st:St) (r:R):Prop where
 nb:st.nb ≤ r.st.nb
 nt:st.nt ≤ r.st.nt
 same:∀ k,k ∉ r.w → k < st.nb → r.st.mem.get k = st.mem.get k
 live:∀ k ∈ r.w,k < st.nb∧∃ b,st.mem.get k = some b
 ok:StOk r.st
 rdw:∀ l,r.rd = some l → ∀ k ∈ r.w,k ∈ l
def inR (rd:Option (List Nat)) (k:Nat):Prop :=
 match rd with
 | none=>True
 | some l=>k ∈ l
structure Pre (K:Toks) (E:Env) (w:World) (st:St) (r:R):Prop where
 gi:GI K E w
 blk:∀ k b,inR r.rd k → st.mem.get k = some b → BlkOk E w k b
 inj:∀ k k' b b' p s s',inR r.rd k → inR r.rd k' → st.mem.get k = some b → st.mem.get k' = some b' → E.rho k = some (p,s) → E.rho k' = some (p,s') → k = k'
 newB:∀ k,st.nb ≤ k → k < r.st.nb → E.rho k = none
 newT:∀ j,st.nt ≤ j → j < r.st.nt → E.sig j = none
def Runs (P:Program) (o:Oper) (a:Act) (w:World) (v:Value) (u:World):Prop :=
 (execOp a.eval o).run P w = .ok (.value v) u ∨ ((execOp a.eval o).run P w = .ok .skip u∧v = undef)
theorem StOk.lt {st:St} (h:StOk st) {k:Nat} {b:Blk} (hk:st.mem.get k = some b):k < st.nb:=by
 by_cases g:k < st.nb
 ·exact g
 ·rw [h.dom k (by omega)] at hk;simp at hk
theorem Step.refl {K:Toks} {E:Env} {w:World} (h:GI K E w) (W:List Nat) (nb nt:Nat):Step K E w E w W nb nb nt nt :=
 ⟨.refl E,fun _ h=>absurd rfl h,fun _ h=>absurd rfl h,rfl,rfl,rfl,Nat.le_refl _,fun _ _ _=>rfl,fun _ _ _ h1 h2=>by omega,h⟩
theorem eff_pure {st:St} (h:StOk st) (v:V) (rd:Option (List Nat)):Eff st ⟨v,st,[],rd⟩ :=
 ⟨Nat.le_refl _,Nat.le_refl _,fun _ _ _=>rfl,fun _ h=>(by simp at h),h,fun _ _ _ h=>(by simp at h)⟩
theorem out_pure {K:Toks} {E:Env} {w:World} {st:St} {v:V} {x:Value} {rd:Option (List Nat)} (h:GI K E w) (hv:RelV E v x):Out K E w st ⟨v,st,[],rd⟩ E w x :=
 ⟨.refl h _ _ _,hv,fun k b h=>by rcases h with h | h;· simp at h
                                 ·simp at h;omega,
  fun k k' b b' p s s' h=>by rcases h with h | h;· simp at h
                             ·simp at h;omega⟩
section
variable {P:Program}
theorem run_isAggB {t:Nat} {b:Bool} (h:isAggB P t = some b) (w:World):(isAgg t).run P w = .ok b w:=by
 obtain ⟨d,hu,h⟩:=ob_inv h
 unfold isAgg
 simp only [Sem.run_bind,run_underlying hu,Result.andThen_ok]
 cases d <;> simp at h ⊢ <;> (subst h;rfl)
theorem run_szOf {t n:Nat} (h:szOf P t = some n) (w:World):(sizeOf t).run P w = .ok n w:=by
 obtain ⟨i,hi,h⟩:=ob_inv h
 injection h with h;subst h
 simp [sizeOf,typeInfo,hi]
theorem run_zeroOf {t:Nat} {cs:List C} (h:zeroOf P t = some cs) (w:World) (E:Env):∃ z,(zeroValue t).run P w = .ok z w∧RelL E cs z.cells.toList:=by
 obtain ⟨i,hi,h⟩:=ob_inv h
 obtain ⟨z,hz,h⟩:=ob_inv h
 obtain ⟨s,hs,h⟩:=ob_inv h
 injection h with h;subst h
 exact ⟨z,by simp [zeroValue,typeInfo,hi,hz],(ofConst_rel E hs).cells⟩
theorem add_none (b o n:Nat):Addr.add ⟨b,o,none⟩ n = ⟨b,o + n,none⟩:=Addr.add_lit b o n
theorem cell_of {w:World} {p:Nat} {arr:Array Value} {ty:Nat} {fz:Nat × Nat} (h:w.heap[p]? = some (.cells arr ty fz)) (o:Nat):w.cell? ⟨p,o,none⟩ = arr[o]?:=by
 simp [World.cell?,h]
theorem run_loadVar {t:Nat} {E:Env} {w:World} {p off:Nat} {arr:Array Value} {ty:Nat} {fz:Nat × Nat} {cs:List C} {s:S}
 (h:w.heap[p]? = some (.cells arr ty fz)) (hr:RelF E cs arr.toList) (hp:partS P t cs off = some s) :
 ∃ v,(loadVar t ⟨p,off,none⟩).run P w = .ok v w∧RelS E s v:=by
 obtain ⟨b,hb,hp⟩:=ob_inv hp
 cases b with
 | true =>
  obtain ⟨n,hn,hp⟩:=ob_inv hp
  obtain ⟨l,hk,hp⟩:=ob_inv hp
  injection hp with hp;subst hp
  rw [dropN_eq] at hk
  obtain ⟨rfl,hle⟩:=takeN_eq _ _ _ hk
  have hrd:=(hr.drop off).take n hle
  refine ⟨.agg ((arr.toList.drop off).take n).toArray,?_,_,rfl,by simpa using hrd⟩
  have hlen:((arr.toList.drop off).take n).length = n:=by rw [hrd.length,List.length_take];omega
  have hl:=run_loadCells_list (P:=P) w ⟨p,off,none⟩ ((arr.toList.drop off).take n) (fun j v hj=>by
   rw [add_none,cell_of h]
   rw [List.getElem?_take] at hj
   split at hj
   ·rw [List.getElem?_drop] at hj;simpa using hj
   ·simp at hj)
  rw [hlen] at hl
  simp [loadVar,run_isAggB hb,run_szOf hn,hl]
 | false =>
  obtain ⟨c,hk,hp⟩:=ob_inv hp
  injection hp with hp;subst hp
  rw [nth_eq] at hk
  obtain ⟨v,hv,hrel⟩:=hr.get off c hk
  refine ⟨v,?_,hrel⟩
  have:w.cell? ⟨p,off,none⟩ = some v:=by rw [cell_of h];simpa using hv
  simp [loadVar,run_isAggB hb,run_load,this]
theorem run_part {t:Nat} {E:Env} {w:World} {off:Nat} {arr:Array Value} {cs:List C} {s:S}
 (hr:RelL E cs arr.toList) (hp:partS P t cs off = some s) :
 ∃ v,(part t arr off).run P w = .ok v w∧RelS E s v:=by
 obtain ⟨b,hb,hp⟩:=ob_inv hp
 cases b with
 | true =>
  obtain ⟨n,hn,hp⟩:=ob_inv hp
  obtain ⟨l,hk,hp⟩:=ob_inv hp
  injection hp with hp;subst hp
  rw [dropN_eq] at hk
  obtain ⟨rfl,hle⟩:=takeN_eq _ _ _ hk
  have hrd:=(hr.toF.drop off).take n hle
  refine ⟨.agg (arr.extract off (off + n)),?_,_,rfl,?_⟩
  ·simp [part,run_isAggB hb,run_szOf hn]
  ·simpa [List.drop_take,Array.toList_extract,List.extract_eq_drop_take'] using hrd
 | false =>
  obtain ⟨c,hk,hp⟩:=ob_inv hp
  injection hp with hp;subst hp
  rw [nth_eq] at hk
  obtain ⟨v,hv,hrel⟩:=hr.get off c hk
  refine ⟨v,?_,hrel⟩
  have:arr[off]? = some v:=by simpa using hv
  simp [part,run_isAggB hb,this]
end
end Go.SX
namespace Go.SX
def Sound (P:Program) (fr:Ev) (st:St) (o:Oper) (r:R):Prop :=
 Eff st r∧∀ (K:Toks) (E:Env) (w:World) (a:Act),EvOk E fr a → Pre K E w st r → ∃ v F u,Runs P o a w v u∧Out K E w st r F u v
section
variable {P:Program} {fr:Ev} {st:St} {o:Oper}
theorem sound_pure {v:V} {rd:Option (List Nat)} (hst:StOk st)
 (h:∀ (E:Env) (w:World) (a:Act),EvOk E fr a → ∃ x,(execOp a.eval o).run P w = .ok (.value x) w∧RelV E v x):Sound P fr st o ⟨v,st,[],rd⟩:=by
 refine ⟨eff_pure hst v rd,fun K E w a hf hp=>?_⟩
 obtain ⟨x,hr,hv⟩:=h E w a hf
 exact ⟨x,E,w,.inl hr,out_pure hp.gi hv⟩
theorem sound_read {v:V} {k:Nat} {b:Blk} (hst:StOk st) (hb:st.mem.get k = some b)
 (h:∀ (E:Env) (w:World) (a:Act),EvOk E fr a → BlkOk E w k b → ∃ x,(execOp a.eval o).run P w = .ok (.value x) w∧RelV E v x):Sound P fr st o ⟨v,st,[],some [k]⟩:=by
 refine ⟨eff_pure hst v _,fun K E w a hf hp=>?_⟩
 obtain ⟨x,hr,hv⟩:=h E w a hf (hp.blk k b (by simp [inR]) hb)
 exact ⟨x,E,w,.inl hr,out_pure hp.gi hv⟩
theorem snd_move {x:Operand} {r:R} (hst:StOk st) (ho:o.op = .move x ∨ o.op = .assign x) (h:ob (fr x) (pureV st) = some r):Sound P fr st o r:=by
 obtain ⟨v,h1,h⟩:=ob_inv h
 injection h with h;subst h
 refine sound_pure hst fun E w a hf=>⟨a.eval x,?_,hf _ _ h1⟩
 rcases ho with ho | ho <;> (unfold execOp;rw [ho];rfl)
theorem snd_pick {c x y:Operand} {r:R} (hst:StOk st) (ho:o.op = .pick c x y) (h:opPick fr c x y st = some r):Sound P fr st o r:=by
 obtain ⟨z,h1,h⟩:=ob_inv h
 cases z with
 | bool t =>
  obtain ⟨v,h2,h⟩:=ob_inv h
  injection h with h;subst h
  refine sound_pure hst fun E w a hf=>⟨a.eval (bi t x y),?_,hf _ _ h2⟩
  have hc:a.eval c = .bool t:=opC_rel hf h1
  unfold execOp;rw [ho]
  cases t <;> simp [hc,asBool,bi]
 | _=>cases h
theorem snd_nil {x:Operand} {r:R} (hst:StOk st) (ho:o.op = .nilCheck x) (h:ob (opC fr x) (fun c=>nilX c st) = some r):Sound P fr st o r:=by
 obtain ⟨z,h1,h⟩:=ob_inv h
 cases z with
 | ptr k off =>
  injection h with h;subst h
  refine sound_pure hst fun E w a hf=>?_
  have hc:=opC_rel hf h1
  refine ⟨a.eval x,?_,hc⟩
  obtain ⟨b,s,_,hc⟩:=hc
  unfold execOp;rw [ho];simp only [hc];rfl
 | fn f l =>
  injection h with h;subst h
  refine sound_pure hst fun E w a hf=>?_
  have hc:=opC_rel hf h1
  refine ⟨a.eval x,?_,hc⟩
  obtain ⟨vs,hc,_⟩:=hc
  unfold execOp;rw [ho];simp only [hc];rfl
 | _=>cases h
theorem snd_load {t:Nat} {x:Operand} {r:R} (hst:StOk st) (ho:o.op = .load t x) (h:opLoad P t fr x st = some r):Sound P fr st o r:=by
 obtain ⟨c,h1,h⟩:=ob_inv h
 obtain ⟨p,h2,h⟩:=ob_inv h
 obtain ⟨b,h3,h⟩:=ob_inv h
 obtain ⟨s,h4,h⟩:=ob_inv h
 injection h with h;subst h
 refine sound_read hst h3 fun E w a hf hb=>?_
 have hc:=opC_rel hf h1
 rw [cPtr_inv h2] at hc
 obtain ⟨q,n,hq,hc⟩:=hc
 obtain ⟨q',n',arr,ty,hq',hh,_,hr⟩:=hb
 rw [hq] at hq';injection hq' with hq';injection hq' with e1 e2;subst e1;subst e2
 obtain ⟨v,hv,hs⟩:=run_loadVar (P:=P) (t:=t) hh hr h4
 refine ⟨v,?_,hs⟩
 unfold execOp;rw [ho]
 simp [Instr.loadAt,hc,Instr.sureAddr,hv]
theorem snd_field {t f:Nat} {x:Operand} {r:R} (hst:StOk st) (ho:o.op = .field t x f) (h:opField P t fr x f st = some r):Sound P fr st o r:=by
 obtain ⟨d,h1,h⟩:=ob_inv h
 obtain ⟨fs,h2,h⟩:=ob_inv h
 obtain ⟨s,h3,h⟩:=ob_inv h
 obtain ⟨l,h4,h⟩:=ob_inv h
 obtain ⟨fd,h5,h⟩:=ob_inv h
 obtain ⟨s',h6,h⟩:=ob_inv h
 injection h with h;subst h
 refine sound_pure hst fun E w a hf=>?_
 cases d <;> first | (cases h2;done) | skip
 rename_i fields
 injection h2 with h2;subst h2
 cases s with
 | c y=>cases h4
 | agg l' =>
  injection h4 with h4;subst h4
  obtain ⟨arr,ha,hr⟩:=opS_rel hf h3
  rw [nth_eq] at h5
  obtain ⟨v,hv,hs⟩:=run_part (P:=P) (w:=w) (t:=fd.type) hr h6
  refine ⟨v,?_,hs⟩
  have h5':fields[f]? = some fd:=by simpa using h5
  unfold execOp;rw [ho]
  simp [Instr.field,run_underlying h1,h5',ha,asAgg,hv]
theorem toN_inv {c:C} {n:Nat} (h:toN c = some n):c = .int n:=by
 obtain ⟨i,h1,h⟩:=ob_inv h
 cases c with
 | int k =>
  injection h1 with h1;subst h1
  cases k with
  | ofNat m=>injection h with h;subst h;rfl
  | negSucc m=>cases h
 | _=>cases h1
theorem dSlice_inv {d:TypeDesc} {e:Nat} (h:dSlice d = some e):d = .slice e:=by
 cases d <;> first | (cases h;done) | (injection h with h;subst h;rfl)
theorem dArr_inv {d:TypeDesc} {e:Nat × Nat} (h:dArr d = some e):d = .array e.1 e.2:=by
 cases d <;> first | (cases h;done) | (injection h with h;subst h;rfl)
theorem dStruct_inv {d:TypeDesc} {l:List Field} (h:dStruct d = some l):∃ fs,d = .struct fs∧l = fs.toList:=by
 cases d <;> first | (cases h;done) | (injection h with h;subst h;exact ⟨_,rfl,rfl⟩)
theorem cSl_inv {c:C} {q:Nat × Nat × Nat × Nat} (h:cSl c = some q):c = .sl q.1 q.2.1 q.2.2.1 q.2.2.2:=by
 cases c <;> first | (cases h;done) | (injection h with h;subst h;rfl)
theorem sAgg_inv {s:S} {l:List C} (h:sAgg s = some l):s = .agg l:=by
 cases s <;> first | (cases h;done) | (injection h with h;subst h;rfl)
theorem vTup_inv {v:V} {l:List S} (h:vTup v = some l):v = .tup l:=by
 cases v <;> first | (cases h;done) | (injection h with h;subst h;rfl)
theorem cFn_inv {c:C} {q:Nat × List (Nat × Nat)} (h:cFn c = some q):c = .fn q.1 q.2:=by
 cases c <;> first | (cases h;done) | (injection h with h;subst h;rfl)
theorem cInt_inv {c:C} {n:Int} (h:cInt c = some n):c = .int n:=by
 cases c <;> first | (cases h;done) | (injection h with h;subst h;rfl)
theorem ble_inv {a b:Nat} (h:Nat.ble a b = true):a ≤ b:=Nat.le_of_ble_eq_true h
theorem beq_inv {a b:Nat} (h:Nat.beq a b = true):a = b:=Nat.eq_of_beq_eq_true h
theorem snd_index {t:Nat} {x i:Operand} {r:R} (hst:StOk st) (ho:o.op = .index t x i) (h:opIndex P t fr x i st = some r):Sound P fr st o r:=by
 obtain ⟨d,h1,h⟩:=ob_inv h
 obtain ⟨q,h2,h⟩:=ob_inv h
 obtain ⟨s,h3,h⟩:=ob_inv h
 obtain ⟨l,h4,h⟩:=ob_inv h
 obtain ⟨j,h5,h⟩:=ob_inv h
 obtain ⟨n,h6,h⟩:=ob_inv h
 obtain ⟨z,h7,h⟩:=ob_inv h
 obtain ⟨h8,h⟩:=bi_inv h
 obtain ⟨s',h9,h⟩:=ob_inv h
 injection h with h;subst h
 refine sound_pure hst fun E w a hf=>?_
 rw [dArr_inv h2] at h1
 have hs:=opS_rel hf h3
 rw [sAgg_inv h4] at hs
 obtain ⟨arr,ha,hr⟩:=hs
 have hi:=opC_rel hf h5
 rw [toN_inv h6] at hi
 have hi':a.eval i = .int .i64 n:=hi
 have h8':=ble_inv h8
 have hlt:n < q.1:=h8'
 obtain ⟨v,hv,hs⟩:=run_part (P:=P) (w:=w) (t:=q.2) hr h9
 refine ⟨v,?_,hs⟩
 unfold execOp;rw [ho]
 have hv':(part q.2 arr (n * z)).run P w = .ok v w:=hv
 simp [Instr.index,run_underlying h1,ha,hi',asIntOf,run_szOf h7,hlt,hv']
theorem snd_fieldAddr {t f:Nat} {x:Operand} {r:R} (hst:StOk st) (ho:o.op = .fieldAddr t x f) (h:opFieldAddr P t fr x f st = some r):Sound P fr st o r:=by
 obtain ⟨d,h1,h⟩:=ob_inv h
 obtain ⟨fs,h2,h⟩:=ob_inv h
 obtain ⟨c,h3,h⟩:=ob_inv h
 obtain ⟨p,h4,h⟩:=ob_inv h
 obtain ⟨q,h5,h⟩:=ob_inv h
 have h6:Nat.beq q.2 0 = false∧pure1 st (.c (.ptr p.1 (Nat.add p.2 q.1))) = some r:=by
  cases hq:Nat.beq q.2 0
  ·rw [hq] at h;exact ⟨rfl,h⟩
  ·rw [hq] at h;cases h
 obtain ⟨h6,h⟩:=h6
 injection h with h;subst h
 refine sound_pure hst fun E w a hf=>?_
 obtain ⟨fields,rfl,rfl⟩:=dStruct_inv h2
 obtain ⟨fd,g1,h5⟩:=ob_inv h5
 obtain ⟨n,g2,h5⟩:=ob_inv h5
 injection h5 with h5;subst h5
 rw [nth_eq] at g1
 have g1':fields[f]? = some fd:=by simpa using g1
 have hn:n ≠ 0:=by
  intro e;subst e
  exact absurd h6 (by simp [Nat.beq])
 have hc:=opC_rel hf h3
 rw [cPtr_inv h4] at hc
 obtain ⟨b,s,hb,hc⟩:=hc
 refine ⟨.pointer (some ⟨b,p.2 + fd.offset,none⟩),?_,b,s,hb,rfl⟩
 unfold execOp;rw [ho]
 simp [Instr.fieldAt,run_underlying h1,g1',Instr.sureAddr,hc,fieldPlace,run_szOf g2,hn,add_none]
theorem snd_indexAddr {t:Nat} {x i:Operand} {r:R} (hst:StOk st) (ho:o.op = .indexAddr t x i) (h:opIndexAddr P t fr x i st = some r):Sound P fr st o r:=by
 obtain ⟨d,h1,h⟩:=ob_inv h
 obtain ⟨c,h2,h⟩:=ob_inv h
 obtain ⟨j,h3,h⟩:=ob_inv h
 obtain ⟨n,h4,h⟩:=ob_inv h
 cases d with
 | slice e =>
  obtain ⟨q,h5,h⟩:=ob_inv h
  obtain ⟨z,h6,h⟩:=ob_inv h
  obtain ⟨h7,h⟩:=bi_inv h
  obtain ⟨h8,h⟩:=bi_inv h
  injection h with h;subst h
  refine sound_pure hst fun E w a hf=>?_
  have hc:=opC_rel hf h2
  rw [cSl_inv h5] at hc
  obtain ⟨b,s,cp,hb,hc,_,_⟩:=hc
  have hi:=opC_rel hf h3
  rw [toN_inv h4] at hi
  have hi':a.eval i = .int .i64 n:=hi
  have hlt:n < q.2.2.1:=ble_inv h7
  have hz:=beq_inv h8
  subst hz
  refine ⟨.pointer (some ⟨b,q.2.1 + n * q.2.2.2,none⟩),?_,b,s,hb,rfl⟩
  unfold execOp;rw [ho]
  simp [Instr.indexAt,run_underlying h1,hc,hi',asIntOf,hlt,run_szOf h6,add_none]
 | array m e =>
  obtain ⟨q,h5,h⟩:=ob_inv h
  obtain ⟨z,h6,h⟩:=ob_inv h
  obtain ⟨h7,h⟩:=bi_inv h
  injection h with h;subst h
  refine sound_pure hst fun E w a hf=>?_
  have hc:=opC_rel hf h2
  rw [cPtr_inv h5] at hc
  obtain ⟨b,s,hb,hc⟩:=hc
  have hi:=opC_rel hf h3
  rw [toN_inv h4] at hi
  have hi':a.eval i = .int .i64 n:=hi
  have hlt:n < m:=ble_inv h7
  refine ⟨.pointer (some ⟨b,q.2 + n * z,none⟩),?_,b,s,hb,rfl⟩
  unfold execOp;rw [ho]
  simp [Instr.indexAt,run_underlying h1,hc,hi',asIntOf,Instr.sureAddr,hlt,run_szOf h6,add_none]
 | _=>cases h
theorem snd_extract {i:Nat} {x:Operand} {r:R} (hst:StOk st) (ho:o.op = .extract x i) (h:opExtract fr x i st = some r):Sound P fr st o r:=by
 obtain ⟨v,h1,h⟩:=ob_inv h
 obtain ⟨l,h2,h⟩:=ob_inv h
 obtain ⟨s,h3,h⟩:=ob_inv h
 injection h with h;subst h
 refine sound_pure hst fun E w a hf=>?_
 have hv:=hf _ _ h1
 rw [vTup_inv h2] at hv
 obtain ⟨arr,ha,hr⟩:=hv
 rw [nth_eq] at h3
 obtain ⟨u,hu,hs⟩:=hr.get i s h3
 refine ⟨u,?_,hs⟩
 have hu':arr[i]? = some u:=by simpa using hu
 unfold execOp;rw [ho]
 simp [Instr.extract,ha,hu']
theorem snd_makeFunc {f:Fn} {first caps:Array Operand} {r:R} (hst:StOk st) (ho:o.op = .makeFunc f first caps) (h:opMakeFunc f first.toList caps.toList fr st = some r):Sound P fr st o r:=by
 unfold opMakeFunc at h
 split at h
 ·rename_i g hnil
  obtain ⟨l,h1,h⟩:=ob_inv h
  injection h with h;subst h
  refine sound_pure hst fun E w a hf=>?_
  refine ⟨.func (.func g) #[] (caps.map a.eval),?_,caps.map a.eval,rfl,by simpa using ptrs_rel hf h1⟩
  have hfirst:first = #[]:=by simpa using hnil
  unfold execOp;rw [ho]
  simp [Instr.makeFunc,hfirst]
 ·cases h
end
end Go.SX
