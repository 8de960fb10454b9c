/-
 Shared texts (X2).
-/
import Derived.Test.YtchbnlkambncnaaGreatDoorX1
import Derived.IntWalk
import Derived.Laws.Concat
import Derived.Laws.Strings
import Derived.Laws.Bits64b
import Derived.Laws.Rows
import Derived.Laws.Tables
import Derived.Great.BuildSlice
import Derived.Laws.AppendOwn
namespace Go.SX
theorem ible_eq (a b:Int):ible a b = decide (a ≤ b):=by
 rw [Bool.eq_iff_iff,decide_eq_true_eq]
 cases a <;> cases b
 ·show Nat.ble _ _ = true ↔ _;rw [Nat.ble_eq];simp [Int.ofNat_le]
 ·show (false = true) ↔ _;simp;omega
 ·show (true = true) ↔ _;simp;omega
 ·show Nat.ble _ _ = true ↔ _;rw [Nat.ble_eq];omega
theorem ibeq_eq (a b:Int):ibeq a b = (a == b):=by
 rw [Bool.eq_iff_iff,beq_iff_eq]
 cases a <;> cases b
 ·show Nat.beq _ _ = true ↔ _;rw [Nat.beq_eq];exact ⟨fun h=>by rw [h],fun h=>Int.ofNat.inj h⟩
 ·show (false = true) ↔ _;simp
 ·show (false = true) ↔ _;simp
 ·show Nat.beq _ _ = true ↔ _;rw [Nat.beq_eq];simp
theorem wrap_in {n:Int} (h1:-9223372036854775808 ≤ n) (h2:n ≤ 9223372036854775807):IntKind.i64.wrap n = n:=IntWalk.i64_in n ⟨h1,h2⟩
theorem rng_inv {n:Int} {v:V} (h:rng n = some v):v = vI n∧IntKind.i64.wrap n = n:=by
 obtain ⟨h1,h⟩:=bi_inv h
 obtain ⟨h2,h⟩:=bi_inv h
 injection h with h;subst h
 rw [ible_eq,decide_eq_true_eq] at h1 h2
 exact ⟨rfl,wrap_in h1 h2⟩
section
variable {P:Program} {fr:Ev} {st:St} {o:Oper}
theorem cmpI_run {op:BinOp} {a b:Int} {v:V} (h:cmpI op a b = some v) (t:TypeId) (x y:Operand) (E:Env) (w:World) :
 ∃ u,(do eqGuard op t x y (.int .i64 a) (.int .i64 b);binOp op t (.int .i64 a) (.int .i64 b):Sem Value).run P w = .ok u w∧RelV E v u:=by
 have hg:eqGuard op t x y (.int .i64 a) (.int .i64 b) = pure ():=eqGuard_at_int op t x y _ _ _
 rw [hg]
 simp only [pure_bind]
 have hbool:∀ p:Bool,RelV E (vB p) (.bool p):=fun p=>rfl
 cases op <;> first | (cases h;done) | skip
 ·obtain ⟨rfl,hw⟩:=rng_inv h;exact ⟨.int .i64 (a + b),by rw [binOp_add];simp [Op.intArith,hw],rfl⟩
 ·obtain ⟨rfl,hw⟩:=rng_inv h;exact ⟨.int .i64 (a - b),by rw [binOp_sub];simp [Op.intArith,hw],rfl⟩
 ·obtain ⟨rfl,hw⟩:=rng_inv h;exact ⟨.int .i64 (a * b),by rw [binOp_mul];simp [Op.intArith,hw],rfl⟩
 ·have hz:ibeq b 0 = false∧rng (Int.tdiv a b) = some v:=by
   cases hq:ibeq b 0
   ·exact ⟨rfl,by have h':bi (ibeq b 0) none (rng (Int.tdiv a b)) = some v:=h
                  rw [hq] at h';exact h'⟩
   ·have h':bi (ibeq b 0) none (rng (Int.tdiv a b)) = some v:=h
    rw [hq] at h';cases h'
  obtain ⟨hz,h⟩:=hz
  rw [ibeq_eq] at hz
  have hz':b ≠ 0:=by simpa using hz
  obtain ⟨rfl,hw⟩:=rng_inv h
  exact ⟨.int .i64 (a.tdiv b),by rw [binOp_quo];simp [Op.intDiv,hz',hw],rfl⟩
 ·have hz:ibeq b 0 = false∧rng (Int.tmod a b) = some v:=by
   cases hq:ibeq b 0
   ·exact ⟨rfl,by have h':bi (ibeq b 0) none (rng (Int.tmod a b)) = some v:=h
                  rw [hq] at h';exact h'⟩
   ·have h':bi (ibeq b 0) none (rng (Int.tmod a b)) = some v:=h
    rw [hq] at h';cases h'
  obtain ⟨hz,h⟩:=hz
  rw [ibeq_eq] at hz
  have hz':b ≠ 0:=by simpa using hz
  obtain ⟨rfl,hw⟩:=rng_inv h
  exact ⟨.int .i64 (a.tmod b),by rw [binOp_rem];simp [Op.intDiv,hz'],rfl⟩
 all_goals injection h with h;subst h
 ·exact ⟨.bool (a == b),by rw [binOp_eql];rfl,by rw [ibeq_eq];exact hbool _⟩
 ·exact ⟨.bool (a != b),by rw [binOp_neq];rfl,by rw [ibeq_eq];cases hq:(a == b) <;> simp [bne,hq,RelV,RelS,RelC]⟩
 ·exact ⟨.bool (decide (a < b)),by rw [binOp_lss];rfl,by
   rw [ible_eq]
   by_cases hq:b ≤ a
   ·simp [hq,RelV,RelS,RelC]
   ·simp [hq,RelV,RelS,RelC,Int.not_le.1 hq]⟩
 ·exact ⟨.bool (decide (a ≤ b)),by rw [binOp_leq];rfl,by rw [ible_eq];exact hbool _⟩
 ·exact ⟨.bool (decide (a > b)),by rw [binOp_gtr];rfl,by
   rw [ible_eq]
   by_cases hq:a ≤ b
   ·simp [hq,RelV,RelS,RelC]
   ·simp [hq,RelV,RelS,RelC];omega⟩
 ·exact ⟨.bool (decide (a ≥ b)),by rw [binOp_geq];rfl,by rw [ible_eq];exact hbool _⟩
theorem isBool_inv {d:TypeDesc} (h:isBool d = true):d = .bool:=by cases d <;> first | rfl | (cases h;done)
theorem isSlice_inv {d:TypeDesc} (h:isSlice d = true):∃ e,d = .slice e:=by cases d <;> first | exact ⟨_,rfl⟩ | (cases h;done)
theorem eqB_run {op:BinOp} {b:Bool} {v:V} (h:eqB op b = some v) (t:TypeId) (p q:Value) (E:Env) (w:World)
 (h1:binOp .eql t p q = (do pure (.bool (← Op.equal t p q)))) (h2:binOp .neq t p q = (do pure (.bool (!(← Op.equal t p q)))))
 (he:(Op.equal t p q).run P w = .ok b w):∃ u,(binOp op t p q).run P w = .ok u w∧RelV E v u:=by
 cases op <;> first | (cases h;done) | skip
 ·injection h with h;subst h
  exact ⟨.bool b,by rw [h1];simp [he],rfl⟩
 ·injection h with h;subst h
  exact ⟨.bool (!b),by rw [h2];simp [he],by cases b <;> rfl⟩
theorem drOk_inv {a b:Int} {n:Nat} (h:drOk a b n = true):(-1000000 ≤ a∧a ≤ 1000000)∧(-1000000 ≤ b∧b ≤ 1000000)∧n ≤ 1000000∧1 ≤ n:=by
 unfold drOk at h
 simp only [Bool.and_eq_true,ible_eq,decide_eq_true_eq,Nat.ble_eq] at h
 omega
theorem equal_bool {t:TypeId} (ht:P.underlying t = some .bool) (a b:Bool) (w:World):(Op.equal t (.bool a) (.bool b)).run P w = .ok (a == b) w:=by
 unfold Op.equal Op.maxDepth Op.equalIn
 simp [run_underlying ht]
theorem equal_slice {t e:TypeId} (ht:P.underlying t = some (.slice e)) (a:Option Addr) (n c:Nat) (w:World):(Op.equal t (.slice a n c) (.slice none 0 0)).run P w = .ok a.isNone w:=by
 unfold Op.equal Op.maxDepth Op.equalIn
 cases a <;> simp [run_underlying ht]
theorem drI_run {op:BinOp} {b:Int} {p n:Nat} {a:Int} {v:V} (h:drI op b p n a = some v) (t:TypeId) (x y:Operand) (E:Env) (w:World) :
 ∃ u,(do eqGuard op t x y (.int .i64 (b + (E.fix.byte p % n:Nat))) (.int .i64 a);binOp op t (.int .i64 (b + (E.fix.byte p % n:Nat))) (.int .i64 a):Sem Value).run P w = .ok u w∧RelV E v u:=by
 rw [eqGuard_at_int]
 simp only [pure_bind]
 unfold drI at h
 cases op <;> first | (cases h;done) | skip
 all_goals
  obtain ⟨hb,h⟩:=bi_inv h
  obtain ⟨h1,h2,h3,h4⟩:=drOk_inv hb
  have hm:E.fix.byte p % n < n:=Nat.mod_lt _ h4
 ·injection h with h;subst h
  refine ⟨.int .i64 (b + (E.fix.byte p % n:Nat) - a),?_,?_⟩
  ·rw [binOp_sub];simp only [Op.intArith,Sem.run_pure];rw [wrap_in (by omega) (by omega)]
  ·show _ = Value.int .i64 _;congr 1;omega
 all_goals
  generalize E.fix.byte p % n = m at *
  obtain ⟨hc,h⟩:=bi_inv h
  injection h with h;subst h
  rw [ible_eq,decide_eq_true_eq] at hc
 ·refine ⟨.bool false,?_,rfl⟩
  rw [binOp_lss]
  have:decide (b + (m:Int) < a) = false:=by simp;omega
  rw [this];rfl
 ·refine ⟨.bool true,?_,rfl⟩
  rw [binOp_leq]
  have:decide (b + (m:Int) ≤ a) = true:=by simp;omega
  rw [this];rfl
 ·refine ⟨.bool false,?_,rfl⟩
  rw [binOp_gtr]
  have:decide (b + (m:Int) > a) = false:=by simp;omega
  rw [this];rfl
 ·refine ⟨.bool true,?_,rfl⟩
  rw [binOp_geq]
  have:decide (b + (m:Int) ≥ a) = true:=by simp;omega
  rw [this];rfl
theorem eqT_inv:∀ {a b:List (Nat × Nat)},eqT a b = true → a = b
 | [],[],_=>rfl
 | [],_ :: _,h=>by cases h
 | _ :: _,[],h=>by cases h
 | (p,q) :: a,(r,s) :: b,h=>by
  have h':bi (bi (Nat.beq p r) (Nat.beq q s) false) (eqT a b) false = true:=h
  cases h1:Nat.beq p r with
  | false=>rw [h1] at h';cases h'
  | true =>
   cases h2:Nat.beq q s with
   | false=>rw [h1,h2] at h';cases h'
   | true =>
    rw [h1,h2] at h'
    rw [beq_inv h1,beq_inv h2,eqT_inv (show eqT a b = true from h')]
theorem allB_flat (f:Fix):∀ {a:List (Nat × Nat)},allB a = true → (flat f a).map UInt8.toNat = a.map (·.2)∧∀ e ∈ a,e.1 = 0
 | [],_=>⟨rfl,by simp⟩
 | (p,q) :: a,h=>by
  have h':bi (Nat.beq p 0) (bi (Nat.ble q 255) (allB a) false) false = true:=h
  cases h1:Nat.beq p 0 with
  | false=>rw [h1] at h';cases h'
  | true =>
   cases h2:Nat.ble q 255 with
   | false=>rw [h1,h2] at h';cases h'
   | true =>
    rw [h1,h2] at h'
    obtain ⟨g1,g2⟩:=allB_flat f (show allB a = true from h')
    have hp:=beq_inv h1
    subst hp
    have hq:=Nat.le_of_ble_eq_true h2
    refine ⟨?_,fun e he=>?_⟩
    ·show ([UInt8.ofNat q] ++ flat f a).map UInt8.toNat = q :: a.map (·.2)
     rw [List.map_append,g1]
     simp [UInt8.toNat_ofNat']
     omega
    ·rcases List.mem_cons.1 he with rfl | he
     ·rfl
     ·exact g2 e he
theorem hasB_flat (f:Fix):∀ {a:List (Nat × Nat)},hasB a = true → flat f a ≠ []
 | [],h=>by cases h
 | (p,q) :: a,h=>by
  have h':bi (Nat.beq p 0) true (hasB a) = true:=h
  intro hn
  have hn':txE f.byte (p,q) ++ flat f a = []:=hn
  obtain ⟨e1,e2⟩:=List.append_eq_nil_iff.1 hn'
  cases h1:Nat.beq p 0 with
  | false =>
   rw [h1] at h'
   exact hasB_flat f h' e2
  | true =>
   have hp:=beq_inv h1
   subst hp
   simp [txE] at e1
theorem nilT_inv {a:List (Nat × Nat)} (h:nilT a = true):a = []:=by cases a <;> first | rfl | cases h
theorem bi3s {c d:Bool} (h:bi c d false = true):c = true∧d = true:=by cases c <;> first | (cases h;done) | exact ⟨rfl,h⟩
theorem eqStr_ok (f:Fix) {a b:List (Nat × Nat)} {r:Bool} (h:eqStr a b = some r):(flat f a == flat f b) = r:=by
 unfold eqStr at h
 cases h1:eqT a b with
 | true =>
  rw [h1] at h
  injection h with h
  rw [← h,eqT_inv h1];exact beq_self_eq_true _
 | false =>
  rw [h1] at h
  cases h2:bi (allB a) (allB b) false with
  | true =>
   rw [h2] at h
   injection h with h
   obtain ⟨g1,g2⟩:=bi3s h2
   obtain ⟨e1,z1⟩:=allB_flat f g1
   obtain ⟨e2,z2⟩:=allB_flat f g2
   rw [← h]
   rw [beq_eq_false_iff_ne]
   intro hc
   have hm:a.map (·.2) = b.map (·.2):=by rw [← e1,← e2,hc]
   have hab:a = b:=by
    clear h h1 h2 g1 g2 e1 e2 hc
    induction a generalizing b with
    | nil=>cases b with
     | nil=>rfl
     | cons _ _=>cases hm
    | cons x a ih=>cases b with
     | nil=>cases hm
     | cons y b =>
      simp only [List.map_cons,List.cons.injEq] at hm
      have hx:=z1 x (List.mem_cons_self ..)
      have hy:=z2 y (List.mem_cons_self ..)
      rw [ih (fun e he=>z1 e (List.mem_cons_of_mem _ he)) (fun e he=>z2 e (List.mem_cons_of_mem _ he)) hm.2]
      cases x;cases y
      simp only at hx hy hm
      rw [hx,hy,hm.1]
   subst hab
   have:∀ l:List (Nat × Nat),eqT l l = true:=by
    intro l
    induction l with
    | nil=>rfl
    | cons x l ih =>
     show bi (bi (Nat.beq x.1 x.1) (Nat.beq x.2 x.2) false) (eqT l l) false = true
     rw [ih,Nat.beq_refl,Nat.beq_refl]
   rw [this] at h1
   cases h1
  | false =>
   rw [h2] at h
   cases h3:bi (nilT a) (hasB b) false with
   | true =>
    rw [h3] at h
    injection h with h
    obtain ⟨g1,g2⟩:=bi3s h3
    rw [← h,beq_eq_false_iff_ne,nilT_inv g1]
    exact (hasB_flat f g2).symm
   | false =>
    rw [h3] at h
    cases h4:bi (nilT b) (hasB a) false with
    | true =>
     rw [h4] at h
     injection h with h
     obtain ⟨g1,g2⟩:=bi3s h4
     rw [← h,beq_eq_false_iff_ne,nilT_inv g1]
     exact hasB_flat f g2
    | false=>rw [h4] at h;cases h
theorem flat_len (f:Fix):∀ l:List (Nat × Nat),(flat f l).length ≤ 3 * l.length
 | []=>Nat.le_refl _
 | e :: l=>by
  have ih:=flat_len f l
  have h:(txE f.byte e).length ≤ 3:=by
   unfold txE txK txF
   split
   ·simp
   ·split
    ·split
     ·simp
     ·split <;> simp
    ·split <;> simp
  show (txE f.byte e ++ flat f l).length ≤ _
  simp only [List.length_append,List.length_cons]
  omega
theorem str_run {op:BinOp} {a b:List (Nat × Nat)} {v:V} (h:strX op a b = some v) (t:TypeId) (x y:Operand) (E:Env) (w:World) :
 ∃ u,(do eqGuard op t x y (.string ⟨(flat E.fix a).toArray⟩) (.string ⟨(flat E.fix b).toArray⟩);binOp op t (.string ⟨(flat E.fix a).toArray⟩) (.string ⟨(flat E.fix b).toArray⟩):Sem Value).run P w = .ok u w∧RelV E v u:=by
 have hg:∀ p q:ByteArray,eqGuard op t x y (.string p) (.string q) = pure ():=fun p q=>by cases op <;> rfl
 rw [hg,pure_bind]
 unfold strX at h
 cases op <;> first | (cases h;done) | skip
 ·obtain ⟨hb,h⟩:=bi_inv h
  injection h with h;subst h
  have hb':len a + len b ≤ 1048576:=ble_inv hb
  rw [len_eq,len_eq] at hb'
  have h1:=flat_len E.fix a
  have h2:=flat_len E.fix b
  rw [binOp_string_add]
  refine ⟨_,run_string_add_sum w _ _ (by show (flat E.fix a).toArray.size + (flat E.fix b).toArray.size ≤ _;simp only [List.size_toArray];omega),?_⟩
  rw [app_eq]
  show Value.string _ = Value.string ⟨(flat E.fix (a ++ b)).toArray⟩
  rw [flat_app,ByteArray.mk_append_mk]
 ·obtain ⟨r,h1,h⟩:=ob_inv h
  injection h with h;subst h
  rw [binOp_string_eql,ByteArray.toList_mk,ByteArray.toList_mk,eqStr_ok E.fix h1]
  exact ⟨.bool r,rfl,rfl⟩
 ·obtain ⟨r,h1,h⟩:=ob_inv h
  injection h with h;subst h
  rw [binOp_string_neq,ByteArray.toList_mk,ByteArray.toList_mk,eqStr_ok E.fix h1]
  exact ⟨.bool !r,rfl,by cases r <;> rfl⟩
theorem binX_run {d:TypeDesc} {op:BinOp} {c c':C} {v:V} {t:TypeId} (hu:P.underlying t = some d) (h:binX d op c c' = some v) (x y:Operand) (E:Env) (w:World) (p q:Value)
 (hp:RelC E c p) (hq:RelC E c' q):∃ u,(do eqGuard op t x y p q;binOp op t p q:Sem Value).run P w = .ok u w∧RelV E v u:=by
 unfold binX at h
 split at h
 ·rename_i a b
  obtain ⟨hb,h⟩:=bi_inv h
  have hp':p = .bool a:=hp
  have hq':q = .bool b:=hq
  subst hp';subst hq'
  rw [isBool_inv hb] at hu
  have he:bi a b (bi b false true) = (a == b):=by cases a <;> cases b <;> rfl
  rw [he] at h
  rw [eqGuard_at_bool]
  simp only [pure_bind]
  exact eqB_run h t _ _ E w rfl rfl (equal_bool hu a b w)
 ·rename_i a b
  have hp':p = .int .u64 a:=hp
  have hq':q = .int .u64 b:=hq
  subst hp';subst hq'
  cases op <;> first | (cases h;done) | skip
  ·-- add
   obtain ⟨hb,h⟩:=bi_inv h
   injection h with h;subst h
   have hb':a + b ≤ 18446744073709551615:=ble_inv hb
   rw [eqGuard_at_int]
   refine ⟨.int .u64 ((a + b:Nat):Int),?_,rfl⟩
   rw [pure_bind,binOp_add]
   simp only [Op.intArith,Sem.run_pure]
   rw [IntKind.wrap_u64]
   congr 2
   rw [← Int.natCast_add];omega
  ·-- mul
   obtain ⟨hb,h⟩:=bi_inv h
   injection h with h;subst h
   have hb':a * b ≤ 18446744073709551615:=ble_inv hb
   rw [eqGuard_at_int]
   refine ⟨.int .u64 ((a * b:Nat):Int),?_,rfl⟩
   rw [pure_bind,binOp_mul]
   simp only [Op.intArith,Sem.run_pure]
   rw [IntKind.wrap_u64]
   congr 2
   rw [← Int.natCast_mul]
   generalize a * b = k at *
   omega
  ·-- and
   obtain ⟨hb,h⟩:=bi_inv h
   obtain ⟨hc,h⟩:=bi_inv h
   injection h with h;subst h
   have hb':a ≤ 1048576:=ble_inv hb
   have hc':=beq_inv hc
   subst hc'
   rw [eqGuard_at_int]
   refine ⟨.int .u64 (a:Int),?_,rfl⟩
   rw [pure_bind]
   have h2:=bits_and_u64_nat a 4294967295 (by omega) (by omega)
   have e2:a &&& 4294967295 = a % 4294967296:=Nat.and_two_pow_sub_one_eq_mod a 32
   rw [e2,Nat.mod_eq_of_lt (by omega)] at h2
   have e3:binOp BinOp.and t (.int .u64 (a:Int)) (.int .u64 ((4294967295:Nat):Int)) = (pure (.int .u64 (bits .and .u64 (a:Int) ((4294967295:Nat):Int))):Sem Value):=rfl
   rw [e3,Sem.run_pure]
   exact congrArg (fun x=>Result.ok (Value.int .u64 x) w) h2
  rotate_left
  ·-- gtr
   injection h with h;subst h
   rw [eqGuard_at_int]
   refine ⟨.bool (decide ((a:Int) > (b:Int))),by rw [pure_bind,binOp_gtr];rfl,?_⟩
   show RelV E (.s (.c (.bool (bi (Nat.ble a b) false true)))) _
   by_cases g:a ≤ b
   ·have:decide ((a:Int) > (b:Int)) = false:=by simp;omega
    rw [this,Nat.ble_eq_true_of_le g];rfl
   ·have:decide ((a:Int) > (b:Int)) = true:=by simp;omega
    have hn:Nat.ble a b = false:=by
     cases hq:Nat.ble a b with
     | false=>rfl
     | true=>exact absurd (ble_inv hq) g
    rw [this,hn];rfl
  obtain ⟨hb,h⟩:=bi_inv h
  injection h with h;subst h
  rw [eqGuard_at_int]
  have hb':b ≤ 63:=ble_inv hb
  refine ⟨.int .u64 ((a / 2 ^ b:Nat):Int),?_,rfl⟩
  rw [pure_bind,binOp_shr]
  have h64:min b IntKind.u64.bits = b:=by show min b 64 = b;omega
  have hn:¬ ((b:Int) < 0):=by omega
  simp only [Op.shift,hn,if_false,Int.toNat_natCast,h64,Sem.run_pure]
  congr 2
  rw [Int.fdiv_eq_ediv_of_nonneg _ (by exact_mod_cast Nat.zero_le _)]
  norm_cast
 ·rename_i b
  cases op <;> first | (cases h;done) | skip
  obtain ⟨hb,h⟩:=bi_inv h
  injection h with h;subst h
  obtain ⟨n,hn,rfl⟩:=hp
  have hq':q = .int .i64 b:=hq
  subst hq'
  rw [eqGuard_at_int]
  rw [ible_eq,decide_eq_true_eq] at hb
  refine ⟨.bool false,?_,rfl⟩
  rw [pure_bind,binOp_gtr]
  have:decide ((n:Int) > b) = false:=by simp;omega
  rw [this];rfl
 ·rename_i a b pp n
  cases op <;> first | (cases h;done) | skip
  obtain ⟨hb,h⟩:=bi_inv h
  injection h with h;subst h
  have hp':p = .int .i64 a:=hp
  have hq':q = .int .i64 (b + (E.fix.byte pp % n:Nat)):=hq
  subst hp';subst hq'
  obtain ⟨h1,h2,h3,h4⟩:=drOk_inv hb
  have hm:E.fix.byte pp % n < n:=Nat.mod_lt _ h4
  rw [eqGuard_at_int]
  refine ⟨.int .i64 (a + (b + (E.fix.byte pp % n:Nat))),?_,?_⟩
  ·rw [pure_bind,binOp_add];simp only [Op.intArith,Sem.run_pure];rw [wrap_in (by omega) (by omega)]
  ·show _ = Value.int .i64 _;rw [Int.add_assoc]
 ·rename_i b pp n a
  have hp':p = .int .i64 (b + (E.fix.byte pp % n:Nat)):=hp
  have hq':q = .int .i64 a:=hq
  subst hp';subst hq'
  exact drI_run h t x y E w
 ·rename_i lo hi a
  obtain ⟨n,⟨g1,g2⟩,hp'⟩:=hp
  have hq':q = .int .i64 a:=hq
  subst hp';subst hq'
  rw [eqGuard_at_int]
  simp only [pure_bind]
  unfold rgI at h
  cases op <;> first | (cases h;done) | skip
  all_goals
   obtain ⟨hc,h⟩:=bi_inv h
   injection h with h;subst h
   rw [ible_eq,decide_eq_true_eq] at hc
  ·refine ⟨.bool false,?_,rfl⟩
   rw [binOp_lss]
   have:decide (n < a) = false:=by simp;omega
   rw [this];rfl
  ·refine ⟨.bool true,?_,rfl⟩
   rw [binOp_leq]
   have:decide (n ≤ a) = true:=by simp;omega
   rw [this];rfl
  ·refine ⟨.bool false,?_,rfl⟩
   rw [binOp_gtr]
   have:decide (n > a) = false:=by simp;omega
   rw [this];rfl
  ·refine ⟨.bool true,?_,rfl⟩
   rw [binOp_geq]
   have:decide (n ≥ a) = true:=by simp;omega
   rw [this];rfl
 ·rename_i b pp n b' pp' n'
  obtain ⟨g1,k1⟩:=bi_inv h
  obtain ⟨g2,k2⟩:=bi_inv k1
  obtain ⟨g3,k3⟩:=bi_inv k2
  clear k1 k2 h
  rw [ibeq_eq,beq_iff_eq] at g1
  have g2':=beq_inv g2
  have g3':=beq_inv g3
  subst g1;subst g2';subst g3'
  have hp':p = .int .i64 (b + (E.fix.byte pp % n:Nat)):=hp
  have hq':q = .int .i64 (b + (E.fix.byte pp % n:Nat)):=hq
  subst hp';subst hq'
  rw [eqGuard_at_int]
  simp only [pure_bind]
  generalize b + (E.fix.byte pp % n:Nat) = a
  cases op <;> first | (cases k3;done) | skip
  ·injection k3 with h;subst h
   exact ⟨.bool (a == a),by rw [binOp_eql];rfl,by simp [RelV,RelS,RelC]⟩
  ·injection k3 with h;subst h
   exact ⟨.bool (a != a),by rw [binOp_neq];rfl,by simp [bne,RelV,RelS,RelC]⟩
 ·obtain ⟨hb,h⟩:=bi_inv h
  obtain ⟨e,rfl⟩:=isSlice_inv hb
  have hp':p = .slice none 0 0:=hp
  have hq':q = .slice none 0 0:=hq
  subst hp';subst hq'
  rw [eqGuard_at_slice]
  simp only [pure_bind]
  exact eqB_run h t _ _ E w rfl rfl (equal_slice hu none 0 0 w)
 ·obtain ⟨hb,h⟩:=bi_inv h
  obtain ⟨e,rfl⟩:=isSlice_inv hb
  obtain ⟨g,s,cp,_,rfl,_⟩:=hp
  have hq':q = .slice none 0 0:=hq
  subst hq'
  rw [eqGuard_at_slice]
  simp only [pure_bind]
  exact eqB_run h t _ _ E w rfl rfl (equal_slice hu _ _ _ w)
 ·have hp':p = .string ⟨_⟩:=hp
  have hq':q = .string ⟨_⟩:=hq
  subst hp';subst hq'
  exact str_run h t x y E w
 ·cases h
theorem snd_bin {op:BinOp} {t t':Nat} {x y:Operand} {r:R} (hst:StOk st) (ho:o.op = .binOp op t x y t') (h:opBin P op t fr x y st = some r):Sound P fr st o r:=by
 obtain ⟨c,h1,h⟩:=ob_inv h
 obtain ⟨c',h2,h⟩:=ob_inv h
 obtain ⟨v,h3,h⟩:=ob_inv h
 injection h with h;subst h
 refine sound_pure hst fun E w a hf=>?_
 have r1:=opC_rel hf h1
 have r2:=opC_rel hf h2
 have key:∃ u,(do eqGuard op t x y (a.eval x) (a.eval y);binOp op t (a.eval x) (a.eval y):Sem Value).run P w = .ok u w∧RelV E v u:=by
  unfold binB at h3
  cases hx:cInt c with
  | none =>
   rw [hx] at h3
   obtain ⟨d,hu,h3⟩:=ob_inv h3
   exact binX_run hu h3 x y E w _ _ r1 r2
  | some i =>
   rw [hx] at h3
   cases hy:cInt c' with
   | none =>
    rw [hy] at h3
    obtain ⟨d,hu,h3⟩:=ob_inv h3
    exact binX_run hu h3 x y E w _ _ r1 r2
   | some j =>
    rw [hy] at h3
    rw [cInt_inv hx] at r1
    rw [cInt_inv hy] at r2
    have e1:a.eval x = .int .i64 i:=r1
    have e2:a.eval y = .int .i64 j:=r2
    rw [e1,e2]
    exact cmpI_run h3 t x y E w
 obtain ⟨u,hu,hv⟩:=key
 refine ⟨u,?_,hv⟩
 unfold execOp;rw [ho]
 simp only [Sem.run_bind] at hu ⊢
 rw [hu];rfl
theorem unX_inv {op:UnOp} {c:C} {r:R} (h:unX op c st = some r) :
 (∃ b,op = .not∧c = .bool b∧r = ⟨vB (bi b false true),st,[],some []⟩) ∨ (∃ n v,op = .neg∧c = .int n∧rng (0 - n) = some v∧r = ⟨v,st,[],some []⟩):=by
 unfold unX at h
 split at h
 ·injection h with h;exact .inl ⟨_,rfl,rfl,h.symm⟩
 ·obtain ⟨v,h2,h⟩:=ob_inv h
  injection h with h;exact .inr ⟨_,v,rfl,rfl,h2,h.symm⟩
 ·cases h
theorem snd_un {op:UnOp} {t:Nat} {x:Operand} {r:R} (hst:StOk st) (ho:o.op = .unOp op t x) (h:ob (opC fr x) (fun c=>unX op c st) = some r):Sound P fr st o r:=by
 obtain ⟨c,h1,h⟩:=ob_inv h
 rcases unX_inv h with ⟨b,rfl,rfl,rfl⟩ | ⟨n,v,rfl,rfl,h2,rfl⟩
 ·refine sound_pure hst fun E w a hf=>?_
  have e:a.eval x = .bool b:=opC_rel hf h1
  refine ⟨.bool (!b),?_,by cases b <;> rfl⟩
  unfold execOp;rw [ho];simp [e,Op.unary]
 ·obtain ⟨rfl,hw⟩:=rng_inv h2
  refine sound_pure hst fun E w a hf=>?_
  have e:a.eval x = .int .i64 n:=opC_rel hf h1
  refine ⟨.int .i64 (0 - n),?_,rfl⟩
  unfold execOp;rw [ho];simp only [e,Op.unary,Op.intArith,hw];rfl
theorem wrap_u64 {n:Nat} (h:n ≤ 9223372036854775807):IntKind.u64.wrap (n:Int) = n:=by
 have:(n:Int) % 18446744073709551616 = n:=Int.emod_eq_of_lt (by omega) (by omega)
 simp [IntKind.wrap,IntKind.bits,IntKind.signed,this]
theorem convX_inv {d:TypeDesc} {c:C} {r:R} (h:convX d c st = some r) :
 (∃ n:Nat,d = .int .u64∧c = .int n∧n ≤ 9223372036854775807∧r = ⟨.s (.c (.u64 n)),st,[],some []⟩) ∨
 (∃ n:Nat,d = .int .i64∧c = .u64 n∧n ≤ 9223372036854775807∧r = ⟨.s (.c (.int n)),st,[],some []⟩) ∨
 (∃ n v,d = .int .i64∧c = .int n∧rng n = some v∧r = ⟨v,st,[],some []⟩):=by
 unfold convX at h
 split at h
 ·obtain ⟨hb,h⟩:=bi_inv h
  injection h with h;exact .inl ⟨_,rfl,rfl,ble_inv hb,h.symm⟩
 ·obtain ⟨hb,h⟩:=bi_inv h
  injection h with h;exact .inr (.inl ⟨_,rfl,rfl,ble_inv hb,h.symm⟩)
 ·obtain ⟨v,h2,h⟩:=ob_inv h
  injection h with h;exact .inr (.inr ⟨_,v,rfl,rfl,h2,h.symm⟩)
 ·cases h
theorem snd_convert {src dst:Nat} {x:Operand} {r:R} (hst:StOk st) (ho:o.op = .convert src dst x) (h:opConvert P src dst fr x st = some r):Sound P fr st o r:=by
 obtain ⟨d0,h0,h⟩:=ob_inv h
 obtain ⟨d,h1,h⟩:=ob_inv h
 obtain ⟨c,h2,h⟩:=ob_inv h
 have run:∀ (k k':IntKind) (n:Int) (w:World),P.underlying dst = some (.int k) → (convert src dst (.int k' n)).run P w = .ok (.int k (k.wrap n)) w:=by
  intro k k' n w hk
  simp [convert,run_underlying h0,run_underlying hk,Conv.intToInt]
 rcases convX_inv h with ⟨n,rfl,rfl,hb,rfl⟩ | ⟨n,rfl,rfl,hb,rfl⟩ | ⟨n,v,rfl,rfl,h3,rfl⟩
 ·refine sound_pure hst fun E w a hf=>?_
  have e:a.eval x = .int .i64 n:=opC_rel hf h2
  refine ⟨.int .u64 n,?_,rfl⟩
  unfold execOp;rw [ho];simp [e,run _ _ _ _ h1,wrap_u64 hb]
 ·refine sound_pure hst fun E w a hf=>?_
  have e:a.eval x = .int .u64 n:=opC_rel hf h2
  refine ⟨.int .i64 n,?_,rfl⟩
  unfold execOp;rw [ho];simp [e,run _ _ _ _ h1,wrap_in (n:=(n:Int)) (by omega) (by omega)]
 ·obtain ⟨rfl,hw⟩:=rng_inv h3
  refine sound_pure hst fun E w a hf=>?_
  have e:a.eval x = .int .i64 n:=opC_rel hf h2
  refine ⟨.int .i64 n,?_,rfl⟩
  unfold execOp;rw [ho];simp [e,run _ _ _ _ h1,hw]
end
end Go.SX
namespace Go.SX
section
variable {P:Program} {fr:Ev} {st:St} {o:Oper}
theorem toArr {α:Type} {a:Array α} {l:List α} (h:a.toList = l):a = l.toArray:=by subst h;simp
theorem run_builtin {c:Call} {b:Builtin} (ho:o.op = .call c) (hb:c.callee = .builtin b) (a:Act) (w:World) :
 (execOp a.eval o).run P w = (builtin b c.argTypes o.type (c.args.map fun | .const _=>true | _=>false) (c.args.map a.eval)).run P w:=by
 unfold execOp;rw [ho]
 simp only [resolve,hb]
 rfl
theorem one_inv {l:List V} {c:C} (h:one l = some c) {E:Env} {vs:List Value} (r:RelA E l vs):∃ v,vs = [v]∧RelC E c v:=by
 unfold one at h
 split at h
 ·rename_i a
  match vs,r with
  | [v],r=>exact ⟨v,rfl,vC_rel h r.1⟩
  | [],r=>exact r.elim
  | _ :: _ :: _,r=>exact r.2.elim
 ·cases h
theorem two_inv {l:List V} {p:C × C} (h:two l = some p) {E:Env} {vs:List Value} (r:RelA E l vs):∃ u v,vs = [u,v]∧RelC E p.1 u∧RelC E p.2 v:=by
 unfold two at h
 split at h
 ·rename_i a b
  obtain ⟨x,h1,h⟩:=ob_inv h
  obtain ⟨y,h2,h⟩:=ob_inv h
  injection h with h;subst h
  match vs,r with
  | [u,v],r=>exact ⟨u,v,rfl,vC_rel h1 r.1,vC_rel h2 r.2.1⟩
  | [],r=>exact r.elim
  | [_],r=>exact r.2.elim
  | _ :: _ :: _ :: _,r=>exact r.2.2.elim
 ·cases h
theorem slLen_inv {c:C} {n:Nat} (h:slLen c = some n) {E:Env} {v:Value} (r:RelC E c v):∃ a cp,v = .slice a n cp:=by
 unfold slLen at h
 split at h
 ·injection h with h;subst h;exact ⟨none,0,r⟩
 ·injection h with h;subst h;obtain ⟨b,s,cp,_,rfl,_⟩:=r;exact ⟨_,_,rfl⟩
 ·injection h with h;subst h;exact r
 ·cases h
theorem lenV_run {t e:Nat} {c:C} {r:R} (hu:P.underlying t = some (.slice e)) (h:lenV st c = some r) :
 ∃ v,r = ⟨v,st,[],some []⟩∧∀ (E:Env),CodeOk E → ∀ (x:Value),RelC E c x → ∀ (ty:Nat) (ts:Array Nat) (w:World),ts[0]? = some t → ∃ u,(Builtin.len_ ts ty #[x]).run P w = .ok u w∧RelV E v u:=by
 have key:∀ (a:Option Addr) (n cp:Nat) (ty:Nat) (ts:Array Nat) (w:World),ts[0]? = some t → (Builtin.len_ ts ty #[.slice a n cp]).run P w = .ok (.int .i64 n) w:=by
  intro a n cp ty ts w hts
  simp [Builtin.len_,hts,run_underlying hu,goInt]
 unfold lenV at h
 split at h
 ·injection h with h;subst h
  refine ⟨_,rfl,fun E hc x hx ty ts w hts=>?_⟩
  obtain ⟨a,n,cp,hc,hn⟩:=hc
  have hx':x = E.fix.code:=hx.1
  rw [hx',hc]
  exact ⟨_,key _ _ _ _ _ _ hts,n,hn,rfl⟩
 ·obtain ⟨n,h1,h⟩:=ob_inv h
  injection h with h;subst h
  refine ⟨_,rfl,fun E _ x hx ty ts w hts=>?_⟩
  obtain ⟨a,cp,rfl⟩:=slLen_inv h1 hx
  exact ⟨_,key _ _ _ _ _ _ hts,rfl⟩
theorem minV_run {l:List V} {mx:Bool} {r:R} (h:minV st l mx = some r) :
 ∃ v,r = ⟨v,st,[],some []⟩∧∀ (E:Env) (vs:List Value),RelA E l vs → ∀ (ts:Array Nat) (ty:Nat) (w:World),
  ∃ u,(if mx then Builtin.max_ ts ty vs.toArray else Builtin.min_ ts ty vs.toArray).run P w = .ok u w∧RelV E v u:=by
 obtain ⟨p,h1,h⟩:=ob_inv h
 obtain ⟨a,h2,h⟩:=ob_inv h
 obtain ⟨b,h3,h⟩:=ob_inv h
 injection h with h;subst h
 refine ⟨_,rfl,fun E vs hr ts ty w=>?_⟩
 obtain ⟨u,v,rfl,r1,r2⟩:=two_inv h1 hr
 rw [cInt_inv h2] at r1
 rw [cInt_inv h3] at r2
 have e1:u = .int .i64 a:=r1
 have e2:v = .int .i64 b:=r2
 subst e1;subst e2
 cases mx
 ·refine ⟨.int .i64 (if b < a then b else a),by simp [Builtin.min_,Builtin.min2],?_⟩
  show Value.int .i64 _ = Value.int .i64 (bi (ible a b) a b)
  rw [ible_eq,bi_eq]
  by_cases hab:a ≤ b
  ·have:¬ b < a:=by omega
   simp [hab,this]
  ·have:b < a:=by omega
   simp [hab,this]
 ·refine ⟨.int .i64 (if b > a then b else a),by simp [Builtin.max_,Builtin.max2],?_⟩
  show Value.int .i64 _ = Value.int .i64 (bi (ible a b) b a)
  rw [ible_eq,bi_eq]
  by_cases hab:a ≤ b
  ·by_cases hb:b > a
   ·simp [hab,hb]
   ·have:a = b:=by omega
    subst this;simp
  ·have:¬ b > a:=by omega
   simp [hab,this]
theorem bound_run {x:Option Operand} {d n:Nat} (h:bound fr x d = some n) {E:Env} {a:Act} (hf:EvOk E fr a) :
 (x = none∧n = d) ∨ (∃ y,x = some y∧a.eval y = .int .i64 n):=by
 cases x with
 | none=>have h':some d = some n:=h
         injection h' with h';exact .inl ⟨rfl,h'.symm⟩
 | some y =>
  obtain ⟨c,h1,h⟩:=ob_inv h
  have:=opC_rel hf h1
  rw [toN_inv h] at this
  exact .inr ⟨y,rfl,this⟩
theorem run_sliceBounds {lo hi:Option Operand} {l h n cp:Nat} {b:Bool} {a:Act} {w:World} (hl:(lo = none∧l = 0) ∨ (∃ y,lo = some y∧a.eval y = .int .i64 l))
 (hh:(hi = none∧h = n) ∨ (∃ y,hi = some y∧a.eval y = .int .i64 h)) (h1:l ≤ h) (h2:h ≤ cp) :
 (Instr.sliceBounds b n cp (lo.map a.eval) (hi.map a.eval) none).run P w = .ok (l,h,cp) w:=by
 have i1:(l:Int) ≤ (h:Int):=by omega
 have i2:(h:Int) ≤ (cp:Int):=by omega
 have i0:(0:Int) ≤ (l:Int):=by omega
 have i3:(0:Int) ≤ (h:Int):=by omega
 rcases hl with ⟨rfl,rfl⟩ | ⟨y,rfl,hy⟩ <;> rcases hh with ⟨rfl,rfl⟩ | ⟨z,rfl,hz⟩
 ·simp [Instr.sliceBounds]
 ·simp [Instr.sliceBounds,Instr.sliceBound,hz,asIntOf,h2]
 ·simp [Instr.sliceBounds,Instr.sliceBound,hy,asIntOf,h1]
 ·simp [Instr.sliceBounds,Instr.sliceBound,hy,hz,asIntOf,h1,h2]
theorem slicing_inv {k off n z l h:Nat} {r:R} (hs:slicing st k off n z l h = some r) :
 l ≤ h∧h ≤ n∧∃ c,r = ⟨.s (.c c),st,[],some []⟩∧(l = 0∧n = 0∧c = .sl k off h z ∨ n ≠ l∧c = .sl k (off + l * z) (h - l) z ∨ n = l∧c = .esl):=by
 obtain ⟨h1,hs⟩:=bi_inv hs
 obtain ⟨h2,hs⟩:=bi_inv hs
 refine ⟨ble_inv h1,ble_inv h2,?_⟩
 rw [beq_dec] at hs
 by_cases e:n = l
 ·rw [show decide (n = l) = true by simp [e]] at hs
  have hs:bi (Nat.beq l 0) (pure1 st (.c (.sl k off h z))) (pure1 st (.c .esl)) = some r:=hs
  cases h3:Nat.beq l 0 with
  | true =>
   rw [h3] at hs
   injection hs with hs
   have:=beq_inv h3
   exact ⟨_,hs.symm,.inl ⟨this,by omega,rfl⟩⟩
  | false =>
   rw [h3] at hs
   injection hs with hs
   exact ⟨_,hs.symm,.inr (.inr ⟨e,rfl⟩)⟩
 ·rw [show decide (n = l) = false by simp [e]] at hs
  injection hs with hs
  exact ⟨_,hs.symm,.inr (.inl ⟨e,rfl⟩)⟩
theorem sliced {E:Env} {k off n z l h:Nat} {c:C} {b s cp:Nat} (hc:(l = 0∧n = 0∧c = .sl k off h z ∨ n ≠ l∧c = .sl k (off + l * z) (h - l) z ∨ n = l∧c = .esl))
 (h1:l ≤ h) (h2:h ≤ n) (hb:E.rho k = some (b,s)) (hn:n ≤ cp) (hs:off + cp * z ≤ s∧cp ≤ 9223372036854775807) :
 RelC E c (.slice (if cp = l then some ⟨b,off,none⟩ else some ⟨b,off + l * z,none⟩) (h - l) (cp - l)):=by
 have hm:l * z + (cp - l) * z = cp * z:=by
  have:l + (cp - l) = cp:=by omega
  rw [← Nat.add_mul,this]
 rcases hc with ⟨rfl,rfl,rfl⟩ | ⟨e,rfl⟩ | ⟨e,rfl⟩
 ·have:h = 0:=by omega
  subst this
  refine ⟨b,s,cp,hb,?_,by omega,hs⟩
  by_cases hz:cp = 0 <;> simp [hz]
 ·have hne:cp ≠ l:=by omega
  rw [if_neg hne]
  exact ⟨b,s,cp - l,hb,rfl,by omega,by omega⟩
 ·have:h - l = 0:=by omega
  rw [this]
  exact ⟨_,_,rfl⟩
theorem snd_slice {t:Nat} {x:Operand} {lo hi:Option Operand} {r:R} (hst:StOk st) (ho:o.op = .slice t x lo hi none) (h:opSlice P t fr x lo hi st = some r):Sound P fr st o r:=by
 obtain ⟨d,h1,h⟩:=ob_inv h
 obtain ⟨c,h2,h⟩:=ob_inv h
 cases d with
 | array n e =>
  obtain ⟨p,h3,h⟩:=ob_inv h
  obtain ⟨l,h4,h⟩:=ob_inv h
  obtain ⟨m,h5,h⟩:=ob_inv h
  obtain ⟨z,h6,h⟩:=ob_inv h
  obtain ⟨b,h7,h⟩:=ob_inv h
  obtain ⟨h8,h⟩:=bi_inv h
  rw [len_eq] at h8
  have h9':bi (Nat.ble n 1000000) (ob (slicing st p.1 p.2 n z l m) (fun r=>some (⟨r.v,r.st,r.w,some [p.1]⟩:R))) none = some r:=by
   cases hq:Nat.beq n 0
   ·rw [hq] at h;exact h
   ·rw [hq] at h;cases h
  obtain ⟨hbig,h9⟩:=bi_inv h9'
  have hbig:=ble_inv hbig
  obtain ⟨q,h10,h9⟩:=ob_inv h9
  obtain ⟨g1,g2,c',rfl,g3⟩:=slicing_inv h10
  injection h9 with h9;subst h9
  refine sound_read hst h7 fun E w a hf hb=>?_
  have hc:=opC_rel hf h2
  rw [cPtr_inv h3] at hc
  obtain ⟨bl,s,hrho,hc⟩:=hc
  obtain ⟨bl',s',arr,ty,hrho',_,hsz,hr⟩:=hb
  rw [hrho] at hrho';injection hrho' with hq;injection hq with e1 e2;subst e1;subst e2
  have hlen:=hr.length
  have hle:p.2 + n * z ≤ s:=by
   have:=ble_inv h8
   have:p.2 + n * z ≤ b.cells.length:=this
   simp at hlen;omega
  refine ⟨_,?_,sliced g3 g1 g2 hrho (Nat.le_refl n) ⟨hle,by omega⟩⟩
  unfold execOp;rw [ho]
  have hsb:=run_sliceBounds (P:=P) (w:=w) (b:=false) (n:=n) (cp:=n) (bound_run h4 hf) (bound_run h5 hf) g1 g2
  simp only [Option.map_none] at hsb ⊢
  simp [Instr.sliceAt,run_underlying h1,Instr.sureAddr,hc,hsb,run_szOf h6,add_none]
  by_cases hnl:n = l <;> simp [hnl]
 | slice e =>
  obtain ⟨q,h3,h⟩:=ob_inv h
  obtain ⟨l,h4,h⟩:=ob_inv h
  obtain ⟨m,h5,h⟩:=ob_inv h
  obtain ⟨z,h6,h⟩:=ob_inv h
  obtain ⟨h7,h⟩:=bi_inv h
  obtain ⟨g1,g2,c',rfl,g3⟩:=slicing_inv h
  have hz:=beq_inv h7
  subst hz
  refine sound_pure hst fun E w a hf=>?_
  have hc:=opC_rel hf h2
  rw [cSl_inv h3] at hc
  obtain ⟨bl,s,cp,hrho,hc,hn,hs⟩:=hc
  refine ⟨_,?_,sliced g3 g1 g2 hrho hn hs⟩
  unfold execOp;rw [ho]
  have hsb:=run_sliceBounds (P:=P) (w:=w) (b:=true) (n:=q.2.2.1) (cp:=cp) (bound_run h4 hf) (bound_run h5 hf) g1 (by omega)
  simp only [Option.map_none] at hsb ⊢
  simp [Instr.sliceAt,Instr.slice,run_underlying h1,hc,hsb,run_szOf h6,add_none]
 | _=>cases h
end
end Go.SX
namespace Go.SX
def Env.addB (E:Env) (k:Nat) (b:Nat × Nat):Env:={ E with rho:=fun i=>if i = k then some b else E.rho i }
section
variable {P:Program} {fr:Ev} {st:St} {o:Oper} {K:Toks} {E:Env} {w:World}
theorem addB_same (k:Nat) (b:Nat × Nat):(E.addB k b).rho k = some b:=by simp [Env.addB]
theorem addB_other {k i:Nat} (b:Nat × Nat) (h:i ≠ k):(E.addB k b).rho i = E.rho i:=by simp [Env.addB,h]
theorem addB_le {k:Nat} {b:Nat × Nat} (h:E.rho k = none):E.le (E.addB k b) :=
 ⟨fun i c hi=>by
  have:i ≠ k:=fun e=>by subst e;rw [h] at hi;cases hi
  rw [addB_other _ this];exact hi,fun _ _ h=>h,rfl⟩
theorem gi_grow {F:Env} {u:World} (h:GI K E w) (hf:F.fix = E.fix) (hsig:F.sig = E.sig) (hlow:∀ k p s,F.rho k = some (p,s) → p < u.heap.size)
 (hsz:w.heap.size ≤ u.heap.size) (hnew:∀ k p s,F.rho k = some (p,s) → p < w.heap.size → ∃ k' s',E.rho k' = some (p,s'))
 (hkept:∀ b,b < w.heap.size → (∀ k s,E.rho k ≠ some (b,s)) → u.heap[b]? = w.heap[b]?):GI K F u:=by
 have far:∀ (G:List Nat),(∀ b ∈ G,b < w.heap.size∧∀ k s,E.rho k ≠ some (b,s)) → ∀ b ∈ G,b < u.heap.size∧∀ k s,F.rho k ≠ some (b,s):=by
  intro G hG b hb
  obtain ⟨h1,h2⟩:=hG b hb
  refine ⟨by omega,fun k s hk=>?_⟩
  obtain ⟨k',s',hk'⟩:=hnew k b s hk h1
  exact h2 k' s' hk'
 refine ⟨hlow,fun j cs hj=>?_,?_⟩
 ·rw [hsig] at hj
  obtain ⟨G,hG,hT⟩:=h.tok j cs hj
  exact ⟨G,far G hG,K.stab j G w u cs (fun b hb=>hkept b (hG b hb).1 (hG b hb).2) hT⟩
 ·obtain ⟨G,hG,hB⟩:=h.base
  exact ⟨G,far G hG,by rw [hf];exact K.bstab _ G w u (fun b hb=>hkept b (hG b hb).1 (hG b hb).2) hB⟩
theorem blk_kept {F:Env} {u:World} {k:Nat} {b:Blk} (h:BlkOk E w k b) (hle:E.le F) (hk:∀ p s,E.rho k = some (p,s) → u.heap[p]? = w.heap[p]?):BlkOk F u k b:=by
 obtain ⟨p,s,arr,ty,h1,h2,h3,h4⟩:=h
 exact ⟨p,s,arr,ty,hle.rho _ _ h1,by rw [hk p s h1];exact h2,h3,h4.mono hle⟩
theorem alloc_inv {cs:List C} {g:Nat → C} {r:R} (h:alloc st cs g = some r) :
 st.nb + 1 ≤ 8388608∧r = ⟨.s (.c (g st.nb)),⟨st.mem.set st.nb (some ⟨cs⟩),st.nb + 1,st.nt⟩,[],some []⟩:=by
 obtain ⟨h1,h⟩:=bi_inv h
 injection h with h
 exact ⟨ble_inv h1,h.symm⟩
theorem eff_alloc {cs:List C} {v:V} {rd:Option (List Nat)} (hst:StOk st) (hb:st.nb + 1 ≤ 8388608) :
 Eff st ⟨v,⟨st.mem.set st.nb (some ⟨cs⟩),st.nb + 1,st.nt⟩,[],rd⟩:=by
 refine ⟨Nat.le_succ _,Nat.le_refl _,fun k _ hk=>?_,fun _ h=>(by simp at h),⟨hb,fun k hk=>?_⟩,fun _ _ _ h=>(by simp at h)⟩
 ·show (T.set _ _ _).get k = _
  rw [get_set _ _ _ _ (by omega),if_neg (by omega)]
 ·show (T.set _ _ _).get k = none
  rw [get_set _ _ _ _ (by omega),if_neg (by have:st.nb + 1 ≤ k:=hk;omega)]
  exact hst.dom k (by have:st.nb + 1 ≤ k:=hk;omega)
theorem out_alloc {ty:Nat} {cs:List C} {v:V} {x:Value} {arr:Array Value} {u:World} {rd:Option (List Nat)} (_hst:StOk st) (hb:st.nb + 1 ≤ 8388608)
 (hp:Pre K E w st ⟨v,⟨st.mem.set st.nb (some ⟨cs⟩),st.nb + 1,st.nt⟩,[],rd⟩)
 (hu:u.heap = w.heap.push (.cells arr ty (0,0))) (hos:u.os = w.os) (htape:u.tape = w.tape) (hout:u.output = w.output)
 (hr:RelF E cs arr.toList) (hv:RelV (E.addB st.nb (w.heap.size,arr.size)) v x) :
 Out K E w st ⟨v,⟨st.mem.set st.nb (some ⟨cs⟩),st.nb + 1,st.nt⟩,[],rd⟩ (E.addB st.nb (w.heap.size,arr.size)) u x:=by
 have hn:E.rho st.nb = none:=hp.newB st.nb (Nat.le_refl _) (Nat.lt_succ_self _)
 have hle:E.le (E.addB st.nb (w.heap.size,arr.size)):=addB_le hn
 have hsz:u.heap.size = w.heap.size + 1:=by rw [hu];simp
 have hkept:∀ b,b < w.heap.size → u.heap[b]? = w.heap[b]?:=fun b hb=>by
  rw [hu,Array.getElem?_push,if_neg (by omega)]
 have hrho:∀ k p s,(E.addB st.nb (w.heap.size,arr.size)).rho k = some (p,s) → (k = st.nb∧p = w.heap.size) ∨ E.rho k = some (p,s):=by
  intro k p s hk
  by_cases e:k = st.nb
  ·subst e;rw [addB_same] at hk;injection hk with hk;injection hk with h1 h2;exact .inl ⟨rfl,h1.symm⟩
  ·rw [addB_other _ e] at hk;exact .inr hk
 refine ⟨⟨hle,fun k hk=>?_,fun j hj=>absurd rfl hj,hos,htape,hout,by omega,fun b hb _=>hkept b hb,fun k p s h1 h2 h3=>?_,?_⟩,hv,fun k b hk hg=>?_,fun k k' b b' p s s' hk hk' _ _ _ _=>?_⟩
 ·by_cases e:k = st.nb
  ·subst e;exact ⟨Nat.le_refl _,Nat.lt_succ_self _⟩
  ·rw [addB_other _ e] at hk;exact absurd rfl hk
 ·rcases hrho k p s h3 with ⟨_,rfl⟩ | h
  ·exact .inl (Nat.le_refl _)
  ·have:k = st.nb:=by have:k < st.nb + 1:=h2;omega
   subst this;rw [hn] at h;cases h
 ·refine gi_grow hp.gi rfl rfl (fun k p s hk=>?_) (by omega) (fun k p s hk hlt=>?_) (fun b hb _=>hkept b hb)
  ·rcases hrho k p s hk with ⟨_,rfl⟩ | h
   ·omega
   ·have:=hp.gi.low k p s h;omega
  ·rcases hrho k p s hk with ⟨_,rfl⟩ | h
   ·omega
   ·exact ⟨k,s,h⟩
 ·have:k = st.nb:=by
   rcases hk with hk | hk
   ·simp at hk
   ·have:k < st.nb + 1:=hk.2;omega
  subst this
  have hg':(T.set st.mem st.nb (some ⟨cs⟩)).get st.nb = some b:=hg
  rw [get_set _ _ _ _ (by omega),if_pos rfl] at hg'
  injection hg' with hg';subst hg'
  exact ⟨w.heap.size,arr.size,arr,ty,addB_same _ _,by rw [hu];simp,rfl,hr.mono hle⟩
 ·have e1:k = st.nb:=by
   rcases hk with hk | hk
   ·simp at hk
   ·have:k < st.nb + 1:=hk.2;omega
  have e2:k' = st.nb:=by
   rcases hk' with hk | hk
   ·simp at hk
   ·have:k' < st.nb + 1:=hk.2;omega
  rw [e1,e2]
theorem sound_alloc {ty:Nat} {cs:List C} {g:Nat → C} {r:R} (hst:StOk st) (h:alloc st cs g = some r)
 (hrun:∀ (E:Env) (w:World) (a:Act),EvOk E fr a → ∃ x arr,(execOp a.eval o).run P w = .ok (.value x) { w with heap:=w.heap.push (.cells arr ty (0,0)) }∧RelF E cs arr.toList ∧
  ∀ F:Env,F.rho st.nb = some (w.heap.size,arr.size) → RelC F (g st.nb) x):Sound P fr st o r:=by
 obtain ⟨hb,rfl⟩:=alloc_inv h
 refine ⟨eff_alloc hst hb,fun K E w a hf hp=>?_⟩
 obtain ⟨x,arr,h1,h2,h3⟩:=hrun E w a hf
 exact ⟨x,_,_,.inl h1,out_alloc hst hb hp rfl rfl rfl rfl h2 (h3 _ (addB_same _ _))⟩
theorem snd_alloc {t:Nat} {r:R} (hst:StOk st) (ho:o.op = .alloc t) (h:ob (zeroOf P t) (fun cs=>alloc st cs pC) = some r):Sound P fr st o r:=by
 obtain ⟨cs,h1,h⟩:=ob_inv h
 refine sound_alloc (ty:=t) hst h fun E w a hf=>?_
 obtain ⟨z,hz,hr⟩:=run_zeroOf (P:=P) h1 w E
 refine ⟨.pointer (some ⟨w.heap.size,0,none⟩),z.cells,?_,hr.toF,fun F hF=>⟨_,_,hF,rfl⟩⟩
 unfold execOp;rw [ho]
 simp [Instr.alloc,hz,newVar,newRow]
theorem snd_box {t:Nat} {x:Operand} {r:R} (hst:StOk st) (ho:o.op = .box t x) (h:ob (opS fr x) (fun s=>alloc st s.cells pC) = some r):Sound P fr st o r:=by
 obtain ⟨s,h1,h⟩:=ob_inv h
 refine sound_alloc (ty:=t) hst h fun E w a hf=>?_
 have hs:=opS_rel hf h1
 refine ⟨.pointer (some ⟨w.heap.size,0,none⟩),(a.eval x).cells,?_,hs.cells.toF,fun F hF=>⟨_,_,hF,rfl⟩⟩
 unfold execOp;rw [ho]
 simp [Instr.box,newVar,newRow]
theorem parts_rel {a:Act} (hf:EvOk E fr a):∀ {l:List (Nat × Operand)} {r:List (Nat × S)},parts fr l = some r →
 r.length = l.length∧∀ (i:Nat) (p:Nat × S),r[i]? = some p → ∃ q:Nat × Operand,l[i]? = some q∧q.1 = p.1∧RelS E p.2 (a.eval q.2)
 | [],r,h=>by
  have h':(some []:Option (List (Nat × S))) = some r:=h
  injection h' with h';subst h';simp
 | (i,x) :: l,r,h=>by
  have h':ob (opS fr x) (fun s=>ob (parts fr l) fun r=>some ((i,s) :: r)) = some r:=h
  obtain ⟨s,h1,h'⟩:=ob_inv h'
  obtain ⟨q,h2,h'⟩:=ob_inv h'
  injection h' with h';subst h'
  obtain ⟨e,ih⟩:=parts_rel hf h2
  refine ⟨by simp [e],fun j p hj=>?_⟩
  cases j with
  | zero=>simp at hj;subst hj;exact ⟨(i,x),rfl,rfl,opS_rel hf h1⟩
  | succ j=>simp at hj;obtain ⟨q,hq,hr⟩:=ih j p hj;exact ⟨q,by simpa using hq,hr⟩
theorem fold_set:∀ (vs:List Value) (j off:Nat) (cur:Array Value),off + j + vs.length ≤ cur.size →
 ((vs.zipIdx j).foldl (fun cs p=>cs.setIfInBounds (off + p.2) p.1) cur).toList = put cur.toList (off + j) vs
 | [],j,off,cur,_=>by simp [put]
 | v :: vs,j,off,cur,h=>by
  simp only [List.zipIdx_cons,List.foldl_cons]
  rw [fold_set vs (j + 1) off _ (by simp at h ⊢;omega)]
  have hlt:off + j < cur.toList.length:=by simp at h ⊢;omega
  simp only [Array.toList_setIfInBounds,put]
  apply List.ext_getElem?
  intro i
  simp only [List.append_assoc,List.getElem?_append,List.length_take,List.length_set,List.getElem?_take,List.getElem?_set,List.getElem?_drop,List.length_cons]
  by_cases h1:i < off + j
  ·have a1:i < min (off + (j + 1)) cur.toList.length:=by omega
   have a2:i < min (off + j) cur.toList.length:=by omega
   have a3:¬ off + j = i:=by omega
   rw [if_pos a1,if_pos a2,if_pos (by omega),if_neg a3,if_pos h1]
  ·by_cases h2:i = off + j
   ·subst h2
    have a1:off + j < min (off + (j + 1)) cur.toList.length:=by omega
    have a2:¬ off + j < min (off + j) cur.toList.length:=by omega
    rw [if_pos a1,if_neg a2,if_pos (by omega),if_pos rfl,if_pos hlt]
    have:off + j - min (off + j) cur.toList.length = 0:=by omega
    rw [this];simp
   ·have a1:¬ i < min (off + (j + 1)) cur.toList.length:=by omega
    have a2:¬ i < min (off + j) cur.toList.length:=by omega
    rw [if_neg a1,if_neg a2]
    have e1:i - min (off + (j + 1)) cur.toList.length = i - (off + j) - 1:=by omega
    have e2:i - min (off + j) cur.toList.length = (i - (off + j) - 1) + 1:=by omega
    rw [e1,e2]
    simp only [List.getElem?_cons_succ]
    by_cases h3:i - (off + j) - 1 < vs.length
    ·rw [if_pos h3,if_pos (by omega)]
    ·rw [if_neg h3,if_neg (by omega),if_neg (by omega)]
     congr 1;omega
theorem RelL.len_put {l xs:List C} {vs us:List Value} {n:Nat} (h:RelL E l vs) (hx:RelL E xs us) (hn:n + xs.length ≤ l.length):RelL E (put l n xs) (put vs n us):=by
 unfold put
 have e:=hx.length
 refine ((h.toF.take n (by omega)).append hx).append ?_
 rw [e]
 have hd:=h.toF.drop (n + xs.length)
 have hl:=h.length
 have:=hd.take (l.length - (n + xs.length)) (by simp)
 rw [List.take_of_length_le (by simp),List.take_of_length_le (by simp [hl])] at this
 exact this
theorem RelF.put {l xs:List C} {vs us:List Value} {n:Nat} (h:RelF E l vs) (hx:RelL E xs us) (hn:n + xs.length ≤ l.length):RelF E (put l n xs) (put vs n us):=by
 unfold SX.put
 have e:=hx.length
 rw [e]
 exact ((h.take n (by omega)).append hx).appendF (h.drop _)
theorem fill_rel {pl:Nat → Option (Nat × Nat)} {a:Act}:∀ {ps:List (Nat × S)} {vs:List (Nat × Value)} {cs cs':List C} {cur:Array Value},
 ps.length = vs.length → (∀ (i:Nat) (p:Nat × S),ps[i]? = some p → ∃ q:Nat × Value,vs[i]? = some q∧q.1 = p.1∧RelS E p.2 q.2) → fillC pl ps cs = some cs' → RelL E cs cur.toList →
 ∀ (place:Nat → Option (Nat × Nat)),(∀ i q,pl i = some q → place i = some q) → ∃ cur',Instr.fill place cur vs = some cur'∧RelL E cs' cur'.toList
 | [],[],cs,cs',cur,_,_,h,hr,place,_=>by
  have h':some cs = some cs':=h
  injection h' with h';subst h'
  exact ⟨cur,rfl,hr⟩
 | [],_ :: _,_,_,_,hl,_,_,_,_,_=>by simp at hl
 | _ :: _,[],_,_,_,hl,_,_,_,_,_=>by simp at hl
 | (i,s) :: ps,(j,v) :: vs,cs,cs',cur,hl,hall,h,hr,place,hpl=>by
  have h':ob (pl i) (fun q=>bi (Nat.beq (len s.cells) q.2) (bi (Nat.beq q.2 0) none (ob (setAll cs q.1 s.cells) (fillC pl ps))) none) = some cs':=h
  obtain ⟨q,h1,h'⟩:=ob_inv h'
  obtain ⟨h2,h'⟩:=bi_inv h'
  have h2':=beq_inv h2
  rw [len_eq] at h2'
  have h3:q.2 ≠ 0∧ob (setAll cs q.1 s.cells) (fillC pl ps) = some cs':=by
   cases hq:Nat.beq q.2 0
   ·rw [hq] at h'
    refine ⟨fun e=>?_,h'⟩
    rw [e] at hq;cases hq
   ·rw [hq] at h';cases h'
  obtain ⟨h3,h'⟩:=h3
  obtain ⟨c1,h4,hfin⟩:=ob_inv h'
  obtain ⟨rfl,h5⟩:=setAll_eq _ _ _ _ h4
  have h5':=h5 (by intro e;rw [e] at h2';simp at h2';omega)
  obtain ⟨q0,hq0,hq1,hq2⟩:=hall 0 (i,s) rfl
  simp at hq0
  subst hq0
  have hq1':j = i:=hq1
  have hq2':RelS E s v:=hq2
  subst hq1'
  have hcells:=hq2'.cells
  have hvl:=hcells.length
  have hcl:=hr.length
  simp only [Array.length_toList] at hvl hcl
  have hfold:(v.cells.zipIdx.foldl (fun cs p=>cs.setIfInBounds (q.1 + p.2) p.1) cur).toList = SX.put cur.toList q.1 v.cells.toList:=by
   have:=fold_set v.cells.toList 0 q.1 cur (by simp;omega)
   rw [← Array.foldl_toList]
   simpa using this
  have hrel:=hr.len_put hcells (n:=q.1) (by omega)
  rw [← hfold] at hrel
  obtain ⟨cur',hf,hr'⟩:=fill_rel (pl:=pl) (a:=a) (ps:=ps) (vs:=vs) (by simpa using hl) (fun k p hk=>by
   obtain ⟨q',a1,a2⟩:=hall (k + 1) p (by simpa using hk)
   exact ⟨q',by simpa using a1,a2⟩) hfin hrel place hpl
  refine ⟨cur',?_,hr'⟩
  unfold Instr.fill
  rw [hpl _ _ h1]
  have c1:¬ (v.cells.size ≠ q.2 || decide (q.1 + v.cells.size > cur.size)) = true:=by simp;omega
  simp only [c1]
  exact hf
end
end Go.SX
namespace Go.SX
section
variable {P:Program} {fr:Ev} {st:St} {o:Oper} {K:Toks} {E:Env} {w:World}
theorem places_eq:∀ {fs:List Field} {pl:List (Nat × Nat)},places P fs = some pl → fs.mapM (fun f=>(P.info? f.type).map fun i=>(f.offset,i.size)) = some pl
 | [],pl,h=>by
  have h':(some []:Option (List (Nat × Nat))) = some pl:=h
  cases h';simp
 | f :: fs,pl,h=>by
  have h':ob (szOf P f.type) (fun n=>ob (places P fs) fun r=>some ((f.offset,n) :: r)) = some pl:=h
  obtain ⟨n,h1,h'⟩:=ob_inv h'
  obtain ⟨r,h2,h'⟩:=ob_inv h'
  injection h' with h';subst h'
  obtain ⟨i,h3,h1⟩:=ob_inv h1
  injection h1 with h1;subst h1
  simp [List.mapM_cons,h3,places_eq h2]
theorem eval_parts {a:Act} (ps:Array (Nat × Operand)):(ps.map fun (i,x)=>(i,a.eval x)).toList = ps.toList.map fun q=>(q.1,a.eval q.2):=by simp
theorem parts_rel' {a:Act} (hf:EvOk E fr a) {l:List (Nat × Operand)} {r:List (Nat × S)} (h:parts fr l = some r) :
 r.length = (l.map fun q=>(q.1,a.eval q.2)).length∧∀ (i:Nat) (p:Nat × S),r[i]? = some p → ∃ q:Nat × Value,(l.map fun q=>(q.1,a.eval q.2))[i]? = some q∧q.1 = p.1∧RelS E p.2 q.2:=by
 obtain ⟨h1,h2⟩:=parts_rel hf h
 refine ⟨by simpa using h1,fun i p hi=>?_⟩
 obtain ⟨q,hq,e,hr⟩:=h2 i p hi
 exact ⟨(q.1,a.eval q.2),by simp [hq],e,hr⟩
theorem snd_build {t:Nat} {ps:Array (Nat × Operand)} {r:R} (hst:StOk st) (ho:o.op = .build t ps) (h:opBuild P t fr ps.toList st = some r):Sound P fr st o r:=by
 obtain ⟨z,h1,h⟩:=ob_inv h
 obtain ⟨l,h2,h⟩:=ob_inv h
 obtain ⟨d,h3,h⟩:=ob_inv h
 obtain ⟨it,hi,h1⟩:=ob_inv h1
 obtain ⟨zv,hz,h1⟩:=ob_inv h1
 obtain ⟨zs,hs,h1⟩:=ob_inv h1
 injection h1 with h1;subst h1
 cases d with
 | struct fields =>
  obtain ⟨pl,h4,h⟩:=ob_inv h
  obtain ⟨cs,h5,h⟩:=ob_inv h
  injection h with h;subst h
  refine sound_pure hst fun E w a hf=>?_
  obtain ⟨p1,p2⟩:=parts_rel' hf h2
  obtain ⟨cur,g1,g2⟩:=fill_rel (a:=a) p1 p2 h5 (ofConst_rel E hs).cells (fun x=>pl.toArray[x]?) (fun i q hq=>by rw [nth_eq] at hq;simpa using hq)
  refine ⟨.agg cur,?_,cur,rfl,g2⟩
  have hb:P.built t (ps.map fun (i,x)=>(i,a.eval x)).toList = some cur:=by
   unfold Program.built
   rw [hi,h3,eval_parts]
   simp only [hz,places_eq h4]
   exact g1
  unfold execOp;rw [ho]
  simp [run_build w t _ cur hb]
 | array n e =>
  obtain ⟨m,h4,h⟩:=ob_inv h
  obtain ⟨cs,h5,h⟩:=ob_inv h
  injection h with h;subst h
  obtain ⟨ie,hie,h4⟩:=ob_inv h4
  injection h4 with h4;subst h4
  refine sound_pure hst fun E w a hf=>?_
  obtain ⟨p1,p2⟩:=parts_rel' hf h2
  obtain ⟨cur,g1,g2⟩:=fill_rel (a:=a) p1 p2 h5 (ofConst_rel E hs).cells (fun i=>some (i * ie.size,ie.size)) (fun i q hq=>hq)
  refine ⟨.agg cur,?_,cur,rfl,g2⟩
  have hb:P.built t (ps.map fun (i,x)=>(i,a.eval x)).toList = some cur:=by
   unfold Program.built
   rw [hi,h3,eval_parts]
   simp only [hz,hie]
   exact g1
  unfold execOp;rw [ho]
  simp [run_build w t _ cur hb]
 | _=>cases h
theorem repl_length {α:Type} (n:Nat) (z:List α):(repl n z).length = n * z.length:=by
 induction n with
 | zero=>show ([]:List α).length = _;simp
 | succ n ih=>show (app z (repl n z)).length = _;rw [app_eq,List.length_append,ih,Nat.succ_mul];omega
theorem repl_get {α:Type} (n:Nat) (z:List α) (i:Nat) (h:i < n * z.length):(repl n z)[i]? = z[i % z.length]?:=by
 induction n generalizing i with
 | zero=>simp at h
 | succ n ih =>
  show (app z (repl n z))[i]? = _
  rw [app_eq,List.getElem?_append]
  by_cases hi:i < z.length
  ·rw [if_pos hi,Nat.mod_eq_of_lt hi]
  ·rw [if_neg hi,ih _ (by rw [Nat.succ_mul] at h;omega)]
   rw [← Nat.mod_eq_sub_mod (by omega)]
theorem RelL.of_get:∀ {l:List C} {vs:List Value},vs.length = l.length → (∀ (i:Nat) (c:C),l[i]? = some c → ∃ v,vs[i]? = some v∧RelC E c v) → RelL E l vs
 | [],[],_,_=>trivial
 | c :: l,v :: vs,h,g=>by
  refine ⟨?_,RelL.of_get (by simpa using h) fun i c hi=>?_⟩
  ·obtain ⟨u,hu,hr⟩:=g 0 c rfl
   simp at hu;subst hu;exact hr
  ·obtain ⟨u,hu,hr⟩:=g (i + 1) c (by simpa using hi)
   exact ⟨u,by simpa using hu,hr⟩
 | [],_ :: _,h,_=>by simp at h
 | _ :: _,[],h,_=>by simp at h
theorem repl_rel {cs:List C} {z:Array Value} (h:RelL E cs z.toList) (hp:1 ≤ cs.length) (n:Nat) :
 RelL E (repl n cs) ((Array.range (n * cs.length)).map (z[· % z.size]!)).toList:=by
 have hl:=h.length
 simp only [Array.length_toList] at hl
 refine RelL.of_get (by simp [repl_length]) fun i c hi=>?_
 have hlt:i < n * cs.length:=by
  have:=(List.getElem?_eq_some_iff.1 hi).1
  rwa [repl_length] at this
 rw [repl_get _ _ _ hlt] at hi
 obtain ⟨v,hv,hr⟩:=h.get _ _ hi
 refine ⟨v,?_,hr⟩
 have hm:i % cs.length < z.size:=by rw [hl];exact Nat.mod_lt _ hp
 have hv':z[i % cs.length]? = some v:=by simpa using hv
 have hz:z[i % cs.length]! = v:=by
  rw [getElem!_pos z _ hm]
  rw [Array.getElem?_eq_getElem hm] at hv'
  injection hv'
 simp only [Array.toList_map,Array.toList_range,List.getElem?_map,List.getElem?_range hlt,Option.map_some,hl,hz]
theorem put_length {α:Type} (l:List α) (n:Nat) (xs:List α) (h:n + xs.length ≤ l.length):(SX.put l n xs).length = l.length:=by
 unfold SX.put;simp;omega
theorem fill_size {pl:Nat → Option (Nat × Nat)}:∀ {ps:List (Nat × S)} {cs cs':List C},fillC pl ps cs = some cs' → cs'.length = cs.length
 | [],cs,cs',h=>by
  have h':some cs = some cs':=h
  injection h' with h';subst h';rfl
 | (i,s) :: ps,cs,cs',h=>by
  have h':ob (pl i) (fun q=>bi (Nat.beq (len s.cells) q.2) (bi (Nat.beq q.2 0) none (ob (setAll cs q.1 s.cells) (fillC pl ps))) none) = some cs':=h
  obtain ⟨q,h1,h'⟩:=ob_inv h'
  obtain ⟨h2,h'⟩:=bi_inv h'
  have h3:s.cells ≠ []∧ob (setAll cs q.1 s.cells) (fillC pl ps) = some cs':=by
   cases hq:Nat.beq q.2 0
   ·rw [hq] at h'
    refine ⟨fun e=>?_,h'⟩
    have:=beq_inv h2
    rw [e] at this
    rw [← this] at hq;cases hq
   ·rw [hq] at h';cases h'
  obtain ⟨h3,h'⟩:=h3
  obtain ⟨c1,h4,hfin⟩:=ob_inv h'
  obtain ⟨rfl,h5⟩:=setAll_eq _ _ _ _ h4
  rw [fill_size hfin,put_length _ _ _ (h5 h3)]
theorem zeroE_inv {t z:Nat} {cs:List C} (h:zeroE P t z = some cs) :
 ∃ i v s,P.info? t = some i∧i.zero = some v∧ofConst v = some s∧cs = s.cells∧cs.length = z∧1 ≤ z∧i.bytes ≤ 1000000:=by
 obtain ⟨c0,h0,h⟩:=ob_inv h
 obtain ⟨i,hi,h⟩:=ob_inv h
 obtain ⟨h1,h⟩:=bi_inv h
 obtain ⟨h2,h⟩:=bi_inv h
 obtain ⟨h3,h⟩:=bi_inv h
 injection h with h
 obtain ⟨i',hi',g1⟩:=ob_inv h0
 obtain ⟨v,hv,g2⟩:=ob_inv g1
 obtain ⟨s,hs,g3⟩:=ob_inv g2
 injection g3 with g
 rw [hi] at hi';injection hi' with hi';subst hi'
 rw [len_eq,h] at h1
 exact ⟨i,v,s,hi,hv,hs,by rw [← h,g],beq_inv h1,ble_inv h2,ble_inv h3⟩
theorem snd_buildSlice {t n:Nat} {ps:Array (Nat × Operand)} {r:R} (hst:StOk st) (ho:o.op = .buildSlice t n ps) (h:opBuildSlice P t n fr ps.toList st = some r):Sound P fr st o r:=by
 obtain ⟨d,h1,h⟩:=ob_inv h
 obtain ⟨e,h2,h⟩:=ob_inv h
 obtain ⟨m,h3,h⟩:=ob_inv h
 obtain ⟨z,h4,h⟩:=ob_inv h
 obtain ⟨l,h5,h⟩:=ob_inv h
 obtain ⟨h6,h⟩:=bi_inv h
 obtain ⟨cs,h7,hfin⟩:=ob_inv h
 rw [dSlice_inv h2] at h1
 obtain ⟨i,v,s,hi,hz,hs,hzs,hlen,hpos,_⟩:=zeroE_inv h4
 obtain ⟨i',hi',h3⟩:=ob_inv h3
 injection h3 with h3
 rw [hi] at hi';injection hi' with hi';subst hi'
 have h6':n * m ≤ 16777216:=ble_inv h6
 refine sound_alloc (ty:=e) hst hfin fun E w a hf=>?_
 obtain ⟨p1,p2⟩:=parts_rel' hf h5
 have hzr:=(ofConst_rel E hs).cells
 rw [← hzs] at hzr
 have hrel:=repl_rel hzr (by omega) n
 rw [hlen] at hrel
 obtain ⟨cur,g1,g2⟩:=fill_rel (a:=a) p1 p2 h7 hrel (fun i=>some (i * m,m)) (fun i q hq=>hq)
 have hcl:=g2.length
 refine ⟨.slice (some ⟨w.heap.size,0,none⟩) n n,cur,?_,g2.toF,fun F hF=>⟨_,_,n,hF,rfl,Nat.le_refl _,?_⟩⟩
 ·subst h3
  unfold execOp;rw [ho]
  by_cases h0:n * i.size = 0
  ·have hn:n = 0:=by
    rcases Nat.mul_eq_zero.1 h0 with h | h
    ·exact h
    ·omega
   subst hn
   have g1':Instr.fill (fun j=>some (j * i.size,i.size)) #[] (ps.map fun (i,x)=>(i,a.eval x)).toList = some cur:=by
    rw [eval_parts];simpa [Array.range_zero'] using g1
   have hb:(Instr.buildSlice t 0 (ps.map fun (i,x)=>(i,a.eval x))).run P w = .ok (.slice (some ⟨w.heap.size,0,none⟩) 0 0) { w with heap:=w.heap.push (.cells cur e (0,0)) }:=by
    simp only [Instr.buildSlice,Sem.run_bind,run_underlying h1,Result.andThen_ok,sizeOf,typeInfo,run_program,hi,Sem.run_pure,Nat.zero_mul,if_true,Array.range_zero',Array.map_empty,newRow]
    rw [g1']
    rfl
   simp only [Sem.run_bind,hb,Result.andThen_ok]
   rfl
  ·have hb:=run_buildSlice (P:=P) w t e n (ps.map fun (i,x)=>(i,a.eval x)) cur i v h1 hi hz (by omega) h0 (by rw [eval_parts];exact g1)
   simp only [Sem.run_bind,hb,Result.andThen_ok]
   rfl
 ·-- the size of the block
  have hsz:cs.length = n * m:=by
   have:=fill_size h7
   rw [this,repl_length,hlen]
  simp only [Array.length_toList] at hcl
  have hnm:n ≤ n * m:=Nat.le_mul_of_pos_right n (by omega)
  exact ⟨by omega,by omega⟩
end
end Go.SX
namespace Go.SX
section
variable {P:Program} {fr:Ev} {st:St} {o:Oper} {K:Toks} {E:Env} {w:World}
theorem snd_makeSlice {t:Nat} {x y:Operand} {r:R} (hst:StOk st) (ho:o.op = .makeSlice t x y) (h:opMakeSlice P t fr x y st = some r):Sound P fr st o r:=by
 obtain ⟨d,h1,h⟩:=ob_inv h
 obtain ⟨e,h2,h⟩:=ob_inv h
 obtain ⟨l,h3,h⟩:=ob_inv h
 obtain ⟨c,h4,h⟩:=ob_inv h
 obtain ⟨n,h5,h⟩:=ob_inv h
 obtain ⟨m,h6,h⟩:=ob_inv h
 obtain ⟨k,h7,h⟩:=ob_inv h
 obtain ⟨z,h8,h⟩:=ob_inv h
 obtain ⟨h9,h⟩:=bi_inv h
 obtain ⟨h10,hfin⟩:=bi_inv h
 have hnm:=beq_inv h9
 have hn:n ≤ 1048576:=ble_inv h10
 rw [dSlice_inv h2] at h1
 obtain ⟨i,v,s,hi,hz,hs,hzs,hlen,hpos,hby⟩:=zeroE_inv h8
 obtain ⟨i',hi',g⟩:=ob_inv h7
 injection g with g
 rw [hi] at hi';injection hi' with hi';subst hi'
 refine sound_alloc (ty:=e) hst hfin fun E w a hf=>?_
 have r1:=opC_rel hf h3
 rw [toN_inv h5] at r1
 have e1:a.eval x = .int .i64 n:=r1
 have r2:=opC_rel hf h4
 rw [toN_inv h6,← hnm] at r2
 have e2:a.eval y = .int .i64 n:=r2
 have hzr:=(ofConst_rel E hs).cells
 rw [← hzs] at hzr
 have hrel:=repl_rel hzr (by omega) n
 rw [hlen] at hrel
 have hsz:(repl n z).length = n * k:=by rw [repl_length,hlen]
 refine ⟨.slice (some ⟨w.heap.size,0,none⟩) n n,_,?_,hrel.toF,fun F hF=>⟨_,_,n,hF,rfl,Nat.le_refl _,by simp,by omega⟩⟩
 have hwn:IntKind.i64.wrap (n:Int) = n:=wrap_in (by omega) (by omega)
 have hbn:¬ ((i.bytes:Int) * (n:Int) > 2 ^ 48):=by
  have h0:i.bytes * n ≤ 1000000 * 1048576:=Nat.mul_le_mul hby hn
  have h1:(i.bytes:Int) * n = ((i.bytes * n:Nat):Int):=by rw [Int.natCast_mul]
  rw [h1]
  generalize i.bytes * n = q at h0
  omega
 have hneg:¬ ((n:Int) < 0):=by omega
 subst g
 unfold execOp;rw [ho]
 simp only [e1,e2]
 by_cases hn0:n = 0
 ·subst hn0
  have c1:((decide (((0:Nat):Int) < 0) || decide ((i.bytes:Int) * ((0:Nat):Int) > 2 ^ 48)) || decide (((0:Nat):Int) < 0) || decide (((0:Nat):Int) > ((0:Nat):Int))) = false:=by simp
  simp only [Instr.makeSlice,Sem.run_bind,run_underlying h1,Result.andThen_ok,asInt,asIntOf,Sem.run_pure,typeInfo,run_program,hi,hwn,Int.toNat_natCast]
  simp only [c1,Bool.false_eq_true,if_false,Sem.run_bind,Sem.run_pure,run_askRoom,Result.andThen_ok,sizeOf,typeInfo,run_program,hi,Nat.zero_mul,if_true,newRow,run_newObj]
  have hr0:∀ f:Nat → Value,Array.map f (Array.range 0) = #[]:=fun f=>by simp
  rw [hr0,hr0]
 have hn1:1 ≤ n:=by omega
 have hne:n * i.size ≠ 0:=by
  intro e
  rcases Nat.mul_eq_zero.1 e with h | h <;> omega
 simp only [Instr.makeSlice,Sem.run_bind,run_underlying h1,Result.andThen_ok,asInt,asIntOf,Sem.run_pure,typeInfo,run_program,hi,hwn,Int.toNat_natCast]
 have c1:((decide ((n:Int) < 0) || decide ((i.bytes:Int) * n > 2 ^ 48)) || decide ((n:Int) < 0) || decide ((n:Int) > n)) = false:=by
  simp only [hneg,hbn,decide_false,Bool.or_false,Int.lt_irrefl,gt_iff_lt]
 simp only [c1,Bool.false_eq_true,if_false,Sem.run_bind,Sem.run_pure,run_askRoom,Result.andThen_ok,sizeOf,typeInfo,run_program,hi,hne,zeroValue,hz,newRow,run_newObj]
theorem snd_store {t:Nat} {x y:Operand} {r:R} (hst:StOk st) (ho:o.op = .store t x y) (h:opStore P t fr x y st = some r):Sound P fr st o r:=by
 obtain ⟨c,h1,h⟩:=ob_inv h
 obtain ⟨p,h2,h⟩:=ob_inv h
 obtain ⟨s,h3,h⟩:=ob_inv h
 obtain ⟨n,h4,h⟩:=ob_inv h
 obtain ⟨b,h5,h⟩:=ob_inv h
 obtain ⟨h6,h⟩:=bi_inv h
 obtain ⟨h6',h⟩:=bi_inv h
 obtain ⟨cs,h7,hfin⟩:=ob_inv h
 injection hfin with hfin
 have hn1:1 ≤ n:=ble_inv h6'
 have hlt:=hst.lt h5
 have hk8:p.1 ≤ 8388608:=by have:=hst.nb;omega
 have hlen:=beq_inv h6
 rw [len_eq] at hlen
 obtain ⟨hcs,hbound'⟩:=setAll_eq _ _ _ _ h7
 have hbound:=hbound' (fun e=>by rw [e] at hlen;simp at hlen;omega)
 have hget:∀ k,(T.set st.mem p.1 (some ⟨cs⟩)).get k = if k = p.1 then some ⟨cs⟩ else st.mem.get k:=fun k=>get_set _ _ _ _ hk8
 subst hfin
 refine ⟨⟨Nat.le_refl _,Nat.le_refl _,fun k hk _=>?_,fun k hk=>?_,⟨hst.nb,fun k hk=>?_⟩,fun l hl k hk=>by injection hl with hl;rw [← hl];exact hk⟩,fun K E w a hf hp=>?_⟩
 ·show (T.set _ _ _).get k = _
  rw [hget,if_neg (fun e=>hk (by simp [e]))]
 ·simp at hk;subst hk;exact ⟨hlt,b,h5⟩
 ·show (T.set _ _ _).get k = none
  rw [hget,if_neg (by have:st.nb ≤ k:=hk;omega)];exact hst.dom k hk
 ·have hb:BlkOk E w p.1 b:=hp.blk p.1 b (by simp [inR]) h5
  obtain ⟨q,sz,arr,bt,hrho,hh,hsz,hr⟩:=hb
  have hc:=opC_rel hf h1
  rw [cPtr_inv h2] at hc
  obtain ⟨q',sz',hrho',hc⟩:=hc
  rw [hrho] at hrho';injection hrho' with e;injection e with e1 e2;subst e1;subst e2
  have hs:=opS_rel hf h3
  have hsc:=hs.cells
  have hvl:=hsc.length
  have hone:∀ v ∈ (a.eval y).cells.toList,v.oneCell' = true:=by
   intro v hv
   obtain ⟨i,hi⟩:=List.getElem?_of_mem hv
   have hil:i < s.cells.length:=by
    have:=(List.getElem?_eq_some_iff.1 hi).1
    omega
   obtain ⟨u,hu,hrel⟩:=hsc.get i _ (List.getElem?_eq_getElem hil)
   rw [hi] at hu;injection hu with hu;subst hu
   have:=hrel.one
   cases v <;> first | rfl | exact absurd rfl (this.1 _) | exact absurd rfl (this.2 _)
  have hal:=hr.length
  have hfit:p.2 + 0 + (a.eval y).cells.toList.length ≤ arr.size:=by
   simp only [Array.length_toList] at hal hvl ⊢
   omega
  have hsize:(a.eval y).cells.size = n:=by
   simp only [Array.length_toList] at hvl
   omega
  have hrun:∃ u:World,(execOp a.eval o).run P w = .ok .skip u∧u.os = w.os∧u.tape = w.tape∧u.output = w.output∧u.heap.size = w.heap.size∧(∀ k,k ≠ q → u.heap[k]? = w.heap[k]?) ∧
   ∃ arr',u.heap[q]? = some (.cells arr' bt (0,0))∧arr'.size = arr.size∧RelF E cs arr'.toList:=by
   refine ⟨w.setRow q (arr.toList.take (p.2 + 0) ++ (a.eval y).cells.toList ++ arr.toList.drop (p.2 + 0 + (a.eval y).cells.toList.length)).toArray,?_,rfl,rfl,rfl,by simp,fun k hk=>setRow_other w q k _ hk,_,setRow_heap w q arr _ bt (0,0) hh,?_,?_⟩
   ·unfold execOp;rw [ho]
    have:=run_storeCells_at (P:=P) q p.2 bt (a.eval y).cells.toList 0 arr w hh hfit hone
    simp [Instr.storeAt,hc,Instr.sureAddr,storeVar,hsize,run_szOf h4,this]
   ·simp only [Array.length_toList] at hfit
    simp;omega
   ·rw [hcs]
    simpa [SX.put] using hr.put hsc (n:=p.2) hbound
  obtain ⟨u,hrun,g1,g2,g3,g4,g5,arr',g6,g7,g8⟩:=hrun
  have hqne:∀ k' s',k' ≠ p.1 → E.rho k' = some (q,s') → ∀ b',st.mem.get k' = some b' → inR (some [p.1]) k' → False:=by
   intro k' s' hne _ _ _ hin
   simp [inR] at hin;exact hne hin
  refine ⟨undef,E,u,.inr ⟨hrun,rfl⟩,⟨.refl E,fun k h=>absurd rfl h,fun j h=>absurd rfl h,g1,g2,g3,by omega,fun k hk hW=>?_,fun k p' s' a1 a2 _=>?_,?_⟩,?_,fun k b' hk hg=>?_,fun k k' b' b'' p' s' s'' hk hk' _ _ _ _=>?_⟩
  ·exact g5 k (fun e=>by subst e;exact hW p.1 (by simp) _ hrho)
  ·have:k < st.nb:=a2
   omega
  ·refine gi_grow hp.gi rfl rfl (fun k p' s' hk=>by rw [g4];exact hp.gi.low k p' s' hk) (by omega) (fun k p' s' hk _=>⟨k,s',hk⟩) (fun k hk hno=>g5 k (fun e=>by subst e;exact hno _ _ hrho))
  ·exact ⟨#[],rfl,trivial⟩
  ·have e:k = p.1:=by
    rcases hk with hk | hk
    ·simpa using hk
    ·have:k < st.nb:=hk.2
     omega
   subst e
   have hg':(T.set st.mem p.1 (some ⟨cs⟩)).get p.1 = some b':=hg
   rw [hget,if_pos rfl] at hg'
   injection hg' with hg';subst hg'
   exact ⟨q,sz,arr',bt,hrho,g6,by omega,g8⟩
  ·have e:k = p.1:=by
    rcases hk with hk | hk
    ·simpa using hk
    ·have:k < st.nb:=hk.2
     omega
   have e':k' = p.1:=by
    rcases hk' with hk | hk
    ·simpa using hk
    ·have:k' < st.nb:=hk.2
     omega
   rw [e,e']
end
end Go.SX
namespace Go.SX
section
variable {P:Program} {fr:Ev} {st:St} {o:Oper} {K:Toks} {E:Env} {w:World}
theorem growBy_le (n c:Nat):Builtin.growBy n 4 c ≤ 16 * c + 3000:=by
 simp only [Builtin.growBy]
 split
 ·omega
 ·split
  ·omega
  ·split
   ·omega
   ·split <;> omega
theorem next_le {n old:Nat} (h:old < n) (hn:n ≤ 1048576):Builtin.nextslicecap n old ≤ 20000000:=by
 unfold Builtin.nextslicecap
 split
 ·omega
 ·split
  ·omega
  ·have:=growBy_le n old
   omega
theorem loadCells_of {p off n:Nat} {arr:Array Value} {ty:Nat} {fz:Nat × Nat} {cs:List C} {l:List C}
 (h:w.heap[p]? = some (.cells arr ty fz)) (hr:RelF E cs arr.toList) (hk:takeN (dropN cs off) n = some l) :
 ∃ vs:Array Value,(loadCells ⟨p,off,none⟩ n).run P w = .ok vs w∧RelL E l vs.toList:=by
 rw [dropN_eq] at hk
 obtain ⟨rfl,hle⟩:=takeN_eq _ _ _ hk
 have hrd:=(hr.drop off).take n hle
 have hlen:((arr.toList.drop off).take n).length = n:=by rw [hrd.length,List.length_take];omega
 have hl:=run_loadCells_list (P:=P) w ⟨p,off,none⟩ ((arr.toList.drop off).take n) (fun j v hj=>by
  rw [add_none,cell_of h]
  rw [List.getElem?_take] at hj
  split at hj
  ·rw [List.getElem?_drop] at hj;simpa using hj
  ·simp at hj)
 rw [hlen] at hl
 exact ⟨_,hl,by simpa using hrd⟩
theorem slSize_inv {x:C} {z:Nat} (h:slSize x z = true):∀ k o n z',x = .sl k o n z' → z' = z:=by
 intro k o n z' e
 subst e
 exact beq_inv h
theorem firstCells_of {x:C} {z n:Nat} {l:List C} {v:Value} (hm:∀ k b,k ∈ slBlk x [] → st.mem.get k = some b → BlkOk E w k b) (hv:RelC E x v) (hz:slSize x z = true) (hn:slLen x = some n) (hl:slCells st x = some l) :
 ∃ vs:Array Value,(Builtin.firstCells z n v).run P w = .ok vs w∧RelL E l vs.toList∧(Builtin.lenOf v).run P w = .ok n w∧l.length = n * z:=by
 cases x <;> first | (cases hn;done) | skip
 ·rename_i k off m z'
  have hzz:=slSize_inv hz k off m z' rfl
  subst hzz
  have hn':some m = some n:=hn
  injection hn' with hn';subst hn'
  obtain ⟨b,s,c,hrho,rfl,hmc,hcs⟩:=hv
  obtain ⟨bl,hb,hl⟩:=ob_inv hl
  obtain ⟨b',s',arr,ty,hrho',hh,hsz,hr⟩:=hm k bl (by simp [slBlk]) hb
  rw [hrho] at hrho';injection hrho' with e;injection e with e1 e2;subst e1;subst e2
  obtain ⟨vs,h1,h2⟩:=loadCells_of (P:=P) hh hr hl
  refine ⟨vs,h1,h2,rfl,?_⟩
  obtain ⟨rfl,hle⟩:=takeN_eq _ _ _ hl
  rw [List.length_take]
  have:m.mul z' = m * z':=rfl
  omega
 ·have hn':some 0 = some n:=hn
  injection hn' with hn';subst hn'
  have hv':v = .slice none 0 0:=hv
  subst hv'
  have hl':some [] = some l:=hl
  injection hl' with hl';subst hl'
  exact ⟨#[],rfl,trivial,rfl,by simp⟩
 ·have hn':some 0 = some n:=hn
  injection hn' with hn';subst hn'
  obtain ⟨a,c,rfl⟩:=hv
  have hl':some [] = some l:=hl
  injection hl' with hl';subst hl'
  cases a with
  | none=>exact ⟨#[],rfl,trivial,rfl,by simp⟩
  | some a =>
   refine ⟨#[],?_,trivial,rfl,by simp⟩
   have h:=run_loadCells_list (P:=P) w a [] (fun j v hj=>by simp at hj)
   show (loadCells a (0 * z)).run P w = _
   rw [Nat.zero_mul]
   exact h
theorem zeroCells_size (z:Array Value) (n:Nat):(Builtin.zeroCells z n).size = n * z.size:=by simp [Builtin.zeroCells]
theorem appendR_inv {s x:C} {n z:Nat} {cs:List C} {r:R} (h:appendR st s x n z cs = some r) :
 st.nb + 1 ≤ 8388608∧((s = .nsl∧r = ⟨.s (.c (.sl st.nb 0 n z)),⟨st.mem.set st.nb (some ⟨cs⟩),st.nb + 1,st.nt⟩,[],some (slBlk x [])⟩) ∨
  (∃ k m,s = .sl k 0 m z∧r = ⟨.s (.c (.sl st.nb 0 n z)),⟨(st.mem.set k none).set st.nb (some ⟨cs⟩),st.nb + 1,st.nt⟩,[k],some (k :: slBlk x [])⟩)):=by
 obtain ⟨h1,h⟩:=bi_inv h
 refine ⟨ble_inv h1,?_⟩
 cases s with
 | sl k o m z' =>
  obtain ⟨h2,h⟩:=bi_inv h
  obtain ⟨h3,h4⟩:=bi_inv h
  have e1:=beq_inv h2
  have e2:=beq_inv h3
  injection h4 with h4
  exact .inr ⟨k,m,by rw [e1,e2],h4.symm⟩
 | nsl =>
  injection h with h
  exact .inl ⟨rfl,h.symm⟩
 | _=>cases h
theorem forced_append (n c:Nat) (e:TypeId):(Question.appendCap n c e).forced = false:=rfl
theorem run_append_new {t u elem z:Nat} {it:TypeInfo} {zv:Value} {base:Option Addr} {n c m:Nat} {x:Value} {olds news:Array Value} (ts:Array Nat) (ty:Nat)
 (ht:ts[0]? = some t) (hu:ts[1]? = some u) {e':Nat} (hus:P.underlying u = some (.slice e')) (hts:P.underlying t = some (.slice elem)) (hit:P.info? elem = some it) (hiz:it.zero = some zv) (hsz:it.size = z)
 (hby:it.bytes ≤ 1000000) (hx:(Builtin.lenOf x).run P w = .ok m w) (hnm:n + m ≤ 1048576) (hc:c < n + m)
 (hold:(Builtin.firstCells z n (.slice base n c)).run P { w with drawn:=w.drawn + 1 } = .ok olds { w with drawn:=w.drawn + 1 })
 (hnew:(Builtin.firstCells z m x).run P { w with drawn:=w.drawn + 1 } = .ok news { w with drawn:=w.drawn + 1 }) :
 ∃ cap,(n + m ≤ cap∧cap ≤ 9223372036854775807)∧(Builtin.append_ ts ty #[.slice base n c,x]).run P w =
  .ok (.slice (some ⟨w.heap.size,0,none⟩) (n + m) cap) { w with drawn:=w.drawn + 1,heap:=w.heap.push (.cells (olds ++ news ++ Builtin.zeroCells zv.cells (cap - (n + m))) elem (0,0)) }:=by
 refine ⟨(Question.appendCap (n + m) c elem).cut (w.tape w.drawn (.appendCap (n + m) c elem)),⟨Nat.le_add_right _ _,by have:=grownCap_le_maxLen w (n + m) c elem (by unfold maxLen;omega);unfold maxLen grownCap at this;omega⟩,?_⟩
 have hnext:=next_le (n:=n + m) (old:=c) (by omega) hnm
 have hbig:¬ (Builtin.nextslicecap (n + m) c * it.bytes > 2 ^ 48):=by
  have:Builtin.nextslicecap (n + m) c * it.bytes ≤ 20000000 * 1000000:=Nat.mul_le_mul hnext hby
  generalize Builtin.nextslicecap (n + m) c * it.bytes = q at *
  omega
 have hmax:¬ (((n + m:Nat):Int) > IntKind.i64.max∧(False ∨ it.bytes = 0)):=by
  intro h
  have:=h.1
  rw [IntKind.max_i64] at this
  omega
 have hle:¬ (n + m ≤ c):=by omega
 subst hsz
 simp only [Builtin.append_,ht,hu,Sem.run_bind,run_underlying hts,run_underlying hus,Result.andThen_ok,sizeOf,typeInfo,run_program,hit,Sem.run_pure,Bool.false_eq_true,if_false,hx,hle,hmax,hbig,run_choose,forced_append,
  run_askRoom,hold,hnew,Bool.not_false,if_true,zeroValue,hiz,newRow,run_newObj,List.getElem?_toArray,List.getElem?_cons_zero,List.getElem?_cons_succ]
theorem run_append_old {t u elem z:Nat} {it:TypeInfo} {p:Nat} {n c m:Nat} {x:Value} {news:Array Value} {arr:Array Value} {bt:Nat} (ts:Array Nat) (ty:Nat)
 (ht:ts[0]? = some t) (hu:ts[1]? = some u) {e':Nat} (hus:P.underlying u = some (.slice e')) (hts:P.underlying t = some (.slice elem)) (hit:P.info? elem = some it) (hsz:it.size = z)
 (hx:(Builtin.lenOf x).run P w = .ok m w) (hc:n + m ≤ c) (hnew:(Builtin.firstCells z m x).run P w = .ok news w)
 (hh:w.heap[p]? = some (.cells arr bt (0,0))) (hfit:n * z + news.toList.length ≤ arr.size) (hone:∀ v ∈ news.toList,v.oneCell' = true) :
 (Builtin.append_ ts ty #[.slice (some ⟨p,0,none⟩) n c,x]).run P w =
  .ok (.slice (some ⟨p,0,none⟩) (n + m) c) (w.setRow p (arr.toList.take (n * z) ++ news.toList ++ arr.toList.drop (n * z + news.toList.length)).toArray):=by
 have hs:=run_storeCells_at (P:=P) p (n * z) bt news.toList 0 arr w hh (by omega) hone
 simp only [Nat.add_zero] at hs
 subst hsz
 simp only [Builtin.append_,ht,hu,Sem.run_bind,run_underlying hts,run_underlying hus,Result.andThen_ok,sizeOf,typeInfo,run_program,hit,Sem.run_pure,Bool.false_eq_true,if_false,hx,hc,if_true,hnew,Bool.not_false,add_none,Nat.zero_add,hs,
  List.getElem?_toArray,List.getElem?_cons_zero,List.getElem?_cons_succ]
theorem out_new {ty:Nat} {cs:List C} {v:V} {x:Value} {arr:Array Value} {u:World} {rd:Option (List Nat)} {m':T Blk} {W:List Nat}
 (hm:m'.get st.nb = some ⟨cs⟩) (hW:∀ k ∈ W,m'.get k = none)
 (hp:Pre K E w st ⟨v,⟨m',st.nb + 1,st.nt⟩,W,rd⟩)
 (hu:u.heap = w.heap.push (.cells arr ty (0,0))) (hos:u.os = w.os) (htape:u.tape = w.tape) (hout:u.output = w.output)
 (hr:RelF E cs arr.toList) (hv:RelV (E.addB st.nb (w.heap.size,arr.size)) v x) :
 Out K E w st ⟨v,⟨m',st.nb + 1,st.nt⟩,W,rd⟩ (E.addB st.nb (w.heap.size,arr.size)) u x:=by
 have hn:E.rho st.nb = none:=hp.newB st.nb (Nat.le_refl _) (Nat.lt_succ_self _)
 have hle:E.le (E.addB st.nb (w.heap.size,arr.size)):=addB_le hn
 have hsz:u.heap.size = w.heap.size + 1:=by rw [hu];simp
 have hkept:∀ b,b < w.heap.size → u.heap[b]? = w.heap[b]?:=fun b hb=>by
  rw [hu,Array.getElem?_push,if_neg (by omega)]
 have hrho:∀ k p s,(E.addB st.nb (w.heap.size,arr.size)).rho k = some (p,s) → (k = st.nb∧p = w.heap.size) ∨ E.rho k = some (p,s):=by
  intro k p s hk
  by_cases e:k = st.nb
  ·subst e;rw [addB_same] at hk;injection hk with hk;injection hk with h1 h2;exact .inl ⟨rfl,h1.symm⟩
  ·rw [addB_other _ e] at hk;exact .inr hk
 have hnb:∀ k b,(k ∈ W ∨ st.nb ≤ k∧k < st.nb + 1) → m'.get k = some b → k = st.nb:=by
  intro k b hk hg
  rcases hk with hk | hk
  ·rw [hW k hk] at hg;cases hg
  ·omega
 refine ⟨⟨hle,fun k hk=>?_,fun j hj=>absurd rfl hj,hos,htape,hout,by omega,fun b hb _=>hkept b hb,fun k p s h1 h2 h3=>?_,?_⟩,hv,fun k b hk hg=>?_,fun k k' b b' p s s' hk hk' hg hg' _ _=>?_⟩
 ·by_cases e:k = st.nb
  ·subst e;exact ⟨Nat.le_refl _,Nat.lt_succ_self _⟩
  ·rw [addB_other _ e] at hk;exact absurd rfl hk
 ·rcases hrho k p s h3 with ⟨_,rfl⟩ | h
  ·exact .inl (Nat.le_refl _)
  ·have:k = st.nb:=by have:k < st.nb + 1:=h2;omega
   subst this;rw [hn] at h;cases h
 ·refine gi_grow hp.gi rfl rfl (fun k p s hk=>?_) (by omega) (fun k p s hk hlt=>?_) (fun b hb _=>hkept b hb)
  ·rcases hrho k p s hk with ⟨_,rfl⟩ | h
   ·omega
   ·have:=hp.gi.low k p s h;omega
  ·rcases hrho k p s hk with ⟨_,rfl⟩ | h
   ·omega
   ·exact ⟨k,s,h⟩
 ·have:=hnb k b hk hg
  subst this
  have hg':m'.get st.nb = some b:=hg
  rw [hm] at hg'
  injection hg' with hg';subst hg'
  exact ⟨w.heap.size,arr.size,arr,ty,addB_same _ _,by rw [hu];simp,rfl,hr.mono hle⟩
 ·rw [hnb k b hk hg,hnb k' b' hk' hg']
theorem out_again {ty:Nat} {cs:List C} {v:V} {x:Value} {arr:Array Value} {u:World} {rd:Option (List Nat)} {m':T Blk} {k0 p:Nat}
 (hm:m'.get st.nb = some ⟨cs⟩) (hW:m'.get k0 = none) (h0:E.rho k0 = some (p,arr.size))
 (hp:Pre K E w st ⟨v,⟨m',st.nb + 1,st.nt⟩,[k0],rd⟩)
 (hu:u.heap[p]? = some (.cells arr ty (0,0))) (hsz:u.heap.size = w.heap.size) (hother:∀ b,b ≠ p → u.heap[b]? = w.heap[b]?) (hos:u.os = w.os) (htape:u.tape = w.tape) (hout:u.output = w.output)
 (hr:RelF E cs arr.toList) (hv:RelV (E.addB st.nb (p,arr.size)) v x) :
 Out K E w st ⟨v,⟨m',st.nb + 1,st.nt⟩,[k0],rd⟩ (E.addB st.nb (p,arr.size)) u x:=by
 have hn:E.rho st.nb = none:=hp.newB st.nb (Nat.le_refl _) (Nat.lt_succ_self _)
 have hle:E.le (E.addB st.nb (p,arr.size)):=addB_le hn
 have hrho:∀ k q s,(E.addB st.nb (p,arr.size)).rho k = some (q,s) → (k = st.nb∧q = p) ∨ E.rho k = some (q,s):=by
  intro k q s hk
  by_cases e:k = st.nb
  ·subst e;rw [addB_same] at hk;injection hk with hk;injection hk with h1 h2;exact .inl ⟨rfl,h1.symm⟩
  ·rw [addB_other _ e] at hk;exact .inr hk
 have hnb:∀ k b,(k ∈ [k0] ∨ st.nb ≤ k∧k < st.nb + 1) → m'.get k = some b → k = st.nb:=by
  intro k b hk hg
  rcases hk with hk | hk
  ·simp at hk;subst hk;rw [hW] at hg;cases hg
  ·omega
 refine ⟨⟨hle,fun k hk=>?_,fun j hj=>absurd rfl hj,hos,htape,hout,by omega,fun b hb hno=>hother b (fun e=>by subst e;exact hno k0 (by simp) _ h0),fun k q s h1 h2 h3=>?_,?_⟩,hv,fun k b hk hg=>?_,fun k k' b b' q s s' hk hk' hg hg' _ _=>?_⟩
 ·by_cases e:k = st.nb
  ·subst e;exact ⟨Nat.le_refl _,Nat.lt_succ_self _⟩
  ·rw [addB_other _ e] at hk;exact absurd rfl hk
 ·rcases hrho k q s h3 with ⟨_,rfl⟩ | h
  ·exact .inr ⟨k0,by simp,_,h0⟩
  ·have:k = st.nb:=by have:k < st.nb + 1:=h2;omega
   subst this;rw [hn] at h;cases h
 ·refine gi_grow hp.gi rfl rfl (fun k q s hk=>?_) (by omega) (fun k q s hk _=>?_) (fun b hb hno=>hother b (fun e=>by subst e;exact hno k0 _ h0))
  ·rcases hrho k q s hk with ⟨_,rfl⟩ | h
   ·have:=hp.gi.low k0 _ _ h0;omega
   ·have:=hp.gi.low k q s h;omega
  ·rcases hrho k q s hk with ⟨_,rfl⟩ | h
   ·exact ⟨k0,_,h0⟩
   ·exact ⟨k,s,h⟩
 ·have:=hnb k b hk hg
  subst this
  have hg':m'.get st.nb = some b:=hg
  rw [hm] at hg'
  injection hg' with hg';subst hg'
  exact ⟨p,arr.size,arr,ty,addB_same _ _,hu,rfl,hr.mono hle⟩
 ·rw [hnb k b hk hg,hnb k' b' hk' hg']
theorem snd_append {c:Call} {l:List V} {r:R} (hst:StOk st) (ho:o.op = .call c) (hb:c.callee = .builtin .append) (ha:args fr c.args.toList = some l)
 (h:builtinV P .append c.argTypes.toList l st = some r):Sound P fr st o r:=by
 obtain ⟨p,h1,h⟩:=ob_inv h
 obtain ⟨t,u,us,hts,h⟩:∃ t u us,c.argTypes.toList = t :: u :: us∧ob (P.underlying u) (fun d=>bi (isSlice d) (appendV P st t p.1 p.2) none) = some r:=by
  cases hq:c.argTypes.toList with
  | nil=>rw [hq] at h;cases h
  | cons t l' =>
   rw [hq] at h
   cases l' with
   | nil=>cases h
   | cons u us=>exact ⟨t,u,us,rfl,h⟩
 obtain ⟨d,hu,h⟩:=ob_inv h
 obtain ⟨hd,h⟩:=bi_inv h
 obtain ⟨e',rfl⟩:=isSlice_inv hd
 obtain ⟨d,h2,h⟩:=ob_inv h
 obtain ⟨elem,h3,h⟩:=ob_inv h
 obtain ⟨z,h4,h⟩:=ob_inv h
 obtain ⟨zs,h5,h⟩:=ob_inv h
 obtain ⟨n,h6,h⟩:=ob_inv h
 obtain ⟨m,h7,h⟩:=ob_inv h
 obtain ⟨cs,h8,h⟩:=ob_inv h
 obtain ⟨ds,h9,h⟩:=ob_inv h
 obtain ⟨h10,h⟩:=bi_inv h
 obtain ⟨h11,h⟩:=bi_inv h
 obtain ⟨h12,hfin⟩:=bi_inv h
 rw [dSlice_inv h3] at h2
 obtain ⟨it,zv,zs',hit,hiz,hzs,hzz,hzl,hzp,hby⟩:=zeroE_inv h5
 obtain ⟨it',hit',g⟩:=ob_inv h4
 injection g with g
 rw [hit] at hit';injection hit' with hit';subst hit'
 have hnm:n + m ≤ 1048576:=ble_inv h11
 have ht0:c.argTypes[0]? = some t:=by rw [← Array.getElem?_toList,hts];rfl
 have ht1:c.argTypes[1]? = some u:=by rw [← Array.getElem?_toList,hts];rfl
 have hzvs:∀ E:Env,zv.cells.size = z:=fun E=>by
  have:=((ofConst_rel E hzs).cells).length
  rw [← hzz] at this
  simp only [Array.length_toList] at this
  omega
 rw [app_eq] at hfin
 obtain ⟨hnb,hcase⟩:=appendR_inv hfin
 have hget:∀ (m0:T Blk) (k:Nat),(m0.set st.nb (some ⟨cs ++ ds⟩)).get k = if k = st.nb then some ⟨cs ++ ds⟩ else m0.get k:=fun m0 k=>get_set _ _ _ _ (by omega)
 have hrun:∀ (a:Act) (E:Env) (w:World),EvOk E fr a → ∃ s x,c.args.map a.eval = #[s,x]∧RelC E p.1 s∧RelC E p.2 x:=by
  intro a E w hf
  obtain ⟨s,x,hsx,r1,r2⟩:=two_inv h1 (args_rel hf ha)
  exact ⟨s,x,toArr (by simpa using hsx),r1,r2⟩
 have hnew:∀ (K:Toks) (E:Env) (w:World) (a:Act) (m':T Blk) (W rd:List Nat),EvOk E fr a → Pre K E w st ⟨.s (.c (.sl st.nb 0 (n + m) z)),⟨m',st.nb + 1,st.nt⟩,W,some rd⟩ →
  (∀ k,k ∈ slBlk p.1 [] → k ∈ rd) → (∀ k,k ∈ slBlk p.2 [] → k ∈ rd) →
  m'.get st.nb = some ⟨cs ++ ds⟩ → (∀ k ∈ W,m'.get k = none) → slSize p.1 z = true →
  (∀ base nn cp,a.eval (c.args.toList.getD 0 (.const undef)) = .slice base nn cp → cp < n + m) → ∃ v F u,Runs P o a w v u∧Out K E w st ⟨.s (.c (.sl st.nb 0 (n + m) z)),⟨m',st.nb + 1,st.nt⟩,W,some rd⟩ F u v:=by
  intro K E w a m' W rd hf hp hs1 hs2 hm' hW hzz1 hroom
  obtain ⟨s,x,hargs,r1,r2⟩:=hrun a E w hf
  have hm:∀ k b,k ∈ rd → st.mem.get k = some b → BlkOk E { w with drawn:=w.drawn + 1 } k b:=fun k b hi hk=>hp.blk k b hi hk
  obtain ⟨ovs,o1,o2,o3,o4⟩:=firstCells_of (P:=P) (fun k b hi hk=>hm k b (hs1 k hi) hk) r1 hzz1 h6 h8
  obtain ⟨nvs,n1,n2,n3,n4⟩:=firstCells_of (P:=P) (fun k b hi hk=>hm k b (hs2 k hi) hk) r2 h10 h7 h9
  obtain ⟨base,cp,rfl⟩:=slLen_inv h6 r1
  have hlist:c.args.toList.map a.eval = [.slice base n cp,x]:=by
   have:=congrArg Array.toList hargs
   simpa using this
  have h0:a.eval (c.args.toList.getD 0 (.const undef)) = .slice base n cp:=by
   cases hq:c.args.toList with
   | nil=>rw [hq] at hlist;simp at hlist
   | cons y ys=>rw [hq] at hlist;simp at hlist;simpa using hlist.1
  have hc:=hroom base n cp h0
  have n3':(Builtin.lenOf x).run P w = .ok m w:=by
   obtain ⟨base',cp',rfl⟩:=slLen_inv h7 r2
   rfl
  obtain ⟨cap,⟨hcap,hcap63⟩,hrn⟩:=run_append_new (P:=P) (w:=w) c.argTypes o.type ht0 ht1 hu h2 hit hiz g hby n3' hnm hc o1 n1
  have hsz:(ovs ++ nvs ++ Builtin.zeroCells zv.cells (cap - (n + m))).size = cap * z:=by
   have e1:=o2.length
   have e2:=n2.length
   simp only [Array.length_toList] at e1 e2
   simp only [Array.size_append,zeroCells_size,hzvs E,e1,e2,o4,n4]
   rw [← Nat.add_mul,← Nat.add_mul]
   congr 1;omega
  have hrel:RelF E (cs ++ ds) (ovs ++ nvs ++ Builtin.zeroCells zv.cells (cap - (n + m))).toList:=by
   rw [Array.toList_append,Array.toList_append]
   have:=(o2.append n2).appendF (r:=[]) (us:=(Builtin.zeroCells zv.cells (cap - (n + m))).toList) trivial
   simpa using this
  refine ⟨.slice (some ⟨w.heap.size,0,none⟩) (n + m) cap,_,{ w with drawn:=w.drawn + 1,heap:=w.heap.push (.cells (ovs ++ nvs ++ Builtin.zeroCells zv.cells (cap - (n + m))) elem (0,0)) },.inl ?_,
   out_new hm' hW hp rfl rfl rfl rfl hrel ?_⟩
  ·rw [run_builtin ho hb,hargs]
   simp only [builtin,Sem.run_bind,hrn,Result.andThen_ok]
   rfl
  ·exact ⟨_,_,cap,addB_same _ _,rfl,hcap,by rw [hsz];omega,hcap63⟩
 rcases hcase with ⟨hs,rfl⟩ | ⟨k,nk,hs,rfl⟩
 ·-- a nil slice
  have hm1:1 ≤ m:=by
   rw [hs] at h12
   cases h13:Nat.ble 1 m with
   | true=>exact ble_inv h13
   | false=>rw [h13] at h12;cases h12
  refine ⟨eff_alloc hst hnb,fun K E w a hf hp=>?_⟩
  refine hnew K E w a _ [] _ hf hp (fun k hk=>by rw [hs] at hk;simp [slBlk] at hk) (fun k hk=>hk) (by rw [hget,if_pos rfl]) (fun _ h=>by simp at h) (by rw [hs];rfl) fun base nn cp h0=>?_
  obtain ⟨s,x,hargs,r1,r2⟩:=hrun a E w hf
  rw [hs] at r1
  have r1':s = .slice none 0 0:=r1
  have hlist:c.args.toList.map a.eval = [s,x]:=by
   have:=congrArg Array.toList hargs
   simpa using this
  cases hq:c.args.toList with
  | nil=>rw [hq] at hlist;simp at hlist
  | cons y ys =>
   rw [hq] at hlist h0
   simp at hlist h0
   rw [hlist.1,r1'] at h0
   injection h0 with _ _ e
   omega
 ·have hk:∃ bk,st.mem.get k = some bk∧takeN (dropN bk.cells 0) (Nat.mul nk z) = some cs:=by
   rw [hs] at h8
   obtain ⟨bk,q1,q2⟩:=ob_inv h8
   exact ⟨bk,q1,q2⟩
  obtain ⟨bk,hk,hcells⟩:=hk
  have hlt:=hst.lt hk
  have hnk:nk = n:=by
   rw [hs] at h6
   have h6':some nk = some n:=h6
   injection h6'
  subst hnk
  have hgk:∀ k',(st.mem.set k none).get k' = if k' = k then none else st.mem.get k':=fun k'=>get_set _ _ _ _ (by have:=hst.nb;omega)
  refine ⟨⟨Nat.le_succ _,Nat.le_refl _,fun k' h1 h2=>?_,fun k' h1=>?_,⟨hnb,fun k' h1=>?_⟩,fun l hl k' hk'=>?_⟩,fun K E w a hf hp=>?_⟩
  ·show (T.set _ _ _).get k' = _
   have:k' < st.nb:=h2
   rw [hget,if_neg (by omega),hgk,if_neg (fun e=>h1 (by simp [e]))]
  ·simp at h1;subst h1;exact ⟨hlt,bk,hk⟩
  ·show (T.set _ _ _).get k' = none
   have:st.nb + 1 ≤ k':=h1
   rw [hget,if_neg (by omega),hgk,if_neg (by omega)]
   exact hst.dom k' (by omega)
  ·injection hl with hl
   simp at hk';subst hk'
   rw [← hl];simp
  ·obtain ⟨s,x,hargs,r1,r2⟩:=hrun a E w hf
   rw [hs] at r1
   obtain ⟨pb,sz,cp,hrho,rfl,hncp,hfit⟩:=r1
   by_cases hroom:nk + m ≤ cp
   ·-- in place
    have hm:∀ k' b,k' ∈ k :: slBlk p.2 [] → st.mem.get k' = some b → BlkOk E w k' b:=fun k' b hi hk'=>hp.blk k' b hi hk'
    obtain ⟨nvs,n1,n2,n3,n4⟩:=firstCells_of (P:=P) (fun k' b hi hk'=>hm k' b (List.mem_cons_of_mem _ hi) hk') r2 h10 h7 h9
    obtain ⟨pb',sz',arr,bt,hrho',hh,hsz,hr⟩:=hm k bk (by simp) hk
    rw [hrho] at hrho';injection hrho' with e;injection e with e1 e2;subst e1;subst e2
    have hnl:=n2.length
    have hone:∀ v ∈ nvs.toList,v.oneCell' = true:=by
     intro v hv
     obtain ⟨i,hi⟩:=List.getElem?_of_mem hv
     have hil:i < ds.length:=by
      have:=(List.getElem?_eq_some_iff.1 hi).1
      omega
     obtain ⟨q,hq,hrel⟩:=n2.get i _ (List.getElem?_eq_getElem hil)
     rw [hi] at hq;injection hq with hq;subst hq
     have:=hrel.one
     cases v <;> first | rfl | exact absurd rfl (this.1 _) | exact absurd rfl (this.2 _)
    have hmul:(nk + m) * z ≤ cp * z:=Nat.mul_le_mul_right z hroom
    rw [Nat.add_mul] at hmul
    have hro:=run_append_old (P:=P) (w:=w) c.argTypes o.type ht0 ht1 hu h2 hit g n3 hroom n1 hh (by omega) hone
    rw [dropN_eq] at hcells
    obtain ⟨hcs,hcl⟩:=takeN_eq _ _ _ hcells
    simp only [List.drop_zero] at hcs hcl
    have hcl':nk * z ≤ bk.cells.length:=hcl
    have hrl:=hr.take (nk * z) hcl'
    have hrel:RelF E (cs ++ ds) (arr.toList.take (nk * z) ++ nvs.toList ++ arr.toList.drop (nk * z + nvs.toList.length)):=by
     have:=((hrl.append n2).appendF (r:=[]) (us:=arr.toList.drop (nk * z + nvs.toList.length)) trivial)
     have e:cs = bk.cells.take (nk * z):=hcs
     rw [← e] at this
     simpa using this
    have hasz:(arr.toList.take (nk * z) ++ nvs.toList ++ arr.toList.drop (nk * z + nvs.toList.length)).toArray.size = arr.size:=by
     simp only [List.size_toArray,List.length_append,List.length_take,List.length_drop,Array.length_toList] at hnl ⊢
     omega
    refine ⟨.slice (some ⟨pb,0,none⟩) (nk + m) cp,_,w.setRow pb (arr.toList.take (nk * z) ++ nvs.toList ++ arr.toList.drop (nk * z + nvs.toList.length)).toArray,.inl ?_,
     out_again (k0:=k) (p:=pb) (by rw [hget,if_pos rfl]) (by rw [hget,if_neg (by omega),hgk,if_pos rfl]) (by rw [hasz,hsz];exact hrho) hp
      (setRow_heap w pb arr _ bt (0,0) hh) (by simp) (fun b hb=>setRow_other w pb b _ hb) rfl rfl rfl (by simpa using hrel) ?_⟩
    ·rw [run_builtin ho hb,hargs]
     simp only [builtin,Sem.run_bind,hro,Result.andThen_ok]
     rfl
    ·exact ⟨_,_,cp,addB_same _ _,rfl,hroom,by rw [hasz,hsz];exact hfit.1,hfit.2⟩
   ·refine hnew K E w a _ [k] _ hf hp (fun k' hk'=>by rw [hs] at hk';simp [slBlk] at hk';simp [hk']) (fun k' hk'=>List.mem_cons_of_mem _ hk') (by rw [hget,if_pos rfl]) (fun k' h=>?_) (by rw [hs];exact Nat.beq_refl _) fun base nn cp' h0=>?_
    ·simp at h;subst h
     rw [hget,if_neg (by omega),hgk,if_pos rfl]
    ·have hlist:c.args.toList.map a.eval = [.slice (some ⟨pb,0,none⟩) nk cp,x]:=by
      have:=congrArg Array.toList hargs
      simpa using this
     cases hq:c.args.toList with
     | nil=>rw [hq] at hlist;simp at hlist
     | cons y ys =>
      rw [hq] at hlist h0
      simp at hlist h0
      rw [hlist.1] at h0
      injection h0 with _ _ e
      omega
end
end Go.SX
