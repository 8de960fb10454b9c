/-
 Shared texts (H1).
-/
import Derived.Test.YtlpomcihkjiokaaGreatRows
import Derived.WalkKit
import Derived.ProofKit
import Derived.OpenShut
import Derived.OpenVars
import Derived.ChangeSame
import Derived.JoinedOf
import Derived.JoinedAt
import Derived.RowKit3
import Derived.Lib.SmallJoins
import Derived.Test.YtlpomcihkjiokaaGreatProg
import Derived.WalkSpells
import Derived.WalkLawsBesides
import Derived.BigQuiet
import Derived.Deep.QuietTactic
import Derived.Deep.Draws
import Derived.Deep.OwnRows
import Derived.Lib.Hide
import Derived.StillTailTactics
import Derived.Deep.Slices
namespace Go.Proofs.YtlpomcihkjiokaaGreat
open Go.ChangeShapes Go.WideShapes Go.ChangeAt Go.RowKit Go.Joins Go.WideElems
def rowed (P : Program) (ts : List TypeId) : Bool := ts.all fun t => P.readableRec t && decide (t < P.types.size)
theorem trodAll_stays {H : Type} {enc : TypeId × Value → H} {P : Program} (hl : laidOutB P = true) {W W' : World} {sp' : Nat → Bool} :
 ∀ {ts : List TypeId} {vs : List Value} {ds : List (DataW H)} {p : List MemPlace}, rowed P ts = true → (∀ x ∈ p, W.sameAt W' x) →
  DataW.TrodAll enc P W 0 (fun _ => true) true ts vs ds p → (∀ x ∈ p, sp' x.block = true) → DataW.TrodAll enc P W' 0 sp' true ts vs ds p
 | [], _, _, _, _, _, h, _ => by
  obtain ⟨rfl, rfl, rfl⟩ := trodAll_nil h
  exact trodAll_mk0
 | t :: ts, _, _, _, hr, hlt, h, hs => by
  obtain ⟨v, vs1, d, ds1, a, b, rfl, rfl, rfl, h1, h2⟩ := trodAll_cons h
  simp only [rowed, List.all_cons, Bool.and_eq_true, decide_eq_true_eq] at hr
  obtain ⟨n, h1⟩ := h1
  refine trodAll_cons_mk ⟨n, DataW.trod_stays (kids_book hl hr.1.1) (book_sized hr.1.1) (fun h => by cases h) ⟨hr.1.2, book_self t⟩ h1 (fun x hx => hlt x (by simp [hx])) (fun x hx => hs x (by simp [hx]))⟩
   (trodAll_stays hl (by simpa [rowed] using hr.2) (fun x hx => hlt x (by simp [hx])) h2 (fun x hx => hs x (by simp [hx])))
theorem law_post {H : Type} {enc : TypeId × Value → H} {P : Program} {tb : TypeId} {f : Func} {s : ChangeSpec} {apart fresh handsOn again : Bool} {W W' : World} {args : Array Value} {ds gs : List (DataW H)} {before : List MemPlace}
 (hl : laidOutB P = true) (hv : s.vars = []) (hr : rowed P f.params.toList = true)
 (hb : Below W.heap.size W W') (hres : f.resultTypes = #[tb]) (htb : P.underlying tb = some .bool)
 (hfn : s.fn H ds = { results := [.lit (.bool true)], args := ds })
 (hW : DataW.Whole enc P f.params.toList s.vars apart W args.toList ds gs before) :
 s.post enc P f apart fresh handsOn again W args (.bool true) W' := by
 have hW' := hW
 have hlt := hW.lt
 obtain ⟨p, q, hA, hV, rfl, hz, hn⟩ := hW
 have hgs : gs = [] ∧ q = [] := by
  rw [hv] at hV
  cases gs with
  | nil => exact ⟨rfl, hV⟩
  | cons _ _ => exact hV.elim
 obtain ⟨rfl, rfl⟩ := hgs
 simp only [List.append_nil] at hlt hz hn hW' ⊢
 have hbl : ∀ x ∈ p, x.block < W.heap.size := fun x hx => hlt x hx
 have hA' : ∀ sp : Nat → Bool, (∀ x ∈ p, sp x.block = true) → DataW.TrodAll enc P W' 0 sp true f.params.toList args.toList ds p :=
  fun sp hs => trodAll_stays hl hr (fun x hx => hb.same (hbl x hx)) hA hs
 have hR : ∀ (b : Nat) (sp : Nat → Bool) (hd : Bool), DataW.TrodAll enc P W' b sp hd f.resultTypes.toList ((Value.bool true).resultList f.resultTypes.size) (s.fn H (ds ++ [])).results [] := by
  intro b sp hd
  simp only [List.append_nil]
  rw [hfn, hres]
  exact trodAll_mk1 (shut_bool htb true)
 have hA2 : ∀ sp : Nat → Bool, (∀ x ∈ p, sp x.block = true) → DataW.TrodAll enc P W' 0 sp true f.params.toList args.toList (s.fn H (ds ++ [])).args p := by
  intro sp hs
  simp only [List.append_nil]
  rw [hfn]
  exact hA' sp hs
 have hV2 : ∀ sp : Nat → Bool, DataW.TrodVars enc P W' sp s.vars (s.fn H (ds ++ [])).vars [] := by
  intro sp
  simp only [List.append_nil]
  rw [hfn, hv]
  exact (rfl : ([] : List MemPlace) = [])
 refine ⟨ds, [], p, [], p, [], hW', hR _ _ _, hA2 _ (fun x hx => by simpa using hbl x hx), hV2 _, hb.frame _, fun _ => ?_⟩
 refine ⟨?_, _, _, ([] ++ p) ++ [], ⟨[] ++ p, [], trodAll_append (hA2 _ (fun _ _ => rfl)) (hR _ _ _), hV2 _, rfl, ?_, ?_⟩, ?_⟩
 ·rw [hres]
  intro j t r h1 h2
  cases j with
  | zero =>
   simp at h1
   subst h1
   simp [Value.resultList] at h2
   subst h2
   exact okWide_bool_mk htb _
  | succ j => simp at h1
 ·intro b off hp
  simp only [List.nil_append, List.append_nil] at hp
  rw [hb.frozen (hbl _ hp)]
  exact hz b off hp
 ·intro ha
  simpa using hn ha
 ·intro x hx _
  simpa using hx
namespace FE
def val : List Int → Int
 | [] => 0
 | x :: l => x + 1000000000 * val l
def Dig (l : List Int) : Prop := ∀ x ∈ l, 0 ≤ x ∧ x < 1000000000
theorem val_nil : val [] = 0 := rfl
theorem val_cons (x : Int) (l : List Int) : val (x :: l) = x + 1000000000 * val l := rfl
theorem Dig.nil : Dig [] := fun _ h => by cases h
theorem Dig.cons {x : Int} {l : List Int} (h0 : 0 ≤ x) (h1 : x < 1000000000) (h : Dig l) : Dig (x :: l) := by
 intro y hy
 rcases List.mem_cons.1 hy with rfl | hy
 ·exact ⟨h0, h1⟩
 ·exact h y hy
theorem Dig.head {x : Int} {l : List Int} (h : Dig (x :: l)) : 0 ≤ x ∧ x < 1000000000 := h x (by simp)
theorem Dig.tail {x : Int} {l : List Int} (h : Dig (x :: l)) : Dig l := fun y hy => h y (by simp [hy])
theorem Dig.append {a b : List Int} (ha : Dig a) (hb : Dig b) : Dig (a ++ b) := by
 intro x hx
 rcases List.mem_append.1 hx with h | h
 ·exact ha x h
 ·exact hb x h
theorem Dig.take {a : List Int} (h : Dig a) (n : Nat) : Dig (a.take n) := fun x hx => h x (List.mem_of_mem_take hx)
theorem Dig.drop {a : List Int} (h : Dig a) (n : Nat) : Dig (a.drop n) := fun x hx => h x (List.mem_of_mem_drop hx)
theorem Dig.get {a : List Int} (h : Dig a) (i : Nat) (hi : i < a.length) : 0 ≤ a[i] ∧ a[i] < 1000000000 := h _ (List.getElem_mem hi)
theorem Dig.getD {a : List Int} (h : Dig a) (i : Nat) : 0 ≤ a.getD i 0 ∧ a.getD i 0 < 1000000000 := by
 rw [List.getD_eq_getElem?_getD]
 by_cases hi : i < a.length
 ·rw [List.getElem?_eq_getElem hi]; exact h.get i hi
 ·rw [List.getElem?_eq_none (by omega)]; simp
theorem Dig.set {a : List Int} (h : Dig a) (i : Nat) {x : Int} (h0 : 0 ≤ x) (h1 : x < 1000000000) : Dig (a.set i x) := by
 intro y hy
 rcases List.mem_or_eq_of_mem_set hy with h' | rfl
 ·exact h y h'
 ·exact ⟨h0, h1⟩
theorem Dig.replicate (n : Nat) : Dig (List.replicate n 0) := by
 intro x hx
 rw [List.eq_of_mem_replicate hx]; omega
def bp (n : Nat) : Int := 1000000000 ^ n
theorem bp_zero : bp 0 = 1 := by simp [bp]
theorem bp_succ (n : Nat) : bp (n + 1) = 1000000000 * bp n := by simp [bp, Int.pow_succ, Int.mul_comm]
theorem bp_pos (n : Nat) : 0 < bp n := Int.pow_pos (by omega)
theorem bp_add (m n : Nat) : bp (m + n) = bp m * bp n := by simp [bp, Int.pow_add]
theorem bp_mono {m n : Nat} (h : m ≤ n) : bp m ≤ bp n := by
 obtain ⟨k, rfl⟩ := Nat.exists_eq_add_of_le h
 rw [bp_add]
 have := bp_pos m
 have := bp_pos k
 calc bp m = bp m * 1 := by simp
  _ ≤ bp m * bp k := Int.mul_le_mul_of_nonneg_left (by omega) (by omega)
theorem val_append (a b : List Int) : val (a ++ b) = val a + bp a.length * val b := by
 induction a with
 | nil => simp [val, bp_zero]
 | cons x a ih =>
  simp only [List.cons_append, val_cons, ih, List.length_cons, bp_succ]
  grind
theorem val_nonneg {l : List Int} (h : Dig l) : 0 ≤ val l := by
 induction l with
 | nil => simp [val]
 | cons x l ih =>
  have := h.head
  have := ih h.tail
  rw [val_cons]; omega
theorem val_lt {l : List Int} (h : Dig l) : val l < bp l.length := by
 induction l with
 | nil => simp [val, bp_zero]
 | cons x l ih =>
  have := h.head
  have := ih h.tail
  rw [val_cons, List.length_cons, bp_succ]; omega
theorem val_replicate (n : Nat) : val (List.replicate n 0) = 0 := by
 induction n with
 | zero => rfl
 | succ n ih => rw [List.replicate_succ, val_cons, ih]; rfl
theorem val_take_succ (l : List Int) (i : Nat) (hi : i < l.length) : val (l.take (i + 1)) = val (l.take i) + bp i * l[i] := by
 rw [List.take_succ_eq_append_getElem hi, val_append, val_cons, val_nil, List.length_take]
 rw [Nat.min_eq_left (by omega)]; simp
theorem val_take_drop (l : List Int) (i : Nat) (hi : i ≤ l.length) : val l = val (l.take i) + bp i * val (l.drop i) := by
 conv => lhs; rw [← List.take_append_drop i l]
 rw [val_append, List.length_take, Nat.min_eq_left hi]
theorem val_set (l : List Int) (i : Nat) (x : Int) (hi : i < l.length) : val (l.set i x) = val l + bp i * (x - l[i]) := by
 induction l generalizing i with
 | nil => simp at hi
 | cons y l ih =>
  cases i with
  | zero => simp only [List.set_cons_zero, val_cons, bp_zero, List.getElem_cons_zero]; omega
  | succ i =>
   have := ih i (by simpa using hi)
   simp only [List.set_cons_succ, val_cons, List.getElem_cons_succ, this, bp_succ]
   grind
def Top (l : List Int) : Prop := ∀ h : l ≠ [], l.getLast h ≠ 0
theorem Top.nil : Top [] := fun h => absurd rfl h
theorem Top.tail {x : Int} {l : List Int} (h : Top (x :: l)) : Top l := by
 intro hl
 have := h (by simp)
 rwa [List.getLast_cons hl] at this
theorem val_pos {l : List Int} (hd : Dig l) (ht : Top l) (hl : l ≠ []) : 0 < val l := by
 induction l with
 | nil => exact absurd rfl hl
 | cons x l ih =>
  have h1 := hd.head
  rw [val_cons]
  by_cases hn : l = []
  ·subst hn
   have := ht (by simp)
   simp at this
   rw [val_nil]; omega
  ·have := ih hd.tail ht.tail hn
   omega
theorem val_eq_zero {l : List Int} (hd : Dig l) (ht : Top l) : val l = 0 ↔ l = [] := by
 constructor
 ·intro h
  by_cases hl : l = []
  ·exact hl
  ·have := val_pos hd ht hl; omega
 ·rintro rfl; rfl
theorem val_inj {a b : List Int} (ha : Dig a) (hat : Top a) (hb : Dig b) (hbt : Top b) (h : val a = val b) : a = b := by
 induction a generalizing b with
 | nil => exact ((val_eq_zero hb hbt).1 (by rw [← h]; rfl)).symm
 | cons x a ih =>
  cases b with
  | nil => exact (val_eq_zero ha hat).1 (by rw [h]; rfl)
  | cons y b =>
   rw [val_cons, val_cons] at h
   have h1 := ha.head
   have h2 := hb.head
   have hxy : x = y := by omega
   have hab : val a = val b := by omega
   rw [hxy, ih ha.tail hat.tail hb.tail hbt.tail hab]
def toL (n : Nat) : List Int := if h : n = 0 then [] else ((n % 1000000000 : Nat) : Int) :: toL (n / 1000000000)
termination_by n
decreasing_by omega
theorem toL_zero : toL 0 = [] := by rw [toL]; simp
theorem toL_pos {n : Nat} (h : n ≠ 0) : toL n = ((n % 1000000000 : Nat) : Int) :: toL (n / 1000000000) := by rw [toL]; simp [h]
theorem toL_dig (n : Nat) : Dig (toL n) := by
 induction n using Nat.strongRecOn with
 | _ n ih =>
  by_cases h : n = 0
  ·subst h; rw [toL_zero]; exact Dig.nil
  ·rw [toL_pos h]
   exact Dig.cons (by omega) (by omega) (ih _ (by omega))
theorem val_toL (n : Nat) : val (toL n) = n := by
 induction n using Nat.strongRecOn with
 | _ n ih =>
  by_cases h : n = 0
  ·subst h; rw [toL_zero]; rfl
  ·rw [toL_pos h, val_cons, ih _ (by omega)]; omega
theorem toL_eq_nil {n : Nat} : toL n = [] ↔ n = 0 := by
 constructor
 ·intro h
  have := val_toL n
  rw [h, val_nil] at this; omega
 ·rintro rfl; exact toL_zero
theorem toL_top (n : Nat) : Top (toL n) := by
 induction n using Nat.strongRecOn with
 | _ n ih =>
  by_cases h : n = 0
  ·subst h; rw [toL_zero]; exact Top.nil
  ·intro hl
   have hrest := ih (n / 1000000000) (by omega)
   have e := toL_pos h
   by_cases hn : toL (n / 1000000000) = []
   ·have h0 := toL_eq_nil.1 hn
    simp only [e, hn, List.getLast_singleton]
    omega
   ·have := hrest hn
    simp only [e]
    rwa [List.getLast_cons hn]
theorem toL_val {l : List Int} (hd : Dig l) (ht : Top l) : toL (val l).toNat = l := by
 refine val_inj (toL_dig _) (toL_top _) hd ht ?_
 rw [val_toL]
 have := val_nonneg hd
 omega
theorem eq_toL {l : List Int} {n : Nat} (hd : Dig l) (ht : Top l) (hv : val l = n) : l = toL n := by
 rw [← toL_val hd ht, hv]; simp
theorem val_ge {l : List Int} (hd : Dig l) (ht : Top l) (hl : l ≠ []) : bp (l.length - 1) ≤ val l := by
 induction l with
 | nil => exact absurd rfl hl
 | cons x l ih =>
  have h1 := hd.head
  rw [val_cons]
  by_cases hn : l = []
  ·subst hn
   have := ht (by simp)
   simp at this
   simp [val_nil, bp_zero]; omega
  ·have := ih hd.tail ht.tail hn
   have hlen : l.length ≠ 0 := by simpa using hn
   rw [List.length_cons, Nat.add_sub_cancel]
   have e : l.length = (l.length - 1) + 1 := by omega
   rw [e, bp_succ]; omega
theorem len_le_iff {l : List Int} (hd : Dig l) (ht : Top l) (k : Nat) : l.length ≤ k ↔ val l < bp k := by
 constructor
 ·intro h
  have := val_lt hd
  have := bp_mono h
  omega
 ·intro h
  by_cases hl : l = []
  ·subst hl; simp
  ·have h1 := val_ge hd ht hl
   by_cases hk : l.length ≤ k
   ·exact hk
   ·have := bp_mono (show k ≤ l.length - 1 by omega)
    omega
theorem toL_len_le (n k : Nat) : (toL n).length ≤ k ↔ (n : Int) < bp k := by
 rw [len_le_iff (toL_dig n) (toL_top n), val_toL]
def trim : List Int → List Int
 | [] => []
 | x :: l => if x = 0 ∧ trim l = [] then [] else x :: trim l
theorem val_trim (l : List Int) : val (trim l) = val l := by
 induction l with
 | nil => rfl
 | cons x l ih =>
  simp only [trim]
  split
  ·rename_i h
   rw [val_cons, ← ih, h.2, h.1]; rfl
  ·rw [val_cons, ih, val_cons]
theorem dig_trim {l : List Int} (h : Dig l) : Dig (trim l) := by
 induction l with
 | nil => exact Dig.nil
 | cons x l ih =>
  simp only [trim]
  split
  ·exact Dig.nil
  ·exact Dig.cons h.head.1 h.head.2 (ih h.tail)
theorem top_trim (l : List Int) : Top (trim l) := by
 induction l with
 | nil => exact Top.nil
 | cons x l ih =>
  simp only [trim]
  split
  ·exact Top.nil
  ·rename_i h
   intro hl
   by_cases hn : trim l = []
   ·simp only [hn, List.getLast_singleton]
    intro hx; exact h ⟨hx, hn⟩
   ·rw [List.getLast_cons hn]; exact ih hn
theorem trim_snoc_zero (l : List Int) : trim (l ++ [0]) = trim l := by
 induction l with
 | nil => rfl
 | cons x l ih => simp only [List.cons_append, trim, ih]
theorem trim_snoc_ne (l : List Int) {x : Int} (hx : x ≠ 0) : trim (l ++ [x]) = l ++ [x] := by
 induction l with
 | nil => simp [trim, hx]
 | cons y l ih => simp [trim, ih]
theorem trim_eq {l : List Int} {n : Nat} (hd : Dig l) (hv : val l = n) : trim l = toL n :=
 eq_toL (dig_trim hd) (top_trim l) (by rw [val_trim, hv])
def NatOk (l : List Int) : Prop := l.length ≤ 60 ∧ Dig l ∧ Top l
theorem NatOk.toL {l : List Int} (h : NatOk l) : l = toL (val l).toNat := (toL_val h.2.1 h.2.2).symm
end FE
namespace FE
theorem val_take_succ' (l : List Int) (i : Nat) : val (l.take (i + 1)) = val (l.take i) + bp i * l.getD i 0 := by
 by_cases hi : i < l.length
 ·rw [val_take_succ l i hi]; simp [hi]
 ·rw [List.take_of_length_le (by omega), List.take_of_length_le (by omega)]
  simp [List.getElem?_eq_none (show l.length ≤ i by omega)]
theorem val_snoc (l : List Int) (x : Int) : val (l ++ [x]) = val l + bp l.length * x := by
 rw [val_append, val_cons, val_nil]; simp
theorem Dig.snoc {l : List Int} {x : Int} (h : Dig l) (h0 : 0 ≤ x) (h1 : x < 1000000000) : Dig (l ++ [x]) := h.append (Dig.cons h0 h1 Dig.nil)
theorem top_snoc (l : List Int) {x : Int} (hx : x ≠ 0) : Top (l ++ [x]) := by
 intro h; simpa using hx
theorem top_of_ge {l : List Int} (hd : Dig l) (h : l ≠ [] → bp (l.length - 1) ≤ val l) : Top l := by
 intro hl
 rcases List.eq_nil_or_concat l with rfl | ⟨l', x, rfl⟩
 ·exact absurd rfl hl
 ·intro h0
  have h1 := h hl
  simp at h0
  subst h0
  rw [List.concat_eq_append, val_snoc] at h1
  have h2 := val_lt (l := l') (fun y hy => hd y (by simp [hy]))
  simp at h1
  omega
theorem bp_mul_succ (k : Nat) (x : Int) : bp (k + 1) * x = bp k * (1000000000 * x) := by rw [bp_succ]; grind
theorem addStep {X Y zs : List Int} {k : Nat} {cy s : Int} (hz : zs.length = k) (hd : Dig zs) (hv : val zs + bp k * cy = val (X.take k) + val (Y.take k))
 (hs : s = X.getD k 0 + cy + Y.getD k 0) :
 Dig (zs ++ [s % 1000000000]) ∧ val (zs ++ [s % 1000000000]) + bp (k + 1) * (s / 1000000000) = val (X.take (k + 1)) + val (Y.take (k + 1)) := by
 refine ⟨hd.snoc (by omega) (by omega), ?_⟩
 rw [val_snoc, hz, val_take_succ', val_take_succ', bp_mul_succ]
 have e : s % 1000000000 + 1000000000 * (s / 1000000000) = s := by omega
 have : bp k * (s % 1000000000) + bp k * (1000000000 * (s / 1000000000)) = bp k * s := by rw [← Int.mul_add, e]
 rw [hs] at this ⊢
 grind
theorem addEnd {X Y zs : List Int} (hX : Dig X) (hXt : Top X) (hY : Dig Y) (hYX : Y.length ≤ X.length) (hz : zs.length = X.length) (hd : Dig zs) {cy : Int}
 (hv : val zs + bp X.length * cy = val (X.take X.length) + val (Y.take X.length)) (h0 : 0 ≤ cy) (h1 : cy ≤ 1) :
 (if 0 < cy then zs ++ [cy] else zs) = toL (val X + val Y).toNat := by
 rw [List.take_of_length_le (Nat.le_refl _), List.take_of_length_le hYX] at hv
 have hx0 := val_nonneg hX
 have hy0 := val_nonneg hY
 split
 ·refine eq_toL (hd.snoc h0 (by omega)) (top_snoc _ (by omega)) ?_
  rw [val_snoc, hz, hv]; omega
 ·have hc : cy = 0 := by omega
  subst hc
  simp at hv
  refine eq_toL hd (top_of_ge hd fun hn => ?_) (by rw [hv]; omega)
  rw [hz, hv]
  by_cases hX0 : X = []
  ·subst hX0; simp at hz; exact absurd hz hn
  ·have := val_ge hX hXt hX0; omega
theorem getD_set (l : List Int) (i j : Nat) (x : Int) : (l.set i x).getD j 0 = if i = j ∧ i < l.length then x else l.getD j 0 := by
 simp only [List.getD_eq_getElem?_getD, List.getElem?_set]
 by_cases h : i = j
 ·subst h
  by_cases hi : i < l.length
  ·simp [hi]
  ·simp [hi]
 ·simp [h]
theorem val_set' (l : List Int) (i : Nat) (x : Int) (hi : i < l.length) : val (l.set i x) = val l + bp i * (x - l.getD i 0) := by
 rw [val_set l i x hi]; simp [hi]
theorem mul_bound {x y : Int} (hx : 0 ≤ x ∧ x < 1000000000) (hy : 0 ≤ y ∧ y ≤ 1000000000) : 0 ≤ x * y ∧ x * y ≤ 999999999 * y ∧ x * y ≤ 1000000000 * x := by
 refine ⟨Int.mul_nonneg hx.1 hy.1, Int.mul_le_mul_of_nonneg_right (by omega) hy.1, ?_⟩
 rw [Int.mul_comm 1000000000]
 exact Int.mul_le_mul_of_nonneg_left hy.2 hx.1
theorem divStep {xs zs : List Int} {j : Nat} {r d t : Int} (hd : 0 < d) (hr0 : 0 ≤ r) (hrd : r < d) (hxs : Dig xs) (hj : j < xs.length) (hzl : zs.length = xs.length) (hz : Dig zs)
 (h0 : zs.getD j 0 = 0) (hv : val xs = d * val zs + bp (j + 1) * r + val (xs.take (j + 1))) (ht : t = r * 1000000000 + xs.getD j 0) :
 0 ≤ t / d ∧ t / d < 1000000000 ∧ Dig (zs.set j (t / d)) ∧ val xs = d * val (zs.set j (t / d)) + bp j * (t % d) + val (xs.take j) := by
 have hx := hxs.getD j
 have q0 : 0 ≤ t / d := Int.ediv_nonneg (by omega) (by omega)
 have q1 : t / d < 1000000000 := by
  refine Int.ediv_lt_of_lt_mul hd ?_
  have : r * 1000000000 ≤ (d - 1) * 1000000000 := by omega
  omega
 refine ⟨q0, q1, hz.set j q0 q1, ?_⟩
 rw [val_set' _ _ _ (by omega), h0, hv, val_take_succ', bp_mul_succ]
 have e : d * (t / d) + t % d = t := Int.mul_ediv_add_emod t d
 have : bp j * (d * (t / d)) + bp j * (t % d) = bp j * t := by rw [← Int.mul_add, e]
 rw [ht] at this ⊢
 grind
theorem scaleStep {xs zs : List Int} {k : Nat} {cy by_ t : Int} (hz : Dig zs) (hk : k < zs.length) (h0 : zs.getD k 0 = 0) (hcy : 0 ≤ cy) (hcb : cy ≤ by_) (hb : by_ < 1000000000) (hxs : Dig xs)
 (hv : val zs + bp k * cy = val (xs.take k) * by_) (ht : t = cy + xs.getD k 0 * by_) :
 Dig (zs.set k (t % 1000000000)) ∧ val (zs.set k (t % 1000000000)) + bp (k + 1) * (t / 1000000000) = val (xs.take (k + 1)) * by_ ∧ 0 ≤ t / 1000000000 ∧ t / 1000000000 ≤ by_ := by
 have hx := hxs.getD k
 have hm := mul_bound hx ⟨show 0 ≤ by_ by omega, by omega⟩
 refine ⟨hz.set k (by omega) (by omega), ?_, by omega, by omega⟩
 rw [val_set' _ _ _ hk, h0, val_take_succ', bp_mul_succ]
 have e : t % 1000000000 + 1000000000 * (t / 1000000000) = t := by omega
 have : bp k * (t % 1000000000) + bp k * (1000000000 * (t / 1000000000)) = bp k * t := by rw [← Int.mul_add, e]
 rw [ht] at this ⊢
 grind
theorem mulStep {ys zs : List Int} {i k : Nat} {x cy t S : Int} (hz : Dig zs) (hik : i + k < zs.length) (hx : 0 ≤ x ∧ x < 1000000000) (hys : Dig ys) (hcy : 0 ≤ cy) (hcb : cy < 1000000000)
 (hv : val zs + bp (i + k) * cy = S + bp i * (x * val (ys.take k))) (ht : t = zs.getD (i + k) 0 + x * ys.getD k 0 + cy) :
 Dig (zs.set (i + k) (t % 1000000000)) ∧ val (zs.set (i + k) (t % 1000000000)) + bp (i + (k + 1)) * (t / 1000000000) = S + bp i * (x * val (ys.take (k + 1))) ∧ 0 ≤ t / 1000000000 ∧ t / 1000000000 < 1000000000 := by
 have hy := hys.getD k
 have hzz := hz.getD (i + k)
 have hm := mul_bound hx ⟨hy.1, by omega⟩
 refine ⟨hz.set _ (by omega) (by omega), ?_, by omega, by omega⟩
 rw [val_set' _ _ _ hik, val_take_succ', show i + (k + 1) = (i + k) + 1 by omega, bp_mul_succ]
 have e : t % 1000000000 + 1000000000 * (t / 1000000000) = t := by omega
 have h1 : bp (i + k) * (t % 1000000000) + bp (i + k) * (1000000000 * (t / 1000000000)) = bp (i + k) * t := by rw [← Int.mul_add, e]
 have h2 := bp_add i k
 rw [ht] at h1 ⊢
 grind
theorem mulRow {xs ys zs : List Int} {i : Nat} {cy : Int} (hz : Dig zs) (him : i + ys.length < zs.length) (h0 : zs.getD (i + ys.length) 0 = 0) (hcy : 0 ≤ cy) (hcb : cy < 1000000000)
 (hv : val zs + bp (i + ys.length) * cy = val (xs.take i) * val ys + bp i * (xs.getD i 0 * val (ys.take ys.length))) :
 Dig (zs.set (i + ys.length) (zs.getD (i + ys.length) 0 + cy)) ∧ val (zs.set (i + ys.length) (zs.getD (i + ys.length) 0 + cy)) = val (xs.take (i + 1)) * val ys := by
 rw [h0]
 refine ⟨hz.set _ (by omega) (by omega), ?_⟩
 rw [val_set' _ _ _ him, h0, val_take_succ']
 rw [List.take_of_length_le (Nat.le_refl _)] at hv
 grind
theorem subStep {xs ys zs : List Int} {k : Nat} {bo t : Int} (hz : zs.length = k) (hd : Dig zs) (hxs : Dig xs) (hys : Dig ys) (hb : bo = 0 ∨ bo = 1)
 (hv : val zs = val (xs.take k) - val (ys.take k) + bp k * bo) (ht : t = xs.getD k 0 - bo - ys.getD k 0) :
 Dig (zs ++ [if t < 0 then t + 1000000000 else t]) ∧ val (zs ++ [if t < 0 then t + 1000000000 else t]) = val (xs.take (k + 1)) - val (ys.take (k + 1)) + bp (k + 1) * (if t < 0 then 1 else 0) := by
 have hx := hxs.getD k
 have hy := hys.getD k
 refine ⟨hd.snoc (by split <;> omega) (by split <;> omega), ?_⟩
 rw [val_snoc, hz, val_take_succ', val_take_succ', hv, bp_mul_succ, ht]
 split <;> grind
theorem subEnd {xs ys zs : List Int} (hxd : Dig xs) (hyx : ys.length ≤ xs.length) (hz : zs.length = xs.length) (hd : Dig zs) {bo : Int} (hb : bo = 0 ∨ bo = 1)
 (hv : val zs = val (xs.take xs.length) - val (ys.take xs.length) + bp xs.length * bo) (hle : val ys ≤ val xs) : trim zs = toL (val xs - val ys).toNat := by
 rw [List.take_of_length_le (Nat.le_refl _), List.take_of_length_le hyx] at hv
 have h1 := val_lt hd
 have h2 := val_lt hxd
 rw [hz] at h1
 rcases hb with rfl | rfl
 ·exact trim_eq hd (by rw [hv]; omega)
 ·omega
theorem set_mid (P l : List Int) (k : Nat) (t : Int) (hP : P.length = k) (hk : k < l.length) : (P ++ l.drop k).set k t = (P ++ [t]) ++ l.drop (k + 1) := by
 rw [List.set_append_right _ _ (by omega), hP, Nat.sub_self, List.drop_eq_getElem_cons hk, List.set_cons_zero]
 simp
theorem getD_mid (P l : List Int) (k : Nat) (hP : P.length = k) (_hk : k < l.length) : (P ++ l.drop k).getD k 0 = l.getD k 0 := by
 rw [List.getD_eq_getElem?_getD, List.getElem?_append_right (by omega), hP, Nat.sub_self, List.getElem?_drop]
 simp
theorem takeStep {ws vs zs : List Int} {k : Nat} {bo by_ t b2 t2 : Int} (hz : zs.length = k) (hd : Dig zs) (hws : Dig ws) (hvs : Dig vs) (hb0 : 0 ≤ bo) (hb1 : bo < 1000000000) (hby : 0 ≤ by_ ∧ by_ < 1000000000)
 (hv : val zs - bp k * bo = val (ws.take k) - by_ * val (vs.take k)) (ht : t = ws.getD k 0 - bo - vs.getD k 0 * by_) (hb2 : b2 = if t < 0 then (-t + 1000000000 - 1) / 1000000000 else 0) (ht2 : t2 = if t < 0 then t + b2 * 1000000000 else t) :
 Dig (zs ++ [t2]) ∧ val (zs ++ [t2]) - bp (k + 1) * b2 = val (ws.take (k + 1)) - by_ * val (vs.take (k + 1)) ∧ 0 ≤ b2 ∧ b2 < 1000000000 := by
 have hx := hws.getD k
 have hy := hvs.getD k
 have hm := mul_bound hy ⟨hby.1, by omega⟩
 generalize hp : vs.getD k 0 * by_ = p at *
 have hp2 : p ≤ 999999998000000001 := by omega
 have ht2' : 0 ≤ t2 ∧ t2 < 1000000000 := by
  subst ht2 hb2
  split <;> omega
 have hb2' : 0 ≤ b2 ∧ b2 < 1000000000 := by
  subst hb2
  split <;> omega
 refine ⟨hd.snoc ht2'.1 ht2'.2, ?_, hb2'.1, hb2'.2⟩
 have e : t2 = t + 1000000000 * b2 := by
  subst ht2 hb2
  split <;> omega
 rw [val_snoc, hz, val_take_succ', val_take_succ', bp_mul_succ, e, ht, ← hp]
 grind
theorem addBackStep {ws vs zs : List Int} {k : Nat} {cy t : Int} (hz : zs.length = k) (hd : Dig zs) (hws : Dig ws) (hvs : Dig vs) (hc0 : 0 ≤ cy) (hc1 : cy ≤ 1)
 (hv : val zs + bp k * cy = val (ws.take k) + val (vs.take k)) (ht : t = ws.getD k 0 + cy + vs.getD k 0) :
 Dig (zs ++ [t % 1000000000]) ∧ val (zs ++ [t % 1000000000]) + bp (k + 1) * (t / 1000000000) = val (ws.take (k + 1)) + val (vs.take (k + 1)) ∧ 0 ≤ t / 1000000000 ∧ t / 1000000000 ≤ 1 := by
 have hx := hws.getD k
 have hy := hvs.getD k
 have h := addStep hz hd hv ht
 exact ⟨h.1, h.2, by omega, by omega⟩
theorem takeEnd {ws vs zs : List Int} {n : Nat} {bo q t : Int} (hz : zs.length = n) (hd : Dig zs) (hws : Dig ws) (hvn : vs.length = n) (hb0 : 0 ≤ bo)
 (hv : val zs - bp n * bo = val (ws.take n) - q * val (vs.take n)) (hlo : - bp n ≤ val (ws.take (n + 1)) - q * val vs) (ht : t = ws.getD n 0 - bo) :
 -1 ≤ t ∧ t < 1000000000 ∧ (t < 0 → Dig (zs ++ [t + 1000000000]) ∧ val (zs ++ [t + 1000000000]) = val (ws.take (n + 1)) - q * val vs + bp (n + 1) * 1) ∧
  (0 ≤ t → Dig (zs ++ [t]) ∧ val (zs ++ [t]) = val (ws.take (n + 1)) - q * val vs + bp (n + 1) * 0) := by
 have hx := hws.getD n
 have h1 := val_lt hd
 have h2 := bp_pos n
 rw [hz] at h1
 rw [List.take_of_length_le (l := vs) (by omega)] at hv
 have e : val (ws.take (n + 1)) - q * val vs = val zs + bp n * t := by
  rw [val_take_succ', ht]; grind
 rw [e] at hlo ⊢
 have ht1 : -1 ≤ t := by
  rcases Int.lt_or_le t (-1) with h | h
  ·exfalso
   have := Int.mul_le_mul_of_nonneg_left (show t ≤ -2 by omega) (show 0 ≤ bp n by omega)
   omega
  ·exact h
 refine ⟨ht1, by omega, fun h => ⟨hd.snoc (by omega) (by omega), ?_⟩, fun h => ⟨hd.snoc h (by omega), ?_⟩⟩
 ·rw [val_snoc, hz, bp_mul_succ]; grind
 ·rw [val_snoc, hz]; grind
theorem addBackEnd {ws vs zs : List Int} {n : Nat} {cy : Int} (hvn : vs.length ≤ n) (hv : val zs + bp n * cy = val (ws.take n) + val (vs.take n)) : val zs + bp n * cy = val (ws.take n) + val vs := by
 rwa [List.take_of_length_le (l := vs) hvn] at hv
end FE
open Go.RowKit
theorem ret_int {k : IntKind} {a b : Int} (h : a = b) : Ending.returned (.int k a) = .returned (.int k b) := by rw [h]
theorem ret_bool {a b : Bool} (h : a = b) : Ending.returned (.bool a) = .returned (.bool b) := by rw [h]
def RI (w : World) (A : Option Addr) (xs : List Int) : Prop :=
 xs ≠ [] → ∃ b off, A = some ⟨b, off, none⟩ ∧ b < w.heap.size ∧ ∀ i, i < xs.length → w.cell? ⟨b, off + i, none⟩ = some (.int .i64 (xs.getD i 0))
theorem RI.below {w w' : World} {A : Option Addr} {xs : List Int} {B : Nat} (h : RI w A xs) (hb : Below B w w') (hB : ∀ a, A = some a → xs ≠ [] → a.block < B) : RI w' A xs := by
 intro hx
 obtain ⟨b, off, rfl, hlt, hc⟩ := h hx
 refine ⟨b, off, rfl, Nat.lt_of_lt_of_le hlt hb.size, fun i hi => ?_⟩
 rw [hb.cell (p := ⟨b, off + i, none⟩) (hB ⟨b, off, none⟩ rfl hx)]
 exact hc i hi
theorem RI.later {w w' : World} {A : Option Addr} {xs : List Int} (h : RI w A xs) (hb : Below w.heap.size w w') : RI w' A xs :=
 h.below hb (by
  rintro a rfl hx
  obtain ⟨b, off, he, hlt, _⟩ := h hx
  injection he with he
  subst he
  exact hlt)
theorem RI.drewN {w : World} {A : Option Addr} {xs : List Int} (h : RI w A xs) (n : Nat) : RI (w.drewN n) A xs := h
theorem RI.drew {w : World} {A : Option Addr} {xs : List Int} (h : RI w A xs) : RI w.drew A xs := h
theorem RI.alloc {w : World} {A : Option Addr} {xs : List Int} (h : RI w A xs) (o : Obj) : RI (w.alloc o) A xs :=
 h.later ((Below.refl _ _).alloc (Nat.le_refl _) o)
theorem RI.nil (w : World) (A : Option Addr) : RI w A [] := fun h => absurd rfl h
theorem RI.of_own {w : World} {base : Nat} {e : TypeId} {xs : List Int} {A : Option Addr} {n c : Nat} (h : w.ownsRow base e 1 (.slice A n c) n (xs.map (Value.int .i64))) : RI w A xs := by
 intro hx
 have hlen : xs.length = n := by simpa using h.1
 have hn : n ≠ 0 := by
  intro h0
  exact hx (List.eq_nil_of_length_eq_zero (by omega))
 rcases h.2 with ⟨_, h0⟩ | ⟨g, cap, cur, hv, _, hh, _⟩
 ·exact absurd h0 hn
 ·injection hv with hA _ _
  subst hA
  refine ⟨g, 0, rfl, (Array.getElem?_eq_some_iff.1 hh).1, fun i hi => ?_⟩
  have := h.cells (g := g) rfl i (.int .i64 (xs.getD i 0)) (by simp [hi])
  unfold Addr.add at this
  by_cases hi0 : i = 0
  ·subst hi0; simpa using this
  ·rw [if_neg hi0] at this; simpa using this
theorem below_drewN {B : Nat} {a w : World} (h : Below B a w) (n : Nat) : Below B a (w.drewN n) := ⟨h.os, h.tape, h.output, h.size, h.block⟩
theorem below_self_drewN {B : Nat} (w : World) (n : Nat) : Below B w (w.drewN n) := below_drewN (Below.refl _ _) n
theorem below_trans {a b c : World} (h : Below a.heap.size a b) (k : Below b.heap.size b c) : Below a.heap.size a c := h.trans (k.mono h.size)
theorem wp_tail {P : Program} {id : Nat} {Q : Exit → Act → World → Prop} {a : Act} {w : World} {l : List Oper} (n : Nat) (hm : P.follows .mixedOrders = true) (hB : Region.lexTailB .any l.toArray n = true)
 (h : wpStill P l.toArray w.drew (fun a' => wpList P l.toArray Q (l.drop n) a' w.drew) (l.take n) a) : (Code.region id l.toArray true).wp P Q a w := wp_region_still_tail n hm hB h
theorem quiet_add_same {P : Program} {f : FuncId} {args : Array Value} {w : World} {a n : Nat} {v : Value}
 (h : Calls P f args (w.drewN (a + n)) fun e w' => e = .returned v ∧ w' = w.drewN (a + n)) :
 Calls P f args (w.drewN (a + n)) fun e w'' => e = .returned v ∧ ∃ m, w'' = w.drewN (a + m) :=
 h.mono fun _ _ ⟨he, hm⟩ => ⟨he, n, hm⟩
theorem Tryz.intInfo : (Tryz.prog.info? 3).map (fun i => (i.zero, i.size, i.bytes)) = some (some (.int .i64 0), 1, 8) := by kernel_rfl
def Arr (w : World) (g cap : Nat) (xs : List Int) : Prop :=
 ∃ rest : List Value, xs.length + rest.length = cap ∧ cap ≤ maxLen ∧ w.heap[g]? = some (.cells (xs.map (Value.int .i64) ++ rest).toArray 3 (0, 0))
theorem Arr.lt {w : World} {g cap : Nat} {xs : List Int} (h : Arr w g cap xs) : g < w.heap.size := by
 obtain ⟨rest, _, _, hh⟩ := h
 exact (Array.getElem?_eq_some_iff.1 hh).1
theorem Arr.len {w : World} {g cap : Nat} {xs : List Int} (h : Arr w g cap xs) : xs.length ≤ cap ∧ cap ≤ maxLen := by
 obtain ⟨rest, h1, h2, _⟩ := h
 exact ⟨by omega, h2⟩
theorem Arr.cell {w : World} {g cap : Nat} {xs : List Int} (h : Arr w g cap xs) (i : Nat) (hi : i < xs.length) : w.cell? ⟨g, i, none⟩ = some (.int .i64 (xs.getD i 0)) := by
 obtain ⟨rest, _, _, hh⟩ := h
 rw [cell_of_row w g i _ 3 (0, 0) hh]
 simp [hi, List.getElem?_append_left]
theorem Arr.frozen {w : World} {g cap : Nat} {xs : List Int} (h : Arr w g cap xs) (i : Nat) : w.frozen? ⟨g, i, none⟩ = false := by
 obtain ⟨rest, _, _, hh⟩ := h
 simp [World.frozen?, hh]
theorem Arr.block {w w' : World} {g cap : Nat} {xs : List Int} (h : Arr w g cap xs) (hb : w'.heap[g]? = w.heap[g]?) : Arr w' g cap xs := by
 obtain ⟨rest, h1, h2, hh⟩ := h
 exact ⟨rest, h1, h2, hb.trans hh⟩
theorem Arr.below {w w' : World} {g cap B : Nat} {xs : List Int} (h : Arr w g cap xs) (hb : Below B w w') (hg : g < B) : Arr w' g cap xs := h.block (hb.block g hg)
theorem Arr.later {w w' : World} {g cap : Nat} {xs : List Int} (h : Arr w g cap xs) (hb : Below w.heap.size w w') : Arr w' g cap xs := h.below hb h.lt
theorem Arr.alloc {w : World} {g cap : Nat} {xs : List Int} (h : Arr w g cap xs) (o : Obj) : Arr (w.alloc o) g cap xs := h.block (Below.heap_alloc w o g h.lt)
theorem Arr.drew {w : World} {g cap : Nat} {xs : List Int} (h : Arr w g cap xs) : Arr w.drew g cap xs := h
theorem Arr.drewN {w : World} {g cap : Nat} {xs : List Int} (h : Arr w g cap xs) (n : Nat) : Arr (w.drewN n) g cap xs := h
theorem Arr.far {w : World} {g cap : Nat} {xs : List Int} (h : Arr w g cap xs) {p : Addr} (hp : g ≠ p.block) (u : Value) : Arr (w.setCell p u) g cap xs := h.block (Below.heap_setCell w p u g hp)
theorem Arr.set {w : World} {g cap : Nat} {xs : List Int} (h : Arr w g cap xs) (i : Nat) (hi : i < xs.length) (x : Int) : Arr (w.setCell ⟨g, i, none⟩ (.int .i64 x)) g cap (xs.set i x) := by
 obtain ⟨rest, h1, h2, hh⟩ := h
 refine ⟨rest, by simpa using h1, h2, ?_⟩
 simp only [World.setCell, Array.getElem?_modify, hh, if_true]
 simp [List.map_set, List.set_append_left, hi]
theorem Arr.set2 {w : World} {g cap : Nat} {xs : List Int} (h : Arr w g cap xs) (i : Nat) (hi : i < xs.length) (x y : Int) : Arr ((w.setCell ⟨g, i, none⟩ (.int .i64 x)).setCell ⟨g, i, none⟩ (.int .i64 y)) g cap (xs.set i y) := by
 have := (h.set i hi x).set i (by simpa using hi) y
 rwa [List.set_set] at this
theorem Arr.set3 {w : World} {g cap : Nat} {xs : List Int} (h : Arr w g cap xs) (i : Nat) (hi : i < xs.length) (x y z : Int) :
 Arr (((w.setCell ⟨g, i, none⟩ (.int .i64 x)).setCell ⟨g, i, none⟩ (.int .i64 y)).setCell ⟨g, i, none⟩ (.int .i64 z)) g cap (xs.set i z) := by
 have := (h.set2 i hi x y).set i (by simpa using hi) z
 rwa [List.set_set] at this
theorem Arr.own {w : World} {g cap base : Nat} {xs : List Int} (h : Arr w g cap xs) (hb : base ≤ g) : w.ownsRow base 3 1 (.slice (some ⟨g, 0, none⟩) xs.length cap) xs.length (xs.map (Value.int .i64)) := by
 obtain ⟨rest, h1, h2, hh⟩ := h
 refine ⟨by simp, .inr ⟨g, cap, _, rfl, hb, hh, by omega, h2, by simp; omega, by simp⟩⟩
theorem Arr.of_own {w : World} {g cap base : Nat} {xs : List Int} (h : w.ownsRow base 3 1 (.slice (some ⟨g, 0, none⟩) xs.length cap) xs.length (xs.map (Value.int .i64))) : base ≤ g ∧ Arr w g cap xs := by
 rcases h.2 with ⟨he, _⟩ | ⟨g', cap', cur, hv, hb, hh, hnc, hcm, hcs, htake⟩
 ·cases he
 ·injection hv with e1 e2 e3
  injection e1 with e1
  injection e1 with e1
  subst e1; subst e3
  refine ⟨hb, cur.toList.drop xs.length, by simp; omega, hcm, ?_⟩
  rw [hh]
  congr 2
  apply Array.toList_inj.1
  simp only [Nat.mul_one] at htake
  rw [← htake]
  simp
theorem Arr.cut {w : World} {g cap : Nat} {xs : List Int} (h : Arr w g cap xs) (k : Nat) : Arr w g cap (xs.take k) := by
 obtain ⟨rest, h1, h2, hh⟩ := h
 refine ⟨(xs.drop k).map (Value.int .i64) ++ rest, ?_, h2, ?_⟩
 ·simp only [List.length_take, List.length_append, List.length_map, List.length_drop]; omega
 ·rw [hh, ← List.append_assoc, ← List.map_append, List.take_append_drop]
theorem Arr.reads {w : World} {g cap : Nat} {xs : List Int} (h : Arr w g cap xs) : RI w (some ⟨g, 0, none⟩) xs := fun _ =>
 ⟨g, 0, rfl, h.lt, fun i hi => by rw [Nat.zero_add]; exact h.cell i hi⟩
theorem madeCells_int (n : Nat) : madeCells #[.int .i64 0] n = (List.replicate n (Value.int .i64 0)).toArray := by
 unfold madeCells
 apply Array.ext
 ·simp
 ·intro i h1 h2
  simp [Nat.mod_one]
theorem Arr.made {w : World} (n : Nat) (hn : n ≤ maxLen) : Arr (w.alloc (.cells (madeCells #[.int .i64 0] n) 3)) w.heap.size n (List.replicate n 0) := by
 refine ⟨[], by simp, hn, ?_⟩
 rw [heap_alloc_new, madeCells_int]
 simp
def OI (w : World) (base : Nat) (v : Value) (xs : List Int) : Prop := w.ownsRow base 3 1 v xs.length (xs.map (Value.int .i64))
theorem OI.alloc {w : World} {base : Nat} {v : Value} {xs : List Int} (h : OI w base v xs) (o : Obj) : OI (w.alloc o) base v xs := World.ownsRow.alloc h o
theorem OI.drew {w : World} {base : Nat} {v : Value} {xs : List Int} (h : OI w base v xs) : OI w.drew base v xs := h
theorem OI.drewN {w : World} {base : Nat} {v : Value} {xs : List Int} (h : OI w base v xs) (n : Nat) : OI (w.drewN n) base v xs := h
theorem OI.nil (w : World) (base : Nat) : OI w base (.slice none 0 0) [] := World.ownsRow_nil w base 3 1
theorem OI.made {w : World} {cap : Nat} {base : Nat} (h : Arr w base cap []) {b : Nat} (hb : b ≤ base) : OI w b (.slice (some ⟨base, 0, none⟩) 0 cap) [] := h.own hb
theorem OI.of_arr {w : World} {g cap base : Nat} {xs : List Int} (h : Arr w g cap xs) (hb : base ≤ g) : OI w base (.slice (some ⟨g, 0, none⟩) xs.length cap) xs := h.own hb
theorem OI.later {w w' : World} {base : Nat} {v : Value} {xs : List Int} (h : OI w base v xs) (hb : Below w.heap.size w w') : OI w' base v xs :=
 World.ownsRow.kept (row := none) h ⟨hb.os, hb.tape, hb.output, hb.size, fun k hk _ => hb.block k hk⟩ (by cases v.ownBlock <;> simp)
def RO (w : World) (base : Nat) (v : Value) (xs : List Int) : Prop :=
 ∃ A c, v = .slice A xs.length c ∧ xs.length ≤ c ∧ c ≤ maxLen ∧ (xs ≠ [] → ∃ g, A = some ⟨g, 0, none⟩ ∧ base ≤ g ∧ Arr w g c xs)
theorem RO.reads {w : World} {base : Nat} {xs : List Int} {A : Option Addr} {n c : Nat} (h : RO w base (.slice A n c) xs) : RI w A xs := by
 intro hx
 obtain ⟨A', c', he, _, _, h2⟩ := h
 injection he with e1 e2 e3
 obtain ⟨g, e, _, ha⟩ := h2 hx
 rw [e1, e]
 exact ha.reads hx
theorem RO.form {w : World} {base : Nat} {v : Value} {xs : List Int} (h : RO w base v xs) : ∃ A c, v = .slice A xs.length c ∧ xs.length ≤ c := by
 obtain ⟨A, c, h1, h2, _⟩ := h
 exact ⟨A, c, h1, h2⟩
theorem RO.later {w w' : World} {base : Nat} {v : Value} {xs : List Int} (h : RO w base v xs) (hb : Below w.heap.size w w') : RO w' base v xs := by
 obtain ⟨A, c, rfl, h1, h2, h3⟩ := h
 refine ⟨A, c, rfl, h1, h2, fun hx => ?_⟩
 obtain ⟨g, e, hg, ha⟩ := h3 hx
 exact ⟨g, e, hg, ha.later hb⟩
theorem RO.mono {w : World} {base base' : Nat} {v : Value} {xs : List Int} (h : RO w base v xs) (hb : base' ≤ base) : RO w base' v xs := by
 obtain ⟨A, c, rfl, h1, h2, h3⟩ := h
 refine ⟨A, c, rfl, h1, h2, fun hx => ?_⟩
 obtain ⟨g, e, hg, ha⟩ := h3 hx
 exact ⟨g, e, Nat.le_trans hb hg, ha⟩
theorem RO.of_own {w : World} {base : Nat} {v : Value} {xs : List Int} (h : OI w base v xs) : RO w base v xs := by
 rcases h.2 with ⟨rfl, h0⟩ | ⟨g, cap, cur, rfl, hb, hh, hnc, hcm, hcs, htake⟩
 ·exact ⟨none, 0, by rw [h0], by omega, Nat.zero_le _, fun hx => absurd (List.eq_nil_of_length_eq_zero h0) hx⟩
 ·exact ⟨_, cap, rfl, hnc, hcm, fun _ => ⟨g, rfl, hb, (Arr.of_own h).2⟩⟩
theorem RO.nil (w : World) (base : Nat) (A : Option Addr) (c : Nat) (hc : c ≤ maxLen) : RO w base (.slice A 0 c) [] := ⟨A, c, rfl, Nat.zero_le _, hc, fun h => absurd rfl h⟩
theorem makeInts {P : Program} {ops : Array Oper} {rest : List Oper} {o : Oper} {a : Act} {w : World} {Q : Exit → Act → World → Prop} (hgd : o.guard = none) (l c : Operand) (T : TypeId)
 (hop : o.op = Op.makeSlice T l c) (ht : P.underlying T = some (.slice 3)) (hinfo : (P.info? 3).map (fun i => (i.zero, i.size, i.bytes)) = some (some (.int .i64 0), 1, 8))
 (n k : Nat) (x y : Int) (hl : a.eval l = .int .i64 x) (hc : a.eval c = .int .i64 y) (hx : x = n) (hy : y = k) (hnk : n ≤ k) (hk : k ≤ 1099511627776)
 (h : Arr (w.alloc (.cells (madeCells #[.int .i64 0] k) 3)) w.heap.size k (List.replicate k 0) →
  wpList P ops Q rest (a.put o.dst (.slice (some ⟨w.heap.size, 0, none⟩) n k)) (w.alloc (.cells (madeCells #[.int .i64 0] k) 3))) : wpList P ops Q (o :: rest) a w := by
 obtain ⟨i, hi, hz0, hz1, hz2⟩ := info_parts hinfo
 subst hx; subst hy
 refine wpList_plain hgd fun K hK' => ?_
 have hrun := run_make (P := P) w T 3 i _ ht hi hz0 .i64 .i64 (n : Int) (k : Int) (by omega) (by omega) (by rw [hz2]; omega) (by omega)
 simp only [Int.toNat_natCast, hz1, Nat.mul_one] at hrun
 unfold Oper.wp
 simp [execOp, hop, hl, hc, hrun, Result.andThen]
 exact hK' _ _ (h (Arr.made k (by unfold maxLen; omega)))
theorem cell_new1 (w : World) (v : Value) (T : TypeId) : (w.alloc (.cells #[v] T)).cell? ⟨w.heap.size, 0, none⟩ = some v := by
 rw [World.cell?_alloc_at _ _ _ _ rfl]; rfl
theorem append1 {P : Program} {ops : Array Oper} {rest : List Oper} {o : Oper} {a : Act} {w : World} {Q : Exit → Act → World → Prop} (hgd : o.guard = none) (s x : Operand) (T : TypeId)
 (ho : o.op = .call { callee := .builtin .append, args := #[s, x], argTypes := #[T, T] }) (ht : P.underlying T = some (.slice 3))
 (hinfo : (P.info? 3).map (fun i => (i.zero, i.size, i.bytes)) = some (some (.int .i64 0), 1, 8))
 (base : Nat) (v : Value) (xs : List Int) (hs : a.eval s = v) (hown : OI w base v xs)
 (ad : Addr) (y : Int) (hx : a.eval x = .slice (some ad) 1 1) (hy : w.cell? ad = some (.int .i64 y)) (hlen : xs.length < 1099511627776) (hbase : base ≤ w.heap.size)
 (h : ∀ v' w', OI w' base v' (xs ++ [y]) → Below base w w' → wpList P ops Q rest (a.put o.dst v') w') : wpList P ops Q (o :: rest) a w := by
 obtain ⟨i0, hi, hz0, hz1, hz2⟩ := info_parts hinfo
 refine wpList_append_own w hgd s x T ho base 3 i0 (.int .i64 0) 1 8 ht hi hz0 hz1 hz2 rfl (by decide) v xs.length _ hs hown ad 1 1 [.int .i64 y] hx rfl ?_ ?_ ?_ ?_ hbase ?_
 ·intro j u hj
  match j, hj with
  | 0, hj => simp at hj; subst hj; simpa [Addr.add] using hy
 ·intro u hu; simp at hu; subst hu; rfl
 ·unfold maxLen; omega
 ·omega
 ·intro v' w' h1 hg _
  refine h v' w' (by simpa [OI] using h1) ?_
  exact (Below.refl _ _).grown hg hbase (fun k hk => (hown.lt k hk).1)
theorem run_append_of_nil {P : Program} (w : World) (base : Nat) (t ty e : TypeId) (i : TypeInfo) (size : Nat) (ht : P.underlying t = some (.slice e)) (hi : P.info? e = some i)
 (v : Value) (n : Nat) (xs : List Value) (hown : w.ownsRow base e size v n xs) (c : Nat) : (Builtin.append_ #[t, t] ty #[v, .slice none 0 c]).run P w = .ok v w := by
 rcases hown.2 with ⟨rfl, rfl⟩ | ⟨g, cap, cur, rfl, _, _, hnc, _⟩
 ·simp [Builtin.append_, run_underlying ht, sizeOf, typeInfo, hi, Builtin.lenOf, Builtin.firstCells]
 ·simp [Builtin.append_, run_underlying ht, sizeOf, typeInfo, hi, Builtin.lenOf, Builtin.firstCells, hnc, storeCells]
theorem appendAll {P : Program} {ops : Array Oper} {rest : List Oper} {o : Oper} {a : Act} {w : World} {Q : Exit → Act → World → Prop} (hgd : o.guard = none) (s x : Operand) (T : TypeId)
 (ho : o.op = .call { callee := .builtin .append, args := #[s, x], argTypes := #[T, T] }) (ht : P.underlying T = some (.slice 3))
 (hinfo : (P.info? 3).map (fun i => (i.zero, i.size, i.bytes)) = some (some (.int .i64 0), 1, 8))
 (base : Nat) (v : Value) (xs : List Int) (hs : a.eval s = v) (hown : OI w base v xs)
 (A : Option Addr) (ys : List Int) (m c' : Nat) (hx : a.eval x = .slice A m c') (hm : ys.length = m) (hr : RI w A ys) (hlen : xs.length + m < 1099511627776) (hbase : base ≤ w.heap.size)
 (h : ∀ v' w', OI w' base v' (xs ++ ys) → Below base w w' → wpList P ops Q rest (a.put o.dst v') w') : wpList P ops Q (o :: rest) a w := by
 obtain ⟨i0, hi, hz0, hz1, hz2⟩ := info_parts hinfo
 by_cases hys : ys = []
 ·subst hys
  simp at hm
  subst hm
  cases A with
  | none =>
   refine wpList_plain hgd fun K hK => ?_
   have hrun := run_append_of_nil (P := P) w base T o.type 3 i0 1 ht hi v _ _ hown c'
   unfold Oper.wp
   simp [execOp, ho, resolve, invoke, builtin, hs, hx, hrun, Result.andThen]
   exact hK _ _ (h _ _ (by simpa using hown) (Below.refl _ _))
  | some ad =>
   refine wpList_append_own w hgd s x T ho base 3 i0 (.int .i64 0) 1 8 ht hi hz0 hz1 hz2 rfl (by decide) v xs.length _ hs hown ad 0 c' [] hx rfl (by simp) (by simp) (by unfold maxLen; omega) (by omega) hbase ?_
   intro v' w' h1 hg _
   exact h v' w' (by simpa [OI] using h1) ((Below.refl _ _).grown hg hbase (fun k hk => (World.ownsRow.lt hown k hk).1))
 ·obtain ⟨b, off, rfl, hb, hc⟩ := hr hys
  refine wpList_append_own w hgd s x T ho base 3 i0 (.int .i64 0) 1 8 ht hi hz0 hz1 hz2 rfl (by decide) v xs.length _ hs hown ⟨b, off, none⟩ m c' (ys.map (Value.int .i64)) hx (by simpa using hm) ?_ ?_ ?_ ?_ hbase ?_
  ·intro j u hj
   have hjl : j < ys.length := by
    have := (List.getElem?_eq_some_iff.1 hj).1
    simpa using this
   have hcc := hc j hjl
   have hu : u = .int .i64 (ys.getD j 0) := by simpa [hjl] using hj.symm
   rw [hu]
   unfold Addr.add
   by_cases h0 : j = 0
   ·subst h0; simpa using hcc
   ·rw [if_neg h0]; simpa using hcc
  ·intro u hu
   obtain ⟨z, _, rfl⟩ := List.mem_map.1 hu
   rfl
  ·unfold maxLen; omega
  ·omega
  ·intro v' w' h1 hg _
   exact h v' w' (by simpa [OI, hm] using h1) ((Below.refl _ _).grown hg hbase (fun k hk => (World.ownsRow.lt hown k hk).1))
open Go.RowKit Go.Joins Go.Deep
theorem lt_of_cell' {w : World} {b o : Nat} {s : Option Nat} {v : Value} (h : w.cell? ⟨b, o, s⟩ = some v) : b < w.heap.size ∧ s = none := by
 unfold World.cell? at h
 cases hb : w.heap[b]? with
 | none => simp [hb] at h
 | some x =>
  refine ⟨(Array.getElem?_eq_some_iff.1 hb).1, ?_⟩
  cases s with
  | none => rfl
  | some s => cases x <;> simp [hb] at h
def SI {α : Type} (At : World → Nat → Nat → α → Prop) (k : Nat) (d : α) (w : World) (A : Option Addr) (xs : List α) : Prop :=
 xs ≠ [] → ∃ b off, A = some ⟨b, off, none⟩ ∧ b < w.heap.size ∧ ∀ i, i < xs.length → At w b (off + i * k) (xs.getD i d)
def Stays {α : Type} (At : World → Nat → Nat → α → Prop) : Prop := ∀ (w w' : World) (b o : Nat) (x : α), b < w.heap.size → At w b o x → Below w.heap.size w w' → At w' b o x
theorem SI.later {α : Type} {At : World → Nat → Nat → α → Prop} {k : Nat} {d : α} (hs : Stays At) {w w' : World} {A : Option Addr} {xs : List α} (h : SI At k d w A xs) (hb : Below w.heap.size w w') : SI At k d w' A xs := by
 intro hx
 obtain ⟨b, off, rfl, hlt, hc⟩ := h hx
 exact ⟨b, off, rfl, Nat.lt_of_lt_of_le hlt hb.size, fun i hi => hs _ _ _ _ _ hlt (hc i hi) hb⟩
theorem SI.nil {α : Type} (At : World → Nat → Nat → α → Prop) (k : Nat) (d : α) (w : World) (A : Option Addr) : SI At k d w A [] := fun h => absurd rfl h
theorem cell_later {w w' : World} {b o : Nat} {v : Value} (hlt : b < w.heap.size) (h : w.cell? ⟨b, o, none⟩ = some v) (hb : Below w.heap.size w w') : w'.cell? ⟨b, o, none⟩ = some v := by
 rw [hb.cell (p := ⟨b, o, none⟩) hlt]; exact h
theorem box_cell {w w2 : World} {C : Array Value} {t : TypeId} (hb : Below (w.alloc (.cells C t)).heap.size (w.alloc (.cells C t)) w2) (j : Nat) {v : Value} (h : C[j]? = some v) : w2.cell? ⟨w.heap.size, j, none⟩ = some v := by
 rw [hb.cell (p := ⟨w.heap.size, j, none⟩) (by simp), cell_alloc_mark_at w C t _ _ j rfl]
 exact h
theorem box_below {w w2 : World} {C : Array Value} {t : TypeId} (hb : Below (w.alloc (.cells C t)).heap.size (w.alloc (.cells C t)) w2) : Below w.heap.size w w2 := (below_alloc1 w _).trans (below_le hb (by simp))
theorem own_cell {w w2 : World} {C : Array Value} {t : TypeId} (hb : Below (w.alloc (.cells C t)).heap.size (w.alloc (.cells C t)) w2) {g : Nat} (hg : g = w.heap.size) :
 (∀ j v, C[j]? = some v → w2.cell? ⟨g, j, none⟩ = some v) ∧ ∀ j, w2.frozen? ⟨g, j, none⟩ = false := by
 subst hg
 refine ⟨fun j v h => box_cell hb j h, fun j => ?_⟩
 rw [hb.frozen (p := ⟨w.heap.size, j, none⟩) (by simp)]
 exact unfrozen_of_block (cs := C) (t := t) (heap_alloc_new _ _) j
theorem below_step {w w2 : World} {o : Obj} (hb : Below (w.alloc o).heap.size (w.alloc o) w2) : Below w.heap.size w w2 := (below_alloc1 w _).trans (below_le hb (by simp))
theorem RO.far {w : World} {base : Nat} {v : Value} {xs : List Int} (h : RO w base v xs) {p : Addr} (hp : p.block < base) (u : Value) : RO (w.setCell p u) base v xs := by
 obtain ⟨A, c, rfl, hl, hc, h⟩ := h
 refine ⟨A, c, rfl, hl, hc, fun hx => ?_⟩
 obtain ⟨g, rfl, hg, ha⟩ := h hx
 exact ⟨g, rfl, hg, ha.far (by omega) u⟩
structure RatD where
 neg : Bool
 mag : List Int
 den : List Int
def zR : RatD := ⟨false, [], []⟩
def RatAt (w : World) (b off : Nat) (r : RatD) : Prop :=
 ∃ A c B d, w.cell? ⟨b, off, none⟩ = some (.bool r.neg) ∧ w.cell? ⟨b, off + 1, none⟩ = some (.slice A r.mag.length c) ∧ w.cell? ⟨b, off + 2, none⟩ = some (.slice B r.den.length d) ∧
  (r.mag.length ≤ c ∧ c ≤ maxLen ∧ r.den.length ≤ d ∧ d ≤ maxLen) ∧ RI w A r.mag ∧ RI w B r.den
def RatV (w : World) (v : Value) (r : RatD) : Prop :=
 ∃ A c B d, v = .agg #[.bool r.neg, .slice A r.mag.length c, .slice B r.den.length d] ∧
  (r.mag.length ≤ c ∧ c ≤ maxLen ∧ r.den.length ≤ d ∧ d ≤ maxLen) ∧ RI w A r.mag ∧ RI w B r.den
theorem RatV.later {w w' : World} {v : Value} {r : RatD} (h : RatV w v r) (hb : Below w.heap.size w w') : RatV w' v r := by
 obtain ⟨A, c, B, d, rfl, hl, h1, h2⟩ := h
 exact ⟨A, c, B, d, rfl, hl, h1.later hb, h2.later hb⟩
theorem RatAt.stays : Stays RatAt := by
 intro w w' b o x hlt h hb
 obtain ⟨A, c, B, d, h0, h1, h2, hl, h3, h4⟩ := h
 exact ⟨A, c, B, d, cell_later hlt h0 hb, cell_later hlt h1 hb, cell_later hlt h2 hb, hl, h3.later hb, h4.later hb⟩
def VI (w : World) (A : Option Addr) (rs : List RatD) : Prop := SI RatAt 3 zR w A rs
theorem VI.later {w w' : World} {A : Option Addr} {rs : List RatD} (h : VI w A rs) (hb : Below w.heap.size w w') : VI w' A rs := SI.later RatAt.stays h hb
theorem VI.nil (w : World) (A : Option Addr) : VI w A [] := SI.nil _ _ _ w A
section
variable {H : Type} {enc : TypeId × Value → H} {P : Program} {w : World}
end
namespace FE
def nv (l : List Int) : Nat := (val l).toNat
theorem nv_toL (n : Nat) : nv (toL n) = n := by rw [nv, val_toL, Int.toNat_natCast]
theorem nv_nil : nv [] = 0 := rfl
def digB (l : List Int) : Bool := l.all fun x => decide (0 ≤ x) && decide (x < 1000000000)
theorem digB_iff {l : List Int} : digB l = true ↔ Dig l := by simp [digB, Dig]
def topB (l : List Int) : Bool := l.getLast? != some 0
theorem topB_iff {l : List Int} : topB l = true ↔ Top l := by
 unfold topB Top
 cases l with
 | nil => simp
 | cons x l => rw [List.getLast?_eq_some_getLast (by simp)]; simp
def natOk (l : List Int) : Bool := decide (l.length ≤ 60) && (topB l && digB l)
theorem natOk_iff {l : List Int} : natOk l = true ↔ NatOk l := by
 simp only [natOk, NatOk, digB_iff, topB_iff, Bool.and_eq_true, decide_eq_true_eq]
 exact ⟨fun ⟨a, b, c⟩ => ⟨a, c, b⟩, fun ⟨a, b, c⟩ => ⟨a, c, b⟩⟩
theorem toL_nv {l : List Int} (h : natOk l = true) : toL (nv l) = l := toL_val (natOk_iff.1 h).2.1 (natOk_iff.1 h).2.2
theorem natOk_len {l : List Int} (h : natOk l = true) : l.length ≤ 60 := (natOk_iff.1 h).1
theorem natOk_of_toL {n : Nat} (h : (toL n).length ≤ 60) : natOk (toL n) = true := natOk_iff.2 ⟨h, toL_dig n, toL_top n⟩
def bigOk (s : Bool) (l : List Int) : Bool := natOk l && (!s || !l.isEmpty)
def ratOk (r : RatD) : Bool := (bigOk r.neg r.mag && (natOk r.den && !r.den.isEmpty)) && ((decide (r.mag.length ≤ 24) && decide (r.den.length ≤ 24)) && Nat.gcd (nv r.mag) (nv r.den) == 1)
def mkR (s : Bool) (p q : Nat) : RatD := ⟨s && decide (p ≠ 0), toL p, toL q⟩
def few (p : Nat) : Bool := decide ((toL p).length ≤ 24)
def low (s : Bool) (p q : Nat) : RatD :=
 if q = 0 then zR else if few (p / Nat.gcd p q) && few (q / Nat.gcd p q) then mkR s (p / Nat.gcd p q) (q / Nat.gcd p q) else zR
structure OkR (r : RatD) (p q : Nat) : Prop where
 mag : r.mag = toL p
 den : r.den = toL q
 p0 : r.neg = true → p ≠ 0
 q0 : q ≠ 0
 pl : (toL p).length ≤ 24
 ql : (toL q).length ≤ 24
 gcd : Nat.gcd p q = 1
theorem ratOk_iff {r : RatD} : ratOk r = true ↔ OkR r (nv r.mag) (nv r.den) := by
 constructor
 ·intro h
  simp only [ratOk, bigOk, Bool.and_eq_true, decide_eq_true_eq, beq_iff_eq, Bool.or_eq_true, Bool.not_eq_true', List.isEmpty_eq_false_iff] at h
  obtain ⟨⟨⟨h1, h2⟩, h3, h4⟩, ⟨h5, h6⟩, h7⟩ := h
  have e1 := toL_nv h1
  have e2 := toL_nv h3
  refine ⟨e1.symm, e2.symm, fun hs h0 => ?_, fun h0 => h4 ?_, by rw [e1]; exact h5, by rw [e2]; exact h6, h7⟩
  ·rcases h2 with h2 | h2
   ·rw [h2] at hs; cases hs
   ·rw [h0, toL_zero] at e1; exact h2 e1.symm
  ·rw [h0, toL_zero] at e2; exact e2.symm
 ·intro h
  have l1 : r.mag.length ≤ 24 := by rw [h.mag]; exact h.pl
  have l2 : r.den.length ≤ 24 := by rw [h.den]; exact h.ql
  have n1 : natOk r.mag = true := by rw [h.mag]; exact natOk_of_toL (by have := h.pl; omega)
  have n2 : natOk r.den = true := by rw [h.den]; exact natOk_of_toL (by have := h.ql; omega)
  have hd : r.den ≠ [] := by rw [h.den]; intro e; exact h.q0 (toL_eq_nil.1 e)
  have hm : r.neg = true → r.mag ≠ [] := by intro hs; rw [h.mag]; intro e; exact h.p0 hs (toL_eq_nil.1 e)
  simp only [ratOk, bigOk, Bool.and_eq_true, decide_eq_true_eq, beq_iff_eq, Bool.or_eq_true, Bool.not_eq_true', List.isEmpty_eq_false_iff]
  refine ⟨⟨⟨n1, ?_⟩, n2, hd⟩, ⟨l1, l2⟩, h.gcd⟩
  cases hs : r.neg
  ·exact .inl rfl
  ·exact .inr (hm hs)
theorem OkR.ok {r : RatD} {p q : Nat} (h : OkR r p q) : ratOk r = true := by
 refine ratOk_iff.2 ?_
 have e1 : nv r.mag = p := by rw [h.mag, nv_toL]
 have e2 : nv r.den = q := by rw [h.den, nv_toL]
 rw [e1, e2]; exact h
theorem OkR.eq {r : RatD} {p q : Nat} (h : OkR r p q) : r = mkR r.neg p q := by
 obtain ⟨s, m, d⟩ := r
 have h1 := h.mag
 have h2 := h.den
 have h3 := h.p0
 simp only at h1 h2 h3
 subst h1 h2
 cases s
 ·rfl
 ·simp [mkR, h3 rfl]
theorem OkR.nmag {r : RatD} {p q : Nat} (h : OkR r p q) : nv r.mag = p := by rw [h.mag, nv_toL]
theorem OkR.nden {r : RatD} {p q : Nat} (h : OkR r p q) : nv r.den = q := by rw [h.den, nv_toL]
theorem zR_not : ratOk zR = false := by decide
theorem low_ok (s : Bool) (p q : Nat) : low s p q = zR ∨ OkR (low s p q) (p / Nat.gcd p q) (q / Nat.gcd p q) := by
 unfold low
 split
 ·exact .inl rfl
 ·rename_i hq
  split
  ·rename_i h
   simp only [few, Bool.and_eq_true, decide_eq_true_eq] at h
   have hg : 0 < Nat.gcd p q := Nat.gcd_pos_of_pos_right _ (by omega)
   refine .inr ⟨rfl, rfl, ?_, ?_, h.1, h.2, ?_⟩
   ·intro hs h0
    simp only [mkR, h0] at hs
    simp at hs
   ·intro h0
    have := Nat.le_of_dvd (by omega) (Nat.gcd_dvd_right p q)
    have := Nat.div_pos this hg
    omega
   ·rw [Nat.gcd_div (Nat.gcd_dvd_left p q) (Nat.gcd_dvd_right p q)]
    exact Nat.div_self hg
  ·exact .inl rfl
def Res (r : RatD) : Prop := r = zR ∨ ratOk r = true
theorem low_res (s : Bool) (p q : Nat) : Res (low s p q) := (low_ok s p q).imp id OkR.ok
theorem Res.den {r : RatD} (h : Res r) : (r.den.length == 0) = !ratOk r := by
 rcases h with rfl | h
 ·decide
 ·rw [h]
  have h' := ratOk_iff.1 h
  have : r.den ≠ [] := by rw [h'.den]; intro e; exact h'.q0 (toL_eq_nil.1 e)
  simpa using this
def num (r : RatD) : Int := if r.neg then -(nv r.mag : Int) else nv r.mag
def lowI (n : Int) (q : Nat) : RatD := low (decide (n < 0)) n.natAbs q
def radd (r s : RatD) : RatD := if ratOk r && ratOk s then lowI (num r * nv s.den + num s * nv r.den) (nv r.den * nv s.den) else zR
def rsub (r s : RatD) : RatD := if ratOk r && ratOk s then lowI (num r * nv s.den - num s * nv r.den) (nv r.den * nv s.den) else zR
def rmul (r s : RatD) : RatD := if ratOk r && ratOk s then lowI (num r * num s) (nv r.den * nv s.den) else zR
def rdiv (r s : RatD) : RatD := if ratOk r && ratOk s then low (r.neg != s.neg) (nv r.mag * nv s.den) (nv r.den * nv s.mag) else zR
def rneg (r : RatD) : RatD := if ratOk r then mkR (!r.neg) (nv r.mag) (nv r.den) else zR
def rsign (r : RatD) : Int := if ratOk r then (if r.mag.isEmpty then 0 else if r.neg then -1 else 1) else 0
def rint (n : Int) : RatD := ⟨decide (n < 0), toL n.natAbs, [1]⟩
theorem radd_res (r s : RatD) : Res (radd r s) := by unfold radd; split; exact low_res _ _ _; exact .inl rfl
theorem rsub_res (r s : RatD) : Res (rsub r s) := by unfold rsub; split; exact low_res _ _ _; exact .inl rfl
theorem rmul_res (r s : RatD) : Res (rmul r s) := by unfold rmul; split; exact low_res _ _ _; exact .inl rfl
theorem rdiv_res (r s : RatD) : Res (rdiv r s) := by unfold rdiv; split; exact low_res _ _ _; exact .inl rfl
theorem radd_bad1 {r s : RatD} (h : ratOk r = false) : radd r s = zR := by simp [radd, h]
theorem radd_bad2 {r s : RatD} (h : ratOk s = false) : radd r s = zR := by simp [radd, h]
theorem rmul_bad1 {r s : RatD} (h : ratOk r = false) : rmul r s = zR := by simp [rmul, h]
theorem rmul_bad2 {r s : RatD} (h : ratOk s = false) : rmul r s = zR := by simp [rmul, h]
end FE
open Go.RowKit
def cmpI (a b : Int) : Int := if a < b then -1 else if b < a then 1 else 0
def cmpAt (xs ys : List Int) : Nat → Int
 | 0 => 0
 | i + 1 => if xs.getD i 0 = ys.getD i 0 then cmpAt xs ys i else cmpI (xs.getD i 0) (ys.getD i 0)
def cmpL (xs ys : List Int) : Int := if xs.length = ys.length then cmpAt xs ys xs.length else cmpI xs.length ys.length
set_option maxHeartbeats 400000 in
theorem cmpCompare (a b : Int) (w : World) :
 Calls Tryz.prog 225 #[.int .i64 a, .int .i64 b] w fun e w' => e = .returned (.int .i64 (cmpI a b)) ∧ w' = w := by
 go_enter Tryz.func225, Tryz.ntmps225
 go_wp2
 all_goals go_ret
 ·exact ⟨by rw [cmpI, if_pos (by assumption)]; rfl, rfl⟩
 ·exact ⟨by rw [cmpI, if_neg (by omega), if_pos (by assumption)]; rfl, rfl⟩
 ·exact ⟨by rw [cmpI, if_neg (by omega), if_neg (by omega)]; rfl, rfl⟩
set_option maxHeartbeats 400000 in
theorem natCmp_any (xs ys : List Int) (n m c d : Nat) (hn : xs.length = n) (hm : ys.length = m) (hn1 : n ≤ 4611686018427387904) (hm1 : m ≤ 4611686018427387904) (A B : Option Addr) (w : World) (ha : RI w A xs) (hb : RI w B ys) :
 Calls Tryz.prog 206 #[.slice A n c, .slice B m d] w fun e w' => e = .returned (.int .i64 (cmpL xs ys)) ∧ ∃ k, w' = w.drewN k := by
 by_cases hnm : n = m
 ·subst hnm
  have hh : ((n : Int) != n) = false := by simp
  have hL : cmpL xs ys = cmpAt xs ys n := by rw [cmpL, hn, hm, if_pos rfl]
  rw [hL]
  clear hL
  go_enter Tryz.func206, Tryz.ntmps206
  go_wp2_with fail
  go_loopw [5] (fun i wr => ∃ k : Nat, k ≤ n ∧ i = .int .i64 ((k : Int) - 1) ∧ cmpAt xs ys n = cmpAt xs ys k ∧ ∃ q, wr = w.drewN q) (fun i _ => (intOf i + 1).toNat)
  case atStart => exact ⟨n, Nat.le_refl _, rfl, rfl, 0, rfl⟩
  case round =>
   obtain ⟨k, hk, rfl, hc, q, rfl⟩ := hrel
   have HC := Lib.hid hc; clear hc
   by_cases hk0 : k = 0
   ·subst hk0
    go_wp2
    go_ret
    exact ⟨ret_int (by rw [HC.out]; rfl), q, rfl⟩
   ·obtain ⟨j, rfl⟩ := Nat.exists_eq_succ_of_ne_zero hk0
    obtain ⟨b1, o1, rfl, hb1, hc1⟩ := ha (by intro h; subst h; simp at hn; omega)
    obtain ⟨b2, o2, rfl, hb2, hc2⟩ := hb (by intro h; subst h; simp at hm; omega)
    have e1 := hc1 j (by omega)
    have e2 := hc2 j (by omega)
    clear hc1 hc2
    have hj : cmpAt xs ys (j + 1) = if xs.getD j 0 = ys.getD j 0 then cmpAt xs ys j else cmpI (xs.getD j 0) (ys.getD j 0) := rfl
    generalize xs.getD j 0 = x at *
    generalize ys.getD j 0 = y at *
    have Hj := Lib.hid hj; clear hj
    by_cases hxy : x = y
    ·subst hxy
     have hx1 : (x != x) = false := by simp
     go_wp2
     go_quiet (fail)
     go_wp2
     go_roundw
     case rel => exact ⟨j, by omega, by go_num, by rw [HC.out, Hj.out, if_pos trivial], _, rfl⟩
     case measure => simp [intOf]
    ·have hx1 : (x != y) = true := by simpa using hxy
     have Hxy := Lib.hid hxy; clear hxy
     go_wp2
     go_quiet (fail)
     simp only [World.drewN_drewN]
     generalize q + nq = q2
     go_wp2
     go_quiet ((go_at_call 225; exact quiet_add_same (cmpCompare _ _ _)))
     go_wp2
     go_ret
     exact ⟨ret_int (by rw [HC.out, Hj.out, if_neg Hxy.out]), q2 + nq, World.drewN_drewN _ _ _⟩
 ·have hh : ((n : Int) != m) = true := by simp; omega
  have hL : cmpL xs ys = cmpI n m := by rw [cmpL, hn, hm, if_neg hnm]
  rw [hL]
  clear hL
  have Hnm := Lib.hid hnm; clear hnm
  go_enter Tryz.func206, Tryz.ntmps206
  go_wp2_with (go_at_call 225; refine (cmpCompare _ _ _).mono ?_; rintro e w' ⟨rfl, rfl⟩)
  go_ret
  exact ⟨rfl, 0, rfl⟩
open Go.RowKit Go.Joins
def inB (n lo hi : Int) : Bool := decide (lo ≤ n) && decide (n ≤ hi)
theorem inB_true {n lo hi : Int} (h : lo ≤ n) (h2 : n ≤ hi) : inB n lo hi = true := by simp [inB, h, h2]
theorem inB_lo {n lo hi : Int} (h : ¬ lo ≤ n) : inB n lo hi = false := by simp [inB]; omega
theorem inB_hi {n lo hi : Int} (h : ¬ n ≤ hi) : inB n lo hi = false := by simp [inB]; omega
set_option maxHeartbeats 400000 in
theorem iWithin (n lo hi : Int) (w : World) :
 Calls Tryz.prog 102 #[.int .i64 n, .int .i64 lo, .int .i64 hi] w fun e w' => e = .returned (.bool (inB n lo hi)) ∧ w' = w := by
 by_cases h1 : lo ≤ n
 ·by_cases h2 : n ≤ hi
  ·rw [inB_true h1 h2]
   go_enter Tryz.func102, Tryz.ntmps102
   go_wp2
   go_ret
   exact ⟨rfl, rfl⟩
  ·rw [inB_hi h2]
   go_enter Tryz.func102, Tryz.ntmps102
   go_wp2
   go_ret
   exact ⟨rfl, rfl⟩
 ·rw [inB_lo h1]
  go_enter Tryz.func102, Tryz.ntmps102
  go_wp2
  go_ret
  exact ⟨rfl, rfl⟩
set_option maxHeartbeats 400000 in
theorem sIn (n lo hi : Int) (w : World) :
 Calls Tryz.prog 100 #[.int .i64 n, .int .i64 lo, .int .i64 hi] w fun e w' => e = .returned (.bool (inB n lo hi)) ∧ w' = w := by
 by_cases h1 : lo ≤ n
 ·by_cases h2 : n ≤ hi
  ·rw [inB_true h1 h2]
   go_enter Tryz.func100, Tryz.ntmps100
   go_wp2
   go_ret
   exact ⟨rfl, rfl⟩
  ·rw [inB_hi h2]
   go_enter Tryz.func100, Tryz.ntmps100
   go_wp2
   go_ret
   exact ⟨rfl, rfl⟩
 ·rw [inB_lo h1]
  go_enter Tryz.func100, Tryz.ntmps100
  go_wp2
  go_ret
  exact ⟨rfl, rfl⟩
set_option maxHeartbeats 400000 in
theorem iNatOk1 (x : Int) (w : World) :
 Calls Tryz.prog 190 #[.int .i64 x] w fun e w' => e = .returned (.bool (!inB x 0 999999999)) ∧ w' = w := by
 go_enter Tryz.func190, Tryz.ntmps190
 go_wp2_with fail
 refine (iWithin _ _ _ _).mono ?_
 rintro e w1 ⟨rfl, rfl⟩
 go_wp2
 go_ret
 exact ⟨rfl, rfl⟩
namespace FE
theorem digB_take {l : List Int} {k : Nat} (hk : k < l.length) (h : digB (l.take k) = true) (hx : inB (l.getD k 0) 0 999999999 = true) : digB (l.take (k + 1)) = true := by
 rw [digB_iff] at h ⊢
 rw [List.take_succ_eq_append_getElem hk]
 have e : l[k] = l.getD k 0 := by simp [hk]
 rw [e]
 simp only [inB, Bool.and_eq_true, decide_eq_true_eq] at hx
 exact h.append (Dig.cons hx.1 (by omega) Dig.nil)
theorem digB_bad {l : List Int} {k : Nat} (hk : k < l.length) (hx : inB (l.getD k 0) 0 999999999 = false) : digB l = false := by
 cases h : digB l
 ·rfl
 ·have := (digB_iff.1 h).get k hk
  have e : l[k] = l.getD k 0 := by simp [hk]
  rw [e] at this
  simp only [inB, Bool.and_eq_false_iff, decide_eq_false_iff_not] at hx
  omega
theorem topB_last {l : List Int} {k : Nat} (h : l.length = k + 1) : topB l = (l.getD k 0 != 0) := by
 unfold topB
 rw [List.getLast?_eq_getElem?, h, Nat.add_sub_cancel]
 have hk : k < l.length := by omega
 simp [hk]
 rfl
theorem natOk_long {l : List Int} (h : 60 < l.length) : natOk l = false := by simp [natOk]; omega
theorem natOk_zero {l : List Int} {k : Nat} (h : l.length = k + 1) (h0 : l.getD k 0 = 0) : natOk l = false := by simp only [natOk, topB_last h, h0]; simp
theorem natOk_dig {l : List Int} {k : Nat} (h : l.length = k + 1) (hl : l.length ≤ 60) (h0 : l.getD k 0 ≠ 0) : natOk l = digB l := by simp only [natOk, topB_last h, hl, bne_iff_ne.2 h0]; simp
theorem natOk_bad {l : List Int} (h : digB l = false) : natOk l = false := by simp [natOk, h]
end FE
set_option maxHeartbeats 400000 in
theorem iIndex (xs : List Int) (n c : Nat) (hn : xs.length = n) (hn1 : n ≤ 4611686018427387904) (A : Option Addr) (w : World) (ha : RI w A xs) :
 Calls Tryz.prog 213 #[.slice A n c, .func (.func 190) #[] #[]] w fun e w' => ∃ r : Int, e = .returned (.int .i64 r) ∧ (FE.digB xs = !decide (0 ≤ r)) ∧ w' = w := by
 have HN := Lib.hid hn; clear hn
 go_enter Tryz.func213, Tryz.ntmps213
 go_wp2_with fail
 go_loop [8] (fun u => ∃ k : Nat, k ≤ n ∧ u = .int .i64 k ∧ FE.digB (xs.take k) = true) (fun u => n - (intOf u).toNat)
 case atStart => exact ⟨0, Nat.zero_le _, rfl, rfl⟩
 case round =>
  obtain ⟨k, hk, rfl, ht⟩ := hrel
  have HT := Lib.hid ht; clear ht
  by_cases hkn : k = n
  ·subst hkn
   have h0 : decide ((k : Int) < (k : Int)) = false := by simp
   go_wp2
   go_ret
   refine ⟨-1, rfl, ?_, rfl⟩
   have := HT.out
   rw [List.take_of_length_le (by rw [HN.out]; exact Nat.le_refl _)] at this
   rw [this]; rfl
  ·have hlt : (k : Int) < (n : Int) := by omega
   have hkl : k < xs.length := by rw [HN.out]; omega
   obtain ⟨b, off, rfl, hb, hc⟩ := ha (by intro h; subst h; simp at hkl)
   have e1 := hc k hkl
   have HB := Lib.hid (fun h => FE.digB_bad (l := xs) hkl h)
   have HG := Lib.hid (fun h => FE.digB_take (l := xs) hkl HT.out h)
   clear hc hkl
   generalize xs.getD k 0 = x at *
   have hC := fun W => iNatOk1 x W
   obtain ⟨q, hq⟩ : ∃ q, inB x 0 999999999 = q := ⟨_, rfl⟩
   simp only [hq] at hC
   rw [hq] at HB HG
   clear hq
   replace hC := Lib.hid hC
   cases q
   ·have hF := HB.out rfl
    have HF := Lib.hid hF; clear hF
    go_wp2_with fail
    refine (hC.out _).mono ?_
    rintro e w1 ⟨rfl, rfl⟩
    go_wp2
    go_ret
    exact ⟨_, rfl, by rw [HF.out]; simp, rfl⟩
   ·have hF := HG.out rfl
    have HF := Lib.hid hF; clear hF
    go_wp2_with fail
    refine (hC.out _).mono ?_
    rintro e w1 ⟨rfl, rfl⟩
    go_wp2
    go_round
    case rel => exact ⟨k + 1, by omega, rfl, HF.out⟩
    case measure => simp [intOf]; omega
set_option maxHeartbeats 400000 in
theorem iContains (xs : List Int) (n c : Nat) (hn : xs.length = n) (hn1 : n ≤ 4611686018427387904) (A : Option Addr) (w : World) (ha : RI w A xs) :
 Calls Tryz.prog 189 #[.slice A n c, .func (.func 190) #[] #[]] w fun e w' => e = .returned (.bool (!FE.digB xs)) ∧ w' = w := by
 go_enter Tryz.func189, Tryz.ntmps189
 go_wp2_with fail
 refine (iIndex xs n c hn hn1 A _ ha).mono ?_
 rintro e w1 ⟨r, rfl, hd, rfl⟩
 have HD := Lib.hid hd; clear hd
 go_wp2
 go_ret
 exact ⟨ret_bool (by rw [HD.out]; simp), rfl⟩
set_option maxHeartbeats 400000 in
theorem iNatOk (xs : List Int) (n c : Nat) (hn : xs.length = n) (hn1 : n ≤ 4611686018427387904) (A : Option Addr) (w : World) (ha : RI w A xs) :
 Calls Tryz.prog 136 #[.slice A n c] w fun e w' => e = .returned (.bool (FE.natOk xs)) ∧ w' = w := by
 by_cases h60 : n ≤ 60
 ·cases n with
  | zero =>
   have hx : xs = [] := List.eq_nil_of_length_eq_zero hn
   subst hx
   have HC := Lib.hid (iContains [] 0 c rfl (by omega) A w ha)
   clear hn
   go_enter Tryz.func136, Tryz.ntmps136
   go_wp2_with fail
   refine HC.out.mono ?_
   rintro e w1 ⟨rfl, rfl⟩
   go_wp2
   go_ret
   exact ⟨rfl, rfl⟩
  | succ k =>
   have HC := Lib.hid (iContains xs (k + 1) c hn (by omega) A w ha)
   obtain ⟨b, off, rfl, hb, hc⟩ := ha (by intro h; subst h; simp at hn)
   have e1 := hc k (by omega)
   have z0 : (((k : Int) + 1) == 0) = false := by simp; omega
   have HN := Lib.hid hn
   clear hc hn
   by_cases hx0 : xs.getD k 0 = 0
   ·have HF := Lib.hid (FE.natOk_zero HN.out hx0)
    rw [hx0] at e1
    clear hx0
    go_enter Tryz.func136, Tryz.ntmps136
    go_wp2
    go_ret
    exact ⟨ret_bool HF.out.symm, rfl⟩
   ·have HF := Lib.hid (FE.natOk_dig HN.out (by rw [HN.out]; exact h60) hx0)
    generalize xs.getD k 0 = x at *
    have hx1 : (x != 0) = true := by simp [hx0]
    go_enter Tryz.func136, Tryz.ntmps136
    go_wp2_with fail
    refine HC.out.mono ?_
    rintro e w1 ⟨rfl, rfl⟩
    go_wp2
    go_ret
    exact ⟨ret_bool (by rw [HF.out]), rfl⟩
 ·have HF := Lib.hid (FE.natOk_long (show 60 < xs.length by omega))
  clear hn
  go_enter Tryz.func136, Tryz.ntmps136
  go_wp2
  go_ret
  exact ⟨ret_bool HF.out.symm, rfl⟩
set_option maxHeartbeats 400000 in
theorem sNatOk (xs : List Int) (n c : Nat) (hn : xs.length = n) (hn1 : n ≤ 4611686018427387904) (A : Option Addr) (w : World) (ha : RI w A xs) :
 Calls Tryz.prog 150 #[.slice A n c] w fun e w' => e = .returned (.bool (FE.natOk xs)) ∧ w' = w := by
 have HN := Lib.hid hn; clear hn
 go_enter Tryz.func150, Tryz.ntmps150
 go_wp2_with fail
 go_loop [7] (fun u => ∃ k : Nat, k ≤ n ∧ u = .int .i64 k ∧ FE.digB (xs.take k) = true) (fun u => n - (intOf u).toNat)
 case atStart => exact ⟨0, Nat.zero_le _, rfl, rfl⟩
 case round =>
  obtain ⟨k, hk, rfl, ht⟩ := hrel
  have HT := Lib.hid ht; clear ht
  by_cases hkn : k = n
  ·subst hkn
   have h0 : decide ((k : Int) < (k : Int)) = false := by simp
   have HD := Lib.hid (show FE.digB xs = true by have := HT.out; rwa [List.take_of_length_le (by rw [HN.out]; exact Nat.le_refl _)] at this)
   by_cases h60 : k ≤ 60
   ·cases k with
    | zero =>
     have hx : xs = [] := List.eq_nil_of_length_eq_zero HN.out
     subst hx
     go_wp2
     go_ret
     exact ⟨rfl, rfl⟩
    | succ k =>
     obtain ⟨b, off, rfl, hb, hc⟩ := ha (by intro h; have := HN.out; rw [h] at this; simp at this)
     have e1 := hc k (by have := HN.out; omega)
     have z0 : (((k : Int) + 1) == 0) = false := by simp; omega
     clear hc
     by_cases hx0 : xs.getD k 0 = 0
     ·have HF := Lib.hid (FE.natOk_zero HN.out hx0)
      rw [hx0] at e1
      clear hx0
      go_wp2
      go_ret
      exact ⟨ret_bool HF.out.symm, rfl⟩
     ·have HF := Lib.hid (show FE.natOk xs = true by rw [FE.natOk_dig HN.out (by rw [HN.out]; exact h60) hx0]; exact HD.out)
      generalize xs.getD k 0 = x at *
      have hx1 : (x != 0) = true := by simp [hx0]
      go_wp2
      go_ret
      exact ⟨ret_bool HF.out.symm, rfl⟩
   ·have HF := Lib.hid (FE.natOk_long (show 60 < xs.length by have := HN.out; omega))
    go_wp2
    go_ret
    exact ⟨ret_bool HF.out.symm, rfl⟩
  ·have hlt : (k : Int) < (n : Int) := by omega
   have hkl : k < xs.length := by rw [HN.out]; omega
   obtain ⟨b, off, rfl, hb, hc⟩ := ha (by intro h; subst h; simp at hkl)
   have e1 := hc k hkl
   have HB := Lib.hid (fun h => FE.digB_bad (l := xs) hkl h)
   have HG := Lib.hid (fun h => FE.digB_take (l := xs) hkl HT.out h)
   clear hc hkl
   generalize xs.getD k 0 = x at *
   have hC := fun W => sIn x 0 999999999 W
   obtain ⟨q, hq⟩ : ∃ q, inB x 0 999999999 = q := ⟨_, rfl⟩
   simp only [hq] at hC
   rw [hq] at HB HG
   clear hq
   replace hC := Lib.hid hC
   cases q
   ·have HF := Lib.hid (FE.natOk_bad (HB.out rfl))
    go_wp2_with fail
    refine (hC.out _).mono ?_
    rintro e w1 ⟨rfl, rfl⟩
    go_wp2
    go_ret
    exact ⟨ret_bool HF.out.symm, rfl⟩
   ·have HF := Lib.hid (HG.out rfl)
    go_wp2_with fail
    refine (hC.out _).mono ?_
    rintro e w1 ⟨rfl, rfl⟩
    go_wp2
    go_round
    case rel => exact ⟨k + 1, by omega, rfl, HF.out⟩
    case measure => simp [intOf]; omega
namespace FE
theorem cmpAt_spec {xs ys : List Int} (hx : Dig xs) (hy : Dig ys) : ∀ k : Nat, k ≤ xs.length → k ≤ ys.length → cmpAt xs ys k = cmpI (val (xs.take k)) (val (ys.take k))
 | 0, _, _ => by simp [cmpAt, val, cmpI]
 | k + 1, h1, h2 => by
  have ih := cmpAt_spec hx hy k (by omega) (by omega)
  have ax := val_lt (hx.take k)
  have ay := val_lt (hy.take k)
  have bx := val_nonneg (hx.take k)
  have b_y := val_nonneg (hy.take k)
  rw [List.length_take, Nat.min_eq_left (by omega)] at ax ay
  rw [cmpAt, ih, val_take_succ', val_take_succ']
  generalize xs.getD k 0 = x
  generalize ys.getD k 0 = y
  have hb := bp_pos k
  split
  ·rename_i h
   subst h
   unfold cmpI
   simp only [Int.add_lt_add_iff_right]
  ·rename_i h
   unfold cmpI
   rcases Int.lt_or_le x y with hl | hl
   ·have := Int.mul_le_mul_of_nonneg_left (show x + 1 ≤ y by omega) (show 0 ≤ bp k by omega)
    rw [Int.mul_add] at this
    rw [if_pos hl, if_pos (by omega)]
   ·have hl' : y < x := by omega
    have := Int.mul_le_mul_of_nonneg_left (show y + 1 ≤ x by omega) (show 0 ≤ bp k by omega)
    rw [Int.mul_add] at this
    rw [if_neg (by omega), if_pos hl', if_neg (by omega), if_pos (by omega)]
theorem cmpL_spec {xs ys : List Int} (hx : Dig xs) (hxt : Top xs) (hy : Dig ys) (hyt : Top ys) : cmpL xs ys = cmpI (val xs) (val ys) := by
 unfold cmpL
 split
 ·rename_i h
  rw [cmpAt_spec hx hy _ (Nat.le_refl _) (by omega), List.take_of_length_le (Nat.le_refl _), List.take_of_length_le (by omega)]
 ·rename_i h
  rcases Nat.lt_or_ge xs.length ys.length with hl | hl
  ·have h1 := val_lt hx
   have h2 := val_ge hy hyt (by intro e; subst e; simp at hl)
   have h3 := bp_mono (show xs.length ≤ ys.length - 1 by omega)
   unfold cmpI
   rw [if_pos (by omega), if_pos (by omega)]
  ·have hl' : ys.length < xs.length := by omega
   have h1 := val_lt hy
   have h2 := val_ge hx hxt (by intro e; subst e; simp at hl')
   have h3 := bp_mono (show ys.length ≤ xs.length - 1 by omega)
   unfold cmpI
   rw [if_neg (by omega), if_pos (by omega), if_neg (by omega), if_pos (by omega)]
theorem val_top2 {vs : List Int} {n : Nat} (h : vs.length = n + 2) : val vs = val (vs.take n) + bp n * (vs.getD (n + 1) 0 * 1000000000 + vs.getD n 0) := by
 have e : val vs = val (vs.take (n + 1 + 1)) := by rw [List.take_of_length_le (by omega)]
 rw [e, val_take_succ', val_take_succ', bp_mul_succ]; grind
theorem val_top3 {ws : List Int} {n : Nat} (h : ws.length = n + 3) : val ws = val (ws.take n) + bp n * ((ws.getD (n + 2) 0 * 1000000000 + ws.getD (n + 1) 0) * 1000000000 + ws.getD n 0) := by
 have e : val ws = val (ws.take (n + 1 + 1 + 1)) := by rw [List.take_of_length_le (by omega)]
 rw [e, val_take_succ', val_take_succ', val_take_succ', bp_mul_succ, bp_mul_succ, bp_mul_succ]; grind
def NoMore (W V q : Int) : Prop := ∀ t : Int, 0 ≤ t → t ≤ 999999999 → t * V ≤ W → t ≤ q
section digit
variable {W V P wl vl top u2 v1 v2 : Int}
theorem guess (hP : 0 < P) (hwl : wl < P) (hvl : 0 ≤ vl) (hW : W = wl + P * (top * 1000000000 + u2)) (hV : V = vl + P * (v1 * 1000000000 + v2)) (hu2 : u2 < 1000000000) (hv2 : 0 ≤ v2) (hv1 : 0 < v1) (_htop : 0 ≤ top) :
 NoMore W V (if 999999999 < top / v1 then 999999999 else top / v1) := by
 intro t h0 h1 h2
 have h3 : t * v1 ≤ top := by
  rcases Int.lt_or_le top (t * v1) with h | h
  ·exfalso
   have e1 : t * (P * (v1 * 1000000000)) ≤ t * V := by
    refine Int.mul_le_mul_of_nonneg_left ?_ h0
    have : P * (v1 * 1000000000 + v2) = P * (v1 * 1000000000) + P * v2 := Int.mul_add _ _ _
    have := Int.mul_nonneg (show 0 ≤ P by omega) hv2
    omega
   have e2 : P * ((top + 1) * 1000000000) ≤ P * (t * v1 * 1000000000) := Int.mul_le_mul_of_nonneg_left (by omega) (by omega)
   have e3 : t * (P * (v1 * 1000000000)) = P * (t * v1 * 1000000000) := by grind
   have e4 : P * ((top + 1) * 1000000000) = P * (top * 1000000000 + u2) + P * (1000000000 - u2) := by grind
   have e5 : P * 1 ≤ P * (1000000000 - u2) := Int.mul_le_mul_of_nonneg_left (by omega) (by omega)
   omega
  ·exact h
 have h4 : t ≤ top / v1 := (Int.le_ediv_iff_mul_le hv1).2 h3
 split <;> omega
theorem correct {q rest : Int} (hP : 0 < P) (hwl : wl < P) (hvl : 0 ≤ vl) (hW : W = wl + P * (top * 1000000000 + u2)) (hV : V = vl + P * (v1 * 1000000000 + v2)) (hr : rest = top - q * v1)
 (hno : NoMore W V q) (hc : rest * 1000000000 + u2 < q * v2) : NoMore W V (q - 1) := by
 intro t h0 h1 h2
 have h3 := hno t h0 h1 h2
 rcases Int.lt_or_le t q with h | h
 ·omega
 ·exfalso
  have e : t = q := by omega
  subst e
  have e1 : P * (t * (v1 * 1000000000 + v2)) ≤ t * V := by
   have := Int.mul_nonneg h0 hvl
   have e : t * V = P * (t * (v1 * 1000000000 + v2)) + t * vl := by rw [hV]; grind
   omega
  have e2 : P * (top * 1000000000 + u2 + 1) ≤ P * (t * (v1 * 1000000000 + v2)) := by
   refine Int.mul_le_mul_of_nonneg_left ?_ (by omega)
   have : t * (v1 * 1000000000 + v2) = t * v1 * 1000000000 + t * v2 := by grind
   omega
  have e3 : P * (top * 1000000000 + u2 + 1) = P * (top * 1000000000 + u2) + P := by grind
  omega
theorem leave {q rest : Int} (hP : 0 < P) (hwl : 0 ≤ wl) (hvl : vl < P) (hW : W = wl + P * (top * 1000000000 + u2)) (hV : V = vl + P * (v1 * 1000000000 + v2)) (hr : rest = top - q * v1) (hq0 : 0 ≤ q) (hq1 : q ≤ 999999999)
 (hv1 : 0 < v1) (hv2 : 0 ≤ v2 ∧ v2 < 1000000000) (hu2 : 0 ≤ u2) (hvl0 : 0 ≤ vl) (hc : 1000000000 ≤ rest ∨ q * v2 ≤ rest * 1000000000 + u2) : q * V ≤ W + V := by
 have h1 : q * (v1 * 1000000000 + v2) ≤ top * 1000000000 + u2 := by
  have e : q * (v1 * 1000000000 + v2) = q * v1 * 1000000000 + q * v2 := by grind
  rcases hc with h | h
  ·have := Int.mul_le_mul_of_nonneg_left (show v2 ≤ 1000000000 by omega) hq0
   omega
  ·omega
 have h2 : q * V ≤ P * (q * (v1 * 1000000000 + v2)) + q * P := by
  rw [hV, Int.mul_add]
  have := Int.mul_le_mul_of_nonneg_left (show vl ≤ P by omega) hq0
  have e : q * (P * (v1 * 1000000000 + v2)) = P * (q * (v1 * 1000000000 + v2)) := by grind
  omega
 have h3 := Int.mul_le_mul_of_nonneg_left h1 (show 0 ≤ P by omega)
 have h4 : q * P ≤ V := by
  have e1 : P * 1000000000 ≤ P * (v1 * 1000000000 + v2) := Int.mul_le_mul_of_nonneg_left (by omega) (by omega)
  have e2 : P * q ≤ P * 1000000000 := Int.mul_le_mul_of_nonneg_left (by omega) (by omega)
  rw [Int.mul_comm q P]
  omega
 omega
theorem noMore_lt {q : Int} (hq0 : 0 ≤ q) (hq1 : q ≤ 999999999) (hno : NoMore W V q) (hWV : W < V * 1000000000) : W < q * V + V := by
 rcases Int.lt_or_le W (q * V + V) with h | h
 ·exact h
 ·exfalso
  have e : (q + 1) * V = q * V + V := by grind
  by_cases hq : q = 999999999
  ·subst hq; omega
  ·have := hno (q + 1) (by omega) (by omega) (by omega)
   omega
end digit
end FE
open Go.RowKit
theorem trim_take (l : List Int) : FE.trim l = l.take (FE.trim l).length := by
 induction l with
 | nil => rfl
 | cons x l ih =>
  simp only [FE.trim]
  split
  ·rfl
  ·rw [List.length_cons, List.take_succ_cons, ← ih]
theorem trim_len (l : List Int) : (FE.trim l).length ≤ l.length := by
 have := congrArg List.length (trim_take l)
 rw [List.length_take] at this
 omega
theorem RO.of_trim {w : World} {base g c : Nat} {xs : List Int} (h : Arr w g c xs) (hb : base ≤ g) : RO w base (.slice (some ⟨g, 0, none⟩) (FE.trim xs).length c) (FE.trim xs) := by
 have hl := trim_len xs
 have h1 := h.len
 refine ⟨_, c, rfl, by omega, h1.2, fun _ => ⟨g, rfl, hb, ?_⟩⟩
 rw [trim_take xs]
 exact h.cut _
theorem trim_zero (xs : List Int) (j : Nat) (hj : j < xs.length) (h : xs.getD j 0 = 0) : FE.trim (xs.take (j + 1)) = FE.trim (xs.take j) := by
 rw [List.take_succ_eq_append_getElem hj]
 have : xs[j] = 0 := by simpa [hj] using h
 rw [this, FE.trim_snoc_zero]
theorem trim_ne (xs : List Int) (j : Nat) (hj : j < xs.length) (h : xs.getD j 0 ≠ 0) : (FE.trim (xs.take (j + 1))).length = j + 1 := by
 rw [List.take_succ_eq_append_getElem hj]
 have : xs[j] ≠ 0 := by simpa [hj] using h
 rw [FE.trim_snoc_ne _ this]
 simp; omega
set_option maxHeartbeats 400000 in
theorem trimmed_any (xs : List Int) (n c : Nat) (hn : xs.length = n) (hn1 : n ≤ 1073741824) (hnc : n ≤ c) (A : Option Addr) (w : World) (ha : RI w A xs) :
 Calls Tryz.prog 183 #[.slice A n c] w fun e w' => e = .returned (.slice A (FE.trim xs).length c) ∧ w' = w := by
 go_enter Tryz.func183, Tryz.ntmps183
 go_wp2_with fail
 go_loop [0] (fun v => ∃ k : Nat, k ≤ n ∧ v = .slice A k c ∧ FE.trim xs = FE.trim (xs.take k)) (fun v => match v with | .slice _ k _ => k | _ => 0)
 case atStart => exact ⟨n, Nat.le_refl _, rfl, by rw [List.take_of_length_le (by omega)]⟩
 case round =>
  obtain ⟨k, hk, rfl, ht⟩ := hrel
  have HT := Lib.hid ht; clear ht
  by_cases hk0 : k = 0
  ·subst hk0
   have h0 : decide ((0 : Int) < ((0 : Nat) : Int)) = false := by simp
   go_wp2
   go_ret
   exact ⟨by rw [HT.out]; rfl, rfl⟩
  ·obtain ⟨j, rfl⟩ := Nat.exists_eq_succ_of_ne_zero hk0
   obtain ⟨b, o, rfl, hb, hc⟩ := ha (by intro h; subst h; simp at hn; omega)
   have e1 := hc j (by omega)
   clear hc
   have h0 : (0 : Int) < ((j + 1 : Nat) : Int) := by omega
   by_cases hx : xs.getD j 0 = 0
   ·have hz := trim_zero xs j (by omega) hx
    have HZ := Lib.hid hz; clear hz
    rw [hx] at e1
    clear hx
    go_wp2
    go_round
    case rel => exact ⟨j, by omega, rfl, by rw [HT.out]; exact HZ.out⟩
    case measure => simp
   ·have hz := trim_ne xs j (by omega) hx
    have HZ := Lib.hid hz; clear hz
    generalize xs.getD j 0 = x at *
    have hx0 : (x == 0) = false := by simpa using hx
    have HX := Lib.hid hx; clear hx
    go_wp2
    go_ret
    exact ⟨by rw [HT.out, HZ.out]; rfl, rfl⟩
set_option maxHeartbeats 400000 in
theorem clone_any (xs : List Int) (n c : Nat) (hn : xs.length = n) (hn1 : n ≤ 1073741824) (A : Option Addr) (w : World) (ha : RI w A xs) :
 Calls Tryz.prog 185 #[.slice A n c] w fun e w' => ∃ v, e = .returned v ∧ RO w' w.heap.size v xs ∧ Below w.heap.size w w' := by
 have hnil := fun (W : World) (a : Option Addr) (l k : Nat) => Lib.run_eql_slice_nil (P := Tryz.prog) W 40 3 a l k 0 0 Tryz.underlying40
 by_cases hA : A = none
 ·subst hA
  have hx : xs = [] := by
   by_cases h : xs = []
   ·exact h
   ·obtain ⟨b, o, h1, _⟩ := ha h
    cases h1
  subst hx
  go_enter Tryz.func185, Tryz.ntmps185
  go_wp2
  go_ret
  exact ⟨_, rfl, RO.nil _ _ _ _ (Nat.zero_le _), Below.refl _ _⟩
 ·obtain ⟨ad, rfl⟩ := Option.ne_none_iff_exists'.1 hA
  go_enter Tryz.func185, Tryz.ntmps185
  go_wp2_with (at_builtin; refine appendAll rfl _ _ _ rfl Tryz.underlying40 Tryz.intInfo w.heap.size _ [] rfl (OI.of_arr (g := w.heap.size) (cap := 0) ⟨[], rfl, Nat.zero_le _, heap_alloc_new _ _⟩ (Nat.le_refl _)) _ xs n c rfl hn (ha.alloc _) (by simp; omega) (by simp) ?_)
  intro v' w1 hown hb1
  go_wp2
  go_ret
  exact ⟨_, rfl, RO.of_own hown, ((Below.refl _ _).alloc (Nat.le_refl _) _).trans hb1⟩
open Go.RowKit
set_option maxHeartbeats 800000 in
theorem divSmall_any (xs : List Int) (n c : Nat) (d : Int) (hn : xs.length = n) (hn1 : n ≤ 1048576) (hxd : FE.Dig xs) (hd0 : 0 < d) (hd1 : d ≤ 1000000000)
 (A : Option Addr) (w : World) (ha : RI w A xs) :
 Calls Tryz.prog 207 #[.slice A n c, .int .i64 d] w fun e w' => ∃ v, e = .returned (.tuple #[v, .int .i64 (FE.val xs % d)]) ∧ RO w' w.heap.size v (FE.toL (FE.val xs / d).toNat) ∧ Below w.heap.size w w' := by
 go_enter Tryz.func207, Tryz.ntmps207
 go_wp2_with (at_make; refine makeInts rfl _ _ _ rfl Tryz.underlying40 Tryz.intInfo n n _ _ rfl rfl rfl rfl (Nat.le_refl _) (by omega) ?_; intro harr0)
 go_loopw [7, 8] (fun r i wr => ∃ (k : Nat) (zs : List Int) (q : Int), k ≤ n ∧ i = .int .i64 ((k : Int) - 1) ∧ r = .int .i64 q ∧ 0 ≤ q ∧ q < d ∧ zs.length = n ∧ FE.Dig zs ∧ (∀ j, j < k → zs.getD j 0 = 0) ∧
  FE.val xs = d * FE.val zs + FE.bp k * q + FE.val (xs.take k) ∧ Arr wr w.heap.size n zs ∧ Below w.heap.size w wr) (fun _ i _ => (intOf i + 1).toNat)
 case atStart => exact ⟨n, List.replicate n 0, 0, Nat.le_refl _, rfl, rfl, by omega, hd0, by simp, FE.Dig.replicate n, fun j hj => by simp [hj], by rw [FE.val_replicate, List.take_of_length_le (by omega)]; simp, harr0, (Below.refl _ _).alloc (Nat.le_refl _) _⟩
 case round =>
  obtain ⟨k, zs, q, hk, rfl, rfl, hq0, hq1, hz, hzd, hzz, hv, harr, hbel⟩ := hrel
  have HZ := Lib.hid hz; clear hz
  have HV := Lib.hid hv; clear hv
  have HZZ := Lib.hid hzz; clear hzz
  clear harr0
  by_cases hk0 : k = 0
  ·subst hk0
   have hfin : FE.val xs = d * FE.val zs + q := by have := HV.out; simp [FE.bp_zero, FE.val] at this; exact this
   have hz0 := FE.val_nonneg hzd
   have hq : FE.val xs / d = FE.val zs := by
    rw [hfin, Int.add_comm, Int.add_mul_ediv_left _ _ (by omega), Int.ediv_eq_zero_of_lt hq0 hq1]; omega
   have hr : FE.val xs % d = q := by rw [hfin, Int.add_comm, Int.add_mul_emod_self_left]; exact Int.emod_eq_of_lt hq0 hq1
   have ht : FE.trim zs = FE.toL (FE.val xs / d).toNat := FE.trim_eq hzd (by rw [hq]; omega)
   have HR := Lib.hid hr
   have HT := Lib.hid ht
   clear hfin hq hr ht
   go_wp2_with (go_at_call 183; refine (trimmed_any zs n n HZ.out (by omega) (Nat.le_refl _) _ _ harr.reads).mono ?_; rintro e w' ⟨rfl, rfl⟩)
   go_ret2
   refine ⟨_, by rw [HR.out]; rfl, ?_, hbel⟩
   rw [← HT.out]
   exact RO.of_trim harr (Nat.le_refl _)
  ·obtain ⟨j, rfl⟩ := Nat.exists_eq_succ_of_ne_zero hk0
   obtain ⟨b1, o1, rfl, hb1, hc1⟩ := ha (by intro h; subst h; simp at hn; omega)
   have e1 := (hbel.cell (p := ⟨b1, o1 + j, none⟩) hb1).trans (hc1 j (by omega))
   have hzl := HZ.out
   have e2 := harr.cell j (by omega)
   have e3 := harr.frozen j
   have hstep := FE.divStep hd0 hq0 hq1 hxd (by omega) (hzl.trans hn.symm) hzd (HZZ.out j (by omega)) HV.out rfl
   have hx := hxd.getD j
   clear hc1 hzl
   generalize hxe : xs.getD j 0 = x at *
   generalize hye : zs.getD j 0 = y at *
   have hs1 := hstep.1
   have hs2 := hstep.2.1
   have hm0 := Int.emod_nonneg (q * 1000000000 + x) (show d ≠ 0 by omega)
   have hm1 := Int.emod_lt_of_pos (q * 1000000000 + x) hd0
   have HS := Lib.hid hstep; clear hstep hxe hye
   go_wp2
   go_roundw
   case rel =>
    refine ⟨j, zs.set j ((q * 1000000000 + x) / d), _, by omega, by go_num, rfl, hm0, hm1, by simp; exact HZ.out, HS.out.2.2.1, ?_, HS.out.2.2.2, harr.set j (by have := HZ.out; omega) _, hbel.setCell (Nat.le_refl _) _⟩
    intro j' hj'
    rw [FE.getD_set, if_neg (by omega)]
    exact HZZ.out j' (by omega)
   case measure => simp [intOf]
set_option maxHeartbeats 800000 in
theorem scaled_any (xs : List Int) (n c N : Nat) (by_ : Int) (hn : xs.length = n) (hn1 : n ≤ 1048576) (hN : N ≤ 1048576) (hxd : FE.Dig xs) (hb0 : 0 ≤ by_) (hb1 : by_ < 1000000000)
 (A : Option Addr) (w : World) (ha : RI w A xs) :
 Calls Tryz.prog 208 #[.slice A n c, .int .i64 by_, .int .i64 N] w fun e w' => ∃ (g : Nat) (zs : List Int) (cy : Int), e = .returned (.slice (some ⟨g, 0, none⟩) N N) ∧ w.heap.size ≤ g ∧ Arr w' g N zs ∧ zs.length = N ∧
  FE.Dig zs ∧ 0 ≤ cy ∧ FE.val zs + FE.bp N * cy = FE.val (xs.take N) * by_ ∧ Below w.heap.size w w' := by
 go_enter Tryz.func208, Tryz.ntmps208
 go_wp2_with (at_make; refine makeInts rfl _ _ _ rfl Tryz.underlying40 Tryz.intInfo N N _ _ rfl rfl rfl rfl (Nat.le_refl _) (by omega) ?_; intro harr0)
 go_loopw [8, 15] (fun r i wr => ∃ (k : Nat) (zs : List Int) (cy : Int), k ≤ N ∧ i = .int .i64 k ∧ r = .int .i64 cy ∧ 0 ≤ cy ∧ cy ≤ by_ ∧ zs.length = N ∧ FE.Dig zs ∧ (∀ j, k ≤ j → zs.getD j 0 = 0) ∧
  FE.val zs + FE.bp k * cy = FE.val (xs.take k) * by_ ∧ Arr wr w.heap.size N zs ∧ Below w.heap.size w wr) (fun _ i _ => N - (intOf i).toNat)
 case atStart => exact ⟨0, List.replicate N 0, 0, Nat.zero_le _, rfl, rfl, by omega, hb0, by simp, FE.Dig.replicate N, by intro j _; by_cases h : j < N <;> simp [h], by rw [FE.val_replicate]; simp [FE.val], harr0, (Below.refl _ _).alloc (Nat.le_refl _) _⟩
 case round =>
  obtain ⟨k, zs, cy, hk, rfl, rfl, hq0, hq1, hz, hzd, hzz, hv, harr, hbel⟩ := hrel
  have HZ := Lib.hid hz; clear hz
  have HV := Lib.hid hv; clear hv
  have HZZ := Lib.hid hzz; clear hzz
  clear harr0
  by_cases hkN : k < N
  ·have hzl := HZ.out
   have e2 := harr.cell k (by omega)
   have e3 := harr.frozen k
   have hstep := FE.scaleStep (xs := xs) hzd (by omega) (HZZ.out k (Nat.le_refl _)) hq0 hq1 hb1 hxd HV.out rfl
   have hx := hxd.getD k
   have hm := FE.mul_bound hx ⟨hb0, by omega⟩
   clear hzl
   generalize hye : zs.getD k 0 = y at *
   by_cases hkn : k < n
   ·obtain ⟨b1, o1, rfl, hb1', hc1⟩ := ha (by intro h; subst h; simp at hn; omega)
    have e1 := (hbel.cell (p := ⟨b1, o1 + k, none⟩) hb1').trans (hc1 k (by omega))
    clear hc1
    generalize hxe : xs.getD k 0 = x at *
    have HS := Lib.hid hstep; clear hstep hxe hye
    go_wp2
    go_roundw
    case rel =>
     refine ⟨k + 1, zs.set k _, _, by omega, by go_num, rfl, HS.out.2.2.1, HS.out.2.2.2, by simp; exact HZ.out, HS.out.1, ?_, HS.out.2.1, harr.set k (by have := HZ.out; omega) _, hbel.setCell (Nat.le_refl _) _⟩
     intro j' hj'
     rw [FE.getD_set, if_neg (by omega)]
     exact HZZ.out j' (by omega)
    case measure => simp [intOf]; omega
   ·have hx0 : xs.getD k 0 = 0 := by simp [List.getElem?_eq_none (show xs.length ≤ k by omega)]
    rw [hx0] at hstep hm
    simp only [Int.zero_mul, Int.add_zero] at hstep
    clear hx0 hm hx
    have HS := Lib.hid hstep; clear hstep hye
    go_wp2
    go_roundw
    case rel =>
     refine ⟨k + 1, zs.set k _, _, by omega, by go_num, rfl, HS.out.2.2.1, HS.out.2.2.2, by simp; exact HZ.out, HS.out.1, ?_, HS.out.2.1, harr.set k (by have := HZ.out; omega) _, hbel.setCell (Nat.le_refl _) _⟩
     intro j' hj'
     rw [FE.getD_set, if_neg (by omega)]
     exact HZZ.out j' (by omega)
    case measure => simp [intOf]; omega
  ·have hkN' : k = N := by omega
   subst hkN'
   go_wp2
   go_ret
   exact ⟨_, zs, cy, rfl, Nat.le_refl _, harr, HZ.out, hzd, hq0, HV.out, hbel⟩
end Go.Proofs.YtlpomcihkjiokaaGreat
