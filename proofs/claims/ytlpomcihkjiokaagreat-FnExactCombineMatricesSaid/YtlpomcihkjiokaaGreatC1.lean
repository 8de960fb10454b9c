/-
  Shared texts (C1).
-/
import Derived.Test.YtlpomcihkjiokaaGreatRows
import Derived.WalkKit
import Derived.ProofKit
import Derived.OpenShut
import Derived.OpenVars
import Derived.ChangeSame
import Derived.JoinedOf
import Derived.JoinedAt
import Derived.RowKit3
import Derived.Lib.SmallJoins
import Derived.Test.YtlpomcihkjiokaaGreatProg
import Derived.WalkSpells
import Derived.WalkLawsBesides
import Derived.BigQuiet
import Derived.Deep.QuietTactic
import Derived.Deep.Draws
import Derived.Deep.OwnRows
import Derived.Lib.Hide
import Derived.StillTailTactics
import Derived.Deep.Slices
import Derived.Lib.QuietBelow
namespace Go.Proofs.YtlpomcihkjiokaaGreat
open Go.ChangeShapes Go.WideShapes Go.ChangeAt Go.RowKit Go.Joins Go.WideElems

/-- Each type can be read and is a row of the table. -/
def rowed (P : Program) (ts : List TypeId) : Bool := ts.all fun t => P.readableRec t && decide (t < P.types.size)

theorem trodAll_stays {H : Type} {enc : TypeId × Value → H} {P : Program} (hl : laidOutB P = true) {W W' : World} {sp' : Nat → Bool} :
    ∀ {ts : List TypeId} {vs : List Value} {ds : List (DataW H)} {p : List MemPlace}, rowed P ts = true → (∀ x ∈ p, W.sameAt W' x) →
      DataW.TrodAll enc P W 0 (fun _ => true) true ts vs ds p → (∀ x ∈ p, sp' x.block = true) → DataW.TrodAll enc P W' 0 sp' true ts vs ds p
  | [], _, _, _, _, _, h, _ => by
    obtain ⟨rfl, rfl, rfl⟩ := trodAll_nil h
    exact trodAll_mk0
  | t :: ts, _, _, _, hr, hlt, h, hs => by
    obtain ⟨v, vs1, d, ds1, a, b, rfl, rfl, rfl, h1, h2⟩ := trodAll_cons h
    simp only [rowed, List.all_cons, Bool.and_eq_true, decide_eq_true_eq] at hr
    obtain ⟨n, h1⟩ := h1
    refine trodAll_cons_mk ⟨n, DataW.trod_stays (kids_book hl hr.1.1) (book_sized hr.1.1) (fun h => by cases h) ⟨hr.1.2, book_self t⟩ h1 (fun x hx => hlt x (by simp [hx])) (fun x hx => hs x (by simp [hx]))⟩
      (trodAll_stays hl (by simpa [rowed] using hr.2) (fun x hx => hlt x (by simp [hx])) h2 (fun x hx => hs x (by simp [hx])))

/-- A law's end: true, and nothing that was there has turned. -/
theorem law_post {H : Type} {enc : TypeId × Value → H} {P : Program} {tb : TypeId} {f : Func} {s : ChangeSpec} {apart fresh handsOn again : Bool} {W W' : World} {args : Array Value} {ds gs : List (DataW H)} {before : List MemPlace}
    (hl : laidOutB P = true) (hv : s.vars = []) (hr : rowed P f.params.toList = true)
    (hb : Below W.heap.size W W') (hres : f.resultTypes = #[tb]) (htb : P.underlying tb = some .bool)
    (hfn : s.fn H ds = { results := [.lit (.bool true)], args := ds })
    (hW : DataW.Whole enc P f.params.toList s.vars apart W args.toList ds gs before) :
    s.post enc P f apart fresh handsOn again W args (.bool true) W' := by
  have hW' := hW
  have hlt := hW.lt
  obtain ⟨p, q, hA, hV, rfl, hz, hn⟩ := hW
  have hgs : gs = [] ∧ q = [] := by
    rw [hv] at hV
    cases gs with
    | nil => exact ⟨rfl, hV⟩
    | cons _ _ => exact hV.elim
  obtain ⟨rfl, rfl⟩ := hgs
  simp only [List.append_nil] at hlt hz hn hW' ⊢
  have hbl : ∀ x ∈ p, x.block < W.heap.size := fun x hx => hlt x hx
  have hA' : ∀ sp : Nat → Bool, (∀ x ∈ p, sp x.block = true) → DataW.TrodAll enc P W' 0 sp true f.params.toList args.toList ds p :=
    fun sp hs => trodAll_stays hl hr (fun x hx => hb.same (hbl x hx)) hA hs
  have hR : ∀ (b : Nat) (sp : Nat → Bool) (hd : Bool), DataW.TrodAll enc P W' b sp hd f.resultTypes.toList ((Value.bool true).resultList f.resultTypes.size) (s.fn H (ds ++ [])).results [] := by
    intro b sp hd
    simp only [List.append_nil]
    rw [hfn, hres]
    exact trodAll_mk1 (shut_bool htb true)
  have hA2 : ∀ sp : Nat → Bool, (∀ x ∈ p, sp x.block = true) → DataW.TrodAll enc P W' 0 sp true f.params.toList args.toList (s.fn H (ds ++ [])).args p := by
    intro sp hs
    simp only [List.append_nil]
    rw [hfn]
    exact hA' sp hs
  have hV2 : ∀ sp : Nat → Bool, DataW.TrodVars enc P W' sp s.vars (s.fn H (ds ++ [])).vars [] := by
    intro sp
    simp only [List.append_nil]
    rw [hfn, hv]
    exact (rfl : ([] : List MemPlace) = [])
  refine ⟨ds, [], p, [], p, [], hW', hR _ _ _, hA2 _ (fun x hx => by simpa using hbl x hx), hV2 _, hb.frame _, fun _ => ?_⟩
  refine ⟨?_, _, _, ([] ++ p) ++ [], ⟨[] ++ p, [], trodAll_append (hA2 _ (fun _ _ => rfl)) (hR _ _ _), hV2 _, rfl, ?_, ?_⟩, ?_⟩
  · rw [hres]
    intro j t r h1 h2
    cases j with
    | zero =>
      simp at h1
      subst h1
      simp [Value.resultList] at h2
      subst h2
      exact okWide_bool_mk htb _
    | succ j => simp at h1
  · intro b off hp
    simp only [List.nil_append, List.append_nil] at hp
    rw [hb.frozen (hbl _ hp)]
    exact hz b off hp
  · intro ha
    simpa using hn ha
  · intro x hx _
    simpa using hx
end Go.Proofs.YtlpomcihkjiokaaGreat

namespace Go.Proofs.YtlpomcihkjiokaaGreat
namespace FE

/-- The value of a list of limbs, the least significant first. -/
def val : List Int → Int
  | [] => 0
  | x :: l => x + 1000000000 * val l

def Dig (l : List Int) : Prop := ∀ x ∈ l, 0 ≤ x ∧ x < 1000000000

theorem val_nil : val [] = 0 := rfl
theorem val_cons (x : Int) (l : List Int) : val (x :: l) = x + 1000000000 * val l := rfl

theorem Dig.nil : Dig [] := fun _ h => by cases h
theorem Dig.cons {x : Int} {l : List Int} (h0 : 0 ≤ x) (h1 : x < 1000000000) (h : Dig l) : Dig (x :: l) := by
  intro y hy
  rcases List.mem_cons.1 hy with rfl | hy
  · exact ⟨h0, h1⟩
  · exact h y hy
theorem Dig.head {x : Int} {l : List Int} (h : Dig (x :: l)) : 0 ≤ x ∧ x < 1000000000 := h x (by simp)
theorem Dig.tail {x : Int} {l : List Int} (h : Dig (x :: l)) : Dig l := fun y hy => h y (by simp [hy])
theorem Dig.append {a b : List Int} (ha : Dig a) (hb : Dig b) : Dig (a ++ b) := by
  intro x hx
  rcases List.mem_append.1 hx with h | h
  · exact ha x h
  · exact hb x h
theorem Dig.take {a : List Int} (h : Dig a) (n : Nat) : Dig (a.take n) := fun x hx => h x (List.mem_of_mem_take hx)
theorem Dig.drop {a : List Int} (h : Dig a) (n : Nat) : Dig (a.drop n) := fun x hx => h x (List.mem_of_mem_drop hx)
theorem Dig.get {a : List Int} (h : Dig a) (i : Nat) (hi : i < a.length) : 0 ≤ a[i] ∧ a[i] < 1000000000 := h _ (List.getElem_mem hi)
theorem Dig.getD {a : List Int} (h : Dig a) (i : Nat) : 0 ≤ a.getD i 0 ∧ a.getD i 0 < 1000000000 := by
  rw [List.getD_eq_getElem?_getD]
  by_cases hi : i < a.length
  · rw [List.getElem?_eq_getElem hi]; exact h.get i hi
  · rw [List.getElem?_eq_none (by omega)]; simp
theorem Dig.set {a : List Int} (h : Dig a) (i : Nat) {x : Int} (h0 : 0 ≤ x) (h1 : x < 1000000000) : Dig (a.set i x) := by
  intro y hy
  rcases List.mem_or_eq_of_mem_set hy with h' | rfl
  · exact h y h'
  · exact ⟨h0, h1⟩
theorem Dig.replicate (n : Nat) : Dig (List.replicate n 0) := by
  intro x hx
  rw [List.eq_of_mem_replicate hx]; omega

/-- Powers of the base. -/
def bp (n : Nat) : Int := 1000000000 ^ n
theorem bp_zero : bp 0 = 1 := by simp [bp]
theorem bp_succ (n : Nat) : bp (n + 1) = 1000000000 * bp n := by simp [bp, Int.pow_succ, Int.mul_comm]
theorem bp_pos (n : Nat) : 0 < bp n := Int.pow_pos (by omega)
theorem bp_add (m n : Nat) : bp (m + n) = bp m * bp n := by simp [bp, Int.pow_add]
theorem bp_mono {m n : Nat} (h : m ≤ n) : bp m ≤ bp n := by
  obtain ⟨k, rfl⟩ := Nat.exists_eq_add_of_le h
  rw [bp_add]
  have := bp_pos m
  have := bp_pos k
  calc bp m = bp m * 1 := by simp
    _ ≤ bp m * bp k := Int.mul_le_mul_of_nonneg_left (by omega) (by omega)

theorem val_append (a b : List Int) : val (a ++ b) = val a + bp a.length * val b := by
  induction a with
  | nil => simp [val, bp_zero]
  | cons x a ih =>
    simp only [List.cons_append, val_cons, ih, List.length_cons, bp_succ]
    grind

theorem val_nonneg {l : List Int} (h : Dig l) : 0 ≤ val l := by
  induction l with
  | nil => simp [val]
  | cons x l ih =>
    have := h.head
    have := ih h.tail
    rw [val_cons]; omega

theorem val_lt {l : List Int} (h : Dig l) : val l < bp l.length := by
  induction l with
  | nil => simp [val, bp_zero]
  | cons x l ih =>
    have := h.head
    have := ih h.tail
    rw [val_cons, List.length_cons, bp_succ]; omega

theorem val_replicate (n : Nat) : val (List.replicate n 0) = 0 := by
  induction n with
  | zero => rfl
  | succ n ih => rw [List.replicate_succ, val_cons, ih]; rfl

theorem val_take_succ (l : List Int) (i : Nat) (hi : i < l.length) : val (l.take (i + 1)) = val (l.take i) + bp i * l[i] := by
  rw [List.take_succ_eq_append_getElem hi, val_append, val_cons, val_nil, List.length_take]
  rw [Nat.min_eq_left (by omega)]; simp

theorem val_take_drop (l : List Int) (i : Nat) (hi : i ≤ l.length) : val l = val (l.take i) + bp i * val (l.drop i) := by
  conv => lhs; rw [← List.take_append_drop i l]
  rw [val_append, List.length_take, Nat.min_eq_left hi]

theorem val_set (l : List Int) (i : Nat) (x : Int) (hi : i < l.length) : val (l.set i x) = val l + bp i * (x - l[i]) := by
  induction l generalizing i with
  | nil => simp at hi
  | cons y l ih =>
    cases i with
    | zero => simp only [List.set_cons_zero, val_cons, bp_zero, List.getElem_cons_zero]; omega
    | succ i =>
      have := ih i (by simpa using hi)
      simp only [List.set_cons_succ, val_cons, List.getElem_cons_succ, this, bp_succ]
      grind

/-- No zero limb at the end. -/
def Top (l : List Int) : Prop := ∀ h : l ≠ [], l.getLast h ≠ 0

theorem Top.nil : Top [] := fun h => absurd rfl h
theorem Top.tail {x : Int} {l : List Int} (h : Top (x :: l)) : Top l := by
  intro hl
  have := h (by simp)
  rwa [List.getLast_cons hl] at this

theorem val_pos {l : List Int} (hd : Dig l) (ht : Top l) (hl : l ≠ []) : 0 < val l := by
  induction l with
  | nil => exact absurd rfl hl
  | cons x l ih =>
    have h1 := hd.head
    rw [val_cons]
    by_cases hn : l = []
    · subst hn
      have := ht (by simp)
      simp at this
      rw [val_nil]; omega
    · have := ih hd.tail ht.tail hn
      omega

theorem val_eq_zero {l : List Int} (hd : Dig l) (ht : Top l) : val l = 0 ↔ l = [] := by
  constructor
  · intro h
    by_cases hl : l = []
    · exact hl
    · have := val_pos hd ht hl; omega
  · rintro rfl; rfl

theorem val_inj {a b : List Int} (ha : Dig a) (hat : Top a) (hb : Dig b) (hbt : Top b) (h : val a = val b) : a = b := by
  induction a generalizing b with
  | nil => exact ((val_eq_zero hb hbt).1 (by rw [← h]; rfl)).symm
  | cons x a ih =>
    cases b with
    | nil => exact (val_eq_zero ha hat).1 (by rw [h]; rfl)
    | cons y b =>
      rw [val_cons, val_cons] at h
      have h1 := ha.head
      have h2 := hb.head
      have hxy : x = y := by omega
      have hab : val a = val b := by omega
      rw [hxy, ih ha.tail hat.tail hb.tail hbt.tail hab]

/-- The limbs of a number. -/
def toL (n : Nat) : List Int := if h : n = 0 then [] else ((n % 1000000000 : Nat) : Int) :: toL (n / 1000000000)
termination_by n
decreasing_by omega

theorem toL_zero : toL 0 = [] := by rw [toL]; simp
theorem toL_pos {n : Nat} (h : n ≠ 0) : toL n = ((n % 1000000000 : Nat) : Int) :: toL (n / 1000000000) := by rw [toL]; simp [h]

theorem toL_dig (n : Nat) : Dig (toL n) := by
  induction n using Nat.strongRecOn with
  | _ n ih =>
    by_cases h : n = 0
    · subst h; rw [toL_zero]; exact Dig.nil
    · rw [toL_pos h]
      exact Dig.cons (by omega) (by omega) (ih _ (by omega))

theorem val_toL (n : Nat) : val (toL n) = n := by
  induction n using Nat.strongRecOn with
  | _ n ih =>
    by_cases h : n = 0
    · subst h; rw [toL_zero]; rfl
    · rw [toL_pos h, val_cons, ih _ (by omega)]; omega

theorem toL_eq_nil {n : Nat} : toL n = [] ↔ n = 0 := by
  constructor
  · intro h
    have := val_toL n
    rw [h, val_nil] at this; omega
  · rintro rfl; exact toL_zero

theorem toL_top (n : Nat) : Top (toL n) := by
  induction n using Nat.strongRecOn with
  | _ n ih =>
    by_cases h : n = 0
    · subst h; rw [toL_zero]; exact Top.nil
    · intro hl
      have hrest := ih (n / 1000000000) (by omega)
      have e := toL_pos h
      by_cases hn : toL (n / 1000000000) = []
      · have h0 := toL_eq_nil.1 hn
        simp only [e, hn, List.getLast_singleton]
        omega
      · have := hrest hn
        simp only [e]
        rwa [List.getLast_cons hn]

theorem toL_val {l : List Int} (hd : Dig l) (ht : Top l) : toL (val l).toNat = l := by
  refine val_inj (toL_dig _) (toL_top _) hd ht ?_
  rw [val_toL]
  have := val_nonneg hd
  omega

theorem eq_toL {l : List Int} {n : Nat} (hd : Dig l) (ht : Top l) (hv : val l = n) : l = toL n := by
  rw [← toL_val hd ht, hv]; simp

/-- The number of limbs tells the size. -/
theorem val_ge {l : List Int} (hd : Dig l) (ht : Top l) (hl : l ≠ []) : bp (l.length - 1) ≤ val l := by
  induction l with
  | nil => exact absurd rfl hl
  | cons x l ih =>
    have h1 := hd.head
    rw [val_cons]
    by_cases hn : l = []
    · subst hn
      have := ht (by simp)
      simp at this
      simp [val_nil, bp_zero]; omega
    · have := ih hd.tail ht.tail hn
      have hlen : l.length ≠ 0 := by simpa using hn
      rw [List.length_cons, Nat.add_sub_cancel]
      have e : l.length = (l.length - 1) + 1 := by omega
      rw [e, bp_succ]; omega

theorem len_le_iff {l : List Int} (hd : Dig l) (ht : Top l) (k : Nat) : l.length ≤ k ↔ val l < bp k := by
  constructor
  · intro h
    have := val_lt hd
    have := bp_mono h
    omega
  · intro h
    by_cases hl : l = []
    · subst hl; simp
    · have h1 := val_ge hd ht hl
      by_cases hk : l.length ≤ k
      · exact hk
      · have := bp_mono (show k ≤ l.length - 1 by omega)
        omega

theorem toL_len_le (n k : Nat) : (toL n).length ≤ k ↔ (n : Int) < bp k := by
  rw [len_le_iff (toL_dig n) (toL_top n), val_toL]

/-- Cutting off the zeros at the end. -/
def trim : List Int → List Int
  | [] => []
  | x :: l => if x = 0 ∧ trim l = [] then [] else x :: trim l

theorem val_trim (l : List Int) : val (trim l) = val l := by
  induction l with
  | nil => rfl
  | cons x l ih =>
    simp only [trim]
    split
    · rename_i h
      rw [val_cons, ← ih, h.2, h.1]; rfl
    · rw [val_cons, ih, val_cons]

theorem dig_trim {l : List Int} (h : Dig l) : Dig (trim l) := by
  induction l with
  | nil => exact Dig.nil
  | cons x l ih =>
    simp only [trim]
    split
    · exact Dig.nil
    · exact Dig.cons h.head.1 h.head.2 (ih h.tail)

theorem top_trim (l : List Int) : Top (trim l) := by
  induction l with
  | nil => exact Top.nil
  | cons x l ih =>
    simp only [trim]
    split
    · exact Top.nil
    · rename_i h
      intro hl
      by_cases hn : trim l = []
      · simp only [hn, List.getLast_singleton]
        intro hx; exact h ⟨hx, hn⟩
      · rw [List.getLast_cons hn]; exact ih hn

theorem trim_snoc_zero (l : List Int) : trim (l ++ [0]) = trim l := by
  induction l with
  | nil => rfl
  | cons x l ih => simp only [List.cons_append, trim, ih]

theorem trim_snoc_ne (l : List Int) {x : Int} (hx : x ≠ 0) : trim (l ++ [x]) = l ++ [x] := by
  induction l with
  | nil => simp [trim, hx]
  | cons y l ih => simp [trim, ih]

theorem trim_eq {l : List Int} {n : Nat} (hd : Dig l) (hv : val l = n) : trim l = toL n :=
  eq_toL (dig_trim hd) (top_trim l) (by rw [val_trim, hv])

/-- A list of limbs that is a natural number of the program. -/
def NatOk (l : List Int) : Prop := l.length ≤ 60 ∧ Dig l ∧ Top l

theorem NatOk.toL {l : List Int} (h : NatOk l) : l = toL (val l).toNat := (toL_val h.2.1 h.2.2).symm

end FE
end Go.Proofs.YtlpomcihkjiokaaGreat

namespace Go.Proofs.YtlpomcihkjiokaaGreat
open Go.RowKit

theorem ret_int {k : IntKind} {a b : Int} (h : a = b) : Ending.returned (.int k a) = .returned (.int k b) := by rw [h]
theorem ret_bool {a b : Bool} (h : a = b) : Ending.returned (.bool a) = .returned (.bool b) := by rw [h]

/-- The slice at address A reads as the list xs (nothing is asked of an empty one). -/
def RI (w : World) (A : Option Addr) (xs : List Int) : Prop :=
  xs ≠ [] → ∃ b off, A = some ⟨b, off, none⟩ ∧ b < w.heap.size ∧ ∀ i, i < xs.length → w.cell? ⟨b, off + i, none⟩ = some (.int .i64 (xs.getD i 0))

theorem RI.below {w w' : World} {A : Option Addr} {xs : List Int} {B : Nat} (h : RI w A xs) (hb : Below B w w') (hB : ∀ a, A = some a → xs ≠ [] → a.block < B) : RI w' A xs := by
  intro hx
  obtain ⟨b, off, rfl, hlt, hc⟩ := h hx
  refine ⟨b, off, rfl, Nat.lt_of_lt_of_le hlt hb.size, fun i hi => ?_⟩
  rw [hb.cell (p := ⟨b, off + i, none⟩) (hB ⟨b, off, none⟩ rfl hx)]
  exact hc i hi

theorem RI.later {w w' : World} {A : Option Addr} {xs : List Int} (h : RI w A xs) (hb : Below w.heap.size w w') : RI w' A xs :=
  h.below hb (by
    rintro a rfl hx
    obtain ⟨b, off, he, hlt, _⟩ := h hx
    injection he with he
    subst he
    exact hlt)

theorem RI.drewN {w : World} {A : Option Addr} {xs : List Int} (h : RI w A xs) (n : Nat) : RI (w.drewN n) A xs := h
theorem RI.drew {w : World} {A : Option Addr} {xs : List Int} (h : RI w A xs) : RI w.drew A xs := h
theorem RI.alloc {w : World} {A : Option Addr} {xs : List Int} (h : RI w A xs) (o : Obj) : RI (w.alloc o) A xs :=
  h.later ((Below.refl _ _).alloc (Nat.le_refl _) o)
theorem RI.nil (w : World) (A : Option Addr) : RI w A [] := fun h => absurd rfl h

theorem RI.of_own {w : World} {base : Nat} {e : TypeId} {xs : List Int} {A : Option Addr} {n c : Nat} (h : w.ownsRow base e 1 (.slice A n c) n (xs.map (Value.int .i64))) : RI w A xs := by
  intro hx
  have hlen : xs.length = n := by simpa using h.1
  have hn : n ≠ 0 := by
    intro h0
    exact hx (List.eq_nil_of_length_eq_zero (by omega))
  rcases h.2 with ⟨_, h0⟩ | ⟨g, cap, cur, hv, _, hh, _⟩
  · exact absurd h0 hn
  · injection hv with hA _ _
    subst hA
    refine ⟨g, 0, rfl, (Array.getElem?_eq_some_iff.1 hh).1, fun i hi => ?_⟩
    have := h.cells (g := g) rfl i (.int .i64 (xs.getD i 0)) (by simp [hi])
    unfold Addr.add at this
    by_cases hi0 : i = 0
    · subst hi0; simpa using this
    · rw [if_neg hi0] at this; simpa using this

theorem below_drewN {B : Nat} {a w : World} (h : Below B a w) (n : Nat) : Below B a (w.drewN n) := ⟨h.os, h.tape, h.output, h.size, h.block⟩
theorem below_self_drewN {B : Nat} (w : World) (n : Nat) : Below B w (w.drewN n) := below_drewN (Below.refl _ _) n
theorem below_trans {a b c : World} (h : Below a.heap.size a b) (k : Below b.heap.size b c) : Below a.heap.size a c := h.trans (k.mono h.size)
theorem bcell {W w1 : World} (hb : Below W.heap.size W w1) : (∀ b o, b < W.heap.size → w1.cell? ⟨b, o, none⟩ = W.cell? ⟨b, o, none⟩) ∧ (∀ b o, b < W.heap.size → w1.frozen? ⟨b, o, none⟩ = W.frozen? ⟨b, o, none⟩) :=
  ⟨fun b o h => hb.cell (p := ⟨b, o, none⟩) h, fun b o h => hb.frozen (p := ⟨b, o, none⟩) h⟩

/-- A region that draws: reads, then a tail in the text's order (the draw spelled 'drew'). -/
theorem wp_tail {P : Program} {id : Nat} {Q : Exit → Act → World → Prop} {a : Act} {w : World} {l : List Oper} (n : Nat) (hm : P.follows .mixedOrders = true) (hB : Region.lexTailB .any l.toArray n = true)
    (h : wpStill P l.toArray w.drew (fun a' => wpList P l.toArray Q (l.drop n) a' w.drew) (l.take n) a) : (Code.region id l.toArray true).wp P Q a w := wp_region_still_tail n hm hB h

theorem quiet_add_same {P : Program} {f : FuncId} {args : Array Value} {w : World} {a n : Nat} {v : Value}
    (h : Calls P f args (w.drewN (a + n)) fun e w' => e = .returned v ∧ w' = w.drewN (a + n)) :
    Calls P f args (w.drewN (a + n)) fun e w'' => e = .returned v ∧ ∃ m, w'' = w.drewN (a + m) :=
  h.mono fun _ _ ⟨he, hm⟩ => ⟨he, n, hm⟩

theorem Tryz.intInfo : (Tryz.prog.info? 3).map (fun i => (i.zero, i.size, i.bytes)) = some (some (.int .i64 0), 1, 8) := by kernel_rfl

/-- Block g is an array of ints of the call's own: its first cells are xs, it has cap cells. -/
def Arr (w : World) (g cap : Nat) (xs : List Int) : Prop :=
  ∃ rest : List Value, xs.length + rest.length = cap ∧ cap ≤ maxLen ∧ w.heap[g]? = some (.cells (xs.map (Value.int .i64) ++ rest).toArray 3 (0, 0))

theorem Arr.lt {w : World} {g cap : Nat} {xs : List Int} (h : Arr w g cap xs) : g < w.heap.size := by
  obtain ⟨rest, _, _, hh⟩ := h
  exact (Array.getElem?_eq_some_iff.1 hh).1
theorem Arr.len {w : World} {g cap : Nat} {xs : List Int} (h : Arr w g cap xs) : xs.length ≤ cap ∧ cap ≤ maxLen := by
  obtain ⟨rest, h1, h2, _⟩ := h
  exact ⟨by omega, h2⟩
theorem Arr.cell {w : World} {g cap : Nat} {xs : List Int} (h : Arr w g cap xs) (i : Nat) (hi : i < xs.length) : w.cell? ⟨g, i, none⟩ = some (.int .i64 (xs.getD i 0)) := by
  obtain ⟨rest, _, _, hh⟩ := h
  rw [cell_of_row w g i _ 3 (0, 0) hh]
  simp [hi, List.getElem?_append_left]
theorem Arr.frozen {w : World} {g cap : Nat} {xs : List Int} (h : Arr w g cap xs) (i : Nat) : w.frozen? ⟨g, i, none⟩ = false := by
  obtain ⟨rest, _, _, hh⟩ := h
  simp [World.frozen?, hh]
theorem Arr.block {w w' : World} {g cap : Nat} {xs : List Int} (h : Arr w g cap xs) (hb : w'.heap[g]? = w.heap[g]?) : Arr w' g cap xs := by
  obtain ⟨rest, h1, h2, hh⟩ := h
  exact ⟨rest, h1, h2, hb.trans hh⟩
theorem Arr.below {w w' : World} {g cap B : Nat} {xs : List Int} (h : Arr w g cap xs) (hb : Below B w w') (hg : g < B) : Arr w' g cap xs := h.block (hb.block g hg)
theorem Arr.later {w w' : World} {g cap : Nat} {xs : List Int} (h : Arr w g cap xs) (hb : Below w.heap.size w w') : Arr w' g cap xs := h.below hb h.lt
theorem Arr.alloc {w : World} {g cap : Nat} {xs : List Int} (h : Arr w g cap xs) (o : Obj) : Arr (w.alloc o) g cap xs := h.block (Below.heap_alloc w o g h.lt)
theorem Arr.drew {w : World} {g cap : Nat} {xs : List Int} (h : Arr w g cap xs) : Arr w.drew g cap xs := h
theorem Arr.drewN {w : World} {g cap : Nat} {xs : List Int} (h : Arr w g cap xs) (n : Nat) : Arr (w.drewN n) g cap xs := h
theorem Arr.far {w : World} {g cap : Nat} {xs : List Int} (h : Arr w g cap xs) {p : Addr} (hp : g ≠ p.block) (u : Value) : Arr (w.setCell p u) g cap xs := h.block (Below.heap_setCell w p u g hp)
theorem Arr.set {w : World} {g cap : Nat} {xs : List Int} (h : Arr w g cap xs) (i : Nat) (hi : i < xs.length) (x : Int) : Arr (w.setCell ⟨g, i, none⟩ (.int .i64 x)) g cap (xs.set i x) := by
  obtain ⟨rest, h1, h2, hh⟩ := h
  refine ⟨rest, by simpa using h1, h2, ?_⟩
  simp only [World.setCell, Array.getElem?_modify, hh, if_true]
  simp [List.map_set, List.set_append_left, hi]
theorem Arr.set2 {w : World} {g cap : Nat} {xs : List Int} (h : Arr w g cap xs) (i : Nat) (hi : i < xs.length) (x y : Int) : Arr ((w.setCell ⟨g, i, none⟩ (.int .i64 x)).setCell ⟨g, i, none⟩ (.int .i64 y)) g cap (xs.set i y) := by
  have := (h.set i hi x).set i (by simpa using hi) y
  rwa [List.set_set] at this
theorem Arr.set3 {w : World} {g cap : Nat} {xs : List Int} (h : Arr w g cap xs) (i : Nat) (hi : i < xs.length) (x y z : Int) :
    Arr (((w.setCell ⟨g, i, none⟩ (.int .i64 x)).setCell ⟨g, i, none⟩ (.int .i64 y)).setCell ⟨g, i, none⟩ (.int .i64 z)) g cap (xs.set i z) := by
  have := (h.set2 i hi x y).set i (by simpa using hi) z
  rwa [List.set_set] at this
theorem Arr.own {w : World} {g cap base : Nat} {xs : List Int} (h : Arr w g cap xs) (hb : base ≤ g) : w.ownsRow base 3 1 (.slice (some ⟨g, 0, none⟩) xs.length cap) xs.length (xs.map (Value.int .i64)) := by
  obtain ⟨rest, h1, h2, hh⟩ := h
  refine ⟨by simp, .inr ⟨g, cap, _, rfl, hb, hh, by omega, h2, by simp; omega, by simp⟩⟩
theorem Arr.of_own {w : World} {g cap base : Nat} {xs : List Int} (h : w.ownsRow base 3 1 (.slice (some ⟨g, 0, none⟩) xs.length cap) xs.length (xs.map (Value.int .i64))) : base ≤ g ∧ Arr w g cap xs := by
  rcases h.2 with ⟨he, _⟩ | ⟨g', cap', cur, hv, hb, hh, hnc, hcm, hcs, htake⟩
  · cases he
  · injection hv with e1 e2 e3
    injection e1 with e1
    injection e1 with e1
    subst e1; subst e3
    refine ⟨hb, cur.toList.drop xs.length, by simp; omega, hcm, ?_⟩
    rw [hh]
    congr 2
    apply Array.toList_inj.1
    simp only [Nat.mul_one] at htake
    rw [← htake]
    simp
theorem Arr.cut {w : World} {g cap : Nat} {xs : List Int} (h : Arr w g cap xs) (k : Nat) : Arr w g cap (xs.take k) := by
  obtain ⟨rest, h1, h2, hh⟩ := h
  refine ⟨(xs.drop k).map (Value.int .i64) ++ rest, ?_, h2, ?_⟩
  · simp only [List.length_take, List.length_append, List.length_map, List.length_drop]; omega
  · rw [hh, ← List.append_assoc, ← List.map_append, List.take_append_drop]
theorem Arr.reads {w : World} {g cap : Nat} {xs : List Int} (h : Arr w g cap xs) : RI w (some ⟨g, 0, none⟩) xs := fun _ =>
  ⟨g, 0, rfl, h.lt, fun i hi => by rw [Nat.zero_add]; exact h.cell i hi⟩
theorem madeCells_int (n : Nat) : madeCells #[.int .i64 0] n = (List.replicate n (Value.int .i64 0)).toArray := by
  unfold madeCells
  apply Array.ext
  · simp
  · intro i h1 h2
    simp [Nat.mod_one]
theorem Arr.made {w : World} (n : Nat) (hn : n ≤ maxLen) : Arr (w.alloc (.cells (madeCells #[.int .i64 0] n) 3)) w.heap.size n (List.replicate n 0) := by
  refine ⟨[], by simp, hn, ?_⟩
  rw [heap_alloc_new, madeCells_int]
  simp

/-- A slice of ints that the call owns (block base or later): it can be appended to. -/
def OI (w : World) (base : Nat) (v : Value) (xs : List Int) : Prop := w.ownsRow base 3 1 v xs.length (xs.map (Value.int .i64))
theorem OI.alloc {w : World} {base : Nat} {v : Value} {xs : List Int} (h : OI w base v xs) (o : Obj) : OI (w.alloc o) base v xs := World.ownsRow.alloc h o
theorem OI.drew {w : World} {base : Nat} {v : Value} {xs : List Int} (h : OI w base v xs) : OI w.drew base v xs := h
theorem OI.drewN {w : World} {base : Nat} {v : Value} {xs : List Int} (h : OI w base v xs) (n : Nat) : OI (w.drewN n) base v xs := h
theorem OI.nil (w : World) (base : Nat) : OI w base (.slice none 0 0) [] := World.ownsRow_nil w base 3 1
theorem OI.made {w : World} {cap : Nat} {base : Nat} (h : Arr w base cap []) {b : Nat} (hb : b ≤ base) : OI w b (.slice (some ⟨base, 0, none⟩) 0 cap) [] := h.own hb
theorem OI.of_arr {w : World} {g cap base : Nat} {xs : List Int} (h : Arr w g cap xs) (hb : base ≤ g) : OI w base (.slice (some ⟨g, 0, none⟩) xs.length cap) xs := h.own hb
theorem OI.later {w w' : World} {base : Nat} {v : Value} {xs : List Int} (h : OI w base v xs) (hb : Below w.heap.size w w') : OI w' base v xs :=
  World.ownsRow.kept (row := none) h ⟨hb.os, hb.tape, hb.output, hb.size, fun k hk _ => hb.block k hk⟩ (by cases v.ownBlock <;> simp)

/-- A result: a slice of ints in memory of the call's own (block base or later), or an empty one. -/
def RO (w : World) (base : Nat) (v : Value) (xs : List Int) : Prop :=
  ∃ A c, v = .slice A xs.length c ∧ xs.length ≤ c ∧ c ≤ maxLen ∧ (xs ≠ [] → ∃ g, A = some ⟨g, 0, none⟩ ∧ base ≤ g ∧ Arr w g c xs)

theorem RO.reads {w : World} {base : Nat} {xs : List Int} {A : Option Addr} {n c : Nat} (h : RO w base (.slice A n c) xs) : RI w A xs := by
  intro hx
  obtain ⟨A', c', he, _, _, h2⟩ := h
  injection he with e1 e2 e3
  obtain ⟨g, e, _, ha⟩ := h2 hx
  rw [e1, e]
  exact ha.reads hx
theorem RO.form {w : World} {base : Nat} {v : Value} {xs : List Int} (h : RO w base v xs) : ∃ A c, v = .slice A xs.length c ∧ xs.length ≤ c := by
  obtain ⟨A, c, h1, h2, _⟩ := h
  exact ⟨A, c, h1, h2⟩
theorem RO.later {w w' : World} {base : Nat} {v : Value} {xs : List Int} (h : RO w base v xs) (hb : Below w.heap.size w w') : RO w' base v xs := by
  obtain ⟨A, c, rfl, h1, h2, h3⟩ := h
  refine ⟨A, c, rfl, h1, h2, fun hx => ?_⟩
  obtain ⟨g, e, hg, ha⟩ := h3 hx
  exact ⟨g, e, hg, ha.later hb⟩
theorem RO.mono {w : World} {base base' : Nat} {v : Value} {xs : List Int} (h : RO w base v xs) (hb : base' ≤ base) : RO w base' v xs := by
  obtain ⟨A, c, rfl, h1, h2, h3⟩ := h
  refine ⟨A, c, rfl, h1, h2, fun hx => ?_⟩
  obtain ⟨g, e, hg, ha⟩ := h3 hx
  exact ⟨g, e, Nat.le_trans hb hg, ha⟩
theorem RO.of_own {w : World} {base : Nat} {v : Value} {xs : List Int} (h : OI w base v xs) : RO w base v xs := by
  rcases h.2 with ⟨rfl, h0⟩ | ⟨g, cap, cur, rfl, hb, hh, hnc, hcm, hcs, htake⟩
  · exact ⟨none, 0, by rw [h0], by omega, Nat.zero_le _, fun hx => absurd (List.eq_nil_of_length_eq_zero h0) hx⟩
  · exact ⟨_, cap, rfl, hnc, hcm, fun _ => ⟨g, rfl, hb, (Arr.of_own h).2⟩⟩
theorem RO.nil (w : World) (base : Nat) (A : Option Addr) (c : Nat) (hc : c ≤ maxLen) : RO w base (.slice A 0 c) [] := ⟨A, c, rfl, Nat.zero_le _, hc, fun h => absurd rfl h⟩

/-- make([]int, n, k): a new array of zeros. -/
theorem makeInts {P : Program} {ops : Array Oper} {rest : List Oper} {o : Oper} {a : Act} {w : World} {Q : Exit → Act → World → Prop} (hgd : o.guard = none) (l c : Operand) (T : TypeId)
    (hop : o.op = Op.makeSlice T l c) (ht : P.underlying T = some (.slice 3)) (hinfo : (P.info? 3).map (fun i => (i.zero, i.size, i.bytes)) = some (some (.int .i64 0), 1, 8))
    (n k : Nat) (x y : Int) (hl : a.eval l = .int .i64 x) (hc : a.eval c = .int .i64 y) (hx : x = n) (hy : y = k) (hnk : n ≤ k) (hk : k ≤ 1099511627776)
    (h : Arr (w.alloc (.cells (madeCells #[.int .i64 0] k) 3)) w.heap.size k (List.replicate k 0) →
      wpList P ops Q rest (a.put o.dst (.slice (some ⟨w.heap.size, 0, none⟩) n k)) (w.alloc (.cells (madeCells #[.int .i64 0] k) 3))) : wpList P ops Q (o :: rest) a w := by
  obtain ⟨i, hi, hz0, hz1, hz2⟩ := info_parts hinfo
  subst hx; subst hy
  refine wpList_plain hgd fun K hK' => ?_
  have hrun := run_make (P := P) w T 3 i _ ht hi hz0 .i64 .i64 (n : Int) (k : Int) (by omega) (by omega) (by rw [hz2]; omega) (by omega)
  simp only [Int.toNat_natCast, hz1, Nat.mul_one] at hrun
  unfold Oper.wp
  simp [execOp, hop, hl, hc, hrun, Result.andThen]
  exact hK' _ _ (h (Arr.made k (by unfold maxLen; omega)))

theorem cell_new1 (w : World) (v : Value) (T : TypeId) : (w.alloc (.cells #[v] T)).cell? ⟨w.heap.size, 0, none⟩ = some v := by
  rw [World.cell?_alloc_at _ _ _ _ rfl]; rfl

/-- One int appended to a slice of the call's own. -/
theorem append1 {P : Program} {ops : Array Oper} {rest : List Oper} {o : Oper} {a : Act} {w : World} {Q : Exit → Act → World → Prop} (hgd : o.guard = none) (s x : Operand) (T : TypeId)
    (ho : o.op = .call { callee := .builtin .append, args := #[s, x], argTypes := #[T, T] }) (ht : P.underlying T = some (.slice 3))
    (hinfo : (P.info? 3).map (fun i => (i.zero, i.size, i.bytes)) = some (some (.int .i64 0), 1, 8))
    (base : Nat) (v : Value) (xs : List Int) (hs : a.eval s = v) (hown : OI w base v xs)
    (ad : Addr) (y : Int) (hx : a.eval x = .slice (some ad) 1 1) (hy : w.cell? ad = some (.int .i64 y)) (hlen : xs.length < 1099511627776) (hbase : base ≤ w.heap.size)
    (h : ∀ v' w', OI w' base v' (xs ++ [y]) → Below base w w' → wpList P ops Q rest (a.put o.dst v') w') : wpList P ops Q (o :: rest) a w := by
  obtain ⟨i0, hi, hz0, hz1, hz2⟩ := info_parts hinfo
  refine wpList_append_own w hgd s x T ho base 3 i0 (.int .i64 0) 1 8 ht hi hz0 hz1 hz2 rfl (by decide) v xs.length _ hs hown ad 1 1 [.int .i64 y] hx rfl ?_ ?_ ?_ ?_ hbase ?_
  · intro j u hj
    match j, hj with
    | 0, hj => simp at hj; subst hj; simpa [Addr.add] using hy
  · intro u hu; simp at hu; subst hu; rfl
  · unfold maxLen; omega
  · omega
  · intro v' w' h1 hg _
    refine h v' w' (by simpa [OI] using h1) ?_
    exact (Below.refl _ _).grown hg hbase (fun k hk => (hown.lt k hk).1)

theorem run_append_of_nil {P : Program} (w : World) (base : Nat) (t ty e : TypeId) (i : TypeInfo) (size : Nat) (ht : P.underlying t = some (.slice e)) (hi : P.info? e = some i)
    (v : Value) (n : Nat) (xs : List Value) (hown : w.ownsRow base e size v n xs) (c : Nat) : (Builtin.append_ #[t, t] ty #[v, .slice none 0 c]).run P w = .ok v w := by
  rcases hown.2 with ⟨rfl, rfl⟩ | ⟨g, cap, cur, rfl, _, _, hnc, _⟩
  · simp [Builtin.append_, run_underlying ht, sizeOf, typeInfo, hi, Builtin.lenOf, Builtin.firstCells]
  · simp [Builtin.append_, run_underlying ht, sizeOf, typeInfo, hi, Builtin.lenOf, Builtin.firstCells, hnc, storeCells]

/-- A list of ints appended to a slice of the call's own. -/
theorem appendAll {P : Program} {ops : Array Oper} {rest : List Oper} {o : Oper} {a : Act} {w : World} {Q : Exit → Act → World → Prop} (hgd : o.guard = none) (s x : Operand) (T : TypeId)
    (ho : o.op = .call { callee := .builtin .append, args := #[s, x], argTypes := #[T, T] }) (ht : P.underlying T = some (.slice 3))
    (hinfo : (P.info? 3).map (fun i => (i.zero, i.size, i.bytes)) = some (some (.int .i64 0), 1, 8))
    (base : Nat) (v : Value) (xs : List Int) (hs : a.eval s = v) (hown : OI w base v xs)
    (A : Option Addr) (ys : List Int) (m c' : Nat) (hx : a.eval x = .slice A m c') (hm : ys.length = m) (hr : RI w A ys) (hlen : xs.length + m < 1099511627776) (hbase : base ≤ w.heap.size)
    (h : ∀ v' w', OI w' base v' (xs ++ ys) → Below base w w' → wpList P ops Q rest (a.put o.dst v') w') : wpList P ops Q (o :: rest) a w := by
  obtain ⟨i0, hi, hz0, hz1, hz2⟩ := info_parts hinfo
  by_cases hys : ys = []
  · subst hys
    simp at hm
    subst hm
    cases A with
    | none =>
      refine wpList_plain hgd fun K hK => ?_
      have hrun := run_append_of_nil (P := P) w base T o.type 3 i0 1 ht hi v _ _ hown c'
      unfold Oper.wp
      simp [execOp, ho, resolve, invoke, builtin, hs, hx, hrun, Result.andThen]
      exact hK _ _ (h _ _ (by simpa using hown) (Below.refl _ _))
    | some ad =>
      refine wpList_append_own w hgd s x T ho base 3 i0 (.int .i64 0) 1 8 ht hi hz0 hz1 hz2 rfl (by decide) v xs.length _ hs hown ad 0 c' [] hx rfl (by simp) (by simp) (by unfold maxLen; omega) (by omega) hbase ?_
      intro v' w' h1 hg _
      exact h v' w' (by simpa [OI] using h1) ((Below.refl _ _).grown hg hbase (fun k hk => (World.ownsRow.lt hown k hk).1))
  · obtain ⟨b, off, rfl, hb, hc⟩ := hr hys
    refine wpList_append_own w hgd s x T ho base 3 i0 (.int .i64 0) 1 8 ht hi hz0 hz1 hz2 rfl (by decide) v xs.length _ hs hown ⟨b, off, none⟩ m c' (ys.map (Value.int .i64)) hx (by simpa using hm) ?_ ?_ ?_ ?_ hbase ?_
    · intro j u hj
      have hjl : j < ys.length := by
        have := (List.getElem?_eq_some_iff.1 hj).1
        simpa using this
      have hcc := hc j hjl
      have hu : u = .int .i64 (ys.getD j 0) := by simpa [hjl] using hj.symm
      rw [hu]
      unfold Addr.add
      by_cases h0 : j = 0
      · subst h0; simpa using hcc
      · rw [if_neg h0]; simpa using hcc
    · intro u hu
      obtain ⟨z, _, rfl⟩ := List.mem_map.1 hu
      rfl
    · unfold maxLen; omega
    · omega
    · intro v' w' h1 hg _
      exact h v' w' (by simpa [OI, hm] using h1) ((Below.refl _ _).grown hg hbase (fun k hk => (World.ownsRow.lt hown k hk).1))

end Go.Proofs.YtlpomcihkjiokaaGreat

namespace Go.Proofs.YtlpomcihkjiokaaGreat
open Go.RowKit Go.Joins Go.Deep

theorem lt_of_cell' {w : World} {b o : Nat} {s : Option Nat} {v : Value} (h : w.cell? ⟨b, o, s⟩ = some v) : b < w.heap.size ∧ s = none := by
  unfold World.cell? at h
  cases hb : w.heap[b]? with
  | none => simp [hb] at h
  | some x =>
    refine ⟨(Array.getElem?_eq_some_iff.1 hb).1, ?_⟩
    cases s with
    | none => rfl
    | some s => cases x <;> simp [hb] at h

/-- A slice at address A reads as the list xs of things that take k cells each ('At': what one of them is). -/
def SI {α : Type} (At : World → Nat → Nat → α → Prop) (k : Nat) (d : α) (w : World) (A : Option Addr) (xs : List α) : Prop :=
  xs ≠ [] → ∃ b off, A = some ⟨b, off, none⟩ ∧ b < w.heap.size ∧ ∀ i, i < xs.length → At w b (off + i * k) (xs.getD i d)

/-- What is there stays where nothing that was there turns. -/
def Stays {α : Type} (At : World → Nat → Nat → α → Prop) : Prop := ∀ (w w' : World) (b o : Nat) (x : α), b < w.heap.size → At w b o x → Below w.heap.size w w' → At w' b o x

theorem SI.later {α : Type} {At : World → Nat → Nat → α → Prop} {k : Nat} {d : α} (hs : Stays At) {w w' : World} {A : Option Addr} {xs : List α} (h : SI At k d w A xs) (hb : Below w.heap.size w w') : SI At k d w' A xs := by
  intro hx
  obtain ⟨b, off, rfl, hlt, hc⟩ := h hx
  exact ⟨b, off, rfl, Nat.lt_of_lt_of_le hlt hb.size, fun i hi => hs _ _ _ _ _ hlt (hc i hi) hb⟩
theorem SI.nil {α : Type} (At : World → Nat → Nat → α → Prop) (k : Nat) (d : α) (w : World) (A : Option Addr) : SI At k d w A [] := fun h => absurd rfl h

theorem cell_later {w w' : World} {b o : Nat} {v : Value} (hlt : b < w.heap.size) (h : w.cell? ⟨b, o, none⟩ = some v) (hb : Below w.heap.size w w') : w'.cell? ⟨b, o, none⟩ = some v := by
  rw [hb.cell (p := ⟨b, o, none⟩) hlt]; exact h

/-- The cells of a struct that was boxed, read later. -/
theorem box_cell {w w2 : World} {C : Array Value} {t : TypeId} (hb : Below (w.alloc (.cells C t)).heap.size (w.alloc (.cells C t)) w2) (j : Nat) {v : Value} (h : C[j]? = some v) : w2.cell? ⟨w.heap.size, j, none⟩ = some v := by
  rw [hb.cell (p := ⟨w.heap.size, j, none⟩) (by simp), cell_alloc_mark_at w C t _ _ j rfl]
  exact h
theorem box_below {w w2 : World} {C : Array Value} {t : TypeId} (hb : Below (w.alloc (.cells C t)).heap.size (w.alloc (.cells C t)) w2) : Below w.heap.size w w2 := (below_alloc1 w _).trans (below_le hb (by simp))

/-- A variable of the call's own, read later. -/
theorem own_cell {w w2 : World} {C : Array Value} {t : TypeId} (hb : Below (w.alloc (.cells C t)).heap.size (w.alloc (.cells C t)) w2) {g : Nat} (hg : g = w.heap.size) :
    (∀ j v, C[j]? = some v → w2.cell? ⟨g, j, none⟩ = some v) ∧ ∀ j, w2.frozen? ⟨g, j, none⟩ = false := by
  subst hg
  refine ⟨fun j v h => box_cell hb j h, fun j => ?_⟩
  rw [hb.frozen (p := ⟨w.heap.size, j, none⟩) (by simp)]
  exact unfrozen_of_block (cs := C) (t := t) (heap_alloc_new _ _) j
theorem below_step {w w2 : World} {o : Obj} (hb : Below (w.alloc o).heap.size (w.alloc o) w2) : Below w.heap.size w w2 := (below_alloc1 w _).trans (below_le hb (by simp))
theorem RO.far {w : World} {base : Nat} {v : Value} {xs : List Int} (h : RO w base v xs) {p : Addr} (hp : p.block < base) (u : Value) : RO (w.setCell p u) base v xs := by
  obtain ⟨A, c, rfl, hl, hc, h⟩ := h
  refine ⟨A, c, rfl, hl, hc, fun hx => ?_⟩
  obtain ⟨g, rfl, hg, ha⟩ := h hx
  exact ⟨g, rfl, hg, ha.far (by omega) u⟩

/-- A fraction's parts as they lie in memory. -/
structure RatD where
  neg : Bool
  mag : List Int
  den : List Int
def zR : RatD := ⟨false, [], []⟩

def RatAt (w : World) (b off : Nat) (r : RatD) : Prop :=
  ∃ A c B d, w.cell? ⟨b, off, none⟩ = some (.bool r.neg) ∧ w.cell? ⟨b, off + 1, none⟩ = some (.slice A r.mag.length c) ∧ w.cell? ⟨b, off + 2, none⟩ = some (.slice B r.den.length d) ∧
    (r.mag.length ≤ c ∧ c ≤ maxLen ∧ r.den.length ≤ d ∧ d ≤ maxLen) ∧ RI w A r.mag ∧ RI w B r.den
/-- A fraction as a value. -/
def RatV (w : World) (v : Value) (r : RatD) : Prop :=
  ∃ A c B d, v = .agg #[.bool r.neg, .slice A r.mag.length c, .slice B r.den.length d] ∧
    (r.mag.length ≤ c ∧ c ≤ maxLen ∧ r.den.length ≤ d ∧ d ≤ maxLen) ∧ RI w A r.mag ∧ RI w B r.den
theorem RatV.later {w w' : World} {v : Value} {r : RatD} (h : RatV w v r) (hb : Below w.heap.size w w') : RatV w' v r := by
  obtain ⟨A, c, B, d, rfl, hl, h1, h2⟩ := h
  exact ⟨A, c, B, d, rfl, hl, h1.later hb, h2.later hb⟩
theorem RatAt.stays : Stays RatAt := by
  intro w w' b o x hlt h hb
  obtain ⟨A, c, B, d, h0, h1, h2, hl, h3, h4⟩ := h
  exact ⟨A, c, B, d, cell_later hlt h0 hb, cell_later hlt h1 hb, cell_later hlt h2 hb, hl, h3.later hb, h4.later hb⟩
/-- A vector. -/
def VI (w : World) (A : Option Addr) (rs : List RatD) : Prop := SI RatAt 3 zR w A rs
theorem VI.later {w w' : World} {A : Option Addr} {rs : List RatD} (h : VI w A rs) (hb : Below w.heap.size w w') : VI w' A rs := SI.later RatAt.stays h hb
theorem VI.nil (w : World) (A : Option Addr) : VI w A [] := SI.nil _ _ _ w A

section
variable {H : Type} {enc : TypeId × Value → H} {P : Program} {w : World}

theorem openRI {t e : TypeId} {fuel : Nat} {cs : List Value} {x : DataW H × List MemPlace} (ht : P.underlying t = some (.slice e)) (he : P.underlying e = some (.int .i64)) (hc : P.cellsOf e = 1)
    (h : DataW.trod enc P w 0 (fun _ => true) true fuel t cs = some x) :
    ∃ A c xs, cs = [.slice A xs.length c] ∧ xs.length ≤ c ∧ c ≤ maxLen ∧ RI w A xs ∧ ∀ n ∈ xs, In64 n := by
  rcases Go.ChangeShapes.open_ints ht he hc h with ⟨rfl, _⟩ | ⟨a, len, cap, zs, rfl, _, hlc, hcm, hzl, _, hcell, hwf⟩
  · exact ⟨none, 0, [], rfl, by simp, Nat.zero_le _, RI.nil w none, by simp⟩
  · simp only [if_true] at hzl
    have hl : (zs.take len).length = len := by rw [List.length_take]; omega
    refine ⟨some a, cap, zs.take len, by rw [hl], by omega, hcm, ?_, fun n hn => in64_of_wf (hwf n (List.mem_of_mem_take hn))⟩
    intro hx
    have h0 : 0 < zs.length := by
      cases zs with
      | nil => simp at hx
      | cons => simp
    have h1 := hcell 0 h0
    obtain ⟨b, o, s⟩ := a
    simp only [Addr.add, if_true] at h1
    obtain ⟨hb, rfl⟩ := lt_of_cell' h1
    refine ⟨b, o, rfl, hb, fun i hi => ?_⟩
    rw [hl] at hi
    have := hcell i (by omega)
    have e1 : (⟨b, o, none⟩ : Addr).add i = ⟨b, o + i, none⟩ := by
      unfold Addr.add
      split
      · rename_i h; subst h; rfl
      · rfl
    rw [e1] at this
    rw [this]
    simp [hi]

/-- A slice of whatever is opened, once one of its things is. -/
theorem openSI {α : Type} {At : World → Nat → Nat → α → Prop} {k : Nat} {d : α} {G : α → Prop} {t e : TypeId} {fuel : Nat} {cs : List Value} {x : DataW H × List MemPlace} (ht : P.underlying t = some (.slice e)) (hk : P.cellsOf e = k) (hk0 : 0 < k)
    (hone : ∀ (n : Nat) (cs' : List Value) (y : DataW H × List MemPlace), DataW.trod enc P w 0 (fun _ => true) true n e cs' = some y → cs'.length = k →
      ∃ z : α, G z ∧ ∀ b o : Nat, (∀ j, j < k → w.cell? ⟨b, o + j, none⟩ = cs'[j]?) → At w b o z)
    (h : DataW.trod enc P w 0 (fun _ => true) true fuel t cs = some x) :
    ∃ A c xs, cs = [.slice A xs.length c] ∧ xs.length ≤ c ∧ c ≤ maxLen ∧ SI At k d w A xs ∧ ∀ z ∈ xs, G z := by
  rcases open_slice ht h with ⟨rfl, _⟩ | ⟨a, len, cap, m, n, D, Pl, rfl, _, hlc, hcm, hm, _, hx⟩
  · exact ⟨none, 0, [], rfl, by simp, Nat.zero_le _, SI.nil _ _ _ w none, by simp⟩
  · simp only [if_true] at hm
    have each : ∀ i, i < len → ∃ z : Option α, ∃ y, z = some y ∧ G y ∧ At w a.block (a.off + i * k) y ∧ a.spot = none ∧ a.block < w.heap.size := by
      intro i hi
      obtain ⟨cs', h1, h2⟩ := hx i (by omega)
      rw [hk] at h1
      obtain ⟨_, hlen, hcell⟩ := World.cells?_some h1
      obtain ⟨z, hg, hz⟩ := hone n cs' _ h2 hlen
      have hsp : a.spot = none ∧ a.block < w.heap.size := by
        obtain ⟨cs0, g1, _⟩ := hx 0 (by omega)
        obtain ⟨_, gl, gc⟩ := World.cells?_some g1
        rw [hk] at gl
        have := gc 0 (by omega)
        obtain ⟨b, o, s⟩ := a
        simp only [Nat.zero_mul, Addr.add, if_true] at this
        have hc0 : cs0[0]? = some (cs0[0]'(by omega)) := List.getElem?_eq_getElem (by omega)
        rw [hc0] at this
        exact ⟨(lt_of_cell' this).2, (lt_of_cell' this).1⟩
      refine ⟨some z, z, rfl, hg, hz _ _ fun j hj => ?_, hsp⟩
      have := hcell j hj
      obtain ⟨b, o, s⟩ := a
      obtain ⟨rfl, _⟩ := hsp
      rw [← this]
      congr 1
      unfold Addr.add
      split <;> split <;> simp_all <;> omega
    obtain ⟨f, hf⟩ := choose_lt each
    have hS : ∀ i, i < len → ∃ y, f i = some y ∧ G y ∧ At w a.block (a.off + i * k) y ∧ a.spot = none ∧ a.block < w.heap.size := hf
    have hl : ((List.range len).map fun i => (f i).getD d).length = len := by simp
    refine ⟨some a, cap, (List.range len).map fun i => (f i).getD d, by rw [hl], by omega, hcm, ?_, ?_⟩
    · intro hne
      have h0 : 0 < len := by
        rcases Nat.eq_zero_or_pos len with h | h
        · subst h; simp at hne
        · exact h
      obtain ⟨_, _, _, _, hsp, hb⟩ := hS 0 h0
      obtain ⟨b, o, s⟩ := a
      simp only at hsp
      subst hsp
      refine ⟨b, o, rfl, hb, fun i hi => ?_⟩
      rw [hl] at hi
      obtain ⟨y, hy, _, hA, _⟩ := hS i hi
      simpa [hi, hy] using hA
    · intro z hz
      obtain ⟨i, hi, rfl⟩ := List.mem_map.1 hz
      obtain ⟨y, hy, hg, _⟩ := hS i (by simpa using hi)
      simpa [hy] using hg
end
end Go.Proofs.YtlpomcihkjiokaaGreat

namespace Go.Proofs.YtlpomcihkjiokaaGreat
namespace FE

theorem val_take_succ' (l : List Int) (i : Nat) : val (l.take (i + 1)) = val (l.take i) + bp i * l.getD i 0 := by
  by_cases hi : i < l.length
  · rw [val_take_succ l i hi]; simp [hi]
  · rw [List.take_of_length_le (by omega), List.take_of_length_le (by omega)]
    simp [List.getElem?_eq_none (show l.length ≤ i by omega)]

theorem val_snoc (l : List Int) (x : Int) : val (l ++ [x]) = val l + bp l.length * x := by
  rw [val_append, val_cons, val_nil]; simp

theorem Dig.snoc {l : List Int} {x : Int} (h : Dig l) (h0 : 0 ≤ x) (h1 : x < 1000000000) : Dig (l ++ [x]) := h.append (Dig.cons h0 h1 Dig.nil)

theorem top_snoc (l : List Int) {x : Int} (hx : x ≠ 0) : Top (l ++ [x]) := by
  intro h; simpa using hx

theorem top_of_ge {l : List Int} (hd : Dig l) (h : l ≠ [] → bp (l.length - 1) ≤ val l) : Top l := by
  intro hl
  rcases List.eq_nil_or_concat l with rfl | ⟨l', x, rfl⟩
  · exact absurd rfl hl
  · intro h0
    have h1 := h hl
    simp at h0
    subst h0
    rw [List.concat_eq_append, val_snoc] at h1
    have h2 := val_lt (l := l') (fun y hy => hd y (by simp [hy]))
    simp at h1
    omega

theorem bp_mul_succ (k : Nat) (x : Int) : bp (k + 1) * x = bp k * (1000000000 * x) := by rw [bp_succ]; grind

theorem addStep {X Y zs : List Int} {k : Nat} {cy s : Int} (hz : zs.length = k) (hd : Dig zs) (hv : val zs + bp k * cy = val (X.take k) + val (Y.take k))
    (hs : s = X.getD k 0 + cy + Y.getD k 0) :
    Dig (zs ++ [s % 1000000000]) ∧ val (zs ++ [s % 1000000000]) + bp (k + 1) * (s / 1000000000) = val (X.take (k + 1)) + val (Y.take (k + 1)) := by
  refine ⟨hd.snoc (by omega) (by omega), ?_⟩
  rw [val_snoc, hz, val_take_succ', val_take_succ', bp_mul_succ]
  have e : s % 1000000000 + 1000000000 * (s / 1000000000) = s := by omega
  have : bp k * (s % 1000000000) + bp k * (1000000000 * (s / 1000000000)) = bp k * s := by rw [← Int.mul_add, e]
  rw [hs] at this ⊢
  grind

theorem addEnd {X Y zs : List Int} (hX : Dig X) (hXt : Top X) (hY : Dig Y) (hYX : Y.length ≤ X.length) (hz : zs.length = X.length) (hd : Dig zs) {cy : Int}
    (hv : val zs + bp X.length * cy = val (X.take X.length) + val (Y.take X.length)) (h0 : 0 ≤ cy) (h1 : cy ≤ 1) :
    (if 0 < cy then zs ++ [cy] else zs) = toL (val X + val Y).toNat := by
  rw [List.take_of_length_le (Nat.le_refl _), List.take_of_length_le hYX] at hv
  have hx0 := val_nonneg hX
  have hy0 := val_nonneg hY
  split
  · refine eq_toL (hd.snoc h0 (by omega)) (top_snoc _ (by omega)) ?_
    rw [val_snoc, hz, hv]; omega
  · have hc : cy = 0 := by omega
    subst hc
    simp at hv
    refine eq_toL hd (top_of_ge hd fun hn => ?_) (by rw [hv]; omega)
    rw [hz, hv]
    by_cases hX0 : X = []
    · subst hX0; simp at hz; exact absurd hz hn
    · have := val_ge hX hXt hX0; omega

theorem getD_set (l : List Int) (i j : Nat) (x : Int) : (l.set i x).getD j 0 = if i = j ∧ i < l.length then x else l.getD j 0 := by
  simp only [List.getD_eq_getElem?_getD, List.getElem?_set]
  by_cases h : i = j
  · subst h
    by_cases hi : i < l.length
    · simp [hi]
    · simp [hi]
  · simp [h]

theorem val_set' (l : List Int) (i : Nat) (x : Int) (hi : i < l.length) : val (l.set i x) = val l + bp i * (x - l.getD i 0) := by
  rw [val_set l i x hi]; simp [hi]

theorem mul_bound {x y : Int} (hx : 0 ≤ x ∧ x < 1000000000) (hy : 0 ≤ y ∧ y ≤ 1000000000) : 0 ≤ x * y ∧ x * y ≤ 999999999 * y ∧ x * y ≤ 1000000000 * x := by
  refine ⟨Int.mul_nonneg hx.1 hy.1, Int.mul_le_mul_of_nonneg_right (by omega) hy.1, ?_⟩
  rw [Int.mul_comm 1000000000]
  exact Int.mul_le_mul_of_nonneg_left hy.2 hx.1

/-- A step of the division by a limb. -/
theorem divStep {xs zs : List Int} {j : Nat} {r d t : Int} (hd : 0 < d) (hr0 : 0 ≤ r) (hrd : r < d) (hxs : Dig xs) (hj : j < xs.length) (hzl : zs.length = xs.length) (hz : Dig zs)
    (h0 : zs.getD j 0 = 0) (hv : val xs = d * val zs + bp (j + 1) * r + val (xs.take (j + 1))) (ht : t = r * 1000000000 + xs.getD j 0) :
    0 ≤ t / d ∧ t / d < 1000000000 ∧ Dig (zs.set j (t / d)) ∧ val xs = d * val (zs.set j (t / d)) + bp j * (t % d) + val (xs.take j) := by
  have hx := hxs.getD j
  have q0 : 0 ≤ t / d := Int.ediv_nonneg (by omega) (by omega)
  have q1 : t / d < 1000000000 := by
    refine Int.ediv_lt_of_lt_mul hd ?_
    have : r * 1000000000 ≤ (d - 1) * 1000000000 := by omega
    omega
  refine ⟨q0, q1, hz.set j q0 q1, ?_⟩
  rw [val_set' _ _ _ (by omega), h0, hv, val_take_succ', bp_mul_succ]
  have e : d * (t / d) + t % d = t := Int.mul_ediv_add_emod t d
  have : bp j * (d * (t / d)) + bp j * (t % d) = bp j * t := by rw [← Int.mul_add, e]
  rw [ht] at this ⊢
  grind

/-- A step of the product with a limb. -/
theorem scaleStep {xs zs : List Int} {k : Nat} {cy by_ t : Int} (hz : Dig zs) (hk : k < zs.length) (h0 : zs.getD k 0 = 0) (hcy : 0 ≤ cy) (hcb : cy ≤ by_) (hb : by_ < 1000000000) (hxs : Dig xs)
    (hv : val zs + bp k * cy = val (xs.take k) * by_) (ht : t = cy + xs.getD k 0 * by_) :
    Dig (zs.set k (t % 1000000000)) ∧ val (zs.set k (t % 1000000000)) + bp (k + 1) * (t / 1000000000) = val (xs.take (k + 1)) * by_ ∧ 0 ≤ t / 1000000000 ∧ t / 1000000000 ≤ by_ := by
  have hx := hxs.getD k
  have hm := mul_bound hx ⟨show 0 ≤ by_ by omega, by omega⟩
  refine ⟨hz.set k (by omega) (by omega), ?_, by omega, by omega⟩
  rw [val_set' _ _ _ hk, h0, val_take_succ', bp_mul_succ]
  have e : t % 1000000000 + 1000000000 * (t / 1000000000) = t := by omega
  have : bp k * (t % 1000000000) + bp k * (1000000000 * (t / 1000000000)) = bp k * t := by rw [← Int.mul_add, e]
  rw [ht] at this ⊢
  grind

/-- A step of the inner loop of the product: limb i of xs times limb k of ys. -/
theorem mulStep {ys zs : List Int} {i k : Nat} {x cy t S : Int} (hz : Dig zs) (hik : i + k < zs.length) (hx : 0 ≤ x ∧ x < 1000000000) (hys : Dig ys) (hcy : 0 ≤ cy) (hcb : cy < 1000000000)
    (hv : val zs + bp (i + k) * cy = S + bp i * (x * val (ys.take k))) (ht : t = zs.getD (i + k) 0 + x * ys.getD k 0 + cy) :
    Dig (zs.set (i + k) (t % 1000000000)) ∧ val (zs.set (i + k) (t % 1000000000)) + bp (i + (k + 1)) * (t / 1000000000) = S + bp i * (x * val (ys.take (k + 1))) ∧ 0 ≤ t / 1000000000 ∧ t / 1000000000 < 1000000000 := by
  have hy := hys.getD k
  have hzz := hz.getD (i + k)
  have hm := mul_bound hx ⟨hy.1, by omega⟩
  refine ⟨hz.set _ (by omega) (by omega), ?_, by omega, by omega⟩
  rw [val_set' _ _ _ hik, val_take_succ', show i + (k + 1) = (i + k) + 1 by omega, bp_mul_succ]
  have e : t % 1000000000 + 1000000000 * (t / 1000000000) = t := by omega
  have h1 : bp (i + k) * (t % 1000000000) + bp (i + k) * (1000000000 * (t / 1000000000)) = bp (i + k) * t := by rw [← Int.mul_add, e]
  have h2 := bp_add i k
  rw [ht] at h1 ⊢
  grind

/-- The end of the inner loop: the carry goes into limb i + (length of ys). -/
theorem mulRow {xs ys zs : List Int} {i : Nat} {cy : Int} (hz : Dig zs) (him : i + ys.length < zs.length) (h0 : zs.getD (i + ys.length) 0 = 0) (hcy : 0 ≤ cy) (hcb : cy < 1000000000)
    (hv : val zs + bp (i + ys.length) * cy = val (xs.take i) * val ys + bp i * (xs.getD i 0 * val (ys.take ys.length))) :
    Dig (zs.set (i + ys.length) (zs.getD (i + ys.length) 0 + cy)) ∧ val (zs.set (i + ys.length) (zs.getD (i + ys.length) 0 + cy)) = val (xs.take (i + 1)) * val ys := by
  rw [h0]
  refine ⟨hz.set _ (by omega) (by omega), ?_⟩
  rw [val_set' _ _ _ him, h0, val_take_succ']
  rw [List.take_of_length_le (Nat.le_refl _)] at hv
  grind

/-- A step of the difference. -/
theorem subStep {xs ys zs : List Int} {k : Nat} {bo t : Int} (hz : zs.length = k) (hd : Dig zs) (hxs : Dig xs) (hys : Dig ys) (hb : bo = 0 ∨ bo = 1)
    (hv : val zs = val (xs.take k) - val (ys.take k) + bp k * bo) (ht : t = xs.getD k 0 - bo - ys.getD k 0) :
    Dig (zs ++ [if t < 0 then t + 1000000000 else t]) ∧ val (zs ++ [if t < 0 then t + 1000000000 else t]) = val (xs.take (k + 1)) - val (ys.take (k + 1)) + bp (k + 1) * (if t < 0 then 1 else 0) := by
  have hx := hxs.getD k
  have hy := hys.getD k
  refine ⟨hd.snoc (by split <;> omega) (by split <;> omega), ?_⟩
  rw [val_snoc, hz, val_take_succ', val_take_succ', hv, bp_mul_succ, ht]
  split <;> grind

theorem subEnd {xs ys zs : List Int} (hxd : Dig xs) (hyx : ys.length ≤ xs.length) (hz : zs.length = xs.length) (hd : Dig zs) {bo : Int} (hb : bo = 0 ∨ bo = 1)
    (hv : val zs = val (xs.take xs.length) - val (ys.take xs.length) + bp xs.length * bo) (hle : val ys ≤ val xs) : trim zs = toL (val xs - val ys).toNat := by
  rw [List.take_of_length_le (Nat.le_refl _), List.take_of_length_le hyx] at hv
  have h1 := val_lt hd
  have h2 := val_lt hxd
  rw [hz] at h1
  rcases hb with rfl | rfl
  · exact trim_eq hd (by rw [hv]; omega)
  · omega

theorem set_mid (P l : List Int) (k : Nat) (t : Int) (hP : P.length = k) (hk : k < l.length) : (P ++ l.drop k).set k t = (P ++ [t]) ++ l.drop (k + 1) := by
  rw [List.set_append_right _ _ (by omega), hP, Nat.sub_self, List.drop_eq_getElem_cons hk, List.set_cons_zero]
  simp
theorem getD_mid (P l : List Int) (k : Nat) (hP : P.length = k) (_hk : k < l.length) : (P ++ l.drop k).getD k 0 = l.getD k 0 := by
  rw [List.getD_eq_getElem?_getD, List.getElem?_append_right (by omega), hP, Nat.sub_self, List.getElem?_drop]
  simp

/-- A step of taking a multiple away, in place. -/
theorem takeStep {ws vs zs : List Int} {k : Nat} {bo by_ t b2 t2 : Int} (hz : zs.length = k) (hd : Dig zs) (hws : Dig ws) (hvs : Dig vs) (hb0 : 0 ≤ bo) (hb1 : bo < 1000000000) (hby : 0 ≤ by_ ∧ by_ < 1000000000)
    (hv : val zs - bp k * bo = val (ws.take k) - by_ * val (vs.take k)) (ht : t = ws.getD k 0 - bo - vs.getD k 0 * by_) (hb2 : b2 = if t < 0 then (-t + 1000000000 - 1) / 1000000000 else 0) (ht2 : t2 = if t < 0 then t + b2 * 1000000000 else t) :
    Dig (zs ++ [t2]) ∧ val (zs ++ [t2]) - bp (k + 1) * b2 = val (ws.take (k + 1)) - by_ * val (vs.take (k + 1)) ∧ 0 ≤ b2 ∧ b2 < 1000000000 := by
  have hx := hws.getD k
  have hy := hvs.getD k
  have hm := mul_bound hy ⟨hby.1, by omega⟩
  generalize hp : vs.getD k 0 * by_ = p at *
  have hp2 : p ≤ 999999998000000001 := by omega
  have ht2' : 0 ≤ t2 ∧ t2 < 1000000000 := by
    subst ht2 hb2
    split <;> omega
  have hb2' : 0 ≤ b2 ∧ b2 < 1000000000 := by
    subst hb2
    split <;> omega
  refine ⟨hd.snoc ht2'.1 ht2'.2, ?_, hb2'.1, hb2'.2⟩
  have e : t2 = t + 1000000000 * b2 := by
    subst ht2 hb2
    split <;> omega
  rw [val_snoc, hz, val_take_succ', val_take_succ', bp_mul_succ, e, ht, ← hp]
  grind

theorem addBackStep {ws vs zs : List Int} {k : Nat} {cy t : Int} (hz : zs.length = k) (hd : Dig zs) (hws : Dig ws) (hvs : Dig vs) (hc0 : 0 ≤ cy) (hc1 : cy ≤ 1)
    (hv : val zs + bp k * cy = val (ws.take k) + val (vs.take k)) (ht : t = ws.getD k 0 + cy + vs.getD k 0) :
    Dig (zs ++ [t % 1000000000]) ∧ val (zs ++ [t % 1000000000]) + bp (k + 1) * (t / 1000000000) = val (ws.take (k + 1)) + val (vs.take (k + 1)) ∧ 0 ≤ t / 1000000000 ∧ t / 1000000000 ≤ 1 := by
  have hx := hws.getD k
  have hy := hvs.getD k
  have h := addStep hz hd hv ht
  exact ⟨h.1, h.2, by omega, by omega⟩

theorem takeEnd {ws vs zs : List Int} {n : Nat} {bo q t : Int} (hz : zs.length = n) (hd : Dig zs) (hws : Dig ws) (hvn : vs.length = n) (hb0 : 0 ≤ bo)
    (hv : val zs - bp n * bo = val (ws.take n) - q * val (vs.take n)) (hlo : - bp n ≤ val (ws.take (n + 1)) - q * val vs) (ht : t = ws.getD n 0 - bo) :
    -1 ≤ t ∧ t < 1000000000 ∧ (t < 0 → Dig (zs ++ [t + 1000000000]) ∧ val (zs ++ [t + 1000000000]) = val (ws.take (n + 1)) - q * val vs + bp (n + 1) * 1) ∧
      (0 ≤ t → Dig (zs ++ [t]) ∧ val (zs ++ [t]) = val (ws.take (n + 1)) - q * val vs + bp (n + 1) * 0) := by
  have hx := hws.getD n
  have h1 := val_lt hd
  have h2 := bp_pos n
  rw [hz] at h1
  rw [List.take_of_length_le (l := vs) (by omega)] at hv
  have e : val (ws.take (n + 1)) - q * val vs = val zs + bp n * t := by
    rw [val_take_succ', ht]; grind
  rw [e] at hlo ⊢
  have ht1 : -1 ≤ t := by
    rcases Int.lt_or_le t (-1) with h | h
    · exfalso
      have := Int.mul_le_mul_of_nonneg_left (show t ≤ -2 by omega) (show 0 ≤ bp n by omega)
      omega
    · exact h
  refine ⟨ht1, by omega, fun h => ⟨hd.snoc (by omega) (by omega), ?_⟩, fun h => ⟨hd.snoc h (by omega), ?_⟩⟩
  · rw [val_snoc, hz, bp_mul_succ]; grind
  · rw [val_snoc, hz]; grind

theorem addBackEnd {ws vs zs : List Int} {n : Nat} {cy : Int} (hvn : vs.length ≤ n) (hv : val zs + bp n * cy = val (ws.take n) + val (vs.take n)) : val zs + bp n * cy = val (ws.take n) + val vs := by
  rwa [List.take_of_length_le (l := vs) hvn] at hv

end FE
end Go.Proofs.YtlpomcihkjiokaaGreat

namespace Go.Proofs.YtlpomcihkjiokaaGreat
open Go.RowKit Go.Joins

/-- What is left of a budget. -/
def szI (n : Nat) (left : Int) : Int := if (n : Int) ≤ left then left - n else -1

set_option maxHeartbeats 400000 in
theorem szIntS (n c : Nat) (hn : n ≤ maxLen) (left : Int) (h0 : 0 ≤ left) (h1 : left ≤ 1048576) (A : Option Addr) (w : World) :
    Calls Tryz.prog 78 #[.slice A n c, .int .i64 left] w fun r w' => r = .returned (.int .i64 (szI n left)) ∧ w' = w := by
  have hm : n ≤ 9223372036854775807 := hn
  have HS := Lib.hid (show szI n left = if (n : Int) ≤ left then left - n else -1 from rfl)
  have hw : wrap64 (left - n) = left - n := IntWalk.wrap64_in _ ⟨by omega, by omega⟩
  by_cases hl : (n : Int) ≤ left
  · have hd : ¬ (left - n < 0) := by omega
    go_enter Tryz.func78, Tryz.ntmps78
    go_wp2
    go_ret
    exact ⟨ret_int (by rw [HS.out, if_pos hl]), rfl⟩
  · have hd : left - n < 0 := by omega
    replace hl := Lib.hid hl
    go_enter Tryz.func78, Tryz.ntmps78
    go_wp2
    go_ret
    exact ⟨ret_int (by have := hl.out; rw [HS.out, if_neg (by omega)]), rfl⟩

theorem list_same {xs zs : List Int} (h : zs.length = xs.length) (hj : ∀ j, j < xs.length → zs.getD j 0 = xs.getD j 0) : zs = xs := by
  apply List.ext_getElem h
  intro i h1 h2
  have := hj i h2
  simpa [h1, h2] using this

set_option maxHeartbeats 400000 in
theorem toIntS (xs : List Int) (n c : Nat) (hn : xs.length = n) (hn1 : n ≤ 1048576) (A : Option Addr) (w : World) (ha : RI w A xs) :
    Calls Tryz.prog 87 #[.slice A n c] w fun r w' => ∃ v, r = .returned v ∧ RO w' w.heap.size v xs ∧ Below w.heap.size w w' := by
  have HN := Lib.hid hn; clear hn
  go_enter Tryz.func87, Tryz.ntmps87
  go_wp2_with (at_make; refine makeInts rfl _ _ _ rfl Tryz.underlying40 Tryz.intInfo n n _ _ rfl rfl rfl rfl (Nat.le_refl _) (by omega) ?_; intro harr0)
  go_loopw [4] (fun u wr => ∃ (k : Nat) (zs : List Int), k ≤ n ∧ u = .int .i64 k ∧ zs.length = n ∧ (∀ j, j < k → zs.getD j 0 = xs.getD j 0) ∧ Arr wr w.heap.size n zs ∧ Below w.heap.size w wr) (fun u _ => n - (intOf u).toNat)
  case atStart => exact ⟨0, List.replicate n 0, Nat.zero_le _, rfl, by simp, fun j hj => by omega, harr0, (Below.refl _ _).alloc (Nat.le_refl _) _⟩
  case round =>
    obtain ⟨k, zs, hk, rfl, hz, hzz, harr, hbel⟩ := hrel
    have HZ := Lib.hid hz; clear hz
    have HZZ := Lib.hid hzz; clear hzz
    clear harr0
    by_cases hkn : k = n
    · subst hkn
      have h0 : decide ((k : Int) < (k : Int)) = false := by simp
      go_wp2
      go_ret
      have hzx : zs = xs := list_same (HZ.out.trans HN.out.symm) (fun j hj => HZZ.out j (by have := HN.out; omega))
      subst hzx
      refine ⟨_, rfl, ⟨some ⟨w.heap.size, 0, none⟩, k, by rw [HN.out]; rfl, by rw [HN.out]; exact Nat.le_refl _, harr.len.2, fun _ => ⟨_, rfl, Nat.le_refl _, harr⟩⟩, hbel⟩
    · have hlt : (k : Int) < (n : Int) := by omega
      obtain ⟨b1, o1, rfl, hb1, hc1⟩ := ha (by intro h; have := HN.out; subst h; simp at this; omega)
      have e1 := (hbel.cell (p := ⟨b1, o1 + k, none⟩) hb1).trans (hc1 k (by have := HN.out; omega))
      have e2 := harr.cell k (by have := HZ.out; omega)
      have e3 := harr.frozen k
      clear hc1
      generalize hxe : xs.getD k 0 = x at *
      generalize zs.getD k 0 = y at *
      have HX := Lib.hid hxe; clear hxe
      go_wp2
      go_roundw
      case rel =>
        refine ⟨k + 1, zs.set k x, by omega, rfl, by simp; exact HZ.out, ?_, harr.set k (by have := HZ.out; omega) _, hbel.setCell (Nat.le_refl _) _⟩
        intro j hj
        rw [FE.getD_set]
        have := HZ.out
        split
        · rename_i h; rw [← HX.out]; congr 1; omega
        · exact HZZ.out j (by omega)
      case measure => simp [intOf]; omega

theorem eq_take {xs ys : List Int} {k : Nat} (h : xs.take k = ys.take k) (hx : k < xs.length) (hy : k < ys.length) (he : xs.getD k 0 = ys.getD k 0) : xs.take (k + 1) = ys.take (k + 1) := by
  rw [List.take_succ_eq_append_getElem hx, List.take_succ_eq_append_getElem hy, h]
  have : xs[k] = ys[k] := by simpa [hx, hy] using he
  rw [this]

set_option maxHeartbeats 400000 in
theorem eqIntS (xs ys : List Int) (n m c d : Nat) (hn : xs.length = n) (hm : ys.length = m) (hn1 : n ≤ 1048576) (hm1 : m ≤ 1048576) (A B : Option Addr) (w : World) (ha : RI w A xs) (hb : RI w B ys) :
    Calls Tryz.prog 95 #[.slice A n c, .slice B m d] w fun r w' => r = .returned (.bool (xs == ys)) ∧ ∃ k, w' = w.drewN k := by
  by_cases hnm : n = m
  · subst hnm
    have hh : ((n : Int) != n) = false := by simp
    have HN := Lib.hid hn; clear hn
    have HM := Lib.hid hm; clear hm
    go_enter Tryz.func95, Tryz.ntmps95
    go_wp2_with fail
    go_loopw [5] (fun u wr => ∃ k : Nat, k ≤ n ∧ u = .int .i64 k ∧ xs.take k = ys.take k ∧ ∃ q, wr = w.drewN q) (fun u _ => n - (intOf u).toNat)
    case atStart => exact ⟨0, Nat.zero_le _, rfl, rfl, 0, rfl⟩
    case round =>
      obtain ⟨k, hk, rfl, ht, q, rfl⟩ := hrel
      have HT := Lib.hid ht; clear ht
      by_cases hkn : k = n
      · subst hkn
        have h0 : decide ((k : Int) < (k : Int)) = false := by simp
        go_wp2
        go_ret
        refine ⟨ret_bool ?_, q, rfl⟩
        have := HT.out
        rw [List.take_of_length_le (by rw [HN.out]; exact Nat.le_refl _), List.take_of_length_le (by rw [HM.out]; exact Nat.le_refl _)] at this
        subst this
        simp
      · have hlt : (k : Int) < (n : Int) := by omega
        have hnx := HN.out
        have hny := HM.out
        obtain ⟨b1, o1, rfl, hb1, hc1⟩ := ha (by intro h; subst h; simp at hnx; omega)
        obtain ⟨b2, o2, rfl, hb2, hc2⟩ := hb (by intro h; subst h; simp at hny; omega)
        have e1 := hc1 k (by omega)
        have e2 := hc2 k (by omega)
        clear hc1 hc2 hnx hny
        generalize hxe : xs.getD k 0 = x at *
        generalize hye : ys.getD k 0 = y at *
        have HX := Lib.hid hxe; clear hxe
        have HY := Lib.hid hye; clear hye
        by_cases hxy : x = y
        · subst hxy
          have h1 : (x != x) = false := by simp
          go_wp2
          go_quiet (fail)
          simp only [World.drewN_drewN]
          generalize q + nq = q2
          go_wp2
          go_roundw
          case rel => exact ⟨k + 1, by omega, rfl, eq_take HT.out (by have := HN.out; omega) (by have := HM.out; omega) (HX.out.trans HY.out.symm), q2, rfl⟩
          case measure => simp [intOf]; omega
        · have h1 : (x != y) = true := by simp [hxy]
          replace hxy := Lib.hid hxy
          go_wp2
          go_quiet (fail)
          simp only [World.drewN_drewN]
          generalize q + nq = q2
          go_wp2
          go_ret
          refine ⟨ret_bool ?_, q2, rfl⟩
          have : xs ≠ ys := by
            intro h
            subst h
            exact hxy.out (HX.out.symm.trans HY.out)
          simp [this]
  · have hh : ((n : Int) != m) = true := by simp; omega
    have HE := Lib.hid (show xs ≠ ys from fun h => hnm (by rw [← hn, ← hm, h]))
    clear hnm hn hm
    go_enter Tryz.func95, Tryz.ntmps95
    go_wp2
    go_ret
    exact ⟨ret_bool (by simp [HE.out]), 0, rfl⟩
end Go.Proofs.YtlpomcihkjiokaaGreat

namespace Go.Proofs.YtlpomcihkjiokaaGreat
open Go.RowKit Go.Joins

theorem szI_neg {n : Nat} {left : Int} (h : left < n) : szI n left = -1 := if_neg (by omega)
theorem szI_pos {n : Nat} {left : Int} (h : (n : Int) ≤ left) : szI n left = left - n := if_pos h
theorem szI_add (n m : Nat) (left : Int) (h : (n : Int) ≤ left) : szI m (szI n left) = szI (n + m) left := by
  simp only [szI, if_pos h]
  split <;> split <;> omega
def RatD.size (r : RatD) : Nat := r.mag.length + r.den.length
def RatD.same (r s : RatD) : Bool := r.neg == s.neg && (r.mag == s.mag && r.den == s.den)

set_option maxHeartbeats 400000 in
theorem szBigInt (s : Bool) (n c : Nat) (hn : n ≤ maxLen) (left : Int) (h0 : 0 ≤ left) (h1 : left ≤ 1048576) (A : Option Addr) (w : World) :
    Calls Tryz.prog 77 #[.agg #[.bool s, .slice A n c], .int .i64 left] w fun r w' => r = .returned (.int .i64 (szI n left)) ∧ Below w.heap.size w w' := by
  by_cases hl : (n : Int) ≤ left
  · have hs := szI_pos hl
    have hb : 0 ≤ szI n left := by omega
    replace hs := Lib.hid hs
    go_enter Tryz.func77, Tryz.ntmps77
    go_wp2_with (go_at_call 78; refine (szIntS n c hn left h0 h1 A _).mono ?_; rintro r w' ⟨rfl, rfl⟩)
    all_goals first | (exfalso; omega) | skip
    go_ret
    exact ⟨rfl, below_alloc1 _ _⟩
  · have hs := szI_neg (show left < n by omega)
    go_enter Tryz.func77, Tryz.ntmps77
    go_wp2_with (go_at_call 78; refine (szIntS n c hn left h0 h1 A _).mono ?_; rw [hs]; rintro r w' ⟨rfl, rfl⟩)
    go_ret
    exact ⟨by rw [hs]; rfl, below_alloc1 _ _⟩

set_option maxHeartbeats 400000 in
theorem szRat (x : RatD) (v : Value) (left : Int) (h0 : 0 ≤ left) (h1 : left ≤ 1048576) (w : World) (hv : RatV w v x) :
    Calls Tryz.prog 21 #[v, .int .i64 left] w fun r w' => r = .returned (.int .i64 (szI x.size left)) ∧ Below w.heap.size w w' := by
  obtain ⟨A, c, B, d, rfl, ⟨hc1, hc2, hd1, hd2⟩, _, _⟩ := hv
  have hn : x.mag.length ≤ maxLen := Nat.le_trans hc1 hc2
  have hm : x.den.length ≤ maxLen := Nat.le_trans hd1 hd2
  have HS := Lib.hid (show x.size = x.mag.length + x.den.length from rfl)
  generalize x.mag.length = n at *
  generalize x.den.length = m at *
  generalize x.size = k at *
  generalize x.neg = s at *
  clear hc1 hc2 hd1 hd2
  have HM := Lib.hid hm; clear hm
  by_cases hl : (n : Int) ≤ left
  · have hs := szI_pos hl
    have hb : 0 ≤ szI n left := by omega
    have hb1 : szI n left ≤ 1048576 := by omega
    replace hs := Lib.hid hs
    have HA := Lib.hid (szI_add n m left hl)
    go_enter Tryz.func21, Tryz.ntmps21
    have HK : szI k left = szI m (szI n left) := by rw [HS.out, HA.out]
    by_cases hl2 : (m : Int) ≤ szI n left
    · have hs2 := szI_pos hl2
      have hb2 : 0 ≤ szI m (szI n left) := by omega
      replace hs2 := Lib.hid hs2
      replace HK := Lib.hid HK
      go_wp2_with (go_at_call 77; refine (szBigInt s n c hn left h0 h1 A _).mono ?_; rintro r w1 ⟨rfl, hbl⟩; have e2 := box_cell hbl 2 rfl; replace hbl := box_below hbl)
      go_wp2_with (go_at_call 78; refine (szIntS m d HM.out _ hb hb1 B _).mono ?_; rintro r w' ⟨rfl, rfl⟩)
      go_ret
      exact ⟨ret_int HK.out.symm, hbl⟩
    · have hs2 := szI_neg (show szI n left < m by omega)
      rw [hs2] at HK
      replace HK := Lib.hid HK
      replace hs2 := Lib.hid hs2
      go_wp2_with (go_at_call 77; refine (szBigInt s n c hn left h0 h1 A _).mono ?_; rintro r w1 ⟨rfl, hbl⟩; have e2 := box_cell hbl 2 rfl; replace hbl := box_below hbl)
      go_wp2_with (go_at_call 78; refine (szIntS m d HM.out _ hb hb1 B _).mono ?_; rw [hs2.out]; rintro r w' ⟨rfl, rfl⟩)
      go_ret
      exact ⟨ret_int HK.out.symm, hbl⟩
  · have hs := szI_neg (show left < n by omega)
    have HK := Lib.hid (show szI k left = -1 from szI_neg (by have := HS.out; omega))
    go_enter Tryz.func21, Tryz.ntmps21
    go_wp2_with (go_at_call 77; refine (szBigInt s n c hn left h0 h1 A _).mono ?_; rw [hs]; rintro r w1 ⟨rfl, hbl⟩; replace hbl := box_below hbl)
    go_ret
    exact ⟨ret_int HK.out.symm, hbl⟩

/-- A fraction of the call's own. -/
def RatO (w : World) (base : Nat) (v : Value) (r : RatD) : Prop :=
  ∃ va vb, v = .agg #[.bool r.neg, va, vb] ∧ RO w base va r.mag ∧ RO w base vb r.den

theorem RatO.reads {w : World} {base : Nat} {v : Value} {r : RatD} (h : RatO w base v r) : RatV w v r := by
  obtain ⟨va, vb, rfl, h1, h2⟩ := h
  obtain ⟨A, c, rfl, hl, hc, _⟩ := id h1
  obtain ⟨B, d, rfl, hm, hd, _⟩ := id h2
  exact ⟨A, c, B, d, rfl, ⟨hl, hc, hm, hd⟩, h1.reads, h2.reads⟩

set_option maxHeartbeats 400000 in
theorem toBigInt (s : Bool) (xs : List Int) (n c : Nat) (hn : xs.length = n) (hn1 : n ≤ 1048576) (A : Option Addr) (w : World) (ha : RI w A xs) :
    Calls Tryz.prog 86 #[.agg #[.bool s, .slice A n c]] w fun r w' => ∃ v, r = .returned (.agg #[.bool s, v]) ∧ RO w' w.heap.size v xs ∧ Below w.heap.size w w' := by
  have HN := Lib.hid hn; clear hn
  go_enter Tryz.func86, Tryz.ntmps86
  go_wp2_with (go_at_call 87; refine (toIntS xs n c HN.out hn1 A _ (((ha.alloc _).alloc _).alloc _)).mono ?_; rintro r w1 ⟨v, rfl, hro, hbl⟩; obtain ⟨A', c', rfl, hlc⟩ := hro.form; have h3 := own_cell hbl (g := w.heap.size + 1 + 1) (by simp); have h2 := own_cell (below_step hbl) (g := w.heap.size + 1) (by simp); have hb := below_step (below_step (below_step hbl)); have hb3 : w.heap.size + 1 + 1 + 1 ≤ w1.heap.size := (by have := hbl.size; simpa using this); have c30 := h3.1 0 _ rfl; have c31 := h3.1 1 _ rfl; have c20 := h2.1 0 _ rfl; have c21 := h2.1 1 _ rfl; have z3 := h3.2 1; have z20 := h2.2 0; have z21 := h2.2 1; clear h3 h2 hbl)
  refine bodyPost_ret (v := .agg #[.bool s, .slice A' xs.length c']) (by simp [results, Tryz.results86, go_sem, c20, c21]) rfl ⟨_, rfl, ?_, ?_⟩
  · exact (((hro.far (by simp) _).far (by simp) _).far (by simp) _).mono (by simp; omega)
  · exact ((hb.setCell (by simp; omega) _).setCell (by simp) _).setCell (by simp) _

theorem two_set {w : World} {g : Nat} {a b c s u : Value} (c0 : w.cell? ⟨g, 0, none⟩ = some a) (c1 : w.cell? ⟨g, 1, none⟩ = some b) (c2 : w.cell? ⟨g, 2, none⟩ = some c) :
    ((w.setCell ⟨g, 0, none⟩ s).setCell ⟨g, 1, none⟩ u).cell? ⟨g, 0, none⟩ = some s ∧ ((w.setCell ⟨g, 0, none⟩ s).setCell ⟨g, 1, none⟩ u).cell? ⟨g, 1, none⟩ = some u ∧ ((w.setCell ⟨g, 0, none⟩ s).setCell ⟨g, 1, none⟩ u).cell? ⟨g, 2, none⟩ = some c := by
  have n01 : (⟨g, 0, none⟩ : Addr) ≠ ⟨g, 1, none⟩ := by simp
  have n02 : (⟨g, 0, none⟩ : Addr) ≠ ⟨g, 2, none⟩ := by simp
  have n12 : (⟨g, 1, none⟩ : Addr) ≠ ⟨g, 2, none⟩ := by simp
  refine ⟨?_, ?_, ?_⟩
  · rw [World.cell?_setCell_other _ _ _ _ n01.symm, World.cell?_setCell_same _ _ _ c0]
  · exact World.cell?_setCell_same _ _ _ (by rw [World.cell?_setCell_other _ _ _ _ n01]; exact c1)
  · rw [World.cell?_setCell_other _ _ _ _ n12, World.cell?_setCell_other _ _ _ _ n02]; exact c2

set_option maxHeartbeats 400000 in
theorem toRat (x : RatD) (v : Value) (w : World) (hv : RatV w v x) (hm : x.mag.length ≤ 1048576) (hd : x.den.length ≤ 1048576) :
    Calls Tryz.prog 24 #[v] w fun r w' => ∃ v', r = .returned v' ∧ RatO w' w.heap.size v' x ∧ Below w.heap.size w w' := by
  obtain ⟨s, xs, ys⟩ := x
  obtain ⟨A, c, B, d, rfl, _, ha, hb'⟩ := hv
  simp only at hm hd ha hb' ⊢
  go_enter Tryz.func24, Tryz.ntmps24
  go_wp2_with (go_at_call 86; refine (toBigInt s xs _ c rfl hm A _ (((ha.alloc _).alloc _).alloc _)).mono ?_; rintro r w1 ⟨v, rfl, hro, hbl⟩; obtain ⟨A', c', rfl, hlc⟩ := hro.form; have h3 := own_cell hbl (g := w.heap.size + 1 + 1) (by simp); have h2 := own_cell (below_step hbl) (g := w.heap.size + 1) (by simp); have h1 := own_cell (below_step (below_step hbl)) (g := w.heap.size) (by simp); have hb := below_step (below_step (below_step hbl)); have hb3 : w.heap.size + 1 + 1 + 1 ≤ w1.heap.size := (by have := hbl.size; simpa using this); have c30 := h3.1 0 _ rfl; have c31 := h3.1 1 _ rfl; have c32 := h3.1 2 _ rfl; have c20 := h2.1 0 _ rfl; have c21 := h2.1 1 _ rfl; have c22 := h2.1 2 _ rfl; have c12 := h1.1 2 _ rfl; have z30 := h3.2 0; have z31 := h3.2 1; have z32 := h3.2 2; have z20 := h2.2 0; have z21 := h2.2 1; have z22 := h2.2 2; clear h3 h2 h1 hbl)
  obtain ⟨d30, d31, d32⟩ := two_set c30 c31 c32 (s := .bool s) (u := .slice A' xs.length c')
  have far : ∀ (g o : Nat), g ≠ w.heap.size + 1 + 1 → ((w1.setCell ⟨w.heap.size + 1 + 1, 0, none⟩ (.bool s)).setCell ⟨w.heap.size + 1 + 1, 1, none⟩ (.slice A' xs.length c')).cell? ⟨g, o, none⟩ = w1.cell? ⟨g, o, none⟩ := by
    intro g o hg
    rw [World.cell?_setCell_other _ _ _ _ (by simp), World.cell?_setCell_other _ _ _ _ (by simp)]
  have d20 := (far _ 0 (by omega)).trans c20
  have d21 := (far _ 1 (by omega)).trans c21
  have d22 := (far _ 2 (by omega)).trans c22
  have hro2 : RO ((w1.setCell ⟨w.heap.size + 1 + 1, 0, none⟩ (.bool s)).setCell ⟨w.heap.size + 1 + 1, 1, none⟩ (.slice A' xs.length c')) (w.heap.size + 1 + 1 + 1) (.slice A' xs.length c') xs := ((hro.far (by simp) _).far (by simp) _).mono (by simp)
  have hbc : Below w.heap.size w ((w1.setCell ⟨w.heap.size + 1 + 1, 0, none⟩ (.bool s)).setCell ⟨w.heap.size + 1 + 1, 1, none⟩ (.slice A' xs.length c')) := (hb.setCell (by simp; omega) _).setCell (by simp; omega) _
  have hsz : w.heap.size + 1 + 1 + 1 ≤ ((w1.setCell ⟨w.heap.size + 1 + 1, 0, none⟩ (.bool s)).setCell ⟨w.heap.size + 1 + 1, 1, none⟩ (.slice A' xs.length c')).heap.size := by simpa using hb3
  have y30 : ((w1.setCell ⟨w.heap.size + 1 + 1, 0, none⟩ (.bool s)).setCell ⟨w.heap.size + 1 + 1, 1, none⟩ (.slice A' xs.length c')).frozen? ⟨w.heap.size + 1 + 1, 0, none⟩ = false := by simpa using z30
  have y31 : ((w1.setCell ⟨w.heap.size + 1 + 1, 0, none⟩ (.bool s)).setCell ⟨w.heap.size + 1 + 1, 1, none⟩ (.slice A' xs.length c')).frozen? ⟨w.heap.size + 1 + 1, 1, none⟩ = false := by simpa using z31
  have y32 : ((w1.setCell ⟨w.heap.size + 1 + 1, 0, none⟩ (.bool s)).setCell ⟨w.heap.size + 1 + 1, 1, none⟩ (.slice A' xs.length c')).frozen? ⟨w.heap.size + 1 + 1, 2, none⟩ = false := by simpa using z32
  have y20 : ((w1.setCell ⟨w.heap.size + 1 + 1, 0, none⟩ (.bool s)).setCell ⟨w.heap.size + 1 + 1, 1, none⟩ (.slice A' xs.length c')).frozen? ⟨w.heap.size + 1, 0, none⟩ = false := by simpa using z20
  have y21 : ((w1.setCell ⟨w.heap.size + 1 + 1, 0, none⟩ (.bool s)).setCell ⟨w.heap.size + 1 + 1, 1, none⟩ (.slice A' xs.length c')).frozen? ⟨w.heap.size + 1, 1, none⟩ = false := by simpa using z21
  have y22 : ((w1.setCell ⟨w.heap.size + 1 + 1, 0, none⟩ (.bool s)).setCell ⟨w.heap.size + 1 + 1, 1, none⟩ (.slice A' xs.length c')).frozen? ⟨w.heap.size + 1, 2, none⟩ = false := by simpa using z22
  clear far c30 c31 c32 c20 c21 c22 c12 z30 z31 z32 z20 z21 z22 hro hb hb3
  generalize (w1.setCell ⟨w.heap.size + 1 + 1, 0, none⟩ (.bool s)).setCell ⟨w.heap.size + 1 + 1, 1, none⟩ (.slice A' xs.length c') = wc at *
  refine (toIntS ys _ d rfl hd B _ (hb'.later hbc)).mono ?_
  rintro r w2 ⟨v2, rfl, hro3, hb2⟩
  obtain ⟨B', d', rfl, hld⟩ := hro3.form
  obtain ⟨ck, fk⟩ := bcell hb2
  have e30 := (ck _ _ (by omega)).trans d30
  have e31 := (ck _ _ (by omega)).trans d31
  have e32 := (ck _ _ (by omega)).trans d32
  have e20 := (ck _ _ (by omega)).trans d20
  have e21 := (ck _ _ (by omega)).trans d21
  have e22 := (ck _ _ (by omega)).trans d22
  have x32 := (fk _ _ (by omega)).trans y32
  have x20 := (fk _ _ (by omega)).trans y20
  have x21 := (fk _ _ (by omega)).trans y21
  have x22 := (fk _ _ (by omega)).trans y22
  have hro4 := hro2.later hb2
  have hbw : Below w.heap.size w w2 := hbc.trans (below_le hb2 hbc.size)
  have hsz2 : w.heap.size + 1 + 1 + 1 ≤ w2.heap.size := Nat.le_trans hsz hb2.size
  clear ck fk d30 d31 d32 d20 d21 d22 y30 y31 y32 y20 y21 y22 hro2 hbc hb2
  go_wp2
  have hB : w.heap.size + 1 + 1 + 1 ≤ wc.heap.size := hsz
  refine bodyPost_ret (v := .agg #[.bool s, .slice A' xs.length c', .slice B' ys.length d']) (by simp [results, Tryz.results24, go_sem, e20, e21, e22]) rfl ⟨_, rfl, ⟨_, _, rfl, ?_, ?_⟩, ?_⟩
  · exact ((((hro4.far (by simp) _).far (by simp) _).far (by simp) _).far (by simp) _).mono (by omega)
  · exact ((((hro3.far (by simp; omega) _).far (by simp; omega) _).far (by simp; omega) _).far (by simp; omega) _).mono (by omega)
  · exact (((hbw.setCell (by simp; omega) _).setCell (by simp) _).setCell (by simp) _).setCell (by simp) _

set_option maxHeartbeats 400000 in
theorem eqBigInt (s t : Bool) (xs ys : List Int) (n m c d : Nat) (hn : xs.length = n) (hm : ys.length = m) (hn1 : n ≤ 1048576) (hm1 : m ≤ 1048576) (A B : Option Addr) (w : World) (ha : RI w A xs) (hb : RI w B ys) :
    Calls Tryz.prog 94 #[.agg #[.bool s, .slice A n c], .agg #[.bool t, .slice B m d]] w fun r w' => r = .returned (.bool (s == t && xs == ys)) ∧ Below w.heap.size w w' := by
  by_cases hst : s = t
  · subst hst
    have h1 : (s == s) = true := by simp
    have HR := Lib.hid (show (s == s && xs == ys) = (xs == ys) by simp)
    go_enter Tryz.func94, Tryz.ntmps94
    go_wp2_with (go_at_call 95; refine (eqIntS xs ys n m c d hn hm hn1 hm1 A B _ ((ha.alloc _).alloc _) ((hb.alloc _).alloc _)).mono ?_; rintro r w1 ⟨rfl, k, rfl⟩)
    · rename_i hq
      have hq' := Lib.hid hq; clear hq
      go_ret
      exact ⟨ret_bool (by rw [HR.out]; have := hq'.out; simpa using this.symm), (below_alloc2 _ _ _).trans (below_draws _ _ _)⟩
    · rename_i hq
      have hq' := Lib.hid hq; clear hq
      go_ret
      exact ⟨ret_bool (by rw [HR.out]; have := hq'.out; simpa using this.symm), (below_alloc2 _ _ _).trans (below_draws _ _ _)⟩
  · have h1 : (s == t) = false := by simp [hst]
    have HR := Lib.hid (show (s == t && xs == ys) = false by simp [hst])
    go_enter Tryz.func94, Tryz.ntmps94
    go_wp2
    go_ret
    exact ⟨ret_bool (by rw [HR.out]), below_alloc2 _ _ _⟩

set_option maxHeartbeats 400000 in
theorem eqRat (x y : RatD) (u v : Value) (w : World) (hu : RatV w u x) (hv : RatV w v y) (hx1 : x.mag.length ≤ 1048576) (hx2 : x.den.length ≤ 1048576) (hy1 : y.mag.length ≤ 1048576) (hy2 : y.den.length ≤ 1048576) :
    Calls Tryz.prog 28 #[u, v] w fun r w' => r = .returned (.bool (x.same y)) ∧ Below w.heap.size w w' := by
  obtain ⟨s, xs, xt⟩ := x
  obtain ⟨t, ys, yt⟩ := y
  obtain ⟨A, c, B, d, rfl, _, ha, ha'⟩ := hu
  obtain ⟨A2, c2, B2, d2, rfl, _, hb, hb'⟩ := hv
  simp only at hx1 hx2 hy1 hy2 ha ha' hb hb' ⊢
  have HS := Lib.hid (show RatD.same ⟨s, xs, xt⟩ ⟨t, ys, yt⟩ = ((s == t && xs == ys) && xt == yt) by simp [RatD.same, Bool.and_assoc])
  go_enter Tryz.func28, Tryz.ntmps28
  go_wp2_with (go_at_call 94; refine (eqBigInt s t xs ys _ _ c c2 rfl rfl hx1 hy1 A A2 _ ((ha.alloc _).alloc _) ((hb.alloc _).alloc _)).mono ?_; rintro r w1 ⟨rfl, hbl⟩; have g1 := (own_cell hbl (g := w.heap.size + 1) (by simp)).1 2 _ rfl; have g0 := (own_cell (below_step hbl) (g := w.heap.size) (by simp)).1 2 _ rfl; have hbw := below_step (below_step hbl); clear hbl; generalize hqe : (s == t && xs == ys) = q at *; have HQ := Lib.hid hqe; clear hqe)
  · rename_i hq
    have hq' := Lib.hid hq; clear hq
    go_ret
    exact ⟨ret_bool (by rw [HS.out]; have := hq'.out; simp at this; simp [this]), hbw⟩
  · have hq2 : q = true := by simpa using (by assumption : (!q) = false)
    refine (eqIntS xt yt _ _ d d2 rfl rfl hx2 hy2 B B2 _ (ha'.later hbw) (hb'.later hbw)).mono ?_
    rintro r w2 ⟨rfl, k, rfl⟩
    have HS2 := Lib.hid (HS.out.trans (show (q && xt == yt) = (xt == yt) by rw [hq2]; simp))
    clear hq2
    cases hp : (xt == yt)
    · have HP := Lib.hid hp; clear hp
      go_wp2
      go_ret
      exact ⟨ret_bool (by rw [HS2.out, HP.out]), hbw.trans (below_draws _ _ _)⟩
    · have HP := Lib.hid hp; clear hp
      go_wp2
      go_ret
      exact ⟨ret_bool (by rw [HS2.out, HP.out]), hbw.trans (below_draws _ _ _)⟩
end Go.Proofs.YtlpomcihkjiokaaGreat

namespace Go.Proofs.YtlpomcihkjiokaaGreat
open Go.RowKit Go.Joins

def sumSz (rs : List RatD) : Nat := (rs.map RatD.size).sum
def vsz (rs : List RatD) : Nat := rs.length + sumSz rs
theorem sumSz_step (rs : List RatD) (k : Nat) (h : k < rs.length) : sumSz (rs.take (k + 1)) = sumSz (rs.take k) + (rs.getD k zR).size := by
  rw [List.take_succ_eq_append_getElem h]
  simp only [sumSz, List.map_append, List.sum_append, List.map_cons, List.map_nil, List.sum_cons, List.sum_nil]
  simp [h]
theorem sumSz_le (rs : List RatD) (k : Nat) : sumSz (rs.take k) ≤ sumSz rs := by
  conv => rhs; rw [← List.take_append_drop k rs]
  simp only [sumSz, List.map_append, List.sum_append]
  omega

theorem VI.cells {w : World} {A : Option Addr} {rs : List RatD} (h : VI w A rs) (k : Nat) (hk : k < rs.length) : ∃ b off, A = some ⟨b, off, none⟩ ∧ b < w.heap.size ∧ RatAt w b (off + k * 3) (rs.getD k zR) := by
  obtain ⟨b, off, rfl, hb, hc⟩ := h (by intro h; subst h; simp at hk)
  exact ⟨b, off, rfl, hb, hc k hk⟩

set_option maxHeartbeats 800000 in
theorem szRatS (rs : List RatD) (n c : Nat) (hn : rs.length = n) (hnc : n ≤ maxLen) (left : Int) (h0 : 0 ≤ left) (h1 : left ≤ 1048576) (A : Option Addr) (w : World) (hv : VI w A rs) :
    Calls Tryz.prog 11 #[.slice A n c, .int .i64 left] w fun r w' => r = .returned (.int .i64 (szI (vsz rs) left)) ∧ Below w.heap.size w w' := by
  have hm : n ≤ 9223372036854775807 := hnc
  have hw : wrap64 (left - n) = left - n := IntWalk.wrap64_in _ ⟨by omega, by omega⟩
  by_cases hl : (n : Int) ≤ left
  · have HN := Lib.hid hn; clear hn
    have hd : ¬ (left - n < 0) := by omega
    have hd' : 0 ≤ left - n := by omega
    go_enter Tryz.func11, Tryz.ntmps11
    go_wp2_with fail
    go_loopw [1, 5] (fun l i wr => ∃ (k : Nat) (m : Int), k ≤ n ∧ i = .int .i64 k ∧ l = .int .i64 m ∧ 0 ≤ m ∧ m ≤ 1048576 ∧ m = left - n - sumSz (rs.take k) ∧ Below w.heap.size w wr) (fun _ i _ => n - (intOf i).toNat)
    case atStart => exact ⟨0, _, Nat.zero_le _, rfl, rfl, hd', by omega, by simp [sumSz], Below.refl _ _⟩
    case round =>
      obtain ⟨k, m, hk, rfl, rfl, hm0, hm1, hms, hbel⟩ := hrel
      have HM := Lib.hid hms; clear hms
      by_cases hkn : k = n
      · subst hkn
        have h0 : decide ((k : Int) < (k : Int)) = false := by simp
        have hF : szI (vsz rs) left = m := by
          have e := HM.out
          rw [List.take_of_length_le (by rw [HN.out]; exact Nat.le_refl _)] at e
          have hN := HN.out
          rw [szI_pos (by simp only [vsz]; omega), vsz]
          omega
        have HF := Lib.hid hF; clear hF
        go_wp2
        go_ret
        exact ⟨ret_int (by rw [HF.out]), hbel⟩
      · have hlt : (k : Int) < (n : Int) := by omega
        have hkl : k < rs.length := by rw [HN.out]; omega
        obtain ⟨b, off, rfl, hb, hat⟩ := hv.cells k hkl
        have hat1 := RatAt.stays _ _ _ _ _ hb hat hbel
        have HS := Lib.hid (sumSz_step rs k hkl)
        have HL := Lib.hid (sumSz_le rs (k + 1))
        generalize rs.getD k zR = x at *
        clear hat hkl
        obtain ⟨A1, c1, B1, d1, g0, g1, g2, hcd, hr1, hr2⟩ := hat1
        go_wp2_with fail
        have hrv : RatV wr (.agg #[.bool x.neg, .slice A1 x.mag.length c1, .slice B1 x.den.length d1]) x := ⟨_, _, _, _, rfl, hcd, hr1, hr2⟩
        refine (szRat x _ m hm0 hm1 wr hrv).mono ?_
        by_cases hxm : (x.size : Int) ≤ m
        · have hz := szI_pos hxm
          have hz0 : 0 ≤ szI x.size m := by omega
          have hz1 : szI x.size m ≤ 1048576 := by omega
          replace hz := Lib.hid hz
          rintro r w2 ⟨rfl, hb2⟩
          replace hb2 := hbel.trans (below_le hb2 hbel.size)
          clear hrv hr1 hr2 hcd g0 g1 g2
          go_wp2
          go_roundw
          case rel => exact ⟨k + 1, _, by omega, rfl, rfl, hz0, hz1, by rw [hz.out, HM.out, HS.out]; omega, hb2⟩
          case measure => simp [intOf]; omega
        · have hz := szI_neg (show m < x.size by omega)
          rw [hz]
          rintro r w2 ⟨rfl, hb2⟩
          have hF : szI (vsz rs) left = -1 := szI_neg (by have := HM.out; have := HS.out; have := HL.out; have := HN.out; simp only [vsz]; omega)
          have HF := Lib.hid hF; clear hF
          replace hb2 := hbel.trans (below_le hb2 hbel.size)
          clear hrv hr1 hr2 hcd g0 g1 g2 hz
          go_wp2
          go_ret
          exact ⟨ret_int (by rw [HF.out]), hb2⟩
  · have hF : szI (vsz rs) left = -1 := szI_neg (by simp only [vsz]; omega)
    have HF := Lib.hid hF; clear hF
    have hd : left - n < 0 := by omega
    clear hl hn
    go_enter Tryz.func11, Tryz.ntmps11
    go_wp2
    go_ret
    exact ⟨ret_int (by rw [HF.out]), Below.refl _ _⟩
def vsame : List RatD → List RatD → Bool
  | [], [] => true
  | x :: r, y :: s => x.same y && vsame r s
  | _, _ => false
theorem vsame_iff : ∀ (rs ss : List RatD), vsame rs ss = true ↔ rs.length = ss.length ∧ ∀ j, j < rs.length → (rs.getD j zR).same (ss.getD j zR) = true
  | [], [] => by simp [vsame]
  | [], _ :: _ => by simp [vsame]
  | _ :: _, [] => by simp [vsame]
  | x :: r, y :: s => by
    simp only [vsame, Bool.and_eq_true, vsame_iff r s, List.length_cons]
    constructor
    · rintro ⟨h1, h2, h3⟩
      refine ⟨by omega, fun j hj => ?_⟩
      cases j with
      | zero => simpa using h1
      | succ j => simpa using h3 j (by omega)
    · rintro ⟨h1, h2⟩
      exact ⟨by simpa using h2 0 (by omega), by omega, fun j hj => by simpa using h2 (j + 1) (by omega)⟩
theorem RatD.same_refl (x : RatD) : x.same x = true := by simp [RatD.same]
theorem vsame_refl (rs : List RatD) : vsame rs rs = true := (vsame_iff rs rs).2 ⟨rfl, fun _ _ => RatD.same_refl _⟩
theorem vsame_no {rs ss : List RatD} (j : Nat) (hj : j < rs.length) (h : (rs.getD j zR).same (ss.getD j zR) = false) : vsame rs ss = false := by
  cases hv : vsame rs ss
  · rfl
  · have := ((vsame_iff rs ss).1 hv).2 j hj
    rw [h] at this; cases this
/-- The lengths of a fraction's parts are small. -/
def Few (rs : List RatD) : Prop := rs.length ≤ 1048576 ∧ ∀ k, k < rs.length → (rs.getD k zR).mag.length ≤ 1048576 ∧ (rs.getD k zR).den.length ≤ 1048576

set_option maxHeartbeats 800000 in
theorem eqRatS (rs ss : List RatD) (n m c d : Nat) (hn : rs.length = n) (hm : ss.length = m) (hf : Few rs) (hg : Few ss) (A B : Option Addr) (w : World) (ha : VI w A rs) (hb : VI w B ss) :
    Calls Tryz.prog 16 #[.slice A n c, .slice B m d] w fun r w' => r = .returned (.bool (vsame rs ss)) ∧ Below w.heap.size w w' := by
  have hn1 : n ≤ 1048576 := hn ▸ hf.1
  have hm1 : m ≤ 1048576 := hm ▸ hg.1
  have HF := Lib.hid hf.2
  have HG := Lib.hid hg.2
  clear hf hg
  by_cases hnm : n = m
  · subst hnm
    have hh : ((n : Int) != n) = false := by simp
    have HN := Lib.hid hn; clear hn
    have HM := Lib.hid hm; clear hm
    go_enter Tryz.func16, Tryz.ntmps16
    go_wp2_with fail
    go_loopw [5] (fun u wr => ∃ k : Nat, k ≤ n ∧ u = .int .i64 k ∧ (∀ j, j < k → (rs.getD j zR).same (ss.getD j zR) = true) ∧ Below w.heap.size w wr) (fun u _ => n - (intOf u).toNat)
    case atStart => exact ⟨0, Nat.zero_le _, rfl, fun j hj => by omega, Below.refl _ _⟩
    case round =>
      obtain ⟨k, hk, rfl, ht, hbel⟩ := hrel
      have HT := Lib.hid ht; clear ht
      by_cases hkn : k = n
      · subst hkn
        have h0 : decide ((k : Int) < (k : Int)) = false := by simp
        go_wp2
        go_ret
        exact ⟨ret_bool ((vsame_iff rs ss).2 ⟨HN.out.trans HM.out.symm, fun j hj => HT.out j (by have := HN.out; omega)⟩).symm, hbel⟩
      · have hlt : (k : Int) < (n : Int) := by omega
        have hkl : k < rs.length := by rw [HN.out]; omega
        have hkl2 : k < ss.length := by rw [HM.out]; omega
        obtain ⟨b, off, rfl, hb1, hat⟩ := ha.cells k hkl
        obtain ⟨b2, off2, rfl, hb2, hat2⟩ := hb.cells k hkl2
        have hat1 := RatAt.stays _ _ _ _ _ hb1 hat hbel
        have hat3 := RatAt.stays _ _ _ _ _ hb2 hat2 hbel
        obtain ⟨f1, f2⟩ := HF.out k hkl
        obtain ⟨f3, f4⟩ := HG.out k hkl2
        clear hat hat2 hkl hkl2
        obtain ⟨A1, c1, B1, d1, g0, g1, g2, hcd, hr1, hr2⟩ := hat1
        obtain ⟨A2, c2, B2, d2, k0, k1, k2, hcd2, hs1, hs2⟩ := hat3
        have hE : ∀ W, Below wr.heap.size wr W → Calls Tryz.prog 28 #[.agg #[.bool (rs.getD k zR).neg, .slice A1 (rs.getD k zR).mag.length c1, .slice B1 (rs.getD k zR).den.length d1], .agg #[.bool (ss.getD k zR).neg, .slice A2 (ss.getD k zR).mag.length c2, .slice B2 (ss.getD k zR).den.length d2]] W fun r w' => r = .returned (.bool ((rs.getD k zR).same (ss.getD k zR))) ∧ Below W.heap.size W w' := fun W hW =>
          eqRat (rs.getD k zR) (ss.getD k zR) _ _ W ⟨_, _, _, _, rfl, hcd, hr1.later hW, hr2.later hW⟩ ⟨_, _, _, _, rfl, hcd2, hs1.later hW, hs2.later hW⟩ f1 f2 f3 f4
        have g0' := fun d os => cell_regrown g0 d os
        have g1' := fun d os => cell_regrown g1 d os
        have g2' := fun d os => cell_regrown g2 d os
        have k0' := fun d os => cell_regrown k0 d os
        have k1' := fun d os => cell_regrown k1 d os
        have k2' := fun d os => cell_regrown k2 d os
        have HE := Lib.hid hE
        clear hE hr1 hr2 hs1 hs2 hcd hcd2 f1 f2 f3 f4
        generalize hqe : (rs.getD k zR).same (ss.getD k zR) = q at *
        have HQ := Lib.hid hqe; clear hqe
        have HK := Lib.hid (show k < rs.length by have := HN.out; omega)
        have HV := Lib.hid (show q = false → vsame rs ss = false from fun h => vsame_no k HK.out (HQ.out.trans h))
        have HT2 := Lib.hid (show q = true → ∀ j, j < k + 1 → (rs.getD j zR).same (ss.getD j zR) = true from fun h j hj => (Nat.lt_succ_iff_lt_or_eq.1 hj).elim (HT.out j) (fun e => e ▸ HQ.out.trans h))
        clear HQ
        generalize rs.getD k zR = x at *
        generalize ss.getD k zR = y at *
        cases q
        · go_wp2
          refine wp_region_quiet_below (by kernel_rfl) (by kernel_rfl) ?_
          repeat (go_big_quiet_step (exact Calls.regrown_of (HE.out _ (below_regrown _ _ _))))
          refine wpQuiet_nil ?_
          intro w5 hw5
          obtain ⟨⟨dq, osq⟩, rfl⟩ := hw5
          have hb5 := hbel.trans (below_le (below_regrown wr dq osq) hbel.size)
          generalize Sort.grow (redrawn wr dq) osq = w5 at *
          clear g0' g1' g2' k0' k1' k2'
          go_wp2
          go_ret
          exact ⟨ret_bool (HV.out trivial).symm, hb5⟩
        · go_wp2
          refine wp_region_quiet_below (by kernel_rfl) (by kernel_rfl) ?_
          repeat (go_big_quiet_step (exact Calls.regrown_of (HE.out _ (below_regrown _ _ _))))
          refine wpQuiet_nil ?_
          intro w5 hw5
          obtain ⟨⟨dq, osq⟩, rfl⟩ := hw5
          have hb5 := hbel.trans (below_le (below_regrown wr dq osq) hbel.size)
          generalize Sort.grow (redrawn wr dq) osq = w5 at *
          clear g0' g1' g2' k0' k1' k2'
          go_wp2
          go_roundw
          case rel => exact ⟨k + 1, by omega, rfl, HT2.out trivial, hb5⟩
          case measure => simp [intOf]; omega
  · have hh : ((n : Int) != m) = true := by simp; omega
    have HV := Lib.hid (show vsame rs ss = false by
      cases hv : vsame rs ss
      · rfl
      · exact absurd (((vsame_iff rs ss).1 hv).1) (by omega))
    clear hnm hn hm
    go_enter Tryz.func16, Tryz.ntmps16
    go_wp2
    go_ret
    exact ⟨ret_bool HV.out.symm, Below.refl _ _⟩
end Go.Proofs.YtlpomcihkjiokaaGreat
