/-
  Plain mathematics: lists of limbs in base 1000000000 and their values. No program in sight.
-/
namespace Go.Proofs.Ytkmmdajlbkbnmaa
namespace FE

/-- The value of a list of limbs, the least significant first. -/
def val : List Int → Int
  | [] => 0
  | x :: l => x + 1000000000 * val l

def Dig (l : List Int) : Prop := ∀ x ∈ l, 0 ≤ x ∧ x < 1000000000

theorem val_nil : val [] = 0 := rfl
theorem val_cons (x : Int) (l : List Int) : val (x :: l) = x + 1000000000 * val l := rfl

theorem Dig.nil : Dig [] := fun _ h => by cases h
theorem Dig.cons {x : Int} {l : List Int} (h0 : 0 ≤ x) (h1 : x < 1000000000) (h : Dig l) : Dig (x :: l) := by
  intro y hy
  rcases List.mem_cons.1 hy with rfl | hy
  · exact ⟨h0, h1⟩
  · exact h y hy
theorem Dig.head {x : Int} {l : List Int} (h : Dig (x :: l)) : 0 ≤ x ∧ x < 1000000000 := h x (by simp)
theorem Dig.tail {x : Int} {l : List Int} (h : Dig (x :: l)) : Dig l := fun y hy => h y (by simp [hy])
theorem Dig.append {a b : List Int} (ha : Dig a) (hb : Dig b) : Dig (a ++ b) := by
  intro x hx
  rcases List.mem_append.1 hx with h | h
  · exact ha x h
  · exact hb x h
theorem Dig.take {a : List Int} (h : Dig a) (n : Nat) : Dig (a.take n) := fun x hx => h x (List.mem_of_mem_take hx)
theorem Dig.drop {a : List Int} (h : Dig a) (n : Nat) : Dig (a.drop n) := fun x hx => h x (List.mem_of_mem_drop hx)
theorem Dig.get {a : List Int} (h : Dig a) (i : Nat) (hi : i < a.length) : 0 ≤ a[i] ∧ a[i] < 1000000000 := h _ (List.getElem_mem hi)
theorem Dig.getD {a : List Int} (h : Dig a) (i : Nat) : 0 ≤ a.getD i 0 ∧ a.getD i 0 < 1000000000 := by
  rw [List.getD_eq_getElem?_getD]
  by_cases hi : i < a.length
  · rw [List.getElem?_eq_getElem hi]; exact h.get i hi
  · rw [List.getElem?_eq_none (by omega)]; simp
theorem Dig.set {a : List Int} (h : Dig a) (i : Nat) {x : Int} (h0 : 0 ≤ x) (h1 : x < 1000000000) : Dig (a.set i x) := by
  intro y hy
  rcases List.mem_or_eq_of_mem_set hy with h' | rfl
  · exact h y h'
  · exact ⟨h0, h1⟩
theorem Dig.replicate (n : Nat) : Dig (List.replicate n 0) := by
  intro x hx
  rw [List.eq_of_mem_replicate hx]; omega

/-- Powers of the base. -/
def bp (n : Nat) : Int := 1000000000 ^ n
theorem bp_zero : bp 0 = 1 := by simp [bp]
theorem bp_succ (n : Nat) : bp (n + 1) = 1000000000 * bp n := by simp [bp, Int.pow_succ, Int.mul_comm]
theorem bp_pos (n : Nat) : 0 < bp n := Int.pow_pos (by omega)
theorem bp_add (m n : Nat) : bp (m + n) = bp m * bp n := by simp [bp, Int.pow_add]
theorem bp_mono {m n : Nat} (h : m ≤ n) : bp m ≤ bp n := by
  obtain ⟨k, rfl⟩ := Nat.exists_eq_add_of_le h
  rw [bp_add]
  have := bp_pos m
  have := bp_pos k
  calc bp m = bp m * 1 := by simp
    _ ≤ bp m * bp k := Int.mul_le_mul_of_nonneg_left (by omega) (by omega)

theorem val_append (a b : List Int) : val (a ++ b) = val a + bp a.length * val b := by
  induction a with
  | nil => simp [val, bp_zero]
  | cons x a ih =>
    simp only [List.cons_append, val_cons, ih, List.length_cons, bp_succ]
    grind

theorem val_nonneg {l : List Int} (h : Dig l) : 0 ≤ val l := by
  induction l with
  | nil => simp [val]
  | cons x l ih =>
    have := h.head
    have := ih h.tail
    rw [val_cons]; omega

theorem val_lt {l : List Int} (h : Dig l) : val l < bp l.length := by
  induction l with
  | nil => simp [val, bp_zero]
  | cons x l ih =>
    have := h.head
    have := ih h.tail
    rw [val_cons, List.length_cons, bp_succ]; omega

theorem val_replicate (n : Nat) : val (List.replicate n 0) = 0 := by
  induction n with
  | zero => rfl
  | succ n ih => rw [List.replicate_succ, val_cons, ih]; rfl

theorem val_take_succ (l : List Int) (i : Nat) (hi : i < l.length) : val (l.take (i + 1)) = val (l.take i) + bp i * l[i] := by
  rw [List.take_succ_eq_append_getElem hi, val_append, val_cons, val_nil, List.length_take]
  rw [Nat.min_eq_left (by omega)]; simp

theorem val_take_drop (l : List Int) (i : Nat) (hi : i ≤ l.length) : val l = val (l.take i) + bp i * val (l.drop i) := by
  conv => lhs; rw [← List.take_append_drop i l]
  rw [val_append, List.length_take, Nat.min_eq_left hi]

theorem val_set (l : List Int) (i : Nat) (x : Int) (hi : i < l.length) : val (l.set i x) = val l + bp i * (x - l[i]) := by
  induction l generalizing i with
  | nil => simp at hi
  | cons y l ih =>
    cases i with
    | zero => simp only [List.set_cons_zero, val_cons, bp_zero, List.getElem_cons_zero]; omega
    | succ i =>
      have := ih i (by simpa using hi)
      simp only [List.set_cons_succ, val_cons, List.getElem_cons_succ, this, bp_succ]
      grind

/-- No zero limb at the end. -/
def Top (l : List Int) : Prop := ∀ h : l ≠ [], l.getLast h ≠ 0

theorem Top.nil : Top [] := fun h => absurd rfl h
theorem Top.tail {x : Int} {l : List Int} (h : Top (x :: l)) : Top l := by
  intro hl
  have := h (by simp)
  rwa [List.getLast_cons hl] at this

theorem val_pos {l : List Int} (hd : Dig l) (ht : Top l) (hl : l ≠ []) : 0 < val l := by
  induction l with
  | nil => exact absurd rfl hl
  | cons x l ih =>
    have h1 := hd.head
    rw [val_cons]
    by_cases hn : l = []
    · subst hn
      have := ht (by simp)
      simp at this
      rw [val_nil]; omega
    · have := ih hd.tail ht.tail hn
      omega

theorem val_eq_zero {l : List Int} (hd : Dig l) (ht : Top l) : val l = 0 ↔ l = [] := by
  constructor
  · intro h
    by_cases hl : l = []
    · exact hl
    · have := val_pos hd ht hl; omega
  · rintro rfl; rfl

theorem val_inj {a b : List Int} (ha : Dig a) (hat : Top a) (hb : Dig b) (hbt : Top b) (h : val a = val b) : a = b := by
  induction a generalizing b with
  | nil => exact ((val_eq_zero hb hbt).1 (by rw [← h]; rfl)).symm
  | cons x a ih =>
    cases b with
    | nil => exact (val_eq_zero ha hat).1 (by rw [h]; rfl)
    | cons y b =>
      rw [val_cons, val_cons] at h
      have h1 := ha.head
      have h2 := hb.head
      have hxy : x = y := by omega
      have hab : val a = val b := by omega
      rw [hxy, ih ha.tail hat.tail hb.tail hbt.tail hab]

/-- The limbs of a number. -/
def toL (n : Nat) : List Int := if h : n = 0 then [] else ((n % 1000000000 : Nat) : Int) :: toL (n / 1000000000)
termination_by n
decreasing_by omega

theorem toL_zero : toL 0 = [] := by rw [toL]; simp
theorem toL_pos {n : Nat} (h : n ≠ 0) : toL n = ((n % 1000000000 : Nat) : Int) :: toL (n / 1000000000) := by rw [toL]; simp [h]

theorem toL_dig (n : Nat) : Dig (toL n) := by
  induction n using Nat.strongRecOn with
  | _ n ih =>
    by_cases h : n = 0
    · subst h; rw [toL_zero]; exact Dig.nil
    · rw [toL_pos h]
      exact Dig.cons (by omega) (by omega) (ih _ (by omega))

theorem val_toL (n : Nat) : val (toL n) = n := by
  induction n using Nat.strongRecOn with
  | _ n ih =>
    by_cases h : n = 0
    · subst h; rw [toL_zero]; rfl
    · rw [toL_pos h, val_cons, ih _ (by omega)]; omega

theorem toL_eq_nil {n : Nat} : toL n = [] ↔ n = 0 := by
  constructor
  · intro h
    have := val_toL n
    rw [h, val_nil] at this; omega
  · rintro rfl; exact toL_zero

theorem toL_top (n : Nat) : Top (toL n) := by
  induction n using Nat.strongRecOn with
  | _ n ih =>
    by_cases h : n = 0
    · subst h; rw [toL_zero]; exact Top.nil
    · intro hl
      have hrest := ih (n / 1000000000) (by omega)
      have e := toL_pos h
      by_cases hn : toL (n / 1000000000) = []
      · have h0 := toL_eq_nil.1 hn
        simp only [e, hn, List.getLast_singleton]
        omega
      · have := hrest hn
        simp only [e]
        rwa [List.getLast_cons hn]

theorem toL_val {l : List Int} (hd : Dig l) (ht : Top l) : toL (val l).toNat = l := by
  refine val_inj (toL_dig _) (toL_top _) hd ht ?_
  rw [val_toL]
  have := val_nonneg hd
  omega

theorem eq_toL {l : List Int} {n : Nat} (hd : Dig l) (ht : Top l) (hv : val l = n) : l = toL n := by
  rw [← toL_val hd ht, hv]; simp

/-- The number of limbs tells the size. -/
theorem val_ge {l : List Int} (hd : Dig l) (ht : Top l) (hl : l ≠ []) : bp (l.length - 1) ≤ val l := by
  induction l with
  | nil => exact absurd rfl hl
  | cons x l ih =>
    have h1 := hd.head
    rw [val_cons]
    by_cases hn : l = []
    · subst hn
      have := ht (by simp)
      simp at this
      simp [val_nil, bp_zero]; omega
    · have := ih hd.tail ht.tail hn
      have hlen : l.length ≠ 0 := by simpa using hn
      rw [List.length_cons, Nat.add_sub_cancel]
      have e : l.length = (l.length - 1) + 1 := by omega
      rw [e, bp_succ]; omega

theorem len_le_iff {l : List Int} (hd : Dig l) (ht : Top l) (k : Nat) : l.length ≤ k ↔ val l < bp k := by
  constructor
  · intro h
    have := val_lt hd
    have := bp_mono h
    omega
  · intro h
    by_cases hl : l = []
    · subst hl; simp
    · have h1 := val_ge hd ht hl
      by_cases hk : l.length ≤ k
      · exact hk
      · have := bp_mono (show k ≤ l.length - 1 by omega)
        omega

theorem toL_len_le (n k : Nat) : (toL n).length ≤ k ↔ (n : Int) < bp k := by
  rw [len_le_iff (toL_dig n) (toL_top n), val_toL]

/-- Cutting off the zeros at the end. -/
def trim : List Int → List Int
  | [] => []
  | x :: l => if x = 0 ∧ trim l = [] then [] else x :: trim l

theorem val_trim (l : List Int) : val (trim l) = val l := by
  induction l with
  | nil => rfl
  | cons x l ih =>
    simp only [trim]
    split
    · rename_i h
      rw [val_cons, ← ih, h.2, h.1]; rfl
    · rw [val_cons, ih, val_cons]

theorem dig_trim {l : List Int} (h : Dig l) : Dig (trim l) := by
  induction l with
  | nil => exact Dig.nil
  | cons x l ih =>
    simp only [trim]
    split
    · exact Dig.nil
    · exact Dig.cons h.head.1 h.head.2 (ih h.tail)

theorem top_trim (l : List Int) : Top (trim l) := by
  induction l with
  | nil => exact Top.nil
  | cons x l ih =>
    simp only [trim]
    split
    · exact Top.nil
    · rename_i h
      intro hl
      by_cases hn : trim l = []
      · simp only [hn, List.getLast_singleton]
        intro hx; exact h ⟨hx, hn⟩
      · rw [List.getLast_cons hn]; exact ih hn

theorem trim_snoc_zero (l : List Int) : trim (l ++ [0]) = trim l := by
  induction l with
  | nil => rfl
  | cons x l ih => simp only [List.cons_append, trim, ih]

theorem trim_snoc_ne (l : List Int) {x : Int} (hx : x ≠ 0) : trim (l ++ [x]) = l ++ [x] := by
  induction l with
  | nil => simp [trim, hx]
  | cons y l ih => simp [trim, ih]

theorem trim_eq {l : List Int} {n : Nat} (hd : Dig l) (hv : val l = n) : trim l = toL n :=
  eq_toL (dig_trim hd) (top_trim l) (by rw [val_trim, hv])

/-- A list of limbs that is a natural number of the program. -/
def NatOk (l : List Int) : Prop := l.length ≤ 60 ∧ Dig l ∧ Top l

theorem NatOk.toL {l : List Int} (h : NatOk l) : l = toL (val l).toNat := (toL_val h.2.1 h.2.2).symm

theorem natOk_toL {n : Nat} (h : (n : Int) < bp 60) : NatOk (toL n) := ⟨(toL_len_le n 60).2 h, toL_dig n, toL_top n⟩

end FE
end Go.Proofs.Ytkmmdajlbkbnmaa
