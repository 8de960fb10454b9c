/-
  Walks: whether a fraction is valid, by the program.
-/
import Derived.Test.YtkmmdajlbkbnmaaOkN
import Derived.Test.YtkmmdajlbkbnmaaGcd
import Derived.Test.YtkmmdajlbkbnmaaIterTo
namespace Go.Proofs.Ytkmmdajlbkbnmaa
open Go.RowKit Go.Joins

theorem box_lat {w w2 : World} {C : Array Value} {t : TypeId} (hb : Below (w.alloc (.cells C t)).heap.size (w.alloc (.cells C t)) w2) : Slots w2 w.heap.size C.toList := Slots.new hb rfl
theorem ri_alloc {w : World} {A : Option Addr} {xs : List Int} (h : RI w A xs) (o : Obj) : RI (w.alloc o) A xs := h.alloc o

set_option maxHeartbeats 400000 in
theorem iBigIntOk (s : Bool) (xs : List Int) (n c : Nat) (hn : xs.length = n) (hn1 : n ≤ 4611686018427387904) (A : Option Addr) (w : World) (ha : RI w A xs) :
    Calls Try.prog 122 #[.agg #[.bool s, .slice A n c]] w fun e w' => e = .returned (.bool (FE.bigOk s xs)) ∧ Below w.heap.size w w' := by
  have HC := Lib.hid (fun o => iNatOk xs n c hn hn1 A (w.alloc o) (ha.alloc o))
  have HQ := Lib.hid (show FE.bigOk s xs = (FE.natOk xs && (!s || !xs.isEmpty)) from rfl)
  have HN := Lib.hid hn; clear hn
  generalize FE.bigOk s xs = res at *
  obtain ⟨q, hq⟩ : ∃ q, FE.natOk xs = q := ⟨_, rfl⟩
  rw [hq] at HC HQ
  clear hq
  cases q
  · go_enter Try.func122, Try.ntmps122
    go_wp2_with fail
    refine (HC.out _).mono ?_
    rintro e w1 ⟨rfl, rfl⟩
    go_wp2
    go_ret
    exact ⟨ret_bool (by rw [HQ.out]; rfl), below_alloc1 _ _⟩
  · cases s
    · go_enter Try.func122, Try.ntmps122
      go_wp2_with fail
      refine (HC.out _).mono ?_
      rintro e w1 ⟨rfl, rfl⟩
      go_wp2
      go_ret
      exact ⟨ret_bool (by rw [HQ.out]; rfl), below_alloc1 _ _⟩
    · by_cases hn0 : 0 < n
      · have HR := Lib.hid (show res = true by
          rw [HQ.out]
          have h0 : xs ≠ [] := (by intro h; have := HN.out; rw [h] at this; simp at this; omega)
          simp [h0])
        go_enter Try.func122, Try.ntmps122
        go_wp2_with fail
        refine (HC.out _).mono ?_
        rintro e w1 ⟨rfl, rfl⟩
        go_wp2
        go_ret
        exact ⟨ret_bool HR.out.symm, below_alloc1 _ _⟩
      · have HR := Lib.hid (show res = false by
          rw [HQ.out]
          have h0 : xs = [] := List.eq_nil_of_length_eq_zero (by have := HN.out; omega)
          simp [h0])
        go_enter Try.func122, Try.ntmps122
        go_wp2_with fail
        refine (HC.out _).mono ?_
        rintro e w1 ⟨rfl, rfl⟩
        go_wp2
        go_ret
        exact ⟨ret_bool HR.out.symm, below_alloc1 _ _⟩

def oneB (xs : List Int) : Bool := xs == [1]
theorem oneB_toL (n : Nat) : oneB (FE.toL n) = (n == 1) := by
  have h1 : FE.toL 1 = [1] := by rw [FE.toL_pos (by omega), show (1 / 1000000000 : Nat) = 0 from rfl, FE.toL_zero]; rfl
  unfold oneB
  rw [← h1, Bool.eq_iff_iff]
  simp only [beq_iff_eq]
  constructor
  · intro h
    have := congrArg FE.nv h
    rwa [FE.nv_toL, FE.nv_toL] at this
  · rintro rfl; rfl

set_option maxHeartbeats 400000 in
theorem iIsOne (xs : List Int) (n c : Nat) (hn : xs.length = n) (hn1 : n ≤ 4611686018427387904) (A : Option Addr) (w : World) (ha : RI w A xs) :
    Calls Try.prog 127 #[.slice A n c] w fun e w' => e = .returned (.bool (oneB xs)) ∧ w' = w := by
  by_cases h1 : n = 1
  · subst h1
    obtain ⟨x, rfl⟩ := List.length_eq_one_iff.1 hn
    obtain ⟨b, off, rfl, hb, hc⟩ := ha (by simp)
    have e1 := hc 0 (by simp)
    simp only [List.getD_cons_zero, Nat.add_zero] at e1
    by_cases hx : x = 1
    · subst hx
      go_enter Try.func127, Try.ntmps127
      go_wp2
      go_ret
      exact ⟨ret_bool (by simp [oneB]), rfl⟩
    · have HR := Lib.hid (show oneB [x] = false by simp [oneB, hx])
      have hx1 : (x == 1) = false := by simp [hx]
      go_enter Try.func127, Try.ntmps127
      go_wp2
      go_ret
      exact ⟨ret_bool HR.out.symm, rfl⟩
  · have HR := Lib.hid (show oneB xs = false by simp only [oneB, beq_eq_false_iff_ne, ne_eq]; intro h; rw [h] at hn; simp at hn; omega)
    have hx1 : ((n : Int) == 1) = false := by simp; omega
    clear hn h1
    go_enter Try.func127, Try.ntmps127
    go_wp2
    go_ret
    exact ⟨ret_bool HR.out.symm, rfl⟩

def smallB (x : RatD) : Bool := decide (x.mag.length ≤ 1) && (x.den.length == 1)
set_option maxHeartbeats 400000 in
theorem iIsSmall (x : RatD) (v : Value) (w : World) (hv : RatV w v x) :
    Calls Try.prog 124 #[v] w fun e w' => e = .returned (.bool (smallB x)) ∧ Below w.heap.size w w' := by
  obtain ⟨A, c, B, d, rfl, ⟨h1, h2, h3, h4⟩, _, _⟩ := hv
  have HR := Lib.hid (show smallB x = (decide (x.mag.length ≤ 1) && (x.den.length == 1)) from rfl)
  generalize smallB x = res at *
  generalize x.mag.length = n at *
  generalize x.den.length = m at *
  generalize x.neg = s at *
  have l1 : n ≤ 9223372036854775807 := by unfold maxLen at h2; omega
  have l2 : m ≤ 9223372036854775807 := by unfold maxLen at h4; omega
  clear h1 h2 h3 h4
  by_cases hn : n ≤ 1
  · by_cases hm : m = 1
    · subst hm
      have HF := Lib.hid (show res = true by rw [HR.out]; simp [hn])
      go_enter Try.func124, Try.ntmps124
      go_wp2
      go_ret
      exact ⟨ret_bool HF.out.symm, below_alloc1 _ _⟩
    · have HF := Lib.hid (show res = false by rw [HR.out]; simp [hm])
      have hm1 : ((m : Int) == 1) = false := by simp; omega
      go_enter Try.func124, Try.ntmps124
      go_wp2
      go_ret
      exact ⟨ret_bool HF.out.symm, below_alloc1 _ _⟩
  · have HF := Lib.hid (show res = false by rw [HR.out]; simp [hn])
    go_enter Try.func124, Try.ntmps124
    go_wp2
    go_ret
    exact ⟨ret_bool HF.out.symm, below_alloc1 _ _⟩

/-- The parts of a small fraction. -/
structure SmallR (x : RatD) (p q : Nat) : Prop where
  mag : x.mag = FE.toL p
  den : x.den = FE.toL q
  p1 : p < 1000000000
  q0 : 0 < q
  q1 : q < 1000000000
def sgnI (s : Bool) (p : Nat) : Int := if s then -(p : Int) else p
theorem toL_one {q : Nat} (h0 : 0 < q) (h1 : q < 1000000000) : FE.toL q = [(q : Int)] := by
  rw [FE.toL_pos (by omega), show q / 1000000000 = 0 by omega, FE.toL_zero]
  simp; omega

set_option maxHeartbeats 800000 in
theorem iSmall (x : RatD) (p q : Nat) (hx : SmallR x p q) (v : Value) (w : World) (hv : RatV w v x) :
    Calls Try.prog 125 #[v] w fun e w' => e = .returned (.tuple #[.int .i64 (sgnI x.neg p), .int .i64 q]) ∧ Below w.heap.size w w' := by
  obtain ⟨A, c, B, d, rfl, ⟨h1, h2, h3, h4⟩, ra, rb⟩ := hv
  obtain ⟨hm, hd, p1, q0, q1⟩ := hx
  rw [hm] at h1 ra
  rw [hd, toL_one q0 q1] at h3 rb
  rw [hm, hd, toL_one q0 q1]
  obtain ⟨b2, o2, rfl, hb2, hc2⟩ := rb (by simp)
  have e2 := hc2 0 (by simp)
  simp only [List.getD_cons_zero, Nat.add_zero] at e2
  have lb2 := Nat.lt_of_lt_of_le hb2 (Nat.le_succ _)
  clear hc2 h3 h4 hm hd h2
  generalize x.neg = s at *
  simp only [List.length_singleton]
  by_cases hp0 : p = 0
  · subst hp0
    rw [FE.toL_zero] at h1 ra ⊢
    simp only [List.length_nil]
    clear ra
    cases s
    · go_enter Try.func125, Try.ntmps125
      go_wp2
      go_quiet (fail)
      go_wp2
      go_ret2
      exact ⟨rfl, (below_alloc1 _ _).trans (below_draws _ _ _)⟩
    · go_enter Try.func125, Try.ntmps125
      go_wp2
      go_quiet (fail)
      go_wp2
      go_ret2
      exact ⟨rfl, (below_alloc1 _ _).trans (below_draws _ _ _)⟩
  · rw [toL_one (by omega) p1] at h1 ra ⊢
    obtain ⟨b1, o1, rfl, hb1, hc1⟩ := ra (by simp)
    have e1 := hc1 0 (by simp)
    simp only [List.getD_cons_zero, Nat.add_zero] at e1
    have lb1 := Nat.lt_of_lt_of_le hb1 (Nat.le_succ _)
    simp only [List.length_singleton]
    clear hc1
    have hp1 : 0 < p := by omega
    clear hp0
    cases s
    · go_enter Try.func125, Try.ntmps125
      go_wp2
      go_quiet (fail)
      go_wp2
      go_ret2
      exact ⟨rfl, (below_alloc1 _ _).trans (below_draws _ _ _)⟩
    · go_enter Try.func125, Try.ntmps125
      go_wp2
      go_quiet (fail)
      go_wp2
      go_ret2
      exact ⟨rfl, (below_alloc1 _ _).trans (below_draws _ _ _)⟩
end Go.Proofs.Ytkmmdajlbkbnmaa
