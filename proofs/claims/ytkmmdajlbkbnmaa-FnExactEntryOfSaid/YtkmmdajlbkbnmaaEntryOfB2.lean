/-
  Words for memory: fractions, vectors and slices of whatever in memory, and how an argument is opened into them.
  Plain mathematics: fractions as the program and the reference keep them, and their arithmetic. No program in sight.
  Walks: comparison of natural numbers.
  Walks: whether a list of ints is a natural number, by the program and by the reference.
  Plain mathematics: comparison of numbers by their limbs; a digit of a long division.
  Walks: cutting off zeros at the end; a copy of a slice.
  Walks: quotient by a limb; product with a limb.
-/
import Derived.Deep.Slices
import Derived.Lib.SmallJoins
import Derived.Test.YtkmmdajlbkbnmaaEntryOfB1
namespace Go.Proofs.Ytkmmdajlbkbnmaa
open Go.RowKit Go.Joins Go.Deep

theorem lt_of_cell' {w : World} {b o : Nat} {s : Option Nat} {v : Value} (h : w.cell? ⟨b, o, s⟩ = some v) : b < w.heap.size ∧ s = none := by
  unfold World.cell? at h
  cases hb : w.heap[b]? with
  | none => simp [hb] at h
  | some x =>
    refine ⟨(Array.getElem?_eq_some_iff.1 hb).1, ?_⟩
    cases s with
    | none => rfl
    | some s => cases x <;> simp [hb] at h

/-- A slice at address A reads as the list xs of things that take k cells each ('At': what one of them is). -/
def SI {α : Type} (At : World → Nat → Nat → α → Prop) (k : Nat) (d : α) (w : World) (A : Option Addr) (xs : List α) : Prop :=
  xs ≠ [] → ∃ b off, A = some ⟨b, off, none⟩ ∧ b < w.heap.size ∧ ∀ i, i < xs.length → At w b (off + i * k) (xs.getD i d)

/-- What is there stays where nothing that was there turns. -/
def Stays {α : Type} (At : World → Nat → Nat → α → Prop) : Prop := ∀ (w w' : World) (b o : Nat) (x : α), b < w.heap.size → At w b o x → Below w.heap.size w w' → At w' b o x

theorem SI.later {α : Type} {At : World → Nat → Nat → α → Prop} {k : Nat} {d : α} (hs : Stays At) {w w' : World} {A : Option Addr} {xs : List α} (h : SI At k d w A xs) (hb : Below w.heap.size w w') : SI At k d w' A xs := by
  intro hx
  obtain ⟨b, off, rfl, hlt, hc⟩ := h hx
  exact ⟨b, off, rfl, Nat.lt_of_lt_of_le hlt hb.size, fun i hi => hs _ _ _ _ _ hlt (hc i hi) hb⟩
theorem SI.nil {α : Type} (At : World → Nat → Nat → α → Prop) (k : Nat) (d : α) (w : World) (A : Option Addr) : SI At k d w A [] := fun h => absurd rfl h

theorem cell_later {w w' : World} {b o : Nat} {v : Value} (hlt : b < w.heap.size) (h : w.cell? ⟨b, o, none⟩ = some v) (hb : Below w.heap.size w w') : w'.cell? ⟨b, o, none⟩ = some v := by
  rw [hb.cell (p := ⟨b, o, none⟩) hlt]; exact h

/-- The cells of a struct that was boxed, read later. -/
theorem box_cell {w w2 : World} {C : Array Value} {t : TypeId} (hb : Below (w.alloc (.cells C t)).heap.size (w.alloc (.cells C t)) w2) (j : Nat) {v : Value} (h : C[j]? = some v) : w2.cell? ⟨w.heap.size, j, none⟩ = some v := by
  rw [hb.cell (p := ⟨w.heap.size, j, none⟩) (by simp), cell_alloc_mark_at w C t _ _ j rfl]
  exact h
theorem box_below {w w2 : World} {C : Array Value} {t : TypeId} (hb : Below (w.alloc (.cells C t)).heap.size (w.alloc (.cells C t)) w2) : Below w.heap.size w w2 := (below_alloc1 w _).trans (below_le hb (by simp))

/-- A variable of the call's own, read later. -/
theorem own_cell {w w2 : World} {C : Array Value} {t : TypeId} (hb : Below (w.alloc (.cells C t)).heap.size (w.alloc (.cells C t)) w2) {g : Nat} (hg : g = w.heap.size) :
    (∀ j v, C[j]? = some v → w2.cell? ⟨g, j, none⟩ = some v) ∧ ∀ j, w2.frozen? ⟨g, j, none⟩ = false := by
  subst hg
  refine ⟨fun j v h => box_cell hb j h, fun j => ?_⟩
  rw [hb.frozen (p := ⟨w.heap.size, j, none⟩) (by simp)]
  exact unfrozen_of_block (cs := C) (t := t) (heap_alloc_new _ _) j
theorem below_step {w w2 : World} {o : Obj} (hb : Below (w.alloc o).heap.size (w.alloc o) w2) : Below w.heap.size w w2 := (below_alloc1 w _).trans (below_le hb (by simp))
theorem RO.far {w : World} {base : Nat} {v : Value} {xs : List Int} (h : RO w base v xs) {p : Addr} (hp : p.block < base) (u : Value) : RO (w.setCell p u) base v xs := by
  obtain ⟨A, c, rfl, hl, hc, h⟩ := h
  refine ⟨A, c, rfl, hl, hc, fun hx => ?_⟩
  obtain ⟨g, rfl, hg, ha⟩ := h hx
  exact ⟨g, rfl, hg, ha.far (by omega) u⟩

/-- A fraction's parts as they lie in memory. -/
structure RatD where
  neg : Bool
  mag : List Int
  den : List Int
def zR : RatD := ⟨false, [], []⟩

def RatAt (w : World) (b off : Nat) (r : RatD) : Prop :=
  ∃ A c B d, w.cell? ⟨b, off, none⟩ = some (.bool r.neg) ∧ w.cell? ⟨b, off + 1, none⟩ = some (.slice A r.mag.length c) ∧ w.cell? ⟨b, off + 2, none⟩ = some (.slice B r.den.length d) ∧
    (r.mag.length ≤ c ∧ c ≤ maxLen ∧ r.den.length ≤ d ∧ d ≤ maxLen) ∧ RI w A r.mag ∧ RI w B r.den
/-- A fraction as a value. -/
def RatV (w : World) (v : Value) (r : RatD) : Prop :=
  ∃ A c B d, v = .agg #[.bool r.neg, .slice A r.mag.length c, .slice B r.den.length d] ∧
    (r.mag.length ≤ c ∧ c ≤ maxLen ∧ r.den.length ≤ d ∧ d ≤ maxLen) ∧ RI w A r.mag ∧ RI w B r.den
theorem RatV.later {w w' : World} {v : Value} {r : RatD} (h : RatV w v r) (hb : Below w.heap.size w w') : RatV w' v r := by
  obtain ⟨A, c, B, d, rfl, hl, h1, h2⟩ := h
  exact ⟨A, c, B, d, rfl, hl, h1.later hb, h2.later hb⟩
theorem RatAt.stays : Stays RatAt := by
  intro w w' b o x hlt h hb
  obtain ⟨A, c, B, d, h0, h1, h2, hl, h3, h4⟩ := h
  exact ⟨A, c, B, d, cell_later hlt h0 hb, cell_later hlt h1 hb, cell_later hlt h2 hb, hl, h3.later hb, h4.later hb⟩
/-- A vector. -/
def VI (w : World) (A : Option Addr) (rs : List RatD) : Prop := SI RatAt 3 zR w A rs
theorem VI.later {w w' : World} {A : Option Addr} {rs : List RatD} (h : VI w A rs) (hb : Below w.heap.size w w') : VI w' A rs := SI.later RatAt.stays h hb
theorem VI.nil (w : World) (A : Option Addr) : VI w A [] := SI.nil _ _ _ w A

section
variable {H : Type} {enc : TypeId × Value → H} {P : Program} {w : World}

theorem openRI {t e : TypeId} {fuel : Nat} {cs : List Value} {x : DataW H × List MemPlace} (ht : P.underlying t = some (.slice e)) (he : P.underlying e = some (.int .i64)) (hc : P.cellsOf e = 1)
    (h : DataW.trod enc P w 0 (fun _ => true) true fuel t cs = some x) :
    ∃ A c xs, cs = [.slice A xs.length c] ∧ xs.length ≤ c ∧ c ≤ maxLen ∧ RI w A xs ∧ ∀ n ∈ xs, In64 n := by
  rcases Go.ChangeShapes.open_ints ht he hc h with ⟨rfl, _⟩ | ⟨a, len, cap, zs, rfl, _, hlc, hcm, hzl, _, hcell, hwf⟩
  · exact ⟨none, 0, [], rfl, by simp, Nat.zero_le _, RI.nil w none, by simp⟩
  · simp only [if_true] at hzl
    have hl : (zs.take len).length = len := by rw [List.length_take]; omega
    refine ⟨some a, cap, zs.take len, by rw [hl], by omega, hcm, ?_, fun n hn => in64_of_wf (hwf n (List.mem_of_mem_take hn))⟩
    intro hx
    have h0 : 0 < zs.length := by
      cases zs with
      | nil => simp at hx
      | cons => simp
    have h1 := hcell 0 h0
    obtain ⟨b, o, s⟩ := a
    simp only [Addr.add, if_true] at h1
    obtain ⟨hb, rfl⟩ := lt_of_cell' h1
    refine ⟨b, o, rfl, hb, fun i hi => ?_⟩
    rw [hl] at hi
    have := hcell i (by omega)
    have e1 : (⟨b, o, none⟩ : Addr).add i = ⟨b, o + i, none⟩ := by
      unfold Addr.add
      split
      · rename_i h; subst h; rfl
      · rfl
    rw [e1] at this
    rw [this]
    simp [hi]

/-- A slice of whatever is opened, once one of its things is. -/
theorem openSI {α : Type} {At : World → Nat → Nat → α → Prop} {k : Nat} {d : α} {G : α → Prop} {t e : TypeId} {fuel : Nat} {cs : List Value} {x : DataW H × List MemPlace} (ht : P.underlying t = some (.slice e)) (hk : P.cellsOf e = k) (hk0 : 0 < k)
    (hone : ∀ (n : Nat) (cs' : List Value) (y : DataW H × List MemPlace), DataW.trod enc P w 0 (fun _ => true) true n e cs' = some y → cs'.length = k →
      ∃ z : α, G z ∧ ∀ b o : Nat, (∀ j, j < k → w.cell? ⟨b, o + j, none⟩ = cs'[j]?) → At w b o z)
    (h : DataW.trod enc P w 0 (fun _ => true) true fuel t cs = some x) :
    ∃ A c xs, cs = [.slice A xs.length c] ∧ xs.length ≤ c ∧ c ≤ maxLen ∧ SI At k d w A xs ∧ ∀ z ∈ xs, G z := by
  rcases open_slice ht h with ⟨rfl, _⟩ | ⟨a, len, cap, m, n, D, Pl, rfl, _, hlc, hcm, hm, _, hx⟩
  · exact ⟨none, 0, [], rfl, by simp, Nat.zero_le _, SI.nil _ _ _ w none, by simp⟩
  · simp only [if_true] at hm
    have each : ∀ i, i < len → ∃ z : Option α, ∃ y, z = some y ∧ G y ∧ At w a.block (a.off + i * k) y ∧ a.spot = none ∧ a.block < w.heap.size := by
      intro i hi
      obtain ⟨cs', h1, h2⟩ := hx i (by omega)
      rw [hk] at h1
      obtain ⟨_, hlen, hcell⟩ := World.cells?_some h1
      obtain ⟨z, hg, hz⟩ := hone n cs' _ h2 hlen
      have hsp : a.spot = none ∧ a.block < w.heap.size := by
        obtain ⟨cs0, g1, _⟩ := hx 0 (by omega)
        obtain ⟨_, gl, gc⟩ := World.cells?_some g1
        rw [hk] at gl
        have := gc 0 (by omega)
        obtain ⟨b, o, s⟩ := a
        simp only [Nat.zero_mul, Addr.add, if_true] at this
        have hc0 : cs0[0]? = some (cs0[0]'(by omega)) := List.getElem?_eq_getElem (by omega)
        rw [hc0] at this
        exact ⟨(lt_of_cell' this).2, (lt_of_cell' this).1⟩
      refine ⟨some z, z, rfl, hg, hz _ _ fun j hj => ?_, hsp⟩
      have := hcell j hj
      obtain ⟨b, o, s⟩ := a
      obtain ⟨rfl, _⟩ := hsp
      rw [← this]
      congr 1
      unfold Addr.add
      split <;> split <;> simp_all <;> omega
    obtain ⟨f, hf⟩ := choose_lt each
    have hS : ∀ i, i < len → ∃ y, f i = some y ∧ G y ∧ At w a.block (a.off + i * k) y ∧ a.spot = none ∧ a.block < w.heap.size := hf
    have hl : ((List.range len).map fun i => (f i).getD d).length = len := by simp
    refine ⟨some a, cap, (List.range len).map fun i => (f i).getD d, by rw [hl], by omega, hcm, ?_, ?_⟩
    · intro hne
      have h0 : 0 < len := by
        rcases Nat.eq_zero_or_pos len with h | h
        · subst h; simp at hne
        · exact h
      obtain ⟨_, _, _, _, hsp, hb⟩ := hS 0 h0
      obtain ⟨b, o, s⟩ := a
      simp only at hsp
      subst hsp
      refine ⟨b, o, rfl, hb, fun i hi => ?_⟩
      rw [hl] at hi
      obtain ⟨y, hy, _, hA, _⟩ := hS i hi
      simpa [hi, hy] using hA
    · intro z hz
      obtain ⟨i, hi, rfl⟩ := List.mem_map.1 hz
      obtain ⟨y, hy, hg, _⟩ := hS i (by simpa using hi)
      simpa [hy] using hg
end
end Go.Proofs.Ytkmmdajlbkbnmaa

namespace Go.Proofs.Ytkmmdajlbkbnmaa
namespace FE

/-- The value of a list of limbs, as a natural number. -/
def nv (l : List Int) : Nat := (val l).toNat
theorem nv_toL (n : Nat) : nv (toL n) = n := by rw [nv, val_toL, Int.toNat_natCast]
theorem nv_nil : nv [] = 0 := rfl
def digB (l : List Int) : Bool := l.all fun x => decide (0 ≤ x) && decide (x < 1000000000)
theorem digB_iff {l : List Int} : digB l = true ↔ Dig l := by simp [digB, Dig]
def topB (l : List Int) : Bool := l.getLast? != some 0
theorem topB_iff {l : List Int} : topB l = true ↔ Top l := by
  unfold topB Top
  cases l with
  | nil => simp
  | cons x l => rw [List.getLast?_eq_some_getLast (by simp)]; simp
/-- Whether a list of ints is a natural number of the program. -/
def natOk (l : List Int) : Bool := decide (l.length ≤ 60) && (topB l && digB l)
theorem natOk_iff {l : List Int} : natOk l = true ↔ NatOk l := by
  simp only [natOk, NatOk, digB_iff, topB_iff, Bool.and_eq_true, decide_eq_true_eq]
  exact ⟨fun ⟨a, b, c⟩ => ⟨a, c, b⟩, fun ⟨a, b, c⟩ => ⟨a, c, b⟩⟩
theorem toL_nv {l : List Int} (h : natOk l = true) : toL (nv l) = l := toL_val (natOk_iff.1 h).2.1 (natOk_iff.1 h).2.2
theorem natOk_len {l : List Int} (h : natOk l = true) : l.length ≤ 60 := (natOk_iff.1 h).1
theorem natOk_of_toL {n : Nat} (h : (toL n).length ≤ 60) : natOk (toL n) = true := natOk_iff.2 ⟨h, toL_dig n, toL_top n⟩
theorem natOk_nil : natOk [] = true := by decide
def bigOk (s : Bool) (l : List Int) : Bool := natOk l && (!s || !l.isEmpty)
/-- Whether a fraction is valid. -/
def ratOk (r : RatD) : Bool := (bigOk r.neg r.mag && (natOk r.den && !r.den.isEmpty)) && ((decide (r.mag.length ≤ 24) && decide (r.den.length ≤ 24)) && Nat.gcd (nv r.mag) (nv r.den) == 1)

/-- A fraction of a sign and two natural numbers. -/
def mkR (s : Bool) (p q : Nat) : RatD := ⟨s && decide (p ≠ 0), toL p, toL q⟩
/-- Numbers with few limbs. -/
def few (p : Nat) : Bool := decide ((toL p).length ≤ 24)
/-- The fraction p/q in lowest terms; the zero value if there is none. -/
def low (s : Bool) (p q : Nat) : RatD :=
  if q = 0 then zR else if few (p / Nat.gcd p q) && few (q / Nat.gcd p q) then mkR s (p / Nat.gcd p q) (q / Nat.gcd p q) else zR

structure OkR (r : RatD) (p q : Nat) : Prop where
  mag : r.mag = toL p
  den : r.den = toL q
  p0 : r.neg = true → p ≠ 0
  q0 : q ≠ 0
  pl : (toL p).length ≤ 24
  ql : (toL q).length ≤ 24
  gcd : Nat.gcd p q = 1

theorem ratOk_iff {r : RatD} : ratOk r = true ↔ OkR r (nv r.mag) (nv r.den) := by
  constructor
  · intro h
    simp only [ratOk, bigOk, Bool.and_eq_true, decide_eq_true_eq, beq_iff_eq, Bool.or_eq_true, Bool.not_eq_true', List.isEmpty_eq_false_iff] at h
    obtain ⟨⟨⟨h1, h2⟩, h3, h4⟩, ⟨h5, h6⟩, h7⟩ := h
    have e1 := toL_nv h1
    have e2 := toL_nv h3
    refine ⟨e1.symm, e2.symm, fun hs h0 => ?_, fun h0 => h4 ?_, by rw [e1]; exact h5, by rw [e2]; exact h6, h7⟩
    · rcases h2 with h2 | h2
      · rw [h2] at hs; cases hs
      · rw [h0, toL_zero] at e1; exact h2 e1.symm
    · rw [h0, toL_zero] at e2; exact e2.symm
  · intro h
    have l1 : r.mag.length ≤ 24 := by rw [h.mag]; exact h.pl
    have l2 : r.den.length ≤ 24 := by rw [h.den]; exact h.ql
    have n1 : natOk r.mag = true := by rw [h.mag]; exact natOk_of_toL (by have := h.pl; omega)
    have n2 : natOk r.den = true := by rw [h.den]; exact natOk_of_toL (by have := h.ql; omega)
    have hd : r.den ≠ [] := by rw [h.den]; intro e; exact h.q0 (toL_eq_nil.1 e)
    have hm : r.neg = true → r.mag ≠ [] := by intro hs; rw [h.mag]; intro e; exact h.p0 hs (toL_eq_nil.1 e)
    simp only [ratOk, bigOk, Bool.and_eq_true, decide_eq_true_eq, beq_iff_eq, Bool.or_eq_true, Bool.not_eq_true', List.isEmpty_eq_false_iff]
    refine ⟨⟨⟨n1, ?_⟩, n2, hd⟩, ⟨l1, l2⟩, h.gcd⟩
    cases hs : r.neg
    · exact .inl rfl
    · exact .inr (hm hs)

theorem OkR.ok {r : RatD} {p q : Nat} (h : OkR r p q) : ratOk r = true := by
  refine ratOk_iff.2 ?_
  have e1 : nv r.mag = p := by rw [h.mag, nv_toL]
  have e2 : nv r.den = q := by rw [h.den, nv_toL]
  rw [e1, e2]; exact h
theorem OkR.eq {r : RatD} {p q : Nat} (h : OkR r p q) : r = mkR r.neg p q := by
  obtain ⟨s, m, d⟩ := r
  have h1 := h.mag
  have h2 := h.den
  have h3 := h.p0
  simp only at h1 h2 h3
  subst h1 h2
  cases s
  · rfl
  · simp [mkR, h3 rfl]
theorem OkR.nmag {r : RatD} {p q : Nat} (h : OkR r p q) : nv r.mag = p := by rw [h.mag, nv_toL]
theorem OkR.nden {r : RatD} {p q : Nat} (h : OkR r p q) : nv r.den = q := by rw [h.den, nv_toL]

theorem zR_not : ratOk zR = false := by decide
theorem low_ok (s : Bool) (p q : Nat) : low s p q = zR ∨ OkR (low s p q) (p / Nat.gcd p q) (q / Nat.gcd p q) := by
  unfold low
  split
  · exact .inl rfl
  · rename_i hq
    split
    · rename_i h
      simp only [few, Bool.and_eq_true, decide_eq_true_eq] at h
      have hg : 0 < Nat.gcd p q := Nat.gcd_pos_of_pos_right _ (by omega)
      refine .inr ⟨rfl, rfl, ?_, ?_, h.1, h.2, ?_⟩
      · intro hs h0
        simp only [mkR, h0] at hs
        simp at hs
      · intro h0
        have := Nat.le_of_dvd (by omega) (Nat.gcd_dvd_right p q)
        have := Nat.div_pos this hg
        omega
      · rw [Nat.gcd_div (Nat.gcd_dvd_left p q) (Nat.gcd_dvd_right p q)]
        exact Nat.div_self hg
    · exact .inl rfl
/-- A result: valid or the zero value. -/
def Res (r : RatD) : Prop := r = zR ∨ ratOk r = true
theorem low_res (s : Bool) (p q : Nat) : Res (low s p q) := (low_ok s p q).imp id OkR.ok
theorem Res.den {r : RatD} (h : Res r) : (r.den.length == 0) = !ratOk r := by
  rcases h with rfl | h
  · decide
  · rw [h]
    have h' := ratOk_iff.1 h
    have : r.den ≠ [] := by rw [h'.den]; intro e; exact h'.q0 (toL_eq_nil.1 e)
    simpa using this

/-- The numerator as an integer. -/
def num (r : RatD) : Int := if r.neg then -(nv r.mag : Int) else nv r.mag
def lowI (n : Int) (q : Nat) : RatD := low (decide (n < 0)) n.natAbs q
def radd (r s : RatD) : RatD := if ratOk r && ratOk s then lowI (num r * nv s.den + num s * nv r.den) (nv r.den * nv s.den) else zR
def rsub (r s : RatD) : RatD := if ratOk r && ratOk s then lowI (num r * nv s.den - num s * nv r.den) (nv r.den * nv s.den) else zR
def rmul (r s : RatD) : RatD := if ratOk r && ratOk s then lowI (num r * num s) (nv r.den * nv s.den) else zR
def rdiv (r s : RatD) : RatD := if ratOk r && ratOk s then low (r.neg != s.neg) (nv r.mag * nv s.den) (nv r.den * nv s.mag) else zR
def rneg (r : RatD) : RatD := if ratOk r then mkR (!r.neg) (nv r.mag) (nv r.den) else zR
def rsign (r : RatD) : Int := if ratOk r then (if r.mag.isEmpty then 0 else if r.neg then -1 else 1) else 0
def rint (n : Int) : RatD := ⟨decide (n < 0), toL n.natAbs, [1]⟩
theorem radd_res (r s : RatD) : Res (radd r s) := by unfold radd; split; exact low_res _ _ _; exact .inl rfl
theorem rsub_res (r s : RatD) : Res (rsub r s) := by unfold rsub; split; exact low_res _ _ _; exact .inl rfl
theorem rmul_res (r s : RatD) : Res (rmul r s) := by unfold rmul; split; exact low_res _ _ _; exact .inl rfl
theorem rdiv_res (r s : RatD) : Res (rdiv r s) := by unfold rdiv; split; exact low_res _ _ _; exact .inl rfl
theorem radd_bad1 {r s : RatD} (h : ratOk r = false) : radd r s = zR := by simp [radd, h]
theorem radd_bad2 {r s : RatD} (h : ratOk s = false) : radd r s = zR := by simp [radd, h]
theorem rmul_bad1 {r s : RatD} (h : ratOk r = false) : rmul r s = zR := by simp [rmul, h]
theorem rmul_bad2 {r s : RatD} (h : ratOk s = false) : rmul r s = zR := by simp [rmul, h]

end FE
end Go.Proofs.Ytkmmdajlbkbnmaa

namespace Go.Proofs.Ytkmmdajlbkbnmaa
open Go.RowKit

def cmpI (a b : Int) : Int := if a < b then -1 else if b < a then 1 else 0
/-- The comparison from limb number i - 1 downwards. -/
def cmpAt (xs ys : List Int) : Nat → Int
  | 0 => 0
  | i + 1 => if xs.getD i 0 = ys.getD i 0 then cmpAt xs ys i else cmpI (xs.getD i 0) (ys.getD i 0)
def cmpL (xs ys : List Int) : Int := if xs.length = ys.length then cmpAt xs ys xs.length else cmpI xs.length ys.length

set_option maxHeartbeats 400000 in
theorem cmpCompare (a b : Int) (w : World) :
    Calls Try.prog 161 #[.int .i64 a, .int .i64 b] w fun e w' => e = .returned (.int .i64 (cmpI a b)) ∧ w' = w := by
  go_enter Try.func161, Try.ntmps161
  go_wp2
  all_goals go_ret
  · exact ⟨by rw [cmpI, if_pos (by assumption)]; rfl, rfl⟩
  · exact ⟨by rw [cmpI, if_neg (by omega), if_pos (by assumption)]; rfl, rfl⟩
  · exact ⟨by rw [cmpI, if_neg (by omega), if_neg (by omega)]; rfl, rfl⟩

set_option maxHeartbeats 400000 in
theorem natCmp_any (xs ys : List Int) (n m c d : Nat) (hn : xs.length = n) (hm : ys.length = m) (hn1 : n ≤ 4611686018427387904) (hm1 : m ≤ 4611686018427387904) (A B : Option Addr) (w : World) (ha : RI w A xs) (hb : RI w B ys) :
    Calls Try.prog 151 #[.slice A n c, .slice B m d] w fun e w' => e = .returned (.int .i64 (cmpL xs ys)) ∧ ∃ k, w' = w.drewN k := by
  by_cases hnm : n = m
  · subst hnm
    have hh : ((n : Int) != n) = false := by simp
    have hL : cmpL xs ys = cmpAt xs ys n := by rw [cmpL, hn, hm, if_pos rfl]
    rw [hL]
    clear hL
    go_enter Try.func151, Try.ntmps151
    go_wp2_with fail
    go_loopw [5] (fun i wr => ∃ k : Nat, k ≤ n ∧ i = .int .i64 ((k : Int) - 1) ∧ cmpAt xs ys n = cmpAt xs ys k ∧ ∃ q, wr = w.drewN q) (fun i _ => (intOf i + 1).toNat)
    case atStart => exact ⟨n, Nat.le_refl _, rfl, rfl, 0, rfl⟩
    case round =>
      obtain ⟨k, hk, rfl, hc, q, rfl⟩ := hrel
      have HC := Lib.hid hc; clear hc
      by_cases hk0 : k = 0
      · subst hk0
        go_wp2
        go_ret
        exact ⟨ret_int (by rw [HC.out]; rfl), q, rfl⟩
      · obtain ⟨j, rfl⟩ := Nat.exists_eq_succ_of_ne_zero hk0
        obtain ⟨b1, o1, rfl, hb1, hc1⟩ := ha (by intro h; subst h; simp at hn; omega)
        obtain ⟨b2, o2, rfl, hb2, hc2⟩ := hb (by intro h; subst h; simp at hm; omega)
        have e1 := hc1 j (by omega)
        have e2 := hc2 j (by omega)
        clear hc1 hc2
        have hj : cmpAt xs ys (j + 1) = if xs.getD j 0 = ys.getD j 0 then cmpAt xs ys j else cmpI (xs.getD j 0) (ys.getD j 0) := rfl
        generalize xs.getD j 0 = x at *
        generalize ys.getD j 0 = y at *
        have Hj := Lib.hid hj; clear hj
        by_cases hxy : x = y
        · subst hxy
          have hx1 : (x != x) = false := by simp
          go_wp2
          go_quiet (fail)
          go_wp2
          go_roundw
          case rel => exact ⟨j, by omega, by go_num, by rw [HC.out, Hj.out, if_pos trivial], _, rfl⟩
          case measure => simp [intOf]
        · have hx1 : (x != y) = true := by simpa using hxy
          have Hxy := Lib.hid hxy; clear hxy
          go_wp2
          go_quiet (fail)
          simp only [World.drewN_drewN]
          generalize q + nq = q2
          go_wp2
          go_quiet ((go_at_call 161; exact quiet_add_same (cmpCompare _ _ _)))
          go_wp2
          go_ret
          exact ⟨ret_int (by rw [HC.out, Hj.out, if_neg Hxy.out]), q2 + nq, World.drewN_drewN _ _ _⟩
  · have hh : ((n : Int) != m) = true := by simp; omega
    have hL : cmpL xs ys = cmpI n m := by rw [cmpL, hn, hm, if_neg hnm]
    rw [hL]
    clear hL
    have Hnm := Lib.hid hnm; clear hnm
    go_enter Try.func151, Try.ntmps151
    go_wp2_with (go_at_call 161; refine (cmpCompare _ _ _).mono ?_; rintro e w' ⟨rfl, rfl⟩)
    go_ret
    exact ⟨rfl, 0, rfl⟩

end Go.Proofs.Ytkmmdajlbkbnmaa

namespace Go.Proofs.Ytkmmdajlbkbnmaa
open Go.RowKit Go.Joins

def inB (n lo hi : Int) : Bool := decide (lo ≤ n) && decide (n ≤ hi)
theorem inB_true {n lo hi : Int} (h : lo ≤ n) (h2 : n ≤ hi) : inB n lo hi = true := by simp [inB, h, h2]
theorem inB_lo {n lo hi : Int} (h : ¬ lo ≤ n) : inB n lo hi = false := by simp [inB]; omega
theorem inB_hi {n lo hi : Int} (h : ¬ n ≤ hi) : inB n lo hi = false := by simp [inB]; omega

set_option maxHeartbeats 400000 in
theorem iWithin (n lo hi : Int) (w : World) :
    Calls Try.prog 68 #[.int .i64 n, .int .i64 lo, .int .i64 hi] w fun e w' => e = .returned (.bool (inB n lo hi)) ∧ w' = w := by
  by_cases h1 : lo ≤ n
  · by_cases h2 : n ≤ hi
    · rw [inB_true h1 h2]
      go_enter Try.func68, Try.ntmps68
      go_wp2
      go_ret
      exact ⟨rfl, rfl⟩
    · rw [inB_hi h2]
      go_enter Try.func68, Try.ntmps68
      go_wp2
      go_ret
      exact ⟨rfl, rfl⟩
  · rw [inB_lo h1]
    go_enter Try.func68, Try.ntmps68
    go_wp2
    go_ret
    exact ⟨rfl, rfl⟩
set_option maxHeartbeats 400000 in
theorem sIn (n lo hi : Int) (w : World) :
    Calls Try.prog 62 #[.int .i64 n, .int .i64 lo, .int .i64 hi] w fun e w' => e = .returned (.bool (inB n lo hi)) ∧ w' = w := by
  by_cases h1 : lo ≤ n
  · by_cases h2 : n ≤ hi
    · rw [inB_true h1 h2]
      go_enter Try.func62, Try.ntmps62
      go_wp2
      go_ret
      exact ⟨rfl, rfl⟩
    · rw [inB_hi h2]
      go_enter Try.func62, Try.ntmps62
      go_wp2
      go_ret
      exact ⟨rfl, rfl⟩
  · rw [inB_lo h1]
    go_enter Try.func62, Try.ntmps62
    go_wp2
    go_ret
    exact ⟨rfl, rfl⟩

set_option maxHeartbeats 400000 in
theorem iNatOk1 (x : Int) (w : World) :
    Calls Try.prog 137 #[.int .i64 x] w fun e w' => e = .returned (.bool (!inB x 0 999999999)) ∧ w' = w := by
  go_enter Try.func137, Try.ntmps137
  go_wp2_with fail
  refine (iWithin _ _ _ _).mono ?_
  rintro e w1 ⟨rfl, rfl⟩
  go_wp2
  go_ret
  exact ⟨rfl, rfl⟩

namespace FE
theorem digB_take {l : List Int} {k : Nat} (hk : k < l.length) (h : digB (l.take k) = true) (hx : inB (l.getD k 0) 0 999999999 = true) : digB (l.take (k + 1)) = true := by
  rw [digB_iff] at h ⊢
  rw [List.take_succ_eq_append_getElem hk]
  have e : l[k] = l.getD k 0 := by simp [hk]
  rw [e]
  simp only [inB, Bool.and_eq_true, decide_eq_true_eq] at hx
  exact h.append (Dig.cons hx.1 (by omega) Dig.nil)
theorem digB_bad {l : List Int} {k : Nat} (hk : k < l.length) (hx : inB (l.getD k 0) 0 999999999 = false) : digB l = false := by
  cases h : digB l
  · rfl
  · have := (digB_iff.1 h).get k hk
    have e : l[k] = l.getD k 0 := by simp [hk]
    rw [e] at this
    simp only [inB, Bool.and_eq_false_iff, decide_eq_false_iff_not] at hx
    omega
theorem topB_last {l : List Int} {k : Nat} (h : l.length = k + 1) : topB l = (l.getD k 0 != 0) := by
  unfold topB
  rw [List.getLast?_eq_getElem?, h, Nat.add_sub_cancel]
  have hk : k < l.length := by omega
  simp [hk]
  rfl
theorem natOk_long {l : List Int} (h : 60 < l.length) : natOk l = false := by simp [natOk]; omega
theorem natOk_zero {l : List Int} {k : Nat} (h : l.length = k + 1) (h0 : l.getD k 0 = 0) : natOk l = false := by simp only [natOk, topB_last h, h0]; simp
theorem natOk_dig {l : List Int} {k : Nat} (h : l.length = k + 1) (hl : l.length ≤ 60) (h0 : l.getD k 0 ≠ 0) : natOk l = digB l := by simp only [natOk, topB_last h, hl, bne_iff_ne.2 h0]; simp
theorem natOk_bad {l : List Int} (h : digB l = false) : natOk l = false := by simp [natOk, h]
end FE

set_option maxHeartbeats 400000 in
theorem iIndex (xs : List Int) (n c : Nat) (hn : xs.length = n) (hn1 : n ≤ 4611686018427387904) (A : Option Addr) (w : World) (ha : RI w A xs) :
    Calls Try.prog 150 #[.slice A n c, .func (.func 137) #[] #[]] w fun e w' => ∃ r : Int, e = .returned (.int .i64 r) ∧ (FE.digB xs = !decide (0 ≤ r)) ∧ w' = w := by
  have HN := Lib.hid hn; clear hn
  go_enter Try.func150, Try.ntmps150
  go_wp2_with fail
  go_loop [8] (fun u => ∃ k : Nat, k ≤ n ∧ u = .int .i64 k ∧ FE.digB (xs.take k) = true) (fun u => n - (intOf u).toNat)
  case atStart => exact ⟨0, Nat.zero_le _, rfl, rfl⟩
  case round =>
    obtain ⟨k, hk, rfl, ht⟩ := hrel
    have HT := Lib.hid ht; clear ht
    by_cases hkn : k = n
    · subst hkn
      have h0 : decide ((k : Int) < (k : Int)) = false := by simp
      go_wp2
      go_ret
      refine ⟨-1, rfl, ?_, rfl⟩
      have := HT.out
      rw [List.take_of_length_le (by rw [HN.out]; exact Nat.le_refl _)] at this
      rw [this]; rfl
    · have hlt : (k : Int) < (n : Int) := by omega
      have hkl : k < xs.length := by rw [HN.out]; omega
      obtain ⟨b, off, rfl, hb, hc⟩ := ha (by intro h; subst h; simp at hkl)
      have e1 := hc k hkl
      have HB := Lib.hid (fun h => FE.digB_bad (l := xs) hkl h)
      have HG := Lib.hid (fun h => FE.digB_take (l := xs) hkl HT.out h)
      clear hc hkl
      generalize xs.getD k 0 = x at *
      have hC := fun W => iNatOk1 x W
      obtain ⟨q, hq⟩ : ∃ q, inB x 0 999999999 = q := ⟨_, rfl⟩
      simp only [hq] at hC
      rw [hq] at HB HG
      clear hq
      replace hC := Lib.hid hC
      cases q
      · have hF := HB.out rfl
        have HF := Lib.hid hF; clear hF
        go_wp2_with fail
        refine (hC.out _).mono ?_
        rintro e w1 ⟨rfl, rfl⟩
        go_wp2
        go_ret
        exact ⟨_, rfl, by rw [HF.out]; simp, rfl⟩
      · have hF := HG.out rfl
        have HF := Lib.hid hF; clear hF
        go_wp2_with fail
        refine (hC.out _).mono ?_
        rintro e w1 ⟨rfl, rfl⟩
        go_wp2
        go_round
        case rel => exact ⟨k + 1, by omega, rfl, HF.out⟩
        case measure => simp [intOf]; omega

set_option maxHeartbeats 400000 in
theorem iContains (xs : List Int) (n c : Nat) (hn : xs.length = n) (hn1 : n ≤ 4611686018427387904) (A : Option Addr) (w : World) (ha : RI w A xs) :
    Calls Try.prog 136 #[.slice A n c, .func (.func 137) #[] #[]] w fun e w' => e = .returned (.bool (!FE.digB xs)) ∧ w' = w := by
  go_enter Try.func136, Try.ntmps136
  go_wp2_with fail
  refine (iIndex xs n c hn hn1 A _ ha).mono ?_
  rintro e w1 ⟨r, rfl, hd, rfl⟩
  have HD := Lib.hid hd; clear hd
  go_wp2
  go_ret
  exact ⟨ret_bool (by rw [HD.out]; simp), rfl⟩

set_option maxHeartbeats 400000 in
theorem iNatOk (xs : List Int) (n c : Nat) (hn : xs.length = n) (hn1 : n ≤ 4611686018427387904) (A : Option Addr) (w : World) (ha : RI w A xs) :
    Calls Try.prog 123 #[.slice A n c] w fun e w' => e = .returned (.bool (FE.natOk xs)) ∧ w' = w := by
  by_cases h60 : n ≤ 60
  · cases n with
    | zero =>
      have hx : xs = [] := List.eq_nil_of_length_eq_zero hn
      subst hx
      have HC := Lib.hid (iContains [] 0 c rfl (by omega) A w ha)
      clear hn
      go_enter Try.func123, Try.ntmps123
      go_wp2_with fail
      refine HC.out.mono ?_
      rintro e w1 ⟨rfl, rfl⟩
      go_wp2
      go_ret
      exact ⟨rfl, rfl⟩
    | succ k =>
      have HC := Lib.hid (iContains xs (k + 1) c hn (by omega) A w ha)
      obtain ⟨b, off, rfl, hb, hc⟩ := ha (by intro h; subst h; simp at hn)
      have e1 := hc k (by omega)
      have z0 : (((k : Int) + 1) == 0) = false := by simp; omega
      have HN := Lib.hid hn
      clear hc hn
      by_cases hx0 : xs.getD k 0 = 0
      · have HF := Lib.hid (FE.natOk_zero HN.out hx0)
        rw [hx0] at e1
        clear hx0
        go_enter Try.func123, Try.ntmps123
        go_wp2
        go_ret
        exact ⟨ret_bool HF.out.symm, rfl⟩
      · have HF := Lib.hid (FE.natOk_dig HN.out (by rw [HN.out]; exact h60) hx0)
        generalize xs.getD k 0 = x at *
        have hx1 : (x != 0) = true := by simp [hx0]
        go_enter Try.func123, Try.ntmps123
        go_wp2_with fail
        refine HC.out.mono ?_
        rintro e w1 ⟨rfl, rfl⟩
        go_wp2
        go_ret
        exact ⟨ret_bool (by rw [HF.out]), rfl⟩
  · have HF := Lib.hid (FE.natOk_long (show 60 < xs.length by omega))
    clear hn
    go_enter Try.func123, Try.ntmps123
    go_wp2
    go_ret
    exact ⟨ret_bool HF.out.symm, rfl⟩

set_option maxHeartbeats 400000 in
theorem sNatOk (xs : List Int) (n c : Nat) (hn : xs.length = n) (hn1 : n ≤ 4611686018427387904) (A : Option Addr) (w : World) (ha : RI w A xs) :
    Calls Try.prog 119 #[.slice A n c] w fun e w' => e = .returned (.bool (FE.natOk xs)) ∧ w' = w := by
  have HN := Lib.hid hn; clear hn
  go_enter Try.func119, Try.ntmps119
  go_wp2_with fail
  go_loop [7] (fun u => ∃ k : Nat, k ≤ n ∧ u = .int .i64 k ∧ FE.digB (xs.take k) = true) (fun u => n - (intOf u).toNat)
  case atStart => exact ⟨0, Nat.zero_le _, rfl, rfl⟩
  case round =>
    obtain ⟨k, hk, rfl, ht⟩ := hrel
    have HT := Lib.hid ht; clear ht
    by_cases hkn : k = n
    · subst hkn
      have h0 : decide ((k : Int) < (k : Int)) = false := by simp
      have HD := Lib.hid (show FE.digB xs = true by have := HT.out; rwa [List.take_of_length_le (by rw [HN.out]; exact Nat.le_refl _)] at this)
      by_cases h60 : k ≤ 60
      · cases k with
        | zero =>
          have hx : xs = [] := List.eq_nil_of_length_eq_zero HN.out
          subst hx
          go_wp2
          go_ret
          exact ⟨rfl, rfl⟩
        | succ k =>
          obtain ⟨b, off, rfl, hb, hc⟩ := ha (by intro h; have := HN.out; rw [h] at this; simp at this)
          have e1 := hc k (by have := HN.out; omega)
          have z0 : (((k : Int) + 1) == 0) = false := by simp; omega
          clear hc
          by_cases hx0 : xs.getD k 0 = 0
          · have HF := Lib.hid (FE.natOk_zero HN.out hx0)
            rw [hx0] at e1
            clear hx0
            go_wp2
            go_ret
            exact ⟨ret_bool HF.out.symm, rfl⟩
          · have HF := Lib.hid (show FE.natOk xs = true by rw [FE.natOk_dig HN.out (by rw [HN.out]; exact h60) hx0]; exact HD.out)
            generalize xs.getD k 0 = x at *
            have hx1 : (x != 0) = true := by simp [hx0]
            go_wp2
            go_ret
            exact ⟨ret_bool HF.out.symm, rfl⟩
      · have HF := Lib.hid (FE.natOk_long (show 60 < xs.length by have := HN.out; omega))
        go_wp2
        go_ret
        exact ⟨ret_bool HF.out.symm, rfl⟩
    · have hlt : (k : Int) < (n : Int) := by omega
      have hkl : k < xs.length := by rw [HN.out]; omega
      obtain ⟨b, off, rfl, hb, hc⟩ := ha (by intro h; subst h; simp at hkl)
      have e1 := hc k hkl
      have HB := Lib.hid (fun h => FE.digB_bad (l := xs) hkl h)
      have HG := Lib.hid (fun h => FE.digB_take (l := xs) hkl HT.out h)
      clear hc hkl
      generalize xs.getD k 0 = x at *
      have hC := fun W => sIn x 0 999999999 W
      obtain ⟨q, hq⟩ : ∃ q, inB x 0 999999999 = q := ⟨_, rfl⟩
      simp only [hq] at hC
      rw [hq] at HB HG
      clear hq
      replace hC := Lib.hid hC
      cases q
      · have HF := Lib.hid (FE.natOk_bad (HB.out rfl))
        go_wp2_with fail
        refine (hC.out _).mono ?_
        rintro e w1 ⟨rfl, rfl⟩
        go_wp2
        go_ret
        exact ⟨ret_bool HF.out.symm, rfl⟩
      · have HF := Lib.hid (HG.out rfl)
        go_wp2_with fail
        refine (hC.out _).mono ?_
        rintro e w1 ⟨rfl, rfl⟩
        go_wp2
        go_round
        case rel => exact ⟨k + 1, by omega, rfl, HF.out⟩
        case measure => simp [intOf]; omega
end Go.Proofs.Ytkmmdajlbkbnmaa

namespace Go.Proofs.Ytkmmdajlbkbnmaa
namespace FE

theorem cmpAt_spec {xs ys : List Int} (hx : Dig xs) (hy : Dig ys) : ∀ k : Nat, k ≤ xs.length → k ≤ ys.length → cmpAt xs ys k = cmpI (val (xs.take k)) (val (ys.take k))
  | 0, _, _ => by simp [cmpAt, val, cmpI]
  | k + 1, h1, h2 => by
    have ih := cmpAt_spec hx hy k (by omega) (by omega)
    have ax := val_lt (hx.take k)
    have ay := val_lt (hy.take k)
    have bx := val_nonneg (hx.take k)
    have b_y := val_nonneg (hy.take k)
    rw [List.length_take, Nat.min_eq_left (by omega)] at ax ay
    rw [cmpAt, ih, val_take_succ', val_take_succ']
    generalize xs.getD k 0 = x
    generalize ys.getD k 0 = y
    have hb := bp_pos k
    split
    · rename_i h
      subst h
      unfold cmpI
      simp only [Int.add_lt_add_iff_right]
    · rename_i h
      unfold cmpI
      rcases Int.lt_or_le x y with hl | hl
      · have := Int.mul_le_mul_of_nonneg_left (show x + 1 ≤ y by omega) (show 0 ≤ bp k by omega)
        rw [Int.mul_add] at this
        rw [if_pos hl, if_pos (by omega)]
      · have hl' : y < x := by omega
        have := Int.mul_le_mul_of_nonneg_left (show y + 1 ≤ x by omega) (show 0 ≤ bp k by omega)
        rw [Int.mul_add] at this
        rw [if_neg (by omega), if_pos hl', if_neg (by omega), if_pos (by omega)]

theorem cmpL_spec {xs ys : List Int} (hx : Dig xs) (hxt : Top xs) (hy : Dig ys) (hyt : Top ys) : cmpL xs ys = cmpI (val xs) (val ys) := by
  unfold cmpL
  split
  · rename_i h
    rw [cmpAt_spec hx hy _ (Nat.le_refl _) (by omega), List.take_of_length_le (Nat.le_refl _), List.take_of_length_le (by omega)]
  · rename_i h
    rcases Nat.lt_or_ge xs.length ys.length with hl | hl
    · have h1 := val_lt hx
      have h2 := val_ge hy hyt (by intro e; subst e; simp at hl)
      have h3 := bp_mono (show xs.length ≤ ys.length - 1 by omega)
      unfold cmpI
      rw [if_pos (by omega), if_pos (by omega)]
    · have hl' : ys.length < xs.length := by omega
      have h1 := val_lt hy
      have h2 := val_ge hx hxt (by intro e; subst e; simp at hl')
      have h3 := bp_mono (show ys.length ≤ xs.length - 1 by omega)
      unfold cmpI
      rw [if_neg (by omega), if_pos (by omega), if_neg (by omega), if_pos (by omega)]

/-- The two highest limbs of n + 2 limbs. -/
theorem val_top2 {vs : List Int} {n : Nat} (h : vs.length = n + 2) : val vs = val (vs.take n) + bp n * (vs.getD (n + 1) 0 * 1000000000 + vs.getD n 0) := by
  have e : val vs = val (vs.take (n + 1 + 1)) := by rw [List.take_of_length_le (by omega)]
  rw [e, val_take_succ', val_take_succ', bp_mul_succ]; grind
theorem val_top3 {ws : List Int} {n : Nat} (h : ws.length = n + 3) : val ws = val (ws.take n) + bp n * ((ws.getD (n + 2) 0 * 1000000000 + ws.getD (n + 1) 0) * 1000000000 + ws.getD n 0) := by
  have e : val ws = val (ws.take (n + 1 + 1 + 1)) := by rw [List.take_of_length_le (by omega)]
  rw [e, val_take_succ', val_take_succ', val_take_succ', bp_mul_succ, bp_mul_succ, bp_mul_succ]; grind

/-- What a guessed digit q keeps: no greater digit fits. -/
def NoMore (W V q : Int) : Prop := ∀ t : Int, 0 ≤ t → t ≤ 999999999 → t * V ≤ W → t ≤ q

section digit
variable {W V P wl vl top u2 v1 v2 : Int}

theorem guess (hP : 0 < P) (hwl : wl < P) (hvl : 0 ≤ vl) (hW : W = wl + P * (top * 1000000000 + u2)) (hV : V = vl + P * (v1 * 1000000000 + v2)) (hu2 : u2 < 1000000000) (hv2 : 0 ≤ v2) (hv1 : 0 < v1) (_htop : 0 ≤ top) :
    NoMore W V (if 999999999 < top / v1 then 999999999 else top / v1) := by
  intro t h0 h1 h2
  have h3 : t * v1 ≤ top := by
    rcases Int.lt_or_le top (t * v1) with h | h
    · exfalso
      have e1 : t * (P * (v1 * 1000000000)) ≤ t * V := by
        refine Int.mul_le_mul_of_nonneg_left ?_ h0
        have : P * (v1 * 1000000000 + v2) = P * (v1 * 1000000000) + P * v2 := Int.mul_add _ _ _
        have := Int.mul_nonneg (show 0 ≤ P by omega) hv2
        omega
      have e2 : P * ((top + 1) * 1000000000) ≤ P * (t * v1 * 1000000000) := Int.mul_le_mul_of_nonneg_left (by omega) (by omega)
      have e3 : t * (P * (v1 * 1000000000)) = P * (t * v1 * 1000000000) := by grind
      have e4 : P * ((top + 1) * 1000000000) = P * (top * 1000000000 + u2) + P * (1000000000 - u2) := by grind
      have e5 : P * 1 ≤ P * (1000000000 - u2) := Int.mul_le_mul_of_nonneg_left (by omega) (by omega)
      omega
    · exact h
  have h4 : t ≤ top / v1 := (Int.le_ediv_iff_mul_le hv1).2 h3
  split <;> omega

theorem correct {q rest : Int} (hP : 0 < P) (hwl : wl < P) (hvl : 0 ≤ vl) (hW : W = wl + P * (top * 1000000000 + u2)) (hV : V = vl + P * (v1 * 1000000000 + v2)) (hr : rest = top - q * v1)
    (hno : NoMore W V q) (hc : rest * 1000000000 + u2 < q * v2) : NoMore W V (q - 1) := by
  intro t h0 h1 h2
  have h3 := hno t h0 h1 h2
  rcases Int.lt_or_le t q with h | h
  · omega
  · exfalso
    have e : t = q := by omega
    subst e
    have e1 : P * (t * (v1 * 1000000000 + v2)) ≤ t * V := by
      have := Int.mul_nonneg h0 hvl
      have e : t * V = P * (t * (v1 * 1000000000 + v2)) + t * vl := by rw [hV]; grind
      omega
    have e2 : P * (top * 1000000000 + u2 + 1) ≤ P * (t * (v1 * 1000000000 + v2)) := by
      refine Int.mul_le_mul_of_nonneg_left ?_ (by omega)
      have : t * (v1 * 1000000000 + v2) = t * v1 * 1000000000 + t * v2 := by grind
      omega
    have e3 : P * (top * 1000000000 + u2 + 1) = P * (top * 1000000000 + u2) + P := by grind
    omega

theorem leave {q rest : Int} (hP : 0 < P) (hwl : 0 ≤ wl) (hvl : vl < P) (hW : W = wl + P * (top * 1000000000 + u2)) (hV : V = vl + P * (v1 * 1000000000 + v2)) (hr : rest = top - q * v1) (hq0 : 0 ≤ q) (hq1 : q ≤ 999999999)
    (hv1 : 0 < v1) (hv2 : 0 ≤ v2 ∧ v2 < 1000000000) (hu2 : 0 ≤ u2) (hvl0 : 0 ≤ vl) (hc : 1000000000 ≤ rest ∨ q * v2 ≤ rest * 1000000000 + u2) : q * V ≤ W + V := by
  have h1 : q * (v1 * 1000000000 + v2) ≤ top * 1000000000 + u2 := by
    have e : q * (v1 * 1000000000 + v2) = q * v1 * 1000000000 + q * v2 := by grind
    rcases hc with h | h
    · have := Int.mul_le_mul_of_nonneg_left (show v2 ≤ 1000000000 by omega) hq0
      omega
    · omega
  have h2 : q * V ≤ P * (q * (v1 * 1000000000 + v2)) + q * P := by
    rw [hV, Int.mul_add]
    have := Int.mul_le_mul_of_nonneg_left (show vl ≤ P by omega) hq0
    have e : q * (P * (v1 * 1000000000 + v2)) = P * (q * (v1 * 1000000000 + v2)) := by grind
    omega
  have h3 := Int.mul_le_mul_of_nonneg_left h1 (show 0 ≤ P by omega)
  have h4 : q * P ≤ V := by
    have e1 : P * 1000000000 ≤ P * (v1 * 1000000000 + v2) := Int.mul_le_mul_of_nonneg_left (by omega) (by omega)
    have e2 : P * q ≤ P * 1000000000 := Int.mul_le_mul_of_nonneg_left (by omega) (by omega)
    rw [Int.mul_comm q P]
    omega
  omega

theorem noMore_lt {q : Int} (hq0 : 0 ≤ q) (hq1 : q ≤ 999999999) (hno : NoMore W V q) (hWV : W < V * 1000000000) : W < q * V + V := by
  rcases Int.lt_or_le W (q * V + V) with h | h
  · exact h
  · exfalso
    have e : (q + 1) * V = q * V + V := by grind
    by_cases hq : q = 999999999
    · subst hq; omega
    · have := hno (q + 1) (by omega) (by omega) (by omega)
      omega
end digit

end FE
end Go.Proofs.Ytkmmdajlbkbnmaa

namespace Go.Proofs.Ytkmmdajlbkbnmaa
open Go.RowKit

theorem trim_take (l : List Int) : FE.trim l = l.take (FE.trim l).length := by
  induction l with
  | nil => rfl
  | cons x l ih =>
    simp only [FE.trim]
    split
    · rfl
    · rw [List.length_cons, List.take_succ_cons, ← ih]
theorem trim_len (l : List Int) : (FE.trim l).length ≤ l.length := by
  have := congrArg List.length (trim_take l)
  rw [List.length_take] at this
  omega

theorem RO.of_trim {w : World} {base g c : Nat} {xs : List Int} (h : Arr w g c xs) (hb : base ≤ g) : RO w base (.slice (some ⟨g, 0, none⟩) (FE.trim xs).length c) (FE.trim xs) := by
  have hl := trim_len xs
  have h1 := h.len
  refine ⟨_, c, rfl, by omega, h1.2, fun _ => ⟨g, rfl, hb, ?_⟩⟩
  rw [trim_take xs]
  exact h.cut _

theorem trim_zero (xs : List Int) (j : Nat) (hj : j < xs.length) (h : xs.getD j 0 = 0) : FE.trim (xs.take (j + 1)) = FE.trim (xs.take j) := by
  rw [List.take_succ_eq_append_getElem hj]
  have : xs[j] = 0 := by simpa [hj] using h
  rw [this, FE.trim_snoc_zero]
theorem trim_ne (xs : List Int) (j : Nat) (hj : j < xs.length) (h : xs.getD j 0 ≠ 0) : (FE.trim (xs.take (j + 1))).length = j + 1 := by
  rw [List.take_succ_eq_append_getElem hj]
  have : xs[j] ≠ 0 := by simpa [hj] using h
  rw [FE.trim_snoc_ne _ this]
  simp; omega

set_option maxHeartbeats 400000 in
theorem trimmed_any (xs : List Int) (n c : Nat) (hn : xs.length = n) (hn1 : n ≤ 1073741824) (hnc : n ≤ c) (A : Option Addr) (w : World) (ha : RI w A xs) :
    Calls Try.prog 157 #[.slice A n c] w fun e w' => e = .returned (.slice A (FE.trim xs).length c) ∧ w' = w := by
  go_enter Try.func157, Try.ntmps157
  go_wp2_with fail
  go_loop [0] (fun v => ∃ k : Nat, k ≤ n ∧ v = .slice A k c ∧ FE.trim xs = FE.trim (xs.take k)) (fun v => match v with | .slice _ k _ => k | _ => 0)
  case atStart => exact ⟨n, Nat.le_refl _, rfl, by rw [List.take_of_length_le (by omega)]⟩
  case round =>
    obtain ⟨k, hk, rfl, ht⟩ := hrel
    have HT := Lib.hid ht; clear ht
    by_cases hk0 : k = 0
    · subst hk0
      have h0 : decide ((0 : Int) < ((0 : Nat) : Int)) = false := by simp
      go_wp2
      go_ret
      exact ⟨by rw [HT.out]; rfl, rfl⟩
    · obtain ⟨j, rfl⟩ := Nat.exists_eq_succ_of_ne_zero hk0
      obtain ⟨b, o, rfl, hb, hc⟩ := ha (by intro h; subst h; simp at hn; omega)
      have e1 := hc j (by omega)
      clear hc
      have h0 : (0 : Int) < ((j + 1 : Nat) : Int) := by omega
      by_cases hx : xs.getD j 0 = 0
      · have hz := trim_zero xs j (by omega) hx
        have HZ := Lib.hid hz; clear hz
        rw [hx] at e1
        clear hx
        go_wp2
        go_round
        case rel => exact ⟨j, by omega, rfl, by rw [HT.out]; exact HZ.out⟩
        case measure => simp
      · have hz := trim_ne xs j (by omega) hx
        have HZ := Lib.hid hz; clear hz
        generalize xs.getD j 0 = x at *
        have hx0 : (x == 0) = false := by simpa using hx
        have HX := Lib.hid hx; clear hx
        go_wp2
        go_ret
        exact ⟨by rw [HT.out, HZ.out]; rfl, rfl⟩

set_option maxHeartbeats 400000 in
theorem clone_any (xs : List Int) (n c : Nat) (hn : xs.length = n) (hn1 : n ≤ 1073741824) (A : Option Addr) (w : World) (ha : RI w A xs) :
    Calls Try.prog 107 #[.slice A n c] w fun e w' => ∃ v, e = .returned v ∧ RO w' w.heap.size v xs ∧ Below w.heap.size w w' := by
  have hnil := fun (W : World) (a : Option Addr) (l k : Nat) => Lib.run_eql_slice_nil (P := Try.prog) W 80 3 a l k 0 0 Try.underlying80
  by_cases hA : A = none
  · subst hA
    have hx : xs = [] := by
      by_cases h : xs = []
      · exact h
      · obtain ⟨b, o, h1, _⟩ := ha h
        cases h1
    subst hx
    go_enter Try.func107, Try.ntmps107
    go_wp2
    go_ret
    exact ⟨_, rfl, RO.nil _ _ _ _ (Nat.zero_le _), Below.refl _ _⟩
  · obtain ⟨ad, rfl⟩ := Option.ne_none_iff_exists'.1 hA
    go_enter Try.func107, Try.ntmps107
    go_wp2_with (at_builtin; refine appendAll rfl _ _ _ rfl Try.underlying80 Try.intInfo w.heap.size _ [] rfl (OI.of_arr (g := w.heap.size) (cap := 0) ⟨[], rfl, Nat.zero_le _, heap_alloc_new _ _⟩ (Nat.le_refl _)) _ xs n c rfl hn (ha.alloc _) (by simp; omega) (by simp) ?_)
    intro v' w1 hown hb1
    go_wp2
    go_ret
    exact ⟨_, rfl, RO.of_own hown, ((Below.refl _ _).alloc (Nat.le_refl _) _).trans hb1⟩

end Go.Proofs.Ytkmmdajlbkbnmaa

namespace Go.Proofs.Ytkmmdajlbkbnmaa
open Go.RowKit

set_option maxHeartbeats 800000 in
theorem divSmall_any (xs : List Int) (n c : Nat) (d : Int) (hn : xs.length = n) (hn1 : n ≤ 1048576) (hxd : FE.Dig xs) (hd0 : 0 < d) (hd1 : d ≤ 1000000000)
    (A : Option Addr) (w : World) (ha : RI w A xs) :
    Calls Try.prog 152 #[.slice A n c, .int .i64 d] w fun e w' => ∃ v, e = .returned (.tuple #[v, .int .i64 (FE.val xs % d)]) ∧ RO w' w.heap.size v (FE.toL (FE.val xs / d).toNat) ∧ Below w.heap.size w w' := by
  go_enter Try.func152, Try.ntmps152
  go_wp2_with (at_make; refine makeInts rfl _ _ _ rfl Try.underlying80 Try.intInfo n n _ _ rfl rfl rfl rfl (Nat.le_refl _) (by omega) ?_; intro harr0)
  go_loopw [7, 8] (fun r i wr => ∃ (k : Nat) (zs : List Int) (q : Int), k ≤ n ∧ i = .int .i64 ((k : Int) - 1) ∧ r = .int .i64 q ∧ 0 ≤ q ∧ q < d ∧ zs.length = n ∧ FE.Dig zs ∧ (∀ j, j < k → zs.getD j 0 = 0) ∧
      FE.val xs = d * FE.val zs + FE.bp k * q + FE.val (xs.take k) ∧ Arr wr w.heap.size n zs ∧ Below w.heap.size w wr) (fun _ i _ => (intOf i + 1).toNat)
  case atStart => exact ⟨n, List.replicate n 0, 0, Nat.le_refl _, rfl, rfl, by omega, hd0, by simp, FE.Dig.replicate n, fun j hj => by simp [hj], by rw [FE.val_replicate, List.take_of_length_le (by omega)]; simp, harr0, (Below.refl _ _).alloc (Nat.le_refl _) _⟩
  case round =>
    obtain ⟨k, zs, q, hk, rfl, rfl, hq0, hq1, hz, hzd, hzz, hv, harr, hbel⟩ := hrel
    have HZ := Lib.hid hz; clear hz
    have HV := Lib.hid hv; clear hv
    have HZZ := Lib.hid hzz; clear hzz
    clear harr0
    by_cases hk0 : k = 0
    · subst hk0
      have hfin : FE.val xs = d * FE.val zs + q := by have := HV.out; simp [FE.bp_zero, FE.val] at this; exact this
      have hz0 := FE.val_nonneg hzd
      have hq : FE.val xs / d = FE.val zs := by
        rw [hfin, Int.add_comm, Int.add_mul_ediv_left _ _ (by omega), Int.ediv_eq_zero_of_lt hq0 hq1]; omega
      have hr : FE.val xs % d = q := by rw [hfin, Int.add_comm, Int.add_mul_emod_self_left]; exact Int.emod_eq_of_lt hq0 hq1
      have ht : FE.trim zs = FE.toL (FE.val xs / d).toNat := FE.trim_eq hzd (by rw [hq]; omega)
      have HR := Lib.hid hr
      have HT := Lib.hid ht
      clear hfin hq hr ht
      go_wp2_with (go_at_call 157; refine (trimmed_any zs n n HZ.out (by omega) (Nat.le_refl _) _ _ harr.reads).mono ?_; rintro e w' ⟨rfl, rfl⟩)
      go_ret2
      refine ⟨_, by rw [HR.out]; rfl, ?_, hbel⟩
      rw [← HT.out]
      exact RO.of_trim harr (Nat.le_refl _)
    · obtain ⟨j, rfl⟩ := Nat.exists_eq_succ_of_ne_zero hk0
      obtain ⟨b1, o1, rfl, hb1, hc1⟩ := ha (by intro h; subst h; simp at hn; omega)
      have e1 := (hbel.cell (p := ⟨b1, o1 + j, none⟩) hb1).trans (hc1 j (by omega))
      have hzl := HZ.out
      have e2 := harr.cell j (by omega)
      have e3 := harr.frozen j
      have hstep := FE.divStep hd0 hq0 hq1 hxd (by omega) (hzl.trans hn.symm) hzd (HZZ.out j (by omega)) HV.out rfl
      have hx := hxd.getD j
      clear hc1 hzl
      generalize hxe : xs.getD j 0 = x at *
      generalize hye : zs.getD j 0 = y at *
      have hs1 := hstep.1
      have hs2 := hstep.2.1
      have hm0 := Int.emod_nonneg (q * 1000000000 + x) (show d ≠ 0 by omega)
      have hm1 := Int.emod_lt_of_pos (q * 1000000000 + x) hd0
      have HS := Lib.hid hstep; clear hstep hxe hye
      go_wp2
      go_roundw
      case rel =>
        refine ⟨j, zs.set j ((q * 1000000000 + x) / d), _, by omega, by go_num, rfl, hm0, hm1, by simp; exact HZ.out, HS.out.2.2.1, ?_, HS.out.2.2.2, harr.set j (by have := HZ.out; omega) _, hbel.setCell (Nat.le_refl _) _⟩
        intro j' hj'
        rw [FE.getD_set, if_neg (by omega)]
        exact HZZ.out j' (by omega)
      case measure => simp [intOf]

set_option maxHeartbeats 800000 in
theorem scaled_any (xs : List Int) (n c N : Nat) (by_ : Int) (hn : xs.length = n) (hn1 : n ≤ 1048576) (hN : N ≤ 1048576) (hxd : FE.Dig xs) (hb0 : 0 ≤ by_) (hb1 : by_ < 1000000000)
    (A : Option Addr) (w : World) (ha : RI w A xs) :
    Calls Try.prog 154 #[.slice A n c, .int .i64 by_, .int .i64 N] w fun e w' => ∃ (g : Nat) (zs : List Int) (cy : Int), e = .returned (.slice (some ⟨g, 0, none⟩) N N) ∧ w.heap.size ≤ g ∧ Arr w' g N zs ∧ zs.length = N ∧
      FE.Dig zs ∧ 0 ≤ cy ∧ FE.val zs + FE.bp N * cy = FE.val (xs.take N) * by_ ∧ Below w.heap.size w w' := by
  go_enter Try.func154, Try.ntmps154
  go_wp2_with (at_make; refine makeInts rfl _ _ _ rfl Try.underlying80 Try.intInfo N N _ _ rfl rfl rfl rfl (Nat.le_refl _) (by omega) ?_; intro harr0)
  go_loopw [8, 15] (fun r i wr => ∃ (k : Nat) (zs : List Int) (cy : Int), k ≤ N ∧ i = .int .i64 k ∧ r = .int .i64 cy ∧ 0 ≤ cy ∧ cy ≤ by_ ∧ zs.length = N ∧ FE.Dig zs ∧ (∀ j, k ≤ j → zs.getD j 0 = 0) ∧
      FE.val zs + FE.bp k * cy = FE.val (xs.take k) * by_ ∧ Arr wr w.heap.size N zs ∧ Below w.heap.size w wr) (fun _ i _ => N - (intOf i).toNat)
  case atStart => exact ⟨0, List.replicate N 0, 0, Nat.zero_le _, rfl, rfl, by omega, hb0, by simp, FE.Dig.replicate N, by intro j _; by_cases h : j < N <;> simp [h], by rw [FE.val_replicate]; simp [FE.val], harr0, (Below.refl _ _).alloc (Nat.le_refl _) _⟩
  case round =>
    obtain ⟨k, zs, cy, hk, rfl, rfl, hq0, hq1, hz, hzd, hzz, hv, harr, hbel⟩ := hrel
    have HZ := Lib.hid hz; clear hz
    have HV := Lib.hid hv; clear hv
    have HZZ := Lib.hid hzz; clear hzz
    clear harr0
    by_cases hkN : k < N
    · have hzl := HZ.out
      have e2 := harr.cell k (by omega)
      have e3 := harr.frozen k
      have hstep := FE.scaleStep (xs := xs) hzd (by omega) (HZZ.out k (Nat.le_refl _)) hq0 hq1 hb1 hxd HV.out rfl
      have hx := hxd.getD k
      have hm := FE.mul_bound hx ⟨hb0, by omega⟩
      clear hzl
      generalize hye : zs.getD k 0 = y at *
      by_cases hkn : k < n
      · obtain ⟨b1, o1, rfl, hb1', hc1⟩ := ha (by intro h; subst h; simp at hn; omega)
        have e1 := (hbel.cell (p := ⟨b1, o1 + k, none⟩) hb1').trans (hc1 k (by omega))
        clear hc1
        generalize hxe : xs.getD k 0 = x at *
        have HS := Lib.hid hstep; clear hstep hxe hye
        go_wp2
        go_roundw
        case rel =>
          refine ⟨k + 1, zs.set k _, _, by omega, by go_num, rfl, HS.out.2.2.1, HS.out.2.2.2, by simp; exact HZ.out, HS.out.1, ?_, HS.out.2.1, harr.set k (by have := HZ.out; omega) _, hbel.setCell (Nat.le_refl _) _⟩
          intro j' hj'
          rw [FE.getD_set, if_neg (by omega)]
          exact HZZ.out j' (by omega)
        case measure => simp [intOf]; omega
      · have hx0 : xs.getD k 0 = 0 := by simp [List.getElem?_eq_none (show xs.length ≤ k by omega)]
        rw [hx0] at hstep hm
        simp only [Int.zero_mul, Int.add_zero] at hstep
        clear hx0 hm hx
        have HS := Lib.hid hstep; clear hstep hye
        go_wp2
        go_roundw
        case rel =>
          refine ⟨k + 1, zs.set k _, _, by omega, by go_num, rfl, HS.out.2.2.1, HS.out.2.2.2, by simp; exact HZ.out, HS.out.1, ?_, HS.out.2.1, harr.set k (by have := HZ.out; omega) _, hbel.setCell (Nat.le_refl _) _⟩
          intro j' hj'
          rw [FE.getD_set, if_neg (by omega)]
          exact HZZ.out j' (by omega)
        case measure => simp [intOf]; omega
    · have hkN' : k = N := by omega
      subst hkN'
      go_wp2
      go_ret
      exact ⟨_, zs, cy, rfl, Nat.le_refl _, harr, HZ.out, hzd, hq0, HV.out, hbel⟩

end Go.Proofs.Ytkmmdajlbkbnmaa
