/-
  Plain mathematics: fractions as the program and the reference keep them, and their arithmetic. No program in sight.
  Fractions that a call has made: their parts lie apart.
  Marks: what a call may turn, vectors of a call's own by their parts, and what they hold behind a mark. No program in sight.
  Walks: the law's marks on slices of ints, and whether they are held.
  Walks: the law's marks on fractions and vectors, and whether they are held.
  Walks: the law's marks on matrices.
  Walks: whether a vector holds the law's marks.
  Walks: comparison of matrices by the reference.
  Marks in a law: what stays while a copy or a result is marked.
-/
import Derived.Test.YtkmmdajlbkbnmaaGreatK1
import Derived.Test.YtkmmdajlbkbnmaaGreatK2
namespace Go.Proofs.YtkmmdajlbkbnmaaGreat
namespace FE

/-- The value of a list of limbs, as a natural number. -/
def nv (l : List Int) : Nat := (val l).toNat
theorem nv_toL (n : Nat) : nv (toL n) = n := by rw [nv, val_toL, Int.toNat_natCast]
theorem nv_nil : nv [] = 0 := rfl
def digB (l : List Int) : Bool := l.all fun x => decide (0 ≤ x) && decide (x < 1000000000)
theorem digB_iff {l : List Int} : digB l = true ↔ Dig l := by simp [digB, Dig]
def topB (l : List Int) : Bool := l.getLast? != some 0
theorem topB_iff {l : List Int} : topB l = true ↔ Top l := by
  unfold topB Top
  cases l with
  | nil => simp
  | cons x l => rw [List.getLast?_eq_some_getLast (by simp)]; simp
/-- Whether a list of ints is a natural number of the program. -/
def natOk (l : List Int) : Bool := decide (l.length ≤ 60) && (topB l && digB l)
theorem natOk_iff {l : List Int} : natOk l = true ↔ NatOk l := by
  simp only [natOk, NatOk, digB_iff, topB_iff, Bool.and_eq_true, decide_eq_true_eq]
  exact ⟨fun ⟨a, b, c⟩ => ⟨a, c, b⟩, fun ⟨a, b, c⟩ => ⟨a, c, b⟩⟩
theorem toL_nv {l : List Int} (h : natOk l = true) : toL (nv l) = l := toL_val (natOk_iff.1 h).2.1 (natOk_iff.1 h).2.2
theorem natOk_len {l : List Int} (h : natOk l = true) : l.length ≤ 60 := (natOk_iff.1 h).1
theorem natOk_of_toL {n : Nat} (h : (toL n).length ≤ 60) : natOk (toL n) = true := natOk_iff.2 ⟨h, toL_dig n, toL_top n⟩
theorem natOk_nil : natOk [] = true := by decide
def bigOk (s : Bool) (l : List Int) : Bool := natOk l && (!s || !l.isEmpty)
/-- Whether a fraction is valid. -/
def ratOk (r : RatD) : Bool := (bigOk r.neg r.mag && (natOk r.den && !r.den.isEmpty)) && ((decide (r.mag.length ≤ 24) && decide (r.den.length ≤ 24)) && Nat.gcd (nv r.mag) (nv r.den) == 1)

/-- A fraction of a sign and two natural numbers. -/
def mkR (s : Bool) (p q : Nat) : RatD := ⟨s && decide (p ≠ 0), toL p, toL q⟩
/-- Numbers with few limbs. -/
def few (p : Nat) : Bool := decide ((toL p).length ≤ 24)
/-- The fraction p/q in lowest terms; the zero value if there is none. -/
def low (s : Bool) (p q : Nat) : RatD :=
  if q = 0 then zR else if few (p / Nat.gcd p q) && few (q / Nat.gcd p q) then mkR s (p / Nat.gcd p q) (q / Nat.gcd p q) else zR

structure OkR (r : RatD) (p q : Nat) : Prop where
  mag : r.mag = toL p
  den : r.den = toL q
  p0 : r.neg = true → p ≠ 0
  q0 : q ≠ 0
  pl : (toL p).length ≤ 24
  ql : (toL q).length ≤ 24
  gcd : Nat.gcd p q = 1

theorem ratOk_iff {r : RatD} : ratOk r = true ↔ OkR r (nv r.mag) (nv r.den) := by
  constructor
  · intro h
    simp only [ratOk, bigOk, Bool.and_eq_true, decide_eq_true_eq, beq_iff_eq, Bool.or_eq_true, Bool.not_eq_true', List.isEmpty_eq_false_iff] at h
    obtain ⟨⟨⟨h1, h2⟩, h3, h4⟩, ⟨h5, h6⟩, h7⟩ := h
    have e1 := toL_nv h1
    have e2 := toL_nv h3
    refine ⟨e1.symm, e2.symm, fun hs h0 => ?_, fun h0 => h4 ?_, by rw [e1]; exact h5, by rw [e2]; exact h6, h7⟩
    · rcases h2 with h2 | h2
      · rw [h2] at hs; cases hs
      · rw [h0, toL_zero] at e1; exact h2 e1.symm
    · rw [h0, toL_zero] at e2; exact e2.symm
  · intro h
    have l1 : r.mag.length ≤ 24 := by rw [h.mag]; exact h.pl
    have l2 : r.den.length ≤ 24 := by rw [h.den]; exact h.ql
    have n1 : natOk r.mag = true := by rw [h.mag]; exact natOk_of_toL (by have := h.pl; omega)
    have n2 : natOk r.den = true := by rw [h.den]; exact natOk_of_toL (by have := h.ql; omega)
    have hd : r.den ≠ [] := by rw [h.den]; intro e; exact h.q0 (toL_eq_nil.1 e)
    have hm : r.neg = true → r.mag ≠ [] := by intro hs; rw [h.mag]; intro e; exact h.p0 hs (toL_eq_nil.1 e)
    simp only [ratOk, bigOk, Bool.and_eq_true, decide_eq_true_eq, beq_iff_eq, Bool.or_eq_true, Bool.not_eq_true', List.isEmpty_eq_false_iff]
    refine ⟨⟨⟨n1, ?_⟩, n2, hd⟩, ⟨l1, l2⟩, h.gcd⟩
    cases hs : r.neg
    · exact .inl rfl
    · exact .inr (hm hs)

theorem OkR.ok {r : RatD} {p q : Nat} (h : OkR r p q) : ratOk r = true := by
  refine ratOk_iff.2 ?_
  have e1 : nv r.mag = p := by rw [h.mag, nv_toL]
  have e2 : nv r.den = q := by rw [h.den, nv_toL]
  rw [e1, e2]; exact h
theorem OkR.eq {r : RatD} {p q : Nat} (h : OkR r p q) : r = mkR r.neg p q := by
  obtain ⟨s, m, d⟩ := r
  have h1 := h.mag
  have h2 := h.den
  have h3 := h.p0
  simp only at h1 h2 h3
  subst h1 h2
  cases s
  · rfl
  · simp [mkR, h3 rfl]
theorem OkR.nmag {r : RatD} {p q : Nat} (h : OkR r p q) : nv r.mag = p := by rw [h.mag, nv_toL]
theorem OkR.nden {r : RatD} {p q : Nat} (h : OkR r p q) : nv r.den = q := by rw [h.den, nv_toL]

theorem zR_not : ratOk zR = false := by decide
theorem low_ok (s : Bool) (p q : Nat) : low s p q = zR ∨ OkR (low s p q) (p / Nat.gcd p q) (q / Nat.gcd p q) := by
  unfold low
  split
  · exact .inl rfl
  · rename_i hq
    split
    · rename_i h
      simp only [few, Bool.and_eq_true, decide_eq_true_eq] at h
      have hg : 0 < Nat.gcd p q := Nat.gcd_pos_of_pos_right _ (by omega)
      refine .inr ⟨rfl, rfl, ?_, ?_, h.1, h.2, ?_⟩
      · intro hs h0
        simp only [mkR, h0] at hs
        simp at hs
      · intro h0
        have := Nat.le_of_dvd (by omega) (Nat.gcd_dvd_right p q)
        have := Nat.div_pos this hg
        omega
      · rw [Nat.gcd_div (Nat.gcd_dvd_left p q) (Nat.gcd_dvd_right p q)]
        exact Nat.div_self hg
    · exact .inl rfl
/-- A result: valid or the zero value. -/
def Res (r : RatD) : Prop := r = zR ∨ ratOk r = true
theorem low_res (s : Bool) (p q : Nat) : Res (low s p q) := (low_ok s p q).imp id OkR.ok
theorem Res.den {r : RatD} (h : Res r) : (r.den.length == 0) = !ratOk r := by
  rcases h with rfl | h
  · decide
  · rw [h]
    have h' := ratOk_iff.1 h
    have : r.den ≠ [] := by rw [h'.den]; intro e; exact h'.q0 (toL_eq_nil.1 e)
    simpa using this

/-- The numerator as an integer. -/
def num (r : RatD) : Int := if r.neg then -(nv r.mag : Int) else nv r.mag
def lowI (n : Int) (q : Nat) : RatD := low (decide (n < 0)) n.natAbs q
def radd (r s : RatD) : RatD := if ratOk r && ratOk s then lowI (num r * nv s.den + num s * nv r.den) (nv r.den * nv s.den) else zR
def rsub (r s : RatD) : RatD := if ratOk r && ratOk s then lowI (num r * nv s.den - num s * nv r.den) (nv r.den * nv s.den) else zR
def rmul (r s : RatD) : RatD := if ratOk r && ratOk s then lowI (num r * num s) (nv r.den * nv s.den) else zR
def rdiv (r s : RatD) : RatD := if ratOk r && ratOk s then low (r.neg != s.neg) (nv r.mag * nv s.den) (nv r.den * nv s.mag) else zR
def rneg (r : RatD) : RatD := if ratOk r then mkR (!r.neg) (nv r.mag) (nv r.den) else zR
def rsign (r : RatD) : Int := if ratOk r then (if r.mag.isEmpty then 0 else if r.neg then -1 else 1) else 0
def rint (n : Int) : RatD := ⟨decide (n < 0), toL n.natAbs, [1]⟩
theorem radd_res (r s : RatD) : Res (radd r s) := by unfold radd; split; exact low_res _ _ _; exact .inl rfl
theorem rsub_res (r s : RatD) : Res (rsub r s) := by unfold rsub; split; exact low_res _ _ _; exact .inl rfl
theorem rmul_res (r s : RatD) : Res (rmul r s) := by unfold rmul; split; exact low_res _ _ _; exact .inl rfl
theorem rdiv_res (r s : RatD) : Res (rdiv r s) := by unfold rdiv; split; exact low_res _ _ _; exact .inl rfl
theorem radd_bad1 {r s : RatD} (h : ratOk r = false) : radd r s = zR := by simp [radd, h]
theorem radd_bad2 {r s : RatD} (h : ratOk s = false) : radd r s = zR := by simp [radd, h]
theorem rmul_bad1 {r s : RatD} (h : ratOk r = false) : rmul r s = zR := by simp [rmul, h]
theorem rmul_bad2 {r s : RatD} (h : ratOk s = false) : rmul r s = zR := by simp [rmul, h]

end FE
end Go.Proofs.YtkmmdajlbkbnmaaGreat

namespace Go.Proofs.YtkmmdajlbkbnmaaGreat
open Go.RowKit Go.Joins

/-- Two slices that are not empty lie in different blocks. -/
def Apart (u v : Value) : Prop := ∀ a n c b m d, u = .slice (some a) n c → v = .slice (some b) m d → n ≠ 0 → m ≠ 0 → a.block ≠ b.block
theorem Apart.symm {u v : Value} (h : Apart u v) : Apart v u := fun a n c b m d h1 h2 h3 h4 e => h b m d a n c h2 h1 h4 h3 e.symm
theorem Apart.nil (A : Option Addr) (c : Nat) (v : Value) : Apart (.slice A 0 c) v := fun a n c' b m d h1 _ h3 _ => by
  injection h1 with _ h1 _
  exact absurd h1.symm h3
theorem apart_of {w1 w2 : World} {b1 b2 : Nat} {u v : Value} {xs ys : List Int} (h1 : RO w1 b1 u xs) (h2 : RO w2 b2 v ys) (h : w1.heap.size ≤ b2) : Apart u v := by
  rintro a n c b m d rfl rfl hn hm
  obtain ⟨A, c1, e1, _, _, g1⟩ := h1
  obtain ⟨B, c2, e2, _, _, g2⟩ := h2
  injection e1 with ea en _
  injection e2 with eb em _
  obtain ⟨g, rfl, _, ha⟩ := g1 (by intro h0; rw [h0] at en; exact hn en)
  obtain ⟨g', rfl, hg', _⟩ := g2 (by intro h0; rw [h0] at em; exact hm em)
  injection ea with ea
  injection eb with eb
  subst ea eb
  have := ha.lt
  simp
  omega

/-- A fraction of the call's own whose parts lie apart. -/
def RatP (w : World) (base : Nat) (v : Value) (r : RatD) : Prop := ∃ va vb, v = .agg #[.bool r.neg, va, vb] ∧ RO w base va r.mag ∧ RO w base vb r.den ∧ Apart va vb
theorem RatP.reads {w : World} {base : Nat} {v : Value} {r : RatD} (h : RatP w base v r) : RatV w v r := by
  obtain ⟨va, vb, rfl, h1, h2, _⟩ := h
  exact RatO.reads ⟨va, vb, rfl, h1, h2⟩
theorem RatP.own {w : World} {base : Nat} {v : Value} {r : RatD} (h : RatP w base v r) : RatO w base v r := by
  obtain ⟨va, vb, rfl, h1, h2, _⟩ := h
  exact ⟨va, vb, rfl, h1, h2⟩
theorem RatP.later {w w' : World} {base : Nat} {v : Value} {r : RatD} (h : RatP w base v r) (hb : Below w.heap.size w w') : RatP w' base v r := by
  obtain ⟨va, vb, rfl, h1, h2, h3⟩ := h
  exact ⟨va, vb, rfl, h1.later hb, h2.later hb, h3⟩
theorem RatP.mono {w : World} {base base' : Nat} {v : Value} {r : RatD} (h : RatP w base v r) (hb : base' ≤ base) : RatP w base' v r := by
  obtain ⟨va, vb, rfl, h1, h2, h3⟩ := h
  exact ⟨va, vb, rfl, h1.mono hb, h2.mono hb, h3⟩
theorem RatP.far {w : World} {base : Nat} {v : Value} {r : RatD} (h : RatP w base v r) {p : Addr} (hp : p.block < base) (u : Value) : RatP (w.setCell p u) base v r := by
  obtain ⟨va, vb, rfl, h1, h2, h3⟩ := h
  exact ⟨va, vb, rfl, h1.far hp u, h2.far hp u, h3⟩
theorem RatP.zero (w : World) (base : Nat) : RatP w base (.agg #[.bool false, .slice none 0 0, .slice none 0 0]) zR :=
  ⟨_, _, rfl, RO.nil _ _ _ _ (Nat.zero_le _), RO.nil _ _ _ _ (Nat.zero_le _), Apart.nil _ _ _⟩
theorem RatP.form {w : World} {base : Nat} {v : Value} {r : RatD} (h : RatP w base v r) : ∃ A c B d, v = .agg #[.bool r.neg, .slice A r.mag.length c, .slice B r.den.length d] ∧ (r.mag.length ≤ c ∧ c ≤ maxLen ∧ r.den.length ≤ d ∧ d ≤ maxLen) := by
  obtain ⟨va, vb, rfl, h1, h2, _⟩ := h
  obtain ⟨A, c, rfl, hl, hc, _⟩ := h1
  obtain ⟨B, d, rfl, hm, hd, _⟩ := h2
  exact ⟨A, c, B, d, rfl, ⟨hl, hc, hm, hd⟩⟩
theorem RatP.mk' {w : World} {base : Nat} {va vb : Value} {s : Bool} {r : RatD} (hs : r.neg = s) (h1 : RO w base va r.mag) (h2 : RO w base vb r.den) (h3 : Apart va vb) : RatP w base (.agg #[.bool s, va, vb]) r := by
  subst hs; exact ⟨va, vb, rfl, h1, h2, h3⟩
/-- A signed number of the call's own. -/
def BigO (w : World) (base : Nat) (v : Value) (s : Bool) (xs : List Int) : Prop := ∃ va, v = .agg #[.bool s, va] ∧ RO w base va xs
theorem BigO.later {w w' : World} {base : Nat} {v : Value} {s : Bool} {xs : List Int} (h : BigO w base v s xs) (hb : Below w.heap.size w w') : BigO w' base v s xs := by
  obtain ⟨va, rfl, h1⟩ := h
  exact ⟨va, rfl, h1.later hb⟩
/-- A signed number as a value. -/
def BigV (w : World) (v : Value) (s : Bool) (xs : List Int) : Prop := ∃ A c, v = .agg #[.bool s, .slice A xs.length c] ∧ xs.length ≤ c ∧ c ≤ maxLen ∧ RI w A xs
theorem BigV.later {w w' : World} {v : Value} {s : Bool} {xs : List Int} (h : BigV w v s xs) (hb : Below w.heap.size w w') : BigV w' v s xs := by
  obtain ⟨A, c, rfl, h1, h2, h3⟩ := h
  exact ⟨A, c, rfl, h1, h2, h3.later hb⟩
theorem BigO.reads {w : World} {base : Nat} {v : Value} {s : Bool} {xs : List Int} (h : BigO w base v s xs) : BigV w v s xs := by
  obtain ⟨va, rfl, h1⟩ := h
  obtain ⟨A, c, rfl, hl, hc, _⟩ := id h1
  exact ⟨A, c, rfl, hl, hc, h1.reads⟩
end Go.Proofs.YtkmmdajlbkbnmaaGreat

namespace Go.Proofs.YtkmmdajlbkbnmaaGreat
open Go.RowKit Go.Joins Go.Deep

/-- The block of a slice that is not empty. -/
def blk : Value → Option Nat
  | .slice (some a) n _ => if n = 0 then none else some a.block
  | _ => none
theorem blk_slice {a : Addr} {n c : Nat} (h : n ≠ 0) : blk (.slice (some a) n c) = some a.block := if_neg h
theorem blk_nil {A : Option Addr} {c : Nat} : blk (.slice A 0 c) = none := by cases A <;> rfl
theorem Apart.ne_blk {u v : Value} (h : Apart u v) {g k : Nat} (hg : blk u = some g) (hk : blk v = some k) : g ≠ k := by
  unfold blk at hg hk
  split at hg
  · rename_i a n c
    split at hk
    · rename_i b m d
      split at hg
      · cases hg
      · rename_i hn
        split at hk
        · cases hk
        · rename_i hm
          injection hg with hg
          injection hk with hk
          subst hg hk
          exact h a n c b m d rfl rfl hn hm
    · cases hk
  · cases hg

/-- Of what was there, only blocks of S have turned. -/
structure Frame (S : Nat → Prop) (w w' : World) : Prop where
  os : w'.os = w.os
  tape : w'.tape = w.tape
  output : w'.output = w.output
  size : w.heap.size ≤ w'.heap.size
  block : ∀ b, b < w.heap.size → ¬ S b → w'.heap[b]? = w.heap[b]?
theorem Frame.refl (S : Nat → Prop) (w : World) : Frame S w w := ⟨rfl, rfl, rfl, Nat.le_refl _, fun _ _ _ => rfl⟩
theorem Frame.trans {S : Nat → Prop} {a b c : World} (h : Frame S a b) (k : Frame S b c) : Frame S a c :=
  ⟨k.os.trans h.os, k.tape.trans h.tape, k.output.trans h.output, Nat.le_trans h.size k.size, fun i hi hs => (k.block i (Nat.lt_of_lt_of_le hi h.size) hs).trans (h.block i hi hs)⟩
theorem Frame.mono {S S' : Nat → Prop} {w w' : World} (h : Frame S w w') (hs : ∀ b, S b → S' b) : Frame S' w w' :=
  ⟨h.os, h.tape, h.output, h.size, fun b hb hn => h.block b hb (fun k => hn (hs b k))⟩
theorem Frame.of_below {S : Nat → Prop} {w w' : World} (h : Below w.heap.size w w') : Frame S w w' := ⟨h.os, h.tape, h.output, h.size, fun b hb _ => h.block b hb⟩
theorem Frame.to_below {S : Nat → Prop} {w w' : World} {B : Nat} (h : Frame S w w') (hB : B ≤ w.heap.size) (hs : ∀ b, b < B → ¬ S b) : Below B w w' :=
  ⟨h.os, h.tape, h.output, h.size, fun k hk => h.block k (Nat.lt_of_lt_of_le hk hB) (hs k hk)⟩
theorem Frame.setCell {S : Nat → Prop} {a w : World} (h : Frame S a w) {p : Addr} (hp : S p.block) (u : Value) : Frame S a (w.setCell p u) :=
  h.trans ⟨rfl, rfl, rfl, by simp [World.setCell], fun k _ hn => Below.heap_setCell _ _ _ _ (fun e => hn (e ▸ hp))⟩
theorem Frame.drewN {S : Nat → Prop} {a w : World} (h : Frame S a w) (n : Nat) : Frame S a (w.drewN n) := ⟨h.os, h.tape, h.output, h.size, h.block⟩
theorem Frame.drew {S : Nat → Prop} {a w : World} (h : Frame S a w) : Frame S a w.drew := ⟨h.os, h.tape, h.output, h.size, h.block⟩
theorem Frame.cell {S : Nat → Prop} {w w' : World} (h : Frame S w w') {b o : Nat} (hb : b < w.heap.size) (hs : ¬ S b) : w'.cell? ⟨b, o, none⟩ = w.cell? ⟨b, o, none⟩ :=
  World.cell?_of_block (w := w) (h.block b hb hs)
theorem Frame.frozen {S : Nat → Prop} {w w' : World} (h : Frame S w w') {b o : Nat} (hb : b < w.heap.size) (hs : ¬ S b) : w'.frozen? ⟨b, o, none⟩ = w.frozen? ⟨b, o, none⟩ :=
  World.frozen?_of_block (w := w) (h.block b hb hs)

theorem Arr.beyond {w : World} {g cap : Nat} {xs : List Int} (h : Arr w g cap xs) (o : Nat) (ho : xs.length ≤ o) (u : Value) : Arr (w.setCell ⟨g, o, none⟩ u) g cap xs := by
  obtain ⟨rest, h1, h2, hh⟩ := h
  refine ⟨rest.set (o - xs.length) u, by simpa using h1, h2, ?_⟩
  simp only [World.setCell, Array.getElem?_modify, hh, if_true]
  simp [List.set_append_right, ho]

/-- Ints stay ints, signs stay signs, slices stay what they are. -/
structure Turn (w w' : World) : Prop where
  size : w.heap.size ≤ w'.heap.size
  arr : ∀ g c xs, Arr w g c xs → ∃ xs', xs'.length = xs.length ∧ Arr w' g c xs'
  sl : ∀ b o A n c, w.cell? ⟨b, o, none⟩ = some (.slice A n c) → w'.cell? ⟨b, o, none⟩ = some (.slice A n c)
  sign : ∀ b o s, w.cell? ⟨b, o, none⟩ = some (.bool s) → ∃ s', w'.cell? ⟨b, o, none⟩ = some (.bool s')
  int : ∀ b o x, w.cell? ⟨b, o, none⟩ = some (.int .i64 x) → ∃ x', w'.cell? ⟨b, o, none⟩ = some (.int .i64 x')
  froz : ∀ b o, b < w.heap.size → w'.frozen? ⟨b, o, none⟩ = w.frozen? ⟨b, o, none⟩
theorem Turn.refl (w : World) : Turn w w := ⟨Nat.le_refl _, fun _ _ xs h => ⟨xs, rfl, h⟩, fun _ _ _ _ _ h => h, fun _ _ s h => ⟨s, h⟩, fun _ _ x h => ⟨x, h⟩, fun _ _ _ => rfl⟩
theorem Turn.trans {a b c : World} (h : Turn a b) (k : Turn b c) : Turn a c := by
  refine ⟨Nat.le_trans h.size k.size, fun g c xs hx => ?_, fun b o A n c hx => k.sl _ _ _ _ _ (h.sl _ _ _ _ _ hx), fun b o s hx => ?_, fun b o x hx => ?_, fun b o hb => (k.froz _ _ (Nat.lt_of_lt_of_le hb h.size)).trans (h.froz _ _ hb)⟩
  · obtain ⟨y, hy, hz⟩ := h.arr _ _ _ hx
    obtain ⟨z, hz1, hz2⟩ := k.arr _ _ _ hz
    exact ⟨z, hz1.trans hy, hz2⟩
  · obtain ⟨y, hy⟩ := h.sign _ _ _ hx
    exact k.sign _ _ _ hy
  · obtain ⟨y, hy⟩ := h.int _ _ _ hx
    exact k.int _ _ _ hy
theorem Turn.of_below {w w' : World} (h : Below w.heap.size w w') : Turn w w' :=
  ⟨h.size, fun _ _ xs hx => ⟨xs, rfl, hx.later h⟩, fun _ _ _ _ _ hx => cell_later (lt_of_cell' hx).1 hx h, fun _ _ s hx => ⟨s, cell_later (lt_of_cell' hx).1 hx h⟩, fun _ _ s hx => ⟨s, cell_later (lt_of_cell' hx).1 hx h⟩, fun b o hb => h.frozen (p := ⟨b, o, none⟩) hb⟩
theorem setCell_at {w : World} {b o b' o' : Nat} {u v : Value} (h : w.cell? ⟨b, o, none⟩ = some v) : (w.setCell ⟨b, o, none⟩ u).cell? ⟨b', o', none⟩ = if b' = b ∧ o' = o then some u else w.cell? ⟨b', o', none⟩ := by
  split
  · rename_i e
    obtain ⟨rfl, rfl⟩ := e
    exact World.cell?_setCell_same _ _ _ h
  · rename_i e
    exact World.cell?_setCell_other _ _ _ _ (fun k => e (by injection k with k1 k2; exact ⟨k1.symm, k2.symm⟩))
theorem Turn.setInt {w : World} {b o : Nat} {x : Int} (h : w.cell? ⟨b, o, none⟩ = some (.int .i64 x)) (y : Int) : Turn w (w.setCell ⟨b, o, none⟩ (.int .i64 y)) := by
  refine ⟨by simp, fun g c xs hx => ?_, fun b' o' A n c hx => ?_, fun b' o' s hx => ?_, fun b' o' z hx => ?_, fun b' o' _ => by simp⟩
  · by_cases hg : g = b
    · subst hg
      by_cases ho : o < xs.length
      · exact ⟨_, by simp, hx.set o ho y⟩
      · exact ⟨_, rfl, hx.beyond o (by omega) _⟩
    · exact ⟨_, rfl, hx.far hg _⟩
  · rw [setCell_at h]
    split
    · rename_i e
      obtain ⟨rfl, rfl⟩ := e
      rw [h] at hx; cases hx
    · exact hx
  · rw [setCell_at h]
    split
    · rename_i e
      obtain ⟨rfl, rfl⟩ := e
      rw [h] at hx; cases hx
    · exact ⟨s, hx⟩
  · rw [setCell_at h]
    split
    · exact ⟨_, rfl⟩
    · exact ⟨_, hx⟩
theorem Turn.setSign {w : World} {b o : Nat} {x : Bool} (h : w.cell? ⟨b, o, none⟩ = some (.bool x)) (y : Bool) : Turn w (w.setCell ⟨b, o, none⟩ (.bool y)) := by
  refine ⟨by simp, fun g c xs hx => ?_, fun b' o' A n c hx => ?_, fun b' o' s hx => ?_, fun b' o' z hx => ?_, fun b' o' _ => by simp⟩
  · by_cases hg : g = b
    · subst hg
      by_cases ho : o < xs.length
      · rw [hx.cell o ho] at h; cases h
      · exact ⟨_, rfl, hx.beyond o (by omega) _⟩
    · exact ⟨_, rfl, hx.far hg _⟩
  · rw [setCell_at h]
    split
    · rename_i e
      obtain ⟨rfl, rfl⟩ := e
      rw [h] at hx; cases hx
    · exact hx
  · rw [setCell_at h]
    split
    · exact ⟨_, rfl⟩
    · exact ⟨_, hx⟩
  · rw [setCell_at h]
    split
    · rename_i e
      obtain ⟨rfl, rfl⟩ := e
      rw [h] at hx; cases hx
    · exact ⟨_, hx⟩

/-- A part: ints of the call's own between lo and hi. -/
def PO (w : World) (lo hi : Nat) (va : Value) (xs : List Int) : Prop := RO w lo va xs ∧ ∀ b, blk va = some b → lo ≤ b ∧ b < hi
theorem RO.at_blk {w : World} {lo : Nat} {va : Value} {xs : List Int} (h : RO w lo va xs) {b : Nat} (hb : blk va = some b) : xs ≠ [] ∧ lo ≤ b ∧ ∃ c, va = .slice (some ⟨b, 0, none⟩) xs.length c ∧ Arr w b c xs := by
  obtain ⟨A, c, rfl, h1, h2, h3⟩ := h
  have hx : xs ≠ [] := by
    rintro rfl
    rw [List.length_nil, blk_nil] at hb
    cases hb
  obtain ⟨g, rfl, hg, ha⟩ := h3 hx
  rw [blk_slice (n := xs.length) (by simpa using hx)] at hb
  injection hb with hb
  simp only at hb
  subst hb
  exact ⟨hx, hg, c, rfl, ha⟩
theorem RO.io {w : World} {lo : Nat} {va : Value} {xs : List Int} (h : RO w lo va xs) : PO w lo w.heap.size va xs :=
  ⟨h, fun _ hb => by obtain ⟨_, h1, _, _, ha⟩ := h.at_blk hb; exact ⟨h1, ha.lt⟩⟩
theorem PO.form {w : World} {lo hi : Nat} {va : Value} {xs : List Int} (h : PO w lo hi va xs) : ∃ A c, va = .slice A xs.length c ∧ xs.length ≤ c ∧ c ≤ maxLen := by
  obtain ⟨⟨A, c, h1, h2, h3, _⟩, _⟩ := h
  exact ⟨A, c, h1, h2, h3⟩
theorem RO.of_arr {w : World} {lo : Nat} {va : Value} {xs ys : List Int} (h : RO w lo va xs) {w' : World} (hl : ys.length = xs.length) (ha : ∀ b c, blk va = some b → Arr w b c xs → Arr w' b c ys) : RO w' lo va ys := by
  obtain ⟨A, c, rfl, h1, h2, h3⟩ := id h
  refine ⟨A, c, by rw [hl], by omega, h2, fun hy => ?_⟩
  have hx : xs ≠ [] := by rintro rfl; exact hy (List.eq_nil_of_length_eq_zero hl)
  obtain ⟨g, rfl, hg, hA⟩ := h3 hx
  exact ⟨g, rfl, hg, ha g c (blk_slice (by simpa using hx)) hA⟩
theorem PO.turn {w w' : World} {lo hi : Nat} {va : Value} {xs : List Int} (h : PO w lo hi va xs) (ht : Turn w w') : ∃ xs', xs'.length = xs.length ∧ PO w' lo hi va xs' := by
  cases hb : blk va with
  | none => exact ⟨xs, rfl, h.1.of_arr rfl (fun b c hb' => by rw [hb] at hb'; cases hb'), h.2⟩
  | some b =>
    obtain ⟨hx, hg, c, hv, ha⟩ := h.1.at_blk hb
    obtain ⟨xs', hl, ha'⟩ := ht.arr _ _ _ ha
    refine ⟨xs', hl, h.1.of_arr hl (fun b' c' hb' ha2 => ?_), h.2⟩
    rw [hb] at hb'
    injection hb' with hb'
    subst hb'
    have : c' = c := by
      obtain ⟨r1, l1, _, e1⟩ := ha
      obtain ⟨r2, l2, _, e2⟩ := ha2
      rw [e1] at e2
      injection e2 with e2
      injection e2 with e2
      have := congrArg Array.size e2
      simp at this
      omega
    subst this
    exact ha'
theorem PO.frame {S : Nat → Prop} {w w' : World} {lo hi : Nat} {va : Value} {xs : List Int} (h : PO w lo hi va xs) (hf : Frame S w w') (hs : ∀ b, blk va = some b → ¬ S b) : PO w' lo hi va xs :=
  ⟨h.1.of_arr rfl (fun b _ hb ha => ha.block (hf.block b ha.lt (hs b hb))), h.2⟩
theorem PO.reads {w : World} {lo hi : Nat} {xs : List Int} {A : Option Addr} {n c : Nat} (h : PO w lo hi (.slice A n c) xs) : RI w A xs := h.1.reads
theorem PO.wide {w : World} {lo hi lo' hi' : Nat} {va : Value} {xs : List Int} (h : PO w lo hi va xs) (h1 : lo' ≤ lo) (h2 : hi ≤ hi') : PO w lo' hi' va xs :=
  ⟨h.1.mono h1, fun b hb => ⟨Nat.le_trans h1 (h.2 b hb).1, Nat.lt_of_lt_of_le (h.2 b hb).2 h2⟩⟩

/-- What a mark writes. -/
def mkI (n : Nat) (k : Int) : List Int := (List.range n).map fun i => k + (i : Nat)
theorem mkI_len (n : Nat) (k : Int) : (mkI n k).length = n := by simp [mkI]
theorem mkI_get {n : Nat} {k : Int} {i : Nat} (h : i < n) : (mkI n k).getD i 0 = k + i := by simp [mkI, h]
theorem eq_mkI {n : Nat} {k : Int} {xs : List Int} (hl : xs.length = n) (h : ∀ i, i < n → xs.getD i 0 = k + i) : xs = mkI n k :=
  list_same (hl.trans (mkI_len n k).symm) (fun j hj => by rw [mkI_len] at hj; rw [mkI_get hj]; exact h j hj)
def shp (r : RatD) : Nat × Nat := (r.mag.length, r.den.length)
/-- The marks that a fraction in memory takes. -/
def cntR (r : RatD) : Nat := 1 + r.mag.length + r.den.length
def cntV (rs : List RatD) : Nat := (rs.map cntR).sum
theorem cntV_step (rs : List RatD) (k : Nat) (h : k < rs.length) : cntV (rs.take (k + 1)) = cntV (rs.take k) + cntR (rs.getD k zR) := by
  rw [List.take_succ_eq_append_getElem h]
  simp only [cntV, List.map_append, List.sum_append, List.map_cons, List.map_nil, List.sum_cons, List.sum_nil]
  simp [h]
theorem cntV_le (rs : List RatD) (k : Nat) : cntV (rs.take k) ≤ cntV rs := by
  conv => rhs; rw [← List.take_append_drop k rs]
  simp only [cntV, List.map_append, List.sum_append]
  omega
def mkRat (r : RatD) (k : Int) : RatD := ⟨k % 3 == 0, mkI r.mag.length (k + 1), mkI r.den.length (k + 1 + r.mag.length)⟩
theorem shp_mkRat (r : RatD) (k : Int) : shp (mkRat r k) = shp r := by simp [shp, mkRat, mkI_len]
def mixV (rs : List RatD) (k : Int) (i : Nat) : List RatD := (List.range rs.length).map fun j => if j < i then mkRat (rs.getD j zR) (k + (cntV (rs.take j) : Nat)) else rs.getD j zR
def mkV (rs : List RatD) (k : Int) : List RatD := mixV rs k rs.length
theorem mixV_len (rs : List RatD) (k : Int) (i : Nat) : (mixV rs k i).length = rs.length := by simp [mixV]
theorem mixV_get {rs : List RatD} {k : Int} {i j : Nat} (h : j < rs.length) : (mixV rs k i).getD j zR = if j < i then mkRat (rs.getD j zR) (k + (cntV (rs.take j) : Nat)) else rs.getD j zR := by
  unfold mixV
  rw [List.getD_eq_getElem?_getD, List.getElem?_map, List.getElem?_range h]
  rfl
theorem vec_same {xs zs : List RatD} (h : zs.length = xs.length) (hj : ∀ j, j < xs.length → zs.getD j zR = xs.getD j zR) : zs = xs := by
  apply List.ext_getElem h
  intro i h1 h2
  have := hj i h2
  simpa [h1, h2] using this
theorem mixV_zero (rs : List RatD) (k : Int) : mixV rs k 0 = rs := vec_same (mixV_len _ _ _) (fun j hj => by rw [mixV_get hj, if_neg (by omega)])
theorem getD_setR (l : List RatD) (i j : Nat) (x : RatD) : (l.set i x).getD j zR = if i = j ∧ j < l.length then x else l.getD j zR := by
  simp only [List.getD_eq_getElem?_getD, List.getElem?_set]
  split
  · rename_i h
    subst h
    split
    · rename_i h; simp [h]
    · rename_i h; simp [h]
  · rename_i h
    rw [if_neg (fun h' => h h'.1)]
theorem mixV_succ {rs : List RatD} {k : Int} {i : Nat} (_h : i < rs.length) : mixV rs k (i + 1) = (mixV rs k i).set i (mkRat (rs.getD i zR) (k + (cntV (rs.take i) : Nat))) :=
  vec_same (by simp [mixV_len]) (fun j hj => by
    rw [List.length_set, mixV_len] at hj
    rw [mixV_get hj, getD_setR, mixV_len, mixV_get hj]
    by_cases e : i = j
    · subst e; rw [if_pos (Nat.lt_succ_self i), if_pos ⟨rfl, hj⟩]
    · by_cases e2 : j < i
      · rw [if_pos (Nat.lt_succ_of_lt e2), if_neg (fun h' => e h'.1), if_pos e2]
      · rw [if_neg (show ¬ j < i + 1 by omega), if_neg (fun h' => e h'.1), if_neg e2])

/-- A fraction in the cells of block g from off on, its parts p. -/
def EA (w : World) (lo hi g off : Nat) (p : Value × Value) (r : RatD) : Prop :=
  w.cell? ⟨g, off, none⟩ = some (.bool r.neg) ∧ w.cell? ⟨g, off + 1, none⟩ = some p.1 ∧ w.cell? ⟨g, off + 2, none⟩ = some p.2 ∧ PO w lo hi p.1 r.mag ∧ PO w lo hi p.2 r.den
def zP : Value × Value := (.slice none 0 0, .slice none 0 0)
/-- A vector of the call's own between lo and hi, its parts ps. -/
def VS (w : World) (lo hi : Nat) (v : Value) (ps : List (Value × Value)) (rs : List RatD) : Prop :=
  ps.length = rs.length ∧ ∃ A c, v = .slice A rs.length c ∧ rs.length ≤ c ∧ c ≤ maxLen ∧
    (rs ≠ [] → ∃ g, A = some ⟨g, 0, none⟩ ∧ lo ≤ g ∧ g < hi ∧ g < w.heap.size ∧ (∀ i, w.frozen? ⟨g, i, none⟩ = false) ∧ ∀ j, j < rs.length → EA w lo hi g (j * 3) (ps.getD j zP) (rs.getD j zR))
/-- The blocks that a vector takes up. -/
def Foot (v : Value) (ps : List (Value × Value)) (b : Nat) : Prop := blk v = some b ∨ ∃ j, j < ps.length ∧ (blk (ps.getD j zP).1 = some b ∨ blk (ps.getD j zP).2 = some b)
/-- All parts lie apart. -/
def Aps (ps : List (Value × Value)) : Prop :=
  (∀ j, j < ps.length → Apart (ps.getD j zP).1 (ps.getD j zP).2) ∧
  ∀ i j, i < ps.length → j < ps.length → i ≠ j → Apart (ps.getD i zP).1 (ps.getD j zP).1 ∧ Apart (ps.getD i zP).1 (ps.getD j zP).2 ∧ Apart (ps.getD i zP).2 (ps.getD j zP).1 ∧ Apart (ps.getD i zP).2 (ps.getD j zP).2

theorem EA.turn {w w' : World} {lo hi g off : Nat} {p : Value × Value} {r : RatD} (h : EA w lo hi g off p r) (ht : Turn w w') : ∃ r', shp r' = shp r ∧ EA w' lo hi g off p r' := by
  obtain ⟨h0, h1, h2, h3, h4⟩ := h
  obtain ⟨s', hs⟩ := ht.sign _ _ _ h0
  obtain ⟨x, hx, h3'⟩ := h3.turn ht
  obtain ⟨y, hy, h4'⟩ := h4.turn ht
  obtain ⟨A, c, e1, _⟩ := h3.form
  obtain ⟨B, d, e2, _⟩ := h4.form
  rw [e1] at h1
  rw [e2] at h2
  exact ⟨⟨s', x, y⟩, by simp [shp, hx, hy], hs, by rw [e1]; exact ht.sl _ _ _ _ _ h1, by rw [e2]; exact ht.sl _ _ _ _ _ h2, h3', h4'⟩
theorem EA.frame {S : Nat → Prop} {w w' : World} {lo hi g off : Nat} {p : Value × Value} {r : RatD} (h : EA w lo hi g off p r) (hf : Frame S w w') (hg : g < w.heap.size) (hs : ¬ S g) (h1 : ∀ b, blk p.1 = some b → ¬ S b) (h2 : ∀ b, blk p.2 = some b → ¬ S b) : EA w' lo hi g off p r :=
  ⟨(hf.cell hg hs).trans h.1, (hf.cell hg hs).trans h.2.1, (hf.cell hg hs).trans h.2.2.1, h.2.2.2.1.frame hf h1, h.2.2.2.2.frame hf h2⟩

theorem VS.form {w : World} {lo hi : Nat} {v : Value} {ps : List (Value × Value)} {rs : List RatD} (h : VS w lo hi v ps rs) : ∃ A c, v = .slice A rs.length c ∧ rs.length ≤ c ∧ c ≤ maxLen := by
  obtain ⟨_, A, c, h1, h2, h3, _⟩ := h
  exact ⟨A, c, h1, h2, h3⟩
theorem VS.turn {w w' : World} {lo hi : Nat} {v : Value} {ps : List (Value × Value)} {rs : List RatD} (h : VS w lo hi v ps rs) (ht : Turn w w') : ∃ rs', rs'.length = rs.length ∧ (∀ j, j < rs.length → shp (rs'.getD j zR) = shp (rs.getD j zR)) ∧ VS w' lo hi v ps rs' := by
  obtain ⟨hp, A, c, rfl, h1, h2, h3⟩ := h
  by_cases hx : rs = []
  · subst hx
    exact ⟨[], rfl, fun j hj => by simp at hj, hp, A, c, rfl, h1, h2, fun hh => absurd rfl hh⟩
  · obtain ⟨g, rfl, hg, hgh, hgs, hfz, he⟩ := h3 hx
    have each : ∀ j, j < rs.length → ∃ z : Option RatD, ∃ y, z = some y ∧ shp y = shp (rs.getD j zR) ∧ EA w' lo hi g (j * 3) (ps.getD j zP) y := fun j hj => by
      obtain ⟨r', q1, q2⟩ := (he j hj).turn ht
      exact ⟨some r', r', rfl, q1, q2⟩
    obtain ⟨f, hf⟩ := choose_lt each
    have hl : ((List.range rs.length).map fun i => (f i).getD zR).length = rs.length := by simp
    have hget : ∀ j, j < rs.length → ((List.range rs.length).map fun i => (f i).getD zR).getD j zR = (f j).getD zR := fun j hj => by
      rw [List.getD_eq_getElem?_getD, List.getElem?_map, List.getElem?_range hj]; rfl
    refine ⟨(List.range rs.length).map fun i => (f i).getD zR, hl, fun j hj => ?_, by rw [hl]; exact hp, some ⟨g, 0, none⟩, c, by rw [hl], by rw [hl]; exact h1, h2, fun _ => ⟨g, rfl, hg, hgh, Nat.lt_of_lt_of_le hgs ht.size, fun i => (ht.froz g i hgs).trans (hfz i), fun j hj => ?_⟩⟩
    · obtain ⟨y, e, q1, _⟩ := hf j hj
      rw [hget j hj, e]; exact q1
    · rw [hl] at hj
      obtain ⟨y, e, _, q2⟩ := hf j hj
      rw [hget j hj, e]; exact q2
theorem VS.at_blk {w : World} {lo hi : Nat} {v : Value} {ps : List (Value × Value)} {rs : List RatD} (h : VS w lo hi v ps rs) {b : Nat} (hb : blk v = some b) :
    rs ≠ [] ∧ (∃ c, v = .slice (some ⟨b, 0, none⟩) rs.length c) ∧ lo ≤ b ∧ b < hi ∧ b < w.heap.size ∧ (∀ i, w.frozen? ⟨b, i, none⟩ = false) ∧ ∀ j, j < rs.length → EA w lo hi b (j * 3) (ps.getD j zP) (rs.getD j zR) := by
  obtain ⟨_, A, c, rfl, h1, h2, h3⟩ := h
  have hx : rs ≠ [] := by
    rintro rfl
    rw [List.length_nil, blk_nil] at hb
    cases hb
  obtain ⟨g, rfl, hg⟩ := h3 hx
  rw [blk_slice (n := rs.length) (by simpa using hx)] at hb
  injection hb with hb
  simp only at hb
  subst hb
  exact ⟨hx, ⟨c, rfl⟩, hg⟩
/-- The headers' block is none of the parts'. -/
theorem EA.head {w : World} {lo hi g off : Nat} {p : Value × Value} {r : RatD} (h0 : ∃ s, w.cell? ⟨g, 0, none⟩ = some (.bool s)) (h : EA w lo hi g off p r) : blk p.1 ≠ some g ∧ blk p.2 ≠ some g := by
  obtain ⟨s, h0⟩ := h0
  constructor
  · intro hb
    obtain ⟨hx, _, c, _, ha⟩ := h.2.2.2.1.1.at_blk hb
    have := ha.cell 0 (List.length_pos_iff.2 hx)
    rw [h0] at this; cases this
  · intro hb
    obtain ⟨hx, _, c, _, ha⟩ := h.2.2.2.2.1.at_blk hb
    have := ha.cell 0 (List.length_pos_iff.2 hx)
    rw [h0] at this; cases this
theorem VS.frame {S : Nat → Prop} {w w' : World} {lo hi : Nat} {v : Value} {ps : List (Value × Value)} {rs : List RatD} (h : VS w lo hi v ps rs) (hf : Frame S w w') (hs : ∀ b, Foot v ps b → ¬ S b) : VS w' lo hi v ps rs := by
  obtain ⟨hp, A, c, rfl, h1, h2, h3⟩ := h
  refine ⟨hp, A, c, rfl, h1, h2, fun hx => ?_⟩
  obtain ⟨g, rfl, hg, hgh, hgs, hfz, he⟩ := h3 hx
  have hgS : ¬ S g := hs g (.inl (blk_slice (by simpa using hx)))
  exact ⟨g, rfl, hg, hgh, Nat.lt_of_lt_of_le hgs hf.size, fun i => (hf.frozen hgs hgS).trans (hfz i), fun j hj => (he j hj).frame hf hgs hgS (fun b hb => hs b (.inr ⟨j, by omega, .inl hb⟩)) (fun b hb => hs b (.inr ⟨j, by omega, .inr hb⟩))⟩
theorem VS.foot {w : World} {lo hi : Nat} {v : Value} {ps : List (Value × Value)} {rs : List RatD} (h : VS w lo hi v ps rs) {b : Nat} (hb : Foot v ps b) : lo ≤ b ∧ b < hi := by
  obtain ⟨hp, A, c, rfl, h1, h2, h3⟩ := id h
  rcases hb with hb | ⟨j, hj, hb⟩
  · obtain ⟨_, _, k1, k2, _⟩ := h.at_blk hb
    exact ⟨k1, k2⟩
  · have hx : rs ≠ [] := by rintro rfl; simp at hp; subst hp; simp at hj
    obtain ⟨g, rfl, _, _, _, _, he⟩ := h3 hx
    have := he j (by omega)
    rcases hb with hb | hb
    · exact this.2.2.2.1.2 b hb
    · exact this.2.2.2.2.2 b hb
theorem VS.reads {w : World} {lo hi n c : Nat} {A : Option Addr} {ps : List (Value × Value)} {rs : List RatD} (h : VS w lo hi (.slice A n c) ps rs) : VI w A rs := by
  intro hx
  obtain ⟨_, A', c', he, _, _, h⟩ := h
  injection he with e1 e2 e3
  subst e1
  obtain ⟨g, rfl, _, _, hlt, _, h⟩ := h hx
  refine ⟨g, 0, rfl, hlt, fun j hj => ?_⟩
  obtain ⟨h0, h1, h2, h3, h4⟩ := h j hj
  obtain ⟨A1, c1, e1, k1, k2⟩ := h3.form
  obtain ⟨B1, d1, e2, k3, k4⟩ := h4.form
  rw [e1] at h1 h3
  rw [e2] at h2 h4
  rw [Nat.zero_add]
  exact ⟨A1, c1, B1, d1, h0, h1, h2, ⟨k1, k2, k3, k4⟩, h3.reads, h4.reads⟩
theorem VO.parts {w : World} {lo : Nat} {v : Value} {rs : List RatD} (h : VO w lo v rs) : ∃ ps, VS w lo w.heap.size v ps rs := by
  obtain ⟨A, c, rfl, h1, h2, h3⟩ := h
  by_cases hx : rs = []
  · subst hx
    exact ⟨[], rfl, A, c, rfl, h1, h2, fun hh => absurd rfl hh⟩
  · obtain ⟨g, rfl, hg, hgs, hfz, he⟩ := h3 hx
    have each : ∀ j, j < rs.length → ∃ z : Option (Value × Value), ∃ y, z = some y ∧ EA w lo w.heap.size g (j * 3) y (rs.getD j zR) := fun j hj => by
      obtain ⟨va, vb, q0, q1, q2, q3, q4⟩ := he j hj
      have l1 := q3.io
      have l2 := q4.io
      exact ⟨some (va, vb), (va, vb), rfl, q0, q1, q2, l1.wide (by omega) (Nat.le_refl _), l2.wide (by omega) (Nat.le_refl _)⟩
    obtain ⟨f, hf⟩ := choose_lt each
    have hl : ((List.range rs.length).map fun i => (f i).getD zP).length = rs.length := by simp
    refine ⟨(List.range rs.length).map fun i => (f i).getD zP, hl, some ⟨g, 0, none⟩, c, rfl, h1, h2, fun _ => ⟨g, rfl, hg, hgs, hgs, hfz, fun j hj => ?_⟩⟩
    obtain ⟨y, e, q⟩ := hf j hj
    rw [List.getD_eq_getElem?_getD, List.getElem?_map, List.getElem?_range hj]
    simp only [Option.map_some, Option.getD_some, e]
    exact q
theorem VS.wide {w : World} {lo hi lo' hi' : Nat} {v : Value} {ps : List (Value × Value)} {rs : List RatD} (h : VS w lo hi v ps rs) (k1 : lo' ≤ lo) (k2 : hi ≤ hi') : VS w lo' hi' v ps rs := by
  obtain ⟨hp, A, c, rfl, h1, h2, h3⟩ := h
  refine ⟨hp, A, c, rfl, h1, h2, fun hx => ?_⟩
  obtain ⟨g, rfl, hg, hgh, hgs, hfz, he⟩ := h3 hx
  exact ⟨g, rfl, by omega, by omega, hgs, hfz, fun j hj => ⟨(he j hj).1, (he j hj).2.1, (he j hj).2.2.1, (he j hj).2.2.2.1.wide k1 k2, (he j hj).2.2.2.2.wide k1 k2⟩⟩
/-- One element turned, all parts apart. -/
theorem VS.put {S : Nat → Prop} {w w' : World} {lo hi g n c : Nat} {ps : List (Value × Value)} {rs : List RatD} {i : Nat} {x : RatD} (h : VS w lo hi (.slice (some ⟨g, 0, none⟩) n c) ps rs) (hi1 : i < rs.length) (hap : Aps ps)
    (hf : Frame S w w') (hS : ∀ b, S b → b = g ∨ blk (ps.getD i zP).1 = some b ∨ blk (ps.getD i zP).2 = some b)
    (hfz : ∀ o, w'.frozen? ⟨g, o, none⟩ = w.frozen? ⟨g, o, none⟩) (hc : ∀ o, o ≠ i * 3 → w'.cell? ⟨g, o, none⟩ = w.cell? ⟨g, o, none⟩)
    (h0 : w'.cell? ⟨g, i * 3, none⟩ = some (.bool x.neg)) (h1 : PO w' lo hi (ps.getD i zP).1 x.mag) (h2 : PO w' lo hi (ps.getD i zP).2 x.den) :
    VS w' lo hi (.slice (some ⟨g, 0, none⟩) n c) ps (rs.set i x) := by
  have hnn : n = rs.length := by
    obtain ⟨_, A, c', e, _⟩ := h
    injection e
  subst hnn
  have hx : rs ≠ [] := by rintro rfl; simp at hi1
  have hbv : blk (.slice (some ⟨g, 0, none⟩) rs.length c) = some g := blk_slice (by simpa using hx)
  obtain ⟨_, _, k1, k2, k3, k4, ke⟩ := h.at_blk hbv
  obtain ⟨hp, A, c', e, q1, q2, _⟩ := h
  injection e with _ _ e
  subst e
  have hz : ∃ s, w.cell? ⟨g, 0, none⟩ = some (.bool s) := ⟨_, by have := (ke 0 (List.length_pos_iff.2 hx)).1; rwa [Nat.zero_mul] at this⟩
  refine ⟨by simpa using hp, some ⟨g, 0, none⟩, c, by simp, by simpa using q1, q2, fun _ => ⟨g, rfl, k1, k2, Nat.lt_of_lt_of_le k3 hf.size, fun o => (hfz o).trans (k4 o), fun j hj => ?_⟩⟩
  rw [List.length_set] at hj
  rw [getD_setR]
  by_cases e : i = j
  · subst e
    rw [if_pos ⟨rfl, hj⟩]
    exact ⟨h0, (hc _ (by omega)).trans (ke i hj).2.1, (hc _ (by omega)).trans (ke i hj).2.2.1, h1, h2⟩
  · rw [if_neg (fun h' => e h'.1)]
    obtain ⟨m1, m2⟩ := (ke j hj).head hz
    obtain ⟨a1, a2, a3, a4⟩ := hap.2 j i (by omega) (by omega) (fun h' => e h'.symm)
    refine ⟨(hc _ (by omega)).trans (ke j hj).1, (hc _ (by omega)).trans (ke j hj).2.1, (hc _ (by omega)).trans (ke j hj).2.2.1, (ke j hj).2.2.2.1.frame hf (fun b hb hSb => ?_), (ke j hj).2.2.2.2.frame hf (fun b hb hSb => ?_)⟩
    · rcases hS b hSb with hh | hh | hh
      · subst hh; exact m1 hb
      · exact a1.ne_blk hb hh rfl
      · exact a2.ne_blk hb hh rfl
    · rcases hS b hSb with hh | hh | hh
      · subst hh; exact m2 hb
      · exact a3.ne_blk hb hh rfl
      · exact a4.ne_blk hb hh rfl
end Go.Proofs.YtkmmdajlbkbnmaaGreat

namespace Go.Proofs.YtkmmdajlbkbnmaaGreat
open Go.RowKit Go.Joins

/-- What an array holds behind a mark of its first n cells. -/
def overI (xs : List Int) (n : Nat) (k : Int) : List Int := (List.range xs.length).map fun i => if i < n then k + (i : Nat) else xs.getD i 0
theorem overI_len (xs : List Int) (n : Nat) (k : Int) : (overI xs n k).length = xs.length := by simp [overI]
theorem overI_get {xs : List Int} {n : Nat} {k : Int} {i : Nat} (h : i < xs.length) : (overI xs n k).getD i 0 = if i < n then k + (i : Nat) else xs.getD i 0 := by
  unfold overI
  rw [List.getD_eq_getElem?_getD, List.getElem?_map, List.getElem?_range h]
  rfl
theorem overI_all (xs : List Int) (k : Int) : overI xs xs.length k = mkI xs.length k :=
  eq_mkI (overI_len _ _ _) (fun i hi => by rw [overI_get hi, if_pos hi])

set_option maxRecDepth 100000 in
set_option maxHeartbeats 800000 in
theorem markIntS_some (xs : List Int) (n c : Nat) (k : Int) (hk : 0 ≤ k) (hk1 : k ≤ 4611686018427387904) (hn : xs.length = n) (hn1 : n ≤ 1048576) (g : Nat) (w : World) (ha : Arr w g c xs) :
    Calls Tryz.prog 65 #[.slice (some ⟨g, 0, none⟩) n c, .int .i64 k] w fun e w' => e = .returned (.int .i64 (k + n)) ∧ Frame (fun b => b = g) w w' ∧ Turn w w' ∧ Arr w' g c (mkI n k) := by
  have HN := Lib.hid hn; clear hn
  go_enter Tryz.func65, Tryz.ntmps65
  go_wp2_with fail
  go_loopw [1, 5] (fun u v wr => ∃ (j : Nat) (zs : List Int), j ≤ n ∧ u = .int .i64 (k + (j : Nat)) ∧ v = .int .i64 j ∧ zs.length = n ∧ (∀ i, i < j → zs.getD i 0 = k + (i : Nat)) ∧ Arr wr g c zs ∧ Frame (fun b => b = g) w wr ∧ Turn w wr) (fun _ v _ => n - (intOf v).toNat)
  case atStart => exact ⟨0, xs, Nat.zero_le _, by simp, rfl, HN.out, fun j hj => by omega, ha, Frame.refl _ _, Turn.refl _⟩
  case round =>
    obtain ⟨j, zs, hj, rfl, rfl, hz, hzz, harr, hfr, htn⟩ := hrel
    have HZ := Lib.hid hz; clear hz
    have HZZ := Lib.hid hzz; clear hzz
    by_cases hjn : j = n
    · subst hjn
      have h0 : decide ((j : Int) < (j : Int)) = false := by simp
      go_wp2
      go_ret
      refine ⟨rfl, hfr, htn, ?_⟩
      rw [← eq_mkI HZ.out HZZ.out]
      exact harr
    · have hlt : (j : Int) < (n : Int) := by omega
      have hlz : j < zs.length := by rw [HZ.out]; omega
      have e2 := harr.cell j hlz
      have e3 := harr.frozen j
      have harr' := harr.set j hlz (k + (j : Nat))
      have htn' := htn.trans (Turn.setInt e2 (k + (j : Nat)))
      have hfr' := hfr.setCell (p := ⟨g, j, none⟩) rfl (.int .i64 (k + (j : Nat)))
      have HZ3 := Lib.hid (show ∀ i, i < j + 1 → (zs.set j (k + (j : Nat))).getD i 0 = k + (i : Nat) from fun i hi => by
        rw [FE.getD_set]
        split
        · rename_i h; rw [← h.1]
        · rename_i h
          refine HZZ.out i ?_
          have := HZ.out
          omega)
      have HZ4 := Lib.hid (show (zs.set j (k + (j : Nat))).length = n by rw [List.length_set]; exact HZ.out)
      clear ha hlz
      generalize zs.getD j 0 = y at *
      go_wp2
      go_roundw
      case rel => exact ⟨j + 1, zs.set j (k + (j : Nat)), by omega, by go_num, rfl, HZ4.out, HZ3.out, harr', hfr', htn'⟩
      case measure => simp [intOf]; omega

set_option maxHeartbeats 400000 in
theorem markIntS_none (c : Nat) (k : Int) (_hk : 0 ≤ k) (A : Option Addr) (w : World) :
    Calls Tryz.prog 65 #[.slice A 0 c, .int .i64 k] w fun e w' => e = .returned (.int .i64 k) ∧ w' = w := by
  go_enter Tryz.func65, Tryz.ntmps65
  go_wp2_with fail
  go_loop [1, 5] (fun u v => u = .int .i64 k ∧ v = .int .i64 0) (fun _ _ => 0)
  case atStart => exact ⟨rfl, rfl⟩
  case round =>
    obtain ⟨rfl, rfl⟩ := hrel
    go_wp2
    go_ret
    exact ⟨rfl, rfl⟩

/-- The marks of a part. -/
theorem markIntS (xs : List Int) (k : Int) (hk : 0 ≤ k) (hk1 : k ≤ 4611686018427387904) (hn1 : xs.length ≤ 1048576) (lo hi : Nat) (v : Value) (w : World) (ha : PO w lo hi v xs) :
    Calls Tryz.prog 65 #[v, .int .i64 k] w fun e w' => e = .returned (.int .i64 (k + xs.length)) ∧ Frame (fun b => blk v = some b) w w' ∧ Turn w w' ∧ PO w' lo hi v (mkI xs.length k) := by
  cases hb : blk v with
  | none =>
    obtain ⟨A, c, rfl, h1, h2, h3⟩ := id ha.1
    have hx : xs = [] := by
      by_cases h : xs = []
      · exact h
      · obtain ⟨g, rfl, _⟩ := h3 h
        rw [blk_slice (by simpa using h)] at hb; cases hb
    subst hx
    refine (markIntS_none c k hk A w).mono ?_
    rintro e w' ⟨rfl, rfl⟩
    exact ⟨by simp, Frame.refl _ _, Turn.refl _, ha⟩
  | some g =>
    obtain ⟨hx, hg, c, rfl, hA⟩ := ha.1.at_blk hb
    refine (markIntS_some xs _ c k hk hk1 rfl hn1 g w hA).mono ?_
    rintro e w' ⟨rfl, hf, ht, hA'⟩
    refine ⟨rfl, hf.mono (fun b hb' => by rw [hb']), ht, ha.1.of_arr (mkI_len _ _) (fun b c' hb' hc' => ?_), ha.2⟩
    rw [hb] at hb'
    injection hb' with hb'
    subst hb'
    have : c' = c := by
      obtain ⟨r1, l1, _, e1⟩ := hA
      obtain ⟨r2, l2, _, e2⟩ := hc'
      rw [e1] at e2
      injection e2 with e2
      injection e2 with e2
      have := congrArg Array.size e2
      simp at this
      omega
    subst this
    exact hA'

set_option maxRecDepth 100000 in
set_option maxHeartbeats 800000 in
theorem heldIntS (n c : Nat) (k : Int) (hk : 0 ≤ k) (hk1 : k ≤ 4611686018427387904) (hn1 : n ≤ 1048576) (A : Option Addr) (w : World) (ha : RI w A (mkI n k)) :
    Calls Tryz.prog 66 #[.slice A n c, .int .i64 k] w fun e w' => e = .returned (.int .i64 (k + n)) ∧ Below w.heap.size w w' := by
  go_enter Tryz.func66, Tryz.ntmps66
  go_wp2_with fail
  go_loopw [1, 5] (fun u v wr => ∃ j : Nat, j ≤ n ∧ u = .int .i64 (k + (j : Nat)) ∧ v = .int .i64 j ∧ Below w.heap.size w wr) (fun _ v _ => n - (intOf v).toNat)
  case atStart => exact ⟨0, Nat.zero_le _, by simp, rfl, Below.refl _ _⟩
  case round =>
    obtain ⟨j, hj, rfl, rfl, hbel⟩ := hrel
    by_cases hjn : j = n
    · subst hjn
      have h0 : decide ((j : Int) < (j : Int)) = false := by simp
      go_wp2
      go_ret
      exact ⟨rfl, hbel⟩
    · have hlt : (j : Int) < (n : Int) := by omega
      obtain ⟨b1, o1, rfl, hb1, hc1⟩ := ha (by intro h; have := congrArg List.length h; rw [mkI_len] at this; simp at this; omega)
      have e1 := (hbel.cell (p := ⟨b1, o1 + j, none⟩) hb1).trans (hc1 j (by rw [mkI_len]; omega))
      rw [mkI_get (by omega)] at e1
      have h1 : ((k + (j : Nat) : Int) != k + (j : Nat)) = false := by simp
      clear hc1 ha
      go_wp2
      go_roundw
      case rel => exact ⟨j + 1, by omega, by go_num, rfl, hbel⟩
      case measure => simp [intOf]; omega
end Go.Proofs.YtkmmdajlbkbnmaaGreat

namespace Go.Proofs.YtkmmdajlbkbnmaaGreat
open Go.RowKit Go.Joins

theorem PO.later {w w' : World} {lo hi : Nat} {va : Value} {xs : List Int} (h : PO w lo hi va xs) (hb : Below w.heap.size w w') : PO w' lo hi va xs :=
  h.frame (S := fun _ => False) (Frame.of_below hb) (fun _ _ h => h)
theorem PO.lt {w : World} {lo hi : Nat} {va : Value} {xs : List Int} (h : PO w lo hi va xs) {b : Nat} (hb : blk va = some b) : b < w.heap.size := by
  obtain ⟨_, _, _, _, ha⟩ := h.1.at_blk hb
  exact ha.lt

set_option maxHeartbeats 400000 in
theorem markBigInt (s : Bool) (xs : List Int) (k : Int) (hk : 0 ≤ k) (hk1 : k ≤ 4611686018427387904) (hn1 : xs.length ≤ 1048576) (lo hi : Nat) (va : Value) (w : World) (ha : PO w lo hi va xs) :
    Calls Tryz.prog 80 #[.agg #[.bool s, va], .int .i64 k] w fun e w' => e = .returned (.int .i64 (k + xs.length)) ∧ Frame (fun b => blk va = some b) w w' ∧ Turn w w' ∧ PO w' lo hi va (mkI xs.length k) := by
  have HM := Lib.hid (fun W hW => markIntS xs k hk hk1 hn1 lo hi va W (ha.later (w' := W) hW))
  have hl := hn1
  obtain ⟨A, c, rfl, _⟩ := ha.form
  clear ha hn1
  generalize xs.length = n at *
  go_enter Tryz.func80, Tryz.ntmps80
  go_wp2_with fail
  refine (HM.out _ (below_alloc1 _ _)).mono ?_
  rintro e w1 ⟨rfl, hf, ht, hi1⟩
  replace hf := (Frame.of_below (below_alloc1 _ _)).trans hf
  replace ht := (Turn.of_below (below_alloc1 _ _)).trans ht
  go_wp2
  go_ret
  exact ⟨rfl, hf, ht, hi1⟩

set_option maxHeartbeats 400000 in
theorem markRat (s : Bool) (xs ys : List Int) (k : Int) (hk : 0 ≤ k) (hk1 : k ≤ 4611686018426339328) (hn1 : xs.length ≤ 1048576) (hn2 : ys.length ≤ 1048576) (lo hi : Nat) (va vb : Value) (w : World) (ha : PO w lo hi va xs) (hb : PO w lo hi vb ys) :
    Calls Tryz.prog 32 #[.agg #[.bool s, va, vb], .int .i64 k] w fun e w' => e = .returned (.int .i64 (k + xs.length + ys.length)) ∧ Frame (fun b => blk va = some b ∨ blk vb = some b) w w' ∧ Turn w w' ∧
      (Apart va vb → PO w' lo hi va (mkI xs.length k) ∧ PO w' lo hi vb (mkI ys.length (k + xs.length))) := by
  have HM := Lib.hid (fun W hW => markBigInt s xs k hk (by omega) hn1 lo hi va W (ha.later (w' := W) hW))
  have HK := Lib.hid (fun (zs : List Int) (hz : zs.length = ys.length) W (h : PO W lo hi vb zs) => hz ▸ markIntS zs (k + xs.length) (by omega) (by omega) (by omega) lo hi vb W h)
  have hne : blk va ≠ some w.heap.size := fun h => by have := ha.lt h; omega
  have HB := Lib.hid hb
  obtain ⟨A, c, rfl, _⟩ := ha.form
  obtain ⟨B, d, rfl, _⟩ := hb.form
  clear ha hb
  generalize xs.length = n at *
  generalize hm : ys.length = m at *
  have HL := Lib.hid hm; clear hm
  go_enter Tryz.func32, Tryz.ntmps32
  go_wp2_with fail
  refine (HM.out _ (below_alloc1 _ _)).mono ?_
  rintro e w1 ⟨rfl, hf, ht, hi1⟩
  have e2 := hf.cell (b := w.heap.size) (o := 2) (by simp) hne
  rw [cell_alloc_mark_at _ _ _ _ _ 2 rfl] at e2
  replace e2 : w1.cell? ⟨w.heap.size, 2, none⟩ = some (.slice B m d) := e2
  have hf0 := (Frame.of_below (below_alloc1 _ _)).trans hf
  have ht0 := (Turn.of_below (below_alloc1 _ _)).trans ht
  obtain ⟨zs, hz, hbz⟩ := HB.out.turn ht0
  rw [HL.out] at hz
  have HQ := Lib.hid hz
  clear hz
  go_wp2_with fail
  refine (HK.out zs HQ.out w1 hbz).mono ?_
  rintro e w2 ⟨rfl, hf2, ht2, hi2⟩
  clear e2
  go_wp2
  go_ret
  refine ⟨rfl, (hf0.mono (fun b h => .inl h)).trans (hf2.mono (fun b h => .inr h)), ht0.trans ht2, fun hap => ⟨hi1.frame hf2 (fun b h h' => hap.ne_blk h h' rfl), ?_⟩⟩
  exact hi2

set_option maxHeartbeats 400000 in
theorem heldBigInt (s : Bool) (n c : Nat) (k : Int) (hk : 0 ≤ k) (hk1 : k ≤ 4611686018427387904) (hn1 : n ≤ 1048576) (A : Option Addr) (w : World) (ha : RI w A (mkI n k)) :
    Calls Tryz.prog 81 #[.agg #[.bool s, .slice A n c], .int .i64 k] w fun e w' => e = .returned (.int .i64 (k + n)) ∧ Below w.heap.size w w' := by
  have HM := Lib.hid (fun W hW => heldIntS n c k hk hk1 hn1 A W (ha.later (w' := W) hW))
  clear ha
  have h1 : decide (k + (n : Int) < 0) = false := decide_eq_false (by omega)
  go_enter Tryz.func81, Tryz.ntmps81
  go_wp2_with fail
  refine (HM.out _ (below_alloc1 _ _)).mono ?_
  rintro e w1 ⟨rfl, hb⟩
  replace hb := box_below hb
  go_wp2
  go_ret
  exact ⟨rfl, hb⟩

set_option maxHeartbeats 400000 in
theorem heldRat (s : Bool) (n m c d : Nat) (k : Int) (hk : 0 ≤ k) (hk1 : k ≤ 4611686018426339328) (hn1 : n ≤ 1048576) (hn2 : m ≤ 1048576) (A B : Option Addr) (w : World) (ha : RI w A (mkI n k)) (hb : RI w B (mkI m (k + n))) :
    Calls Tryz.prog 33 #[.agg #[.bool s, .slice A n c, .slice B m d], .int .i64 k] w fun e w' => e = .returned (.int .i64 (k + n + m)) ∧ Below w.heap.size w w' := by
  have HM := Lib.hid (fun W hW => heldBigInt s n c k hk (by omega) hn1 A W (ha.later (w' := W) hW))
  have HK := Lib.hid (fun W hW => heldIntS m d (k + n) (by omega) (by omega) hn2 B W (hb.later (w' := W) hW))
  clear ha hb
  have h1 : decide (k + (n : Int) < 0) = false := decide_eq_false (by omega)
  have h2 : decide (k + (n : Int) + (m : Int) < 0) = false := decide_eq_false (by omega)
  go_enter Tryz.func33, Tryz.ntmps33
  go_wp2_with fail
  refine (HM.out _ (below_alloc1 _ _)).mono ?_
  rintro e w1 ⟨rfl, hb⟩
  have e2 := box_cell hb 2 (v := .slice B m d) rfl
  replace hb := box_below hb
  go_wp2_with fail
  refine (HK.out _ hb).mono ?_
  rintro e w2 ⟨rfl, hb2⟩
  replace hb := below_trans hb hb2
  clear e2
  go_wp2
  go_ret
  exact ⟨rfl, hb⟩

theorem VS.cells {w : World} {lo hi n c j : Nat} {A : Option Addr} {ps : List (Value × Value)} {rs : List RatD} (h : VS w lo hi (.slice A n c) ps rs) (hj : j < rs.length) :
    rs.length = n ∧ ∃ g, A = some ⟨g, 0, none⟩ ∧ g < w.heap.size ∧ (∀ i, w.frozen? ⟨g, i, none⟩ = false) ∧ (∃ s, w.cell? ⟨g, 0, none⟩ = some (.bool s)) ∧ EA w lo hi g (j * 3) (ps.getD j zP) (rs.getD j zR) := by
  obtain ⟨_, A', c', e, _, _, h3⟩ := h
  injection e with e1 e2 e3
  subst e1
  obtain ⟨g, rfl, _, _, k1, k2, ke⟩ := h3 (by rintro rfl; simp at hj)
  exact ⟨e2.symm, g, rfl, k1, k2, ⟨_, by have := (ke 0 (by omega)).1; rwa [Nat.zero_mul] at this⟩, ke j hj⟩
theorem VS.few {w : World} {lo hi : Nat} {v : Value} {ps : List (Value × Value)} {rs : List RatD} (h : VS w lo hi v ps rs) : ps.length = rs.length := h.1

set_option maxRecDepth 100000 in
set_option maxHeartbeats 1600000 in
theorem markRatS (rs : List RatD) (k : Int) (hk : 0 ≤ k) (hk1 : k + (cntV rs : Nat) ≤ 4611686018426339328) (hfew : Few rs) (lo hi : Nat) (v : Value) (ps : List (Value × Value)) (w : World) (h : VS w lo hi v ps rs) :
    Calls Tryz.prog 21 #[v, .int .i64 k] w fun e w' => e = .returned (.int .i64 (k + (cntV rs : Nat))) ∧ Frame (Foot v ps) w w' ∧ Turn w w' ∧ (Aps ps → VS w' lo hi v ps (mkV rs k)) := by
  obtain ⟨A, c, rfl, hc1, hc2⟩ := h.form
  have hn1 := hfew.1
  have HF := Lib.hid hfew.2
  have HV := Lib.hid h
  have hm : rs.length ≤ 9223372036854775807 := by omega
  have HC := Lib.hid hk1
  clear h hfew hc1 hc2 hk1
  obtain ⟨n, hn⟩ : ∃ n, rs.length = n := ⟨_, rfl⟩
  rw [hn] at hn1 hm HV ⊢
  have HN := Lib.hid hn; clear hn
  go_enter Tryz.func21, Tryz.ntmps21
  go_wp2_with fail
  go_loopw [1, 5] (fun u z wr => ∃ j : Nat, j ≤ n ∧ u = .int .i64 (k + (cntV (rs.take j) : Nat)) ∧ z = .int .i64 j ∧ Frame (Foot (.slice A n c) ps) w wr ∧ Turn w wr ∧ Hid (Aps ps → VS wr lo hi (.slice A n c) ps (mixV rs k j))) (fun _ z _ => n - (intOf z).toNat)
  case atStart => exact ⟨0, Nat.zero_le _, by simp [cntV], rfl, Frame.refl _ _, Turn.refl _, Lib.hid (fun _ => by rw [mixV_zero]; exact HV.out)⟩
  case round =>
    obtain ⟨j, hj, rfl, rfl, hfr, htn, HS⟩ := hrel
    by_cases hjn : j = n
    · subst hjn
      have h0 : decide ((j : Int) < (j : Int)) = false := by simp
      have HT := Lib.hid (show rs.take j = rs from List.take_of_length_le (by rw [HN.out]; exact Nat.le_refl _))
      go_wp2
      go_ret
      refine ⟨ret_int (by rw [HT.out]), hfr, htn, fun hap => ?_⟩
      have := HS.out hap
      rw [← HN.out] at this ⊢
      exact this
    · have hlt : (j : Int) < (n : Int) := by omega
      have hjl : j < rs.length := by rw [HN.out]; omega
      obtain ⟨rs', hl', hsh, hvs⟩ := HV.out.turn htn
      obtain ⟨_, hcell⟩ := hvs.cells (j := j) (by rw [hl']; exact hjl)
      obtain ⟨g, rfl, hg1, hfz, hz, he⟩ := hcell
      have hs1 := hsh j hjl
      obtain ⟨f1, f2⟩ := HF.out j hjl
      have hcs := cntV_step rs j hjl
      have hcl := cntV_le rs (j + 1)
      have hx : cntR (rs.getD j zR) = 1 + (rs.getD j zR).mag.length + (rs.getD j zR).den.length := rfl
      have hK0 : 0 ≤ k + (cntV (rs.take j) : Nat) := by omega
      have hK1 : k + (cntV (rs.take j) : Nat) ≤ 4611686018426339328 - 1 - (rs.getD j zR).mag.length - (rs.getD j zR).den.length := by have := HC.out; omega
      have HT := Lib.hid (show k + (cntV (rs.take (j + 1)) : Nat) = k + (cntV (rs.take j) : Nat) + 1 + (rs.getD j zR).mag.length + (rs.getD j zR).den.length by omega)
      have HG := Lib.hid (fun (hap : Aps ps) => HS.out hap)
      have HM := Lib.hid (show mixV rs k (j + 1) = (mixV rs k j).set j (mkRat (rs.getD j zR) (k + (cntV (rs.take j) : Nat))) from mixV_succ hjl)
      have HML := Lib.hid (show (mixV rs k j).length = n by rw [mixV_len]; exact HN.out)
      clear hcs hcl hx hsh HS hjl
      generalize rs.getD j zR = x at *
      generalize k + (cntV (rs.take j) : Nat) = K at *
      generalize rs'.getD j zR = x' at *
      have HP := Lib.hid (rfl : ps.getD j zP = ps.getD j zP)
      obtain ⟨g0, g1, g2, i1, i2⟩ := he
      obtain ⟨m1, m2⟩ := EA.head hz ⟨g0, g1, g2, i1, i2⟩
      have hs2 := congrArg Prod.fst hs1
      have hs3 := congrArg Prod.snd hs1
      simp only [shp] at hs2 hs3
      have HM1 := Lib.hid (fun (zs : List Int) (hz : zs.length = x.mag.length) W (h : PO W lo hi (ps.getD j zP).1 zs) => hz ▸ markIntS zs (K + 1) (by omega) (by omega) (by omega) lo hi _ W h)
      have HM2 := Lib.hid (fun (zs : List Int) (hz : zs.length = x.den.length) W (h : PO W lo hi (ps.getD j zP).2 zs) => hz ▸ markIntS zs (K + 1 + x.mag.length) (by omega) (by omega) (by omega) lo hi _ W h)
      have ht1 := Turn.setSign g0 (K % 3 == 0)
      have hf1 := (Frame.refl (fun b => b = g) wr).setCell (p := ⟨g, j * 3, none⟩) rfl (.bool (K % 3 == 0))
      obtain ⟨za, hza, ia⟩ := i1.turn ht1
      obtain ⟨zb, hzb, ib⟩ := i2.turn ht1
      clear i1 i2
      obtain ⟨va, hva⟩ : ∃ y, (ps.getD j zP).1 = y := ⟨_, rfl⟩
      obtain ⟨vb, hvb⟩ : ∃ y, (ps.getD j zP).2 = y := ⟨_, rfl⟩
      rw [hva] at g1 m1 HM1 ia
      rw [hvb] at g2 m2 HM2 ib
      have HVA := Lib.hid hva
      have HVB := Lib.hid hvb
      have HZA := Lib.hid (hza.trans hs2)
      have HZB := Lib.hid (hzb.trans hs3)
      obtain ⟨A1, c1, e1, _⟩ := ia.form
      obtain ⟨B1, d1, e2, _⟩ := ib.form
      subst e1 e2
      clear hva hvb hza hzb hs1 hs2 hs3 HP hz
      have q0 := hfz (j * 3)
      have HFZ := Lib.hid (fun o => (show (wr.setCell ⟨g, j * 3, none⟩ (.bool (K % 3 == 0))).frozen? ⟨g, o, none⟩ = wr.frozen? ⟨g, o, none⟩ by simp))
      have HCO := Lib.hid (fun o (ho : o ≠ j * 3) => (show (wr.setCell ⟨g, j * 3, none⟩ (.bool (K % 3 == 0))).cell? ⟨g, o, none⟩ = wr.cell? ⟨g, o, none⟩ from World.cell?_setCell_other _ _ _ _ (by intro e; injection e with _ e; exact ho e.symm)))
      have HC0 := Lib.hid (show (wr.setCell ⟨g, j * 3, none⟩ (.bool (K % 3 == 0))).cell? ⟨g, j * 3, none⟩ = some (.bool (K % 3 == 0)) from World.cell?_setCell_same _ _ _ g0)
      have hs1 : wr.heap.size ≤ (wr.setCell ⟨g, j * 3, none⟩ (.bool (K % 3 == 0))).heap.size := by simp
      clear hfz
      go_wp2_with fail
      have g2' := (HCO.out (j * 3 + 2) (by omega)).trans g2
      clear g0 g1 g2 q0
      generalize wr.setCell ⟨g, j * 3, none⟩ (.bool (K % 3 == 0)) = w1 at *
      have hg2 : g < w1.heap.size := Nat.lt_of_lt_of_le hg1 hs1
      refine (HM1.out za HZA.out _ ia).mono ?_
      rintro e w2 ⟨rfl, hfA, htA, iA⟩
      have g2'' := (hfA.cell hg2 m1).trans g2'
      obtain ⟨zb', hzb', ib'⟩ := ib.turn htA
      have HZB' := Lib.hid (hzb'.trans HZB.out)
      clear hzb' g2'
      go_wp2_with fail
      refine (HM2.out zb' HZB'.out _ ib').mono ?_
      rintro e w3 ⟨rfl, hfB, htB, iB⟩
      clear g2''
      go_wp2
      go_roundw
      case rel => 
        have hnn : n ≠ 0 := by omega
        refine ⟨j + 1, by omega, by rw [HT.out], rfl, ((hfr.trans (hf1.mono (fun b hb => ?_))).trans (hfA.mono (fun b hb => ?_))).trans (hfB.mono (fun b hb => ?_)), ((htn.trans ht1).trans htA).trans htB, Lib.hid (fun hap => ?_)⟩
        · rw [hb]; exact .inl (blk_slice hnn)
        · exact .inr ⟨j, by have := HV.out.1; have := HN.out; omega, .inl (by rw [HVA.out]; exact hb)⟩
        · exact .inr ⟨j, by have := HV.out.1; have := HN.out; omega, .inr (by rw [HVB.out]; exact hb)⟩
        · rw [HM.out]
          have hpl : j < ps.length := by have := HV.out.1; have := HN.out; omega
          have hapj := hap.1 j hpl
          rw [HVA.out, HVB.out] at hapj
          have hF : Frame (fun b => b = g ∨ blk (ps.getD j zP).1 = some b ∨ blk (ps.getD j zP).2 = some b) wr w3 :=
            ((hf1.mono (fun b hb => .inl hb)).trans (hfA.mono (fun b hb => .inr (.inl (by rw [HVA.out]; exact hb))))).trans (hfB.mono (fun b hb => .inr (.inr (by rw [HVB.out]; exact hb))))
          have hcc : ∀ o, w3.cell? ⟨g, o, none⟩ = w1.cell? ⟨g, o, none⟩ := fun o => (hfB.cell (Nat.lt_of_lt_of_le hg2 hfA.size) m2).trans (hfA.cell hg2 m1)
          refine (HG.out hap).put (by rw [HML.out]; omega) hap hF (fun b hb => hb) (fun o => ?_) (fun o ho => (hcc o).trans (HCO.out o ho)) ((hcc _).trans HC0.out) ?_ ?_
          · exact (hfB.frozen (Nat.lt_of_lt_of_le hg2 hfA.size) m2).trans ((hfA.frozen hg2 m1).trans (HFZ.out o))
          · rw [HVA.out]
            exact iA.frame hfB (fun b h1 h2 => hapj.ne_blk h1 h2 rfl)
          · rw [HVB.out]
            exact iB
      case measure => simp [intOf]; omega
end Go.Proofs.YtkmmdajlbkbnmaaGreat

namespace Go.Proofs.YtkmmdajlbkbnmaaGreat
open Go.RowKit Go.Joins Go.Deep

theorem list_each {α : Type} (d : α) (n : Nat) (P : Nat → α → Prop) (h : ∀ j, j < n → ∃ y, P j y) : ∃ l : List α, l.length = n ∧ ∀ j, j < n → P j (l.getD j d) := by
  have each : ∀ j, j < n → ∃ z : Option α, ∃ y, z = some y ∧ P j y := fun j hj => by
    obtain ⟨y, hy⟩ := h j hj
    exact ⟨some y, y, rfl, hy⟩
  obtain ⟨f, hf⟩ := choose_lt each
  refine ⟨(List.range n).map fun i => (f i).getD d, by simp, fun j hj => ?_⟩
  obtain ⟨y, e, q⟩ := hf j hj
  rw [List.getD_eq_getElem?_getD, List.getElem?_map, List.getElem?_range hj]
  simp only [Option.map_some, Option.getD_some, e]
  exact q
theorem list_eqD {α : Type} {d : α} {xs zs : List α} (h : zs.length = xs.length) (hj : ∀ j, j < xs.length → zs.getD j d = xs.getD j d) : zs = xs := by
  apply List.ext_getElem h
  intro i h1 h2
  have := hj i h2
  simpa [h1, h2] using this
theorem getD_setG {α : Type} {d : α} (l : List α) (i j : Nat) (x : α) : (l.set i x).getD j d = if i = j ∧ j < l.length then x else l.getD j d := by
  simp only [List.getD_eq_getElem?_getD, List.getElem?_set]
  split
  · rename_i h
    subst h
    split
    · rename_i h; simp [h]
    · rename_i h; simp [h]
  · rename_i h
    rw [if_neg (fun h' => h h'.1)]

/-- Vectors of one shape. -/
def ShV (a b : List RatD) : Prop := a.length = b.length ∧ ∀ j, j < b.length → shp (a.getD j zR) = shp (b.getD j zR)
theorem ShV.map {a b : List RatD} (h : ShV a b) : a.map shp = b.map shp := by
  apply List.ext_getElem (by simp [h.1])
  intro i h1 h2
  simp only [List.length_map] at h1 h2
  have := h.2 i h2
  simpa [h1, h2] using this
theorem cntV_shp (rs : List RatD) : cntV rs = ((rs.map shp).map fun p => 1 + p.1 + p.2).sum := by
  simp only [cntV, List.map_map]; rfl
theorem ShV.cnt {a b : List RatD} (h : ShV a b) : cntV a = cntV b := by rw [cntV_shp, cntV_shp, h.map]
theorem ShV.cnt_take {a b : List RatD} (h : ShV a b) (j : Nat) : cntV (a.take j) = cntV (b.take j) := by simp only [cntV_shp, List.map_take, h.map]
theorem ShV.few {a b : List RatD} (h : ShV a b) (hb : Few b) : Few a := by
  refine ⟨by rw [h.1]; exact hb.1, fun k hk => ?_⟩
  rw [h.1] at hk
  have h1 := h.2 k hk
  have h2 := hb.2 k hk
  simp only [shp, Prod.mk.injEq] at h1
  omega
theorem mkRat_shp {a b : RatD} (h : shp a = shp b) (k : Int) : mkRat a k = mkRat b k := by
  simp only [shp, Prod.mk.injEq] at h
  simp only [mkRat, h.1, h.2]
theorem ShV.mkV {a b : List RatD} (h : ShV a b) (k : Int) : mkV a k = mkV b k := by
  refine vec_same (by rw [Go.Proofs.YtkmmdajlbkbnmaaGreat.mkV, mixV_len, Go.Proofs.YtkmmdajlbkbnmaaGreat.mkV, mixV_len]; exact h.1) (fun j hj => ?_)
  rw [Go.Proofs.YtkmmdajlbkbnmaaGreat.mkV, mixV_len] at hj
  rw [Go.Proofs.YtkmmdajlbkbnmaaGreat.mkV, mixV_get (h.1 ▸ hj), if_pos (h.1 ▸ hj), Go.Proofs.YtkmmdajlbkbnmaaGreat.mkV, mixV_get hj, if_pos hj, mkRat_shp (h.2 j hj), h.cnt_take]
theorem VS.turns {w w' : World} {lo hi : Nat} {v : Value} {ps : List (Value × Value)} {rs : List RatD} (h : VS w lo hi v ps rs) (ht : Turn w w') : ∃ rs', ShV rs' rs ∧ VS w' lo hi v ps rs' := by
  obtain ⟨rs', h1, h2, h3⟩ := h.turn ht
  exact ⟨rs', ⟨h1, h2⟩, h3⟩
theorem VS.later {w w' : World} {lo hi : Nat} {v : Value} {ps : List (Value × Value)} {rs : List RatD} (h : VS w lo hi v ps rs) (hb : Below w.heap.size w w') : VS w' lo hi v ps rs :=
  h.frame (S := fun _ => False) (Frame.of_below hb) (fun _ _ h => h)
theorem VS.not_slice {w : World} {lo hi : Nat} {v : Value} {ps : List (Value × Value)} {rs : List RatD} (h : VS w lo hi v ps rs) {g : Nat} {A : Option Addr} {n c : Nat} (hg : w.cell? ⟨g, 0, none⟩ = some (.slice A n c)) : ¬ Foot v ps g := by
  rintro (hb | ⟨j, hj, hb⟩)
  · obtain ⟨hx, _, _, _, _, _, ke⟩ := h.at_blk hb
    have := (ke 0 (List.length_pos_iff.2 hx)).1
    rw [Nat.zero_mul, hg] at this
    cases this
  · obtain ⟨hp, A', c', rfl, _, _, h3⟩ := h
    obtain ⟨g', rfl, _, _, _, _, he⟩ := h3 (by rintro rfl; simp at hp; subst hp; simp at hj)
    have := he j (by omega)
    rcases hb with hb | hb
    · obtain ⟨hx, _, _, _, ha⟩ := this.2.2.2.1.1.at_blk hb
      have := ha.cell 0 (List.length_pos_iff.2 hx)
      rw [hg] at this; cases this
    · obtain ⟨hx, _, _, _, ha⟩ := this.2.2.2.2.1.at_blk hb
      have := ha.cell 0 (List.length_pos_iff.2 hx)
      rw [hg] at this; cases this
theorem PO.not_slice {w : World} {lo hi : Nat} {v : Value} {xs : List Int} (h : PO w lo hi v xs) {g : Nat} {A : Option Addr} {n c : Nat} (hg : w.cell? ⟨g, 0, none⟩ = some (.slice A n c)) : blk v ≠ some g := by
  intro hb
  obtain ⟨hx, _, _, _, ha⟩ := h.1.at_blk hb
  have := ha.cell 0 (List.length_pos_iff.2 hx)
  rw [hg] at this; cases this

/-- A row's parts. -/
structure RowP where
  ca : Value
  va : Value
  ps : List (Value × Value)
def zRP : RowP := ⟨.slice none 0 0, .slice none 0 0, []⟩
def FootR (q : RowP) (b : Nat) : Prop := blk q.ca = some b ∨ Foot q.va q.ps b
def FootM (qs : List RowP) (b : Nat) : Prop := ∃ j, j < qs.length ∧ FootR (qs.getD j zRP) b
def ApR (q : RowP) : Prop := Aps q.ps ∧ ∀ b, blk q.ca = some b → ¬ Foot q.va q.ps b
def ApM (qs : List RowP) : Prop := (∀ j, j < qs.length → ApR (qs.getD j zRP)) ∧ ∀ i j, i < qs.length → j < qs.length → i ≠ j → ∀ b, FootR (qs.getD i zRP) b → ¬ FootR (qs.getD j zRP) b
/-- A row in the cells of block g, its parts q. -/
def RE (w : World) (lo hi g off : Nat) (q : RowP) (x : RowD) : Prop :=
  w.cell? ⟨g, off, none⟩ = some q.ca ∧ w.cell? ⟨g, off + 1, none⟩ = some q.va ∧ PO w lo hi q.ca x.cols ∧ VS w lo hi q.va q.ps x.vals
def MS (w : World) (lo hi : Nat) (v : Value) (qs : List RowP) (rs : List RowD) : Prop :=
  qs.length = rs.length ∧ ∃ A c, v = .slice A rs.length c ∧ rs.length ≤ c ∧ c ≤ maxLen ∧
    (rs ≠ [] → ∃ g, A = some ⟨g, 0, none⟩ ∧ lo ≤ g ∧ g < hi ∧ g < w.heap.size ∧ ∀ j, j < rs.length → RE w lo hi g (j * 2) (qs.getD j zRP) (rs.getD j zRow))
def ShR (a b : RowD) : Prop := a.cols.length = b.cols.length ∧ ShV a.vals b.vals
def cntRow (x : RowD) : Nat := x.cols.length + cntV x.vals
def cntM (rs : List RowD) : Nat := (rs.map cntRow).sum
theorem cntM_step (rs : List RowD) (k : Nat) (h : k < rs.length) : cntM (rs.take (k + 1)) = cntM (rs.take k) + cntRow (rs.getD k zRow) := by
  rw [List.take_succ_eq_append_getElem h]
  simp only [cntM, List.map_append, List.sum_append, List.map_cons, List.map_nil, List.sum_cons, List.sum_nil]
  simp [h]
theorem cntM_le (rs : List RowD) (k : Nat) : cntM (rs.take k) ≤ cntM rs := by
  conv => rhs; rw [← List.take_append_drop k rs]
  simp only [cntM, List.map_append, List.sum_append]
  omega
def mkRow (x : RowD) (k : Int) : RowD := ⟨mkI x.cols.length k, mkV x.vals (k + x.cols.length)⟩
def mixM (rs : List RowD) (k : Int) (i : Nat) : List RowD := (List.range rs.length).map fun j => if j < i then mkRow (rs.getD j zRow) (k + (cntM (rs.take j) : Nat)) else rs.getD j zRow
def mkM (rs : List RowD) (k : Int) : List RowD := mixM rs k rs.length
theorem mixM_len (rs : List RowD) (k : Int) (i : Nat) : (mixM rs k i).length = rs.length := by simp [mixM]
theorem mixM_get {rs : List RowD} {k : Int} {i j : Nat} (h : j < rs.length) : (mixM rs k i).getD j zRow = if j < i then mkRow (rs.getD j zRow) (k + (cntM (rs.take j) : Nat)) else rs.getD j zRow := by
  unfold mixM
  rw [List.getD_eq_getElem?_getD, List.getElem?_map, List.getElem?_range h]
  rfl
theorem mixM_zero (rs : List RowD) (k : Int) : mixM rs k 0 = rs := list_eqD (mixM_len _ _ _) (fun j hj => by rw [mixM_get hj, if_neg (by omega)])
theorem mixM_succ {rs : List RowD} {k : Int} {i : Nat} (_h : i < rs.length) : mixM rs k (i + 1) = (mixM rs k i).set i (mkRow (rs.getD i zRow) (k + (cntM (rs.take i) : Nat))) :=
  list_eqD (d := zRow) (by simp [mixM_len]) (fun j hj => by
    rw [List.length_set, mixM_len] at hj
    rw [mixM_get hj, getD_setG, mixM_len, mixM_get hj]
    by_cases e : i = j
    · subst e; rw [if_pos (Nat.lt_succ_self i), if_pos ⟨rfl, hj⟩]
    · by_cases e2 : j < i
      · rw [if_pos (Nat.lt_succ_of_lt e2), if_neg (fun h' => e h'.1), if_pos e2]
      · rw [if_neg (show ¬ j < i + 1 by omega), if_neg (fun h' => e h'.1), if_neg e2])

theorem RE.turn {w w' : World} {lo hi g off : Nat} {q : RowP} {x : RowD} (h : RE w lo hi g off q x) (ht : Turn w w') : ∃ x', ShR x' x ∧ RE w' lo hi g off q x' := by
  obtain ⟨h0, h1, h2, h3⟩ := h
  obtain ⟨y, hy, h2'⟩ := h2.turn ht
  obtain ⟨z, hz, h3'⟩ := h3.turns ht
  obtain ⟨A, c, e1, _⟩ := h2.form
  obtain ⟨B, d, e2, _⟩ := h3.form
  rw [e1] at h0
  rw [e2] at h1
  exact ⟨⟨y, z⟩, ⟨hy, hz⟩, by rw [e1]; exact ht.sl _ _ _ _ _ h0, by rw [e2]; exact ht.sl _ _ _ _ _ h1, h2', h3'⟩
theorem MS.form {w : World} {lo hi : Nat} {v : Value} {qs : List RowP} {rs : List RowD} (h : MS w lo hi v qs rs) : ∃ A c, v = .slice A rs.length c ∧ rs.length ≤ c ∧ c ≤ maxLen := by
  obtain ⟨_, A, c, h1, h2, h3, _⟩ := h
  exact ⟨A, c, h1, h2, h3⟩
theorem MS.turn {w w' : World} {lo hi : Nat} {v : Value} {qs : List RowP} {rs : List RowD} (h : MS w lo hi v qs rs) (ht : Turn w w') : ∃ rs', rs'.length = rs.length ∧ (∀ j, j < rs.length → ShR (rs'.getD j zRow) (rs.getD j zRow)) ∧ MS w' lo hi v qs rs' := by
  obtain ⟨hp, A, c, rfl, h1, h2, h3⟩ := h
  by_cases hx : rs = []
  · subst hx
    exact ⟨[], rfl, fun j hj => by simp at hj, hp, A, c, rfl, h1, h2, fun hh => absurd rfl hh⟩
  · obtain ⟨g, rfl, hg, hgh, hgs, he⟩ := h3 hx
    obtain ⟨l, hl, hq⟩ := list_each zRow rs.length (fun j y => ShR y (rs.getD j zRow) ∧ RE w' lo hi g (j * 2) (qs.getD j zRP) y) (fun j hj => (he j hj).turn ht)
    exact ⟨l, hl, fun j hj => (hq j hj).1, by rw [hl]; exact hp, some ⟨g, 0, none⟩, c, by rw [hl], by rw [hl]; exact h1, h2, fun _ => ⟨g, rfl, hg, hgh, Nat.lt_of_lt_of_le hgs ht.size, fun j hj => (hq j (hl ▸ hj)).2⟩⟩
theorem MS.cells {w : World} {lo hi n c j : Nat} {A : Option Addr} {qs : List RowP} {rs : List RowD} (h : MS w lo hi (.slice A n c) qs rs) (hj : j < rs.length) :
    rs.length = n ∧ ∃ g, A = some ⟨g, 0, none⟩ ∧ g < w.heap.size ∧ (∃ A n c, w.cell? ⟨g, 0, none⟩ = some (.slice A n c)) ∧ RE w lo hi g (j * 2) (qs.getD j zRP) (rs.getD j zRow) := by
  obtain ⟨_, A', c', e, _, _, h3⟩ := h
  injection e with e1 e2 e3
  subst e1
  obtain ⟨g, rfl, _, _, k1, ke⟩ := h3 (by rintro rfl; simp at hj)
  have k0 := ke 0 (by omega)
  obtain ⟨B, d, e4, _⟩ := k0.2.2.1.form
  have k00 := k0.1
  rw [e4, Nat.zero_mul] at k00
  exact ⟨e2.symm, g, rfl, k1, ⟨_, _, _, k00⟩, ke j hj⟩
theorem RE.frame {S : Nat → Prop} {w w' : World} {lo hi g off : Nat} {q : RowP} {x : RowD} (h : RE w lo hi g off q x) (hf : Frame S w w') (hg : g < w.heap.size) (hs : ¬ S g) (hq : ∀ b, FootR q b → ¬ S b) : RE w' lo hi g off q x :=
  ⟨(hf.cell hg hs).trans h.1, (hf.cell hg hs).trans h.2.1, h.2.2.1.frame hf (fun b hb => hq b (.inl hb)), h.2.2.2.frame hf (fun b hb => hq b (.inr hb))⟩
theorem RE.not_slice {w : World} {lo hi g off g' : Nat} {q : RowP} {x : RowD} (h : RE w lo hi g off q x) {A : Option Addr} {n c : Nat} (hg : w.cell? ⟨g', 0, none⟩ = some (.slice A n c)) : ¬ FootR q g' := by
  rintro (hb | hb)
  · exact h.2.2.1.not_slice hg hb
  · exact h.2.2.2.not_slice hg hb
theorem MS.put {S : Nat → Prop} {w w' : World} {lo hi g n c : Nat} {qs : List RowP} {rs : List RowD} {i : Nat} {x : RowD} (h : MS w lo hi (.slice (some ⟨g, 0, none⟩) n c) qs rs) (hi1 : i < rs.length) (hap : ApM qs)
    (hf : Frame S w w') (hS : ∀ b, S b → FootR (qs.getD i zRP) b) (h1 : PO w' lo hi (qs.getD i zRP).ca x.cols) (h2 : VS w' lo hi (qs.getD i zRP).va (qs.getD i zRP).ps x.vals) :
    MS w' lo hi (.slice (some ⟨g, 0, none⟩) n c) qs (rs.set i x) := by
  have hpl := h.1
  obtain ⟨hn, g', e, hgs, ⟨A0, n0, c0, hs0⟩, _⟩ := h.cells hi1
  injection e with e
  injection e with e
  subst e
  obtain ⟨hp, A', c', e, q1, q2, h3⟩ := h
  injection e with e1 e2 e3
  subst e2 e3
  obtain ⟨g', e, k1, k2, k3, ke⟩ := h3 (by rintro rfl; simp at hi1)
  rw [← e1] at e
  injection e with e
  injection e with e
  subst e
  have hgS : ¬ S g := fun h' => (ke i hi1).not_slice hs0 (hS g h')
  refine ⟨by simpa using hp, some ⟨g, 0, none⟩, c, by simp, by simpa using q1, q2, fun _ => ⟨g, rfl, k1, k2, Nat.lt_of_lt_of_le k3 hf.size, fun j hj => ?_⟩⟩
  rw [List.length_set] at hj
  rw [getD_setG]
  by_cases e : i = j
  · subst e
    rw [if_pos ⟨rfl, hj⟩]
    exact ⟨(hf.cell hgs hgS).trans (ke i hj).1, (hf.cell hgs hgS).trans (ke i hj).2.1, h1, h2⟩
  · rw [if_neg (fun h' => e h'.1)]
    exact (ke j hj).frame hf hgs hgS (fun b hb hb' => hap.2 j i (by omega) (by omega) (fun h' => e h'.symm) b hb (hS b hb'))
theorem MS.later {w w' : World} {lo hi : Nat} {v : Value} {qs : List RowP} {rs : List RowD} (h : MS w lo hi v qs rs) (hb : Below w.heap.size w w') : MS w' lo hi v qs rs := by
  obtain ⟨hp, A, c, rfl, h1, h2, h3⟩ := h
  refine ⟨hp, A, c, rfl, h1, h2, fun hx => ?_⟩
  obtain ⟨g, rfl, hg, hgh, hgs, he⟩ := h3 hx
  exact ⟨g, rfl, hg, hgh, Nat.lt_of_lt_of_le hgs hb.size, fun j hj => (he j hj).frame (S := fun _ => False) (Frame.of_below hb) hgs (fun h => h) (fun _ _ h => h)⟩
theorem MS.reads {w : World} {lo hi n c : Nat} {A : Option Addr} {qs : List RowP} {rs : List RowD} (h : MS w lo hi (.slice A n c) qs rs) : MI w A rs := by
  intro hx
  obtain ⟨_, A', c', he, _, _, h⟩ := h
  injection he with e1 e2 e3
  subst e1
  obtain ⟨g, rfl, _, _, hlt, h⟩ := h hx
  refine ⟨g, 0, rfl, hlt, fun j hj => ?_⟩
  obtain ⟨h0, h1, h2, h3⟩ := h j hj
  obtain ⟨A1, c1, e1, k1, k2⟩ := h2.form
  obtain ⟨B1, d1, e2, k3, k4⟩ := h3.form
  rw [e1] at h0 h2
  rw [e2] at h1 h3
  rw [Nat.zero_add]
  exact ⟨A1, c1, B1, d1, h0, h1, ⟨k1, k2, k3, k4⟩, h2.reads, h3.reads⟩
theorem MO.parts {w : World} {lo : Nat} {v : Value} {rs : List RowD} (h : MO w lo v rs) : ∃ qs, MS w lo w.heap.size v qs rs := by
  obtain ⟨A, c, rfl, h1, h2, h3⟩ := h
  by_cases hx : rs = []
  · subst hx
    exact ⟨[], rfl, A, c, rfl, h1, h2, fun hh => absurd rfl hh⟩
  · obtain ⟨g, rfl, hg, hgs, hfz, he⟩ := h3 hx
    obtain ⟨l, hl, hq⟩ := list_each zRP rs.length (fun j y => RE w lo w.heap.size g (j * 2) y (rs.getD j zRow)) (fun j hj => by
      obtain ⟨va, vb, q0, q1, q2, q3⟩ := he j hj
      obtain ⟨ps, q3'⟩ := q3.parts
      exact ⟨⟨va, vb, ps⟩, q0, q1, q2.io.wide (by omega) (Nat.le_refl _), q3'.wide (by omega) (Nat.le_refl _)⟩)
    exact ⟨l, hl, some ⟨g, 0, none⟩, c, rfl, h1, h2, fun _ => ⟨g, rfl, hg, hgs, hgs, hq⟩⟩
theorem MS.foot {w : World} {lo hi : Nat} {v : Value} {qs : List RowP} {rs : List RowD} (h : MS w lo hi v qs rs) {b : Nat} (hb : FootM qs b) : lo ≤ b ∧ b < hi := by
  obtain ⟨j, hj, hb⟩ := hb
  obtain ⟨hp, A, c, rfl, h1, h2, h3⟩ := h
  obtain ⟨g, rfl, _, _, _, he⟩ := h3 (by rintro rfl; simp at hp; subst hp; simp at hj)
  have := he j (by omega)
  rcases hb with hb | hb
  · exact this.2.2.1.2 b hb
  · exact this.2.2.2.foot hb

set_option maxRecDepth 100000 in
set_option maxHeartbeats 1600000 in
theorem markRowS (rs : List RowD) (k : Int) (hk : 0 ≤ k) (hk1 : k + (cntM rs : Nat) ≤ 4611686018426339328) (hfew : MFew rs) (lo hi : Nat) (v : Value) (qs : List RowP) (w : World) (h : MS w lo hi v qs rs) :
    Calls Tryz.prog 74 #[v, .int .i64 k] w fun e w' => e = .returned (.int .i64 (k + (cntM rs : Nat))) ∧ Frame (FootM qs) w w' ∧ Turn w w' ∧ (ApM qs → MS w' lo hi v qs (mkM rs k)) := by
  obtain ⟨A, c, rfl, hc1, hc2⟩ := h.form
  have hn1 := hfew.1
  have HF := Lib.hid hfew.2
  have HV := Lib.hid h
  have hm : rs.length ≤ 9223372036854775807 := by omega
  have HC := Lib.hid hk1
  clear h hfew hc1 hc2 hk1
  obtain ⟨n, hn⟩ : ∃ n, rs.length = n := ⟨_, rfl⟩
  rw [hn] at hn1 hm HV ⊢
  have HN := Lib.hid hn; clear hn
  go_enter Tryz.func74, Tryz.ntmps74
  go_wp2_with fail
  go_loopw [1, 5] (fun u z wr => ∃ j : Nat, j ≤ n ∧ u = .int .i64 (k + (cntM (rs.take j) : Nat)) ∧ z = .int .i64 j ∧ Frame (FootM qs) w wr ∧ Turn w wr ∧ Hid (ApM qs → MS wr lo hi (.slice A n c) qs (mixM rs k j))) (fun _ z _ => n - (intOf z).toNat)
  case atStart => exact ⟨0, Nat.zero_le _, by simp [cntM], rfl, Frame.refl _ _, Turn.refl _, Lib.hid (fun _ => by rw [mixM_zero]; exact HV.out)⟩
  case round =>
    obtain ⟨j, hj, rfl, rfl, hfr, htn, HS⟩ := hrel
    by_cases hjn : j = n
    · subst hjn
      have h0 : decide ((j : Int) < (j : Int)) = false := by simp
      have HT := Lib.hid (show rs.take j = rs from List.take_of_length_le (by rw [HN.out]; exact Nat.le_refl _))
      go_wp2
      go_ret
      refine ⟨ret_int (by rw [HT.out]), hfr, htn, fun hap => ?_⟩
      have := HS.out hap
      rw [← HN.out] at this ⊢
      exact this
    · have hlt : (j : Int) < (n : Int) := by omega
      have hjl : j < rs.length := by rw [HN.out]; omega
      obtain ⟨rs', hl', hsh, hvs⟩ := HV.out.turn htn
      obtain ⟨_, g, rfl, hg1, ⟨A0, n0, c0, hz⟩, g0, g1, i1, i2⟩ := hvs.cells (j := j) (by rw [hl']; exact hjl)
      have hs1 := (hsh j hjl).1
      have hs2 := (hsh j hjl).2
      obtain ⟨f1, f2⟩ := HF.out j hjl
      have hcs := cntM_step rs j hjl
      have hcl := cntM_le rs (j + 1)
      have hx : cntRow (rs.getD j zRow) = (rs.getD j zRow).cols.length + cntV (rs.getD j zRow).vals := rfl
      have hK0 : 0 ≤ k + (cntM (rs.take j) : Nat) := by omega
      have hK1 : k + (cntM (rs.take j) : Nat) + (rs.getD j zRow).cols.length + (cntV (rs.getD j zRow).vals : Nat) ≤ 4611686018426339328 := by have := HC.out; omega
      have HT := Lib.hid (show k + (cntM (rs.take (j + 1)) : Nat) = k + (cntM (rs.take j) : Nat) + (rs.getD j zRow).cols.length + (cntV (rs.getD j zRow).vals : Nat) by omega)
      have HG := Lib.hid (fun (hap : ApM qs) => HS.out hap)
      have HM := Lib.hid (show mixM rs k (j + 1) = (mixM rs k j).set j (mkRow (rs.getD j zRow) (k + (cntM (rs.take j) : Nat))) from mixM_succ hjl)
      have HML := Lib.hid (show (mixM rs k j).length = n by rw [mixM_len]; exact HN.out)
      clear hcs hcl hx hsh HS hjl
      generalize rs.getD j zRow = x at *
      generalize k + (cntM (rs.take j) : Nat) = K at *
      generalize rs'.getD j zRow = x' at *
      have m1 := i1.not_slice hz
      have HZ := Lib.hid hz
      have HM1 := Lib.hid (fun (zs : List Int) (hz : zs.length = x.cols.length) W (h : PO W lo hi (qs.getD j zRP).ca zs) => hz ▸ markIntS zs K hK0 (by omega) (by omega) lo hi _ W h)
      have HM2 := Lib.hid (fun (zs : List RatD) (hz : ShV zs x.vals) W (h : VS W lo hi (qs.getD j zRP).va (qs.getD j zRP).ps zs) => by
        have := markRatS zs (K + x.cols.length) (by omega) (by rw [hz.cnt]; omega) (hz.few f2) lo hi _ _ W h
        rw [hz.cnt, hz.mkV] at this
        exact this)
      obtain ⟨ca, hca⟩ : ∃ y, (qs.getD j zRP).ca = y := ⟨_, rfl⟩
      obtain ⟨va, hva⟩ : ∃ y, (qs.getD j zRP).va = y := ⟨_, rfl⟩
      rw [hca] at g0 m1 HM1 i1
      rw [hva] at g1 HM2 i2
      have HCA := Lib.hid hca
      have HVA := Lib.hid hva
      obtain ⟨A1, c1, e1, _⟩ := i1.form
      obtain ⟨B1, d1, e2, _⟩ := i2.form
      subst e1 e2
      have HZA := Lib.hid hs1
      have HZB := Lib.hid hs2
      clear hca hva hs1 hs2 hz
      go_wp2_with fail
      clear g0
      refine (HM1.out _ HZA.out _ i1).mono ?_
      rintro e w2 ⟨rfl, hfA, htA, iA⟩
      have g1' := (hfA.cell hg1 m1).trans g1
      obtain ⟨zb', hzb', ib'⟩ := i2.turns htA
      have HZB' := Lib.hid (show ShV zb' x.vals from ⟨hzb'.1.trans HZB.out.1, fun j hj => (hzb'.2 j (by rw [HZB.out.1]; exact hj)).trans (HZB.out.2 j hj)⟩)
      clear hzb' g1
      go_wp2_with fail
      refine (HM2.out zb' HZB'.out _ ib').mono ?_
      rintro e w3 ⟨rfl, hfB, htB, iB⟩
      clear g1'
      go_wp2
      go_roundw
      case rel =>
        have hnn : n ≠ 0 := by omega
        have hpl : j < qs.length := by have := HV.out.1; have := HN.out; omega
        refine ⟨j + 1, by omega, by rw [HT.out], rfl, (hfr.trans (hfA.mono (fun b hb => ⟨j, hpl, .inl (by rw [HCA.out]; exact hb)⟩))).trans (hfB.mono (fun b hb => ⟨j, hpl, .inr (by rw [HVA.out]; exact hb)⟩)), (htn.trans htA).trans htB, Lib.hid (fun hap => ?_)⟩
        rw [HM.out]
        have hapj := hap.1 j hpl
        have hF : Frame (FootR (qs.getD j zRP)) wr w3 := (hfA.mono (fun b hb => .inl (by rw [HCA.out]; exact hb))).trans (hfB.mono (fun b hb => .inr (by rw [HVA.out]; exact hb)))
        refine (HG.out hap).put (by rw [HML.out]; omega) hap hF (fun b hb => hb) ?_ ?_
        · rw [HCA.out]
          refine iA.frame hfB (fun b h1 h2 => hapj.2 b (by rw [HCA.out]; exact h1) ?_)
          rw [HVA.out]; exact h2
        · rw [HVA.out]
          exact iB hapj.1
      case measure => simp [intOf]; omega

set_option maxHeartbeats 400000 in
theorem markMatrix (rs : List RowD) (k : Int) (hk : 0 ≤ k) (hk1 : k + (cntM rs : Nat) ≤ 4611686018426339328) (hfew : MFew rs) (lo hi : Nat) (v : Value) (qs : List RowP) (w : World) (h : MS w lo hi v qs rs) :
    Calls Tryz.prog 28 #[.agg #[v], .int .i64 k] w fun e w' => e = .returned (.int .i64 (k + (cntM rs : Nat))) ∧ Frame (FootM qs) w w' ∧ Turn w w' ∧ (ApM qs → MS w' lo hi v qs (mkM rs k)) := by
  have HM := Lib.hid (fun W (hW : Below w.heap.size w W) => markRowS rs k hk hk1 hfew lo hi v qs W (h.later hW))
  obtain ⟨A, c, rfl, _⟩ := h.form
  clear h hfew hk1
  go_enter Tryz.func28, Tryz.ntmps28
  go_wp2_with fail
  refine (HM.out _ (below_alloc1 _ _)).mono ?_
  rintro e w1 ⟨rfl, hf, ht, hi1⟩
  replace hf := (Frame.of_below (below_alloc1 _ _)).trans hf
  replace ht := (Turn.of_below (below_alloc1 _ _)).trans ht
  go_wp2
  go_ret
  exact ⟨rfl, hf, ht, hi1⟩
end Go.Proofs.YtkmmdajlbkbnmaaGreat

namespace Go.Proofs.YtkmmdajlbkbnmaaGreat
open Go.RowKit Go.Joins

set_option maxRecDepth 100000 in
set_option maxHeartbeats 1600000 in
theorem heldRatS (rs : List RatD) (n c : Nat) (hn : rs.length = n) (k : Int) (hk : 0 ≤ k) (hk1 : k + (cntV rs : Nat) ≤ 4611686018426339328) (hfew : Few rs) (A : Option Addr) (w : World) (ha : VI w A (mkV rs k)) :
    Calls Tryz.prog 22 #[.slice A n c, .int .i64 k] w fun e w' => e = .returned (.int .i64 (k + (cntV rs : Nat))) ∧ Below w.heap.size w w' := by
  have hn1 : n ≤ 1048576 := hn ▸ hfew.1
  have HF := Lib.hid hfew.2
  have HC := Lib.hid hk1
  have HA := Lib.hid (fun j (hj : j < rs.length) => by
    have := ha.cells j (by rw [mkV, mixV_len]; exact hj)
    rw [mkV, mixV_get hj, if_pos hj] at this
    exact this)
  have HN := Lib.hid hn
  clear ha hfew hk1 hn
  go_enter Tryz.func22, Tryz.ntmps22
  go_wp2_with fail
  go_loopw [1, 5] (fun u z wr => ∃ j : Nat, j ≤ n ∧ u = .int .i64 (k + (cntV (rs.take j) : Nat)) ∧ z = .int .i64 j ∧ Below w.heap.size w wr) (fun _ z _ => n - (intOf z).toNat)
  case atStart => exact ⟨0, Nat.zero_le _, by simp [cntV], rfl, Below.refl _ _⟩
  case round =>
    obtain ⟨j, hj, rfl, rfl, hbel⟩ := hrel
    by_cases hjn : j = n
    · subst hjn
      have h0 : decide ((j : Int) < (j : Int)) = false := by simp
      have HT := Lib.hid (show rs.take j = rs from List.take_of_length_le (by rw [HN.out]; exact Nat.le_refl _))
      go_wp2
      go_ret
      exact ⟨ret_int (by rw [HT.out]), hbel⟩
    · have hlt : (j : Int) < (n : Int) := by omega
      have hjl : j < rs.length := by rw [HN.out]; omega
      obtain ⟨b, off, rfl, hb1, hat⟩ := HA.out j hjl
      have hat1 := RatAt.stays _ _ _ _ _ hb1 hat hbel
      obtain ⟨f1, f2⟩ := HF.out j hjl
      have hcs := cntV_step rs j hjl
      have hcl := cntV_le rs (j + 1)
      have hx : cntR (rs.getD j zR) = 1 + (rs.getD j zR).mag.length + (rs.getD j zR).den.length := rfl
      have hK0 : 0 ≤ k + (cntV (rs.take j) : Nat) := by omega
      have hK1 : k + (cntV (rs.take j) : Nat) ≤ 4611686018426339328 - 1 - (rs.getD j zR).mag.length - (rs.getD j zR).den.length := by have := HC.out; omega
      have HT := Lib.hid (show k + (cntV (rs.take (j + 1)) : Nat) = k + (cntV (rs.take j) : Nat) + 1 + (rs.getD j zR).mag.length + (rs.getD j zR).den.length by omega)
      clear hcs hcl hx hjl hat
      generalize rs.getD j zR = x at *
      generalize k + (cntV (rs.take j) : Nat) = K at *
      obtain ⟨A1, c1, B1, d1, g0, g1, g2, hcd, r1, r2⟩ := hat1
      simp only [mkRat, mkI_len] at g0 g1 g2 r1 r2
      have HM1 := Lib.hid (fun W (hW : Below wr.heap.size wr W) => heldIntS x.mag.length c1 (K + 1) (by omega) (by omega) f1 A1 W (r1.later hW))
      have HM2 := Lib.hid (fun W (hW : Below wr.heap.size wr W) => heldIntS x.den.length d1 (K + 1 + x.mag.length) (by omega) (by omega) f2 B1 W (r2.later hW))
      have hbb : ((K % 3 == 0) == (K % 3 == 0)) = true := by simp
      have hp1 : decide (K + 1 + (x.mag.length : Int) < 0) = false := decide_eq_false (by omega)
      have hp2 : decide (K + 1 + (x.mag.length : Int) + (x.den.length : Int) < 0) = false := decide_eq_false (by omega)
      have hbw : b < wr.heap.size := Nat.lt_of_lt_of_le hb1 hbel.size
      clear r1 r2 hcd
      go_wp2_with fail
      refine (HM1.out _ (Below.refl _ _)).mono ?_
      rintro e w2 ⟨rfl, hb2⟩
      have g2' := cell_later hbw g2 hb2
      clear g0 g1 g2
      go_wp2_with fail
      refine (HM2.out _ hb2).mono ?_
      rintro e w3 ⟨rfl, hb3⟩
      have hbel3 := hbel.trans (below_le (below_trans hb2 hb3) hbel.size)
      clear g2' hb2 hb3 hbel
      go_wp2
      go_roundw
      case rel => exact ⟨j + 1, by omega, by rw [HT.out], rfl, hbel3⟩
      case measure => simp [intOf]; omega
end Go.Proofs.YtkmmdajlbkbnmaaGreat

namespace Go.Proofs.YtkmmdajlbkbnmaaGreat
open Go.RowKit Go.Joins

theorem same_of {x y : RowD} (h1 : vsame x.vals y.vals = true) (h2 : x.cols = y.cols) : x.same y = true := by simp [RowD.same, h1, h2]
theorem same_no1 {x y : RowD} (h1 : vsame x.vals y.vals = false) : x.same y = false := by simp [RowD.same, h1]
theorem same_no2 {x y : RowD} (h : x.cols ≠ y.cols) : x.same y = false := by simp [RowD.same, h]

theorem matSelf (rs : List RowD) (u v : Value) (w : World) (hu : MatV w u rs) (hv : MatV w v rs) (hf : MFew rs) :
    Calls Tryz.prog 27 #[u, v] w fun e w' => e = .returned (.bool true) ∧ Below w.heap.size w w' := by
  have h := eqMatrix rs rs u v w hu hv hf hf
  rwa [msame_refl] at h
end Go.Proofs.YtkmmdajlbkbnmaaGreat

namespace Go.Proofs.YtkmmdajlbkbnmaaGreat
open Go.RowKit Go.Joins

theorem Slots.frame {S : Nat → Prop} {w w' : World} {g : Nat} {cs : List Value} (h : Slots w g cs) (hf : Frame S w w') (hs : ¬ S g) : Slots w' g cs :=
  ⟨Nat.lt_of_lt_of_le h.1 hf.size, fun i hi => by rw [hf.cell h.1 hs]; exact h.2.1 i hi, fun i => by rw [hf.frozen h.1 hs]; exact h.2.2 i⟩

/-- A fraction between lo and hi, its parts apart. -/
def RS (w : World) (lo hi : Nat) (v : Value) (r : RatD) : Prop := ∃ va vb, v = .agg #[.bool r.neg, va, vb] ∧ PO w lo hi va r.mag ∧ PO w lo hi vb r.den ∧ Apart va vb
theorem RatP.rs {w : World} {base : Nat} {v : Value} {r : RatD} (h : RatP w base v r) : RS w base w.heap.size v r := by
  obtain ⟨va, vb, rfl, h1, h2, h3⟩ := h
  exact ⟨va, vb, rfl, h1.io, h2.io, h3⟩
theorem RS.frame {S : Nat → Prop} {w w' : World} {lo hi : Nat} {v : Value} {r : RatD} (h : RS w lo hi v r) (hf : Frame S w w') (hs : ∀ b, lo ≤ b → b < hi → ¬ S b) : RS w' lo hi v r := by
  obtain ⟨va, vb, rfl, h1, h2, h3⟩ := h
  exact ⟨va, vb, rfl, h1.frame hf (fun b hb => hs b (h1.2 b hb).1 (h1.2 b hb).2), h2.frame hf (fun b hb => hs b (h2.2 b hb).1 (h2.2 b hb).2), h3⟩
theorem RS.later {w w' : World} {lo hi : Nat} {v : Value} {r : RatD} (h : RS w lo hi v r) (hb : Below w.heap.size w w') : RS w' lo hi v r :=
  h.frame (S := fun _ => False) (Frame.of_below hb) (fun _ _ _ h => h)
theorem RS.reads {w : World} {lo hi : Nat} {v : Value} {r : RatD} (h : RS w lo hi v r) : RatV w v r := by
  obtain ⟨va, vb, rfl, h1, h2, h3⟩ := h
  exact RatP.reads ⟨va, vb, rfl, h1.1, h2.1, h3⟩
theorem RS.form {w : World} {lo hi : Nat} {v : Value} {r : RatD} (h : RS w lo hi v r) : ∃ A n c B m d, v = .agg #[.bool r.neg, .slice A n c, .slice B m d] := by
  obtain ⟨va, vb, rfl, h1, h2, _⟩ := h
  obtain ⟨A, c, rfl, _⟩ := h1.form
  obtain ⟨B, d, rfl, _⟩ := h2.form
  exact ⟨A, _, c, B, _, d, rfl⟩

/-- What a fraction takes behind a mark. -/
def mkR (r : RatD) (k : Int) : RatD := ⟨r.neg, mkI r.mag.length k, mkI r.den.length (k + r.mag.length)⟩
theorem markRS (r : RatD) (k : Int) (hk : 0 ≤ k) (hk1 : k ≤ 4611686018426339328) (hn1 : r.mag.length ≤ 1048576) (hn2 : r.den.length ≤ 1048576) (lo hi : Nat) (v : Value) (w : World) (h : RS w lo hi v r) :
    Calls Tryz.prog 32 #[v, .int .i64 k] w fun e w' => e = .returned (.int .i64 (k + r.mag.length + r.den.length)) ∧ Frame (fun b => lo ≤ b ∧ b < hi) w w' ∧ RS w' lo hi v (mkR r k) := by
  obtain ⟨va, vb, rfl, h1, h2, h3⟩ := h
  refine (markRat r.neg r.mag r.den k hk hk1 hn1 hn2 lo hi va vb w h1 h2).mono ?_
  rintro e w' ⟨he, hf, _, hm⟩
  obtain ⟨m1, m2⟩ := hm h3
  exact ⟨he, hf.mono (fun b hb => hb.elim (h1.2 b) (h2.2 b)), va, vb, rfl, m1, m2, h3⟩
theorem heldRS (r : RatD) (k : Int) (hk : 0 ≤ k) (hk1 : k ≤ 4611686018426339328) (hn1 : r.mag.length ≤ 1048576) (hn2 : r.den.length ≤ 1048576) (lo hi : Nat) (v : Value) (w : World) (h : RS w lo hi v (mkR r k)) :
    Calls Tryz.prog 33 #[v, .int .i64 k] w fun e w' => e = .returned (.int .i64 (k + r.mag.length + r.den.length)) ∧ Below w.heap.size w w' := by
  obtain ⟨va, vb, rfl, h1, h2, h3⟩ := h
  obtain ⟨A, c, rfl, _⟩ := h1.form
  obtain ⟨B, d, rfl, _⟩ := h2.form
  have e1 : (mkR r k).mag.length = r.mag.length := mkI_len _ _
  have e2 : (mkR r k).den.length = r.den.length := mkI_len _ _
  have q1 := h1.reads
  have q2 := h2.reads
  rw [e1, e2]
  exact heldRat r.neg r.mag.length r.den.length c d k hk hk1 hn1 hn2 A B w q1 q2

theorem sum_le {α : Type} (f : α → Nat) (B : Nat) : ∀ l : List α, (∀ x ∈ l, f x ≤ B) → (l.map f).sum ≤ l.length * B
  | [], _ => by simp
  | x :: l, h => by
    have h1 := h x (by simp)
    have h2 := sum_le f B l (fun y hy => h y (by simp [hy]))
    simp only [List.map_cons, List.sum_cons, List.length_cons, Nat.add_mul]
    omega
theorem mem_getD {α : Type} {d : α} {l : List α} {x : α} (h : x ∈ l) : ∃ k, k < l.length ∧ l.getD k d = x := by
  obtain ⟨k, hk, e⟩ := List.mem_iff_getElem.1 h
  exact ⟨k, hk, by simpa [hk] using e⟩
theorem cntV_few {rs : List RatD} (h : Few rs) : cntV rs ≤ 1048576 * 2097153 := by
  refine Nat.le_trans (sum_le cntR 2097153 rs (fun x hx => ?_)) (Nat.mul_le_mul_right _ h.1)
  obtain ⟨k, hk, rfl⟩ := mem_getD (d := zR) hx
  obtain ⟨h1, h2⟩ := h.2 k hk
  unfold cntR
  omega
theorem cntM_few {rs : List RowD} (h : MFew rs) : cntM rs ≤ 1048576 * (1048576 + 1048576 * 2097153) := by
  refine Nat.le_trans (sum_le cntRow (1048576 + 1048576 * 2097153) rs (fun x hx => ?_)) (Nat.mul_le_mul_right _ h.1)
  obtain ⟨k, hk, rfl⟩ := mem_getD (d := zRow) hx
  obtain ⟨h1, h2⟩ := h.2 k hk
  have := cntV_few h2
  unfold cntRow
  omega
/-- A matrix of the call's own between lo and hi. -/
def MX (w : World) (lo hi : Nat) (v : Value) (rs : List RowD) : Prop := ∃ qs, MS w lo hi v qs rs
theorem MX.later {w w' : World} {lo hi : Nat} {v : Value} {rs : List RowD} (h : MX w lo hi v rs) (hb : Below w.heap.size w w') : MX w' lo hi v rs := by
  obtain ⟨qs, h⟩ := h
  exact ⟨qs, h.later hb⟩
theorem MX.reads {w : World} {lo hi : Nat} {v : Value} {rs : List RowD} (h : MX w lo hi v rs) : MatV w (.agg #[v]) rs := by
  obtain ⟨qs, h⟩ := h
  obtain ⟨A, c, rfl, h1, h2⟩ := h.form
  exact ⟨A, c, rfl, ⟨h1, h2⟩, h.reads⟩
theorem MatO.mx {w : World} {base : Nat} {v : Value} {rs : List RowD} (h : MatO w base v rs) : ∃ A c, v = .agg #[.slice A rs.length c] ∧ MX w base w.heap.size (.slice A rs.length c) rs := by
  obtain ⟨va, rfl, h⟩ := h
  obtain ⟨A, c, rfl, _⟩ := h.form
  exact ⟨A, c, rfl, h.parts⟩
theorem markMS (rs : List RowD) (k : Int) (hk : 0 ≤ k) (hk1 : k ≤ 1048576) (hfew : MFew rs) (lo hi : Nat) (v : Value) (w : World) (h : MX w lo hi v rs) :
    Calls Tryz.prog 28 #[.agg #[v], .int .i64 k] w fun e w' => e = .returned (.int .i64 (k + (cntM rs : Nat))) ∧ Frame (fun b => lo ≤ b ∧ b < hi) w w' := by
  obtain ⟨qs, h⟩ := h
  have hc := cntM_few hfew
  refine (markMatrix rs k hk (by omega) hfew lo hi v qs w h).mono ?_
  rintro e w' ⟨he, hf, _⟩
  exact ⟨he, hf.mono (fun b hb => h.foot hb)⟩
/-- A vector of the call's own between lo and hi. -/
def VX (w : World) (lo hi : Nat) (v : Value) (rs : List RatD) : Prop := ∃ ps, VS w lo hi v ps rs
/-- The same, its parts apart. -/
def VZ (w : World) (lo hi : Nat) (v : Value) (rs : List RatD) : Prop := ∃ ps, VS w lo hi v ps rs ∧ Aps ps
theorem VX.later {w w' : World} {lo hi : Nat} {v : Value} {rs : List RatD} (h : VX w lo hi v rs) (hb : Below w.heap.size w w') : VX w' lo hi v rs := by
  obtain ⟨ps, h⟩ := h
  exact ⟨ps, h.later hb⟩
theorem VZ.later {w w' : World} {lo hi : Nat} {v : Value} {rs : List RatD} (h : VZ w lo hi v rs) (hb : Below w.heap.size w w') : VZ w' lo hi v rs := by
  obtain ⟨ps, h, ha⟩ := h
  exact ⟨ps, h.later hb, ha⟩
theorem VX.frame {S : Nat → Prop} {w w' : World} {lo hi : Nat} {v : Value} {rs : List RatD} (h : VX w lo hi v rs) (hf : Frame S w w') (hs : ∀ b, lo ≤ b → b < hi → ¬ S b) : VX w' lo hi v rs := by
  obtain ⟨ps, h⟩ := h
  exact ⟨ps, h.frame hf (fun b hb => hs b (h.foot hb).1 (h.foot hb).2)⟩
theorem VZ.frame {S : Nat → Prop} {w w' : World} {lo hi : Nat} {v : Value} {rs : List RatD} (h : VZ w lo hi v rs) (hf : Frame S w w') (hs : ∀ b, lo ≤ b → b < hi → ¬ S b) : VZ w' lo hi v rs := by
  obtain ⟨ps, h, ha⟩ := h
  exact ⟨ps, h.frame hf (fun b hb => hs b (h.foot hb).1 (h.foot hb).2), ha⟩
theorem VX.reads {w : World} {lo hi n c : Nat} {A : Option Addr} {rs : List RatD} (h : VX w lo hi (.slice A n c) rs) : VI w A rs := by
  obtain ⟨ps, h⟩ := h
  exact h.reads
theorem VZ.reads {w : World} {lo hi n c : Nat} {A : Option Addr} {rs : List RatD} (h : VZ w lo hi (.slice A n c) rs) : VI w A rs := by
  obtain ⟨ps, h, _⟩ := h
  exact h.reads
theorem VO.vx {w : World} {lo : Nat} {v : Value} {rs : List RatD} (h : VO w lo v rs) : ∃ A c, v = .slice A rs.length c ∧ VX w lo w.heap.size (.slice A rs.length c) rs := by
  obtain ⟨ps, h⟩ := h.parts
  obtain ⟨A, c, rfl, _⟩ := h.form
  exact ⟨A, c, rfl, ps, h⟩
theorem VZ.mk' {w : World} {lo hi : Nat} {v : Value} {ps : List (Value × Value)} {rs : List RatD} (h : VS w lo hi v ps rs) (ha : Aps ps) : ∃ A c, v = .slice A rs.length c ∧ VZ w lo hi (.slice A rs.length c) rs := by
  obtain ⟨A, c, rfl, _⟩ := h.form
  exact ⟨A, c, rfl, ps, h, ha⟩
theorem markVX (rs : List RatD) (k : Int) (hk : 0 ≤ k) (hk1 : k ≤ 4000000000000000000) (hfew : Few rs) (lo hi : Nat) (v : Value) (w : World) (h : VX w lo hi v rs) :
    Calls Tryz.prog 21 #[v, .int .i64 k] w fun e w' => e = .returned (.int .i64 (k + (cntV rs : Nat))) ∧ Frame (fun b => lo ≤ b ∧ b < hi) w w' := by
  obtain ⟨ps, h⟩ := h
  have hc := cntV_few hfew
  refine (markRatS rs k hk (by omega) hfew lo hi v ps w h).mono ?_
  rintro e w' ⟨he, hf, _⟩
  exact ⟨he, hf.mono (fun b hb => h.foot hb)⟩
theorem markVZ (rs : List RatD) (k : Int) (hk : 0 ≤ k) (hk1 : k ≤ 4000000000000000000) (hfew : Few rs) (lo hi : Nat) (v : Value) (w : World) (h : VZ w lo hi v rs) :
    Calls Tryz.prog 21 #[v, .int .i64 k] w fun e w' => e = .returned (.int .i64 (k + (cntV rs : Nat))) ∧ Frame (fun b => lo ≤ b ∧ b < hi) w w' ∧ VZ w' lo hi v (mkV rs k) := by
  obtain ⟨ps, h, ha⟩ := h
  have hc := cntV_few hfew
  refine (markRatS rs k hk (by omega) hfew lo hi v ps w h).mono ?_
  rintro e w' ⟨he, hf, _, hm⟩
  exact ⟨he, hf.mono (fun b hb => h.foot hb), ps, hm ha, ha⟩
theorem heldVZ (rs : List RatD) (n c : Nat) (hn : rs.length = n) (k : Int) (hk : 0 ≤ k) (hk1 : k ≤ 4000000000000000000) (hfew : Few rs) (lo hi : Nat) (A : Option Addr) (w : World) (h : VZ w lo hi (.slice A n c) (mkV rs k)) :
    Calls Tryz.prog 22 #[.slice A n c, .int .i64 k] w fun e w' => e = .returned (.int .i64 (k + (cntV rs : Nat))) ∧ Below w.heap.size w w' :=
  heldRatS rs n c hn k hk (by have := cntV_few hfew; omega) hfew A w h.reads
theorem vecSelf (rs : List RatD) (n c m d : Nat) (hn : rs.length = n) (hm : rs.length = m) (hf : Few rs) (A B : Option Addr) (w : World) (ha : VI w A rs) (hb : VI w B rs) :
    Calls Tryz.prog 18 #[.slice A n c, .slice B m d] w fun e w' => e = .returned (.bool true) ∧ Below w.heap.size w w' := by
  have h := eqRatS rs rs n m c d hn hm hf hf A B w ha hb
  rwa [vsame_refl] at h
end Go.Proofs.YtkmmdajlbkbnmaaGreat
