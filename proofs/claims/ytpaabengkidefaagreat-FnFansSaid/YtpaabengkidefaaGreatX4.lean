/-
  Shared texts (X4).
-/
import Derived.Test.YtpaabengkidefaaGreatX3
import Derived.Test.YtpaabengkidefaaGreatProg
import Derived.WalkKit
import Derived.WalkSpells
import Derived.WalkLawsBesides
import Derived.BigQuiet
import Derived.Deep.QuietTactic
import Derived.Deep.Draws
import Derived.Deep.OwnRows
import Derived.Lib.Hide
import Derived.StillTailTactics
import Derived.Deep.Slices
import Derived.Lib.SmallJoins
namespace Go.Proofs.YtpaabengkidefaaGreat
namespace FE

theorem val_take_succ' (l : List Int) (i : Nat) : val (l.take (i + 1)) = val (l.take i) + bp i * l.getD i 0 := by
  by_cases hi : i < l.length
  · rw [val_take_succ l i hi]; simp [hi]
  · rw [List.take_of_length_le (by omega), List.take_of_length_le (by omega)]
    simp [List.getElem?_eq_none (show l.length ≤ i by omega)]

theorem val_snoc (l : List Int) (x : Int) : val (l ++ [x]) = val l + bp l.length * x := by
  rw [val_append, val_cons, val_nil]; simp

theorem Dig.snoc {l : List Int} {x : Int} (h : Dig l) (h0 : 0 ≤ x) (h1 : x < 1000000000) : Dig (l ++ [x]) := h.append (Dig.cons h0 h1 Dig.nil)

theorem bp_mul_succ (k : Nat) (x : Int) : bp (k + 1) * x = bp k * (1000000000 * x) := by rw [bp_succ]; grind

theorem addStep {X Y zs : List Int} {k : Nat} {cy s : Int} (hz : zs.length = k) (hd : Dig zs) (hv : val zs + bp k * cy = val (X.take k) + val (Y.take k))
    (hs : s = X.getD k 0 + cy + Y.getD k 0) :
    Dig (zs ++ [s % 1000000000]) ∧ val (zs ++ [s % 1000000000]) + bp (k + 1) * (s / 1000000000) = val (X.take (k + 1)) + val (Y.take (k + 1)) := by
  refine ⟨hd.snoc (by omega) (by omega), ?_⟩
  rw [val_snoc, hz, val_take_succ', val_take_succ', bp_mul_succ]
  have e : s % 1000000000 + 1000000000 * (s / 1000000000) = s := by omega
  have : bp k * (s % 1000000000) + bp k * (1000000000 * (s / 1000000000)) = bp k * s := by rw [← Int.mul_add, e]
  rw [hs] at this ⊢
  grind

theorem getD_set (l : List Int) (i j : Nat) (x : Int) : (l.set i x).getD j 0 = if i = j ∧ i < l.length then x else l.getD j 0 := by
  simp only [List.getD_eq_getElem?_getD, List.getElem?_set]
  by_cases h : i = j
  · subst h
    by_cases hi : i < l.length
    · simp [hi]
    · simp [hi]
  · simp [h]

theorem val_set' (l : List Int) (i : Nat) (x : Int) (hi : i < l.length) : val (l.set i x) = val l + bp i * (x - l.getD i 0) := by
  rw [val_set l i x hi]; simp [hi]

theorem mul_bound {x y : Int} (hx : 0 ≤ x ∧ x < 1000000000) (hy : 0 ≤ y ∧ y ≤ 1000000000) : 0 ≤ x * y ∧ x * y ≤ 999999999 * y ∧ x * y ≤ 1000000000 * x := by
  refine ⟨Int.mul_nonneg hx.1 hy.1, Int.mul_le_mul_of_nonneg_right (by omega) hy.1, ?_⟩
  rw [Int.mul_comm 1000000000]
  exact Int.mul_le_mul_of_nonneg_left hy.2 hx.1

/-- A step of the division by a limb. -/
theorem divStep {xs zs : List Int} {j : Nat} {r d t : Int} (hd : 0 < d) (hr0 : 0 ≤ r) (hrd : r < d) (hxs : Dig xs) (hj : j < xs.length) (hzl : zs.length = xs.length) (hz : Dig zs)
    (h0 : zs.getD j 0 = 0) (hv : val xs = d * val zs + bp (j + 1) * r + val (xs.take (j + 1))) (ht : t = r * 1000000000 + xs.getD j 0) :
    0 ≤ t / d ∧ t / d < 1000000000 ∧ Dig (zs.set j (t / d)) ∧ val xs = d * val (zs.set j (t / d)) + bp j * (t % d) + val (xs.take j) := by
  have hx := hxs.getD j
  have q0 : 0 ≤ t / d := Int.ediv_nonneg (by omega) (by omega)
  have q1 : t / d < 1000000000 := by
    refine Int.ediv_lt_of_lt_mul hd ?_
    have : r * 1000000000 ≤ (d - 1) * 1000000000 := by omega
    omega
  refine ⟨q0, q1, hz.set j q0 q1, ?_⟩
  rw [val_set' _ _ _ (by omega), h0, hv, val_take_succ', bp_mul_succ]
  have e : d * (t / d) + t % d = t := Int.mul_ediv_add_emod t d
  have : bp j * (d * (t / d)) + bp j * (t % d) = bp j * t := by rw [← Int.mul_add, e]
  rw [ht] at this ⊢
  grind

/-- A step of the product with a limb. -/
theorem scaleStep {xs zs : List Int} {k : Nat} {cy by_ t : Int} (hz : Dig zs) (hk : k < zs.length) (h0 : zs.getD k 0 = 0) (hcy : 0 ≤ cy) (hcb : cy ≤ by_) (hb : by_ < 1000000000) (hxs : Dig xs)
    (hv : val zs + bp k * cy = val (xs.take k) * by_) (ht : t = cy + xs.getD k 0 * by_) :
    Dig (zs.set k (t % 1000000000)) ∧ val (zs.set k (t % 1000000000)) + bp (k + 1) * (t / 1000000000) = val (xs.take (k + 1)) * by_ ∧ 0 ≤ t / 1000000000 ∧ t / 1000000000 ≤ by_ := by
  have hx := hxs.getD k
  have hm := mul_bound hx ⟨show 0 ≤ by_ by omega, by omega⟩
  refine ⟨hz.set k (by omega) (by omega), ?_, by omega, by omega⟩
  rw [val_set' _ _ _ hk, h0, val_take_succ', bp_mul_succ]
  have e : t % 1000000000 + 1000000000 * (t / 1000000000) = t := by omega
  have : bp k * (t % 1000000000) + bp k * (1000000000 * (t / 1000000000)) = bp k * t := by rw [← Int.mul_add, e]
  rw [ht] at this ⊢
  grind

theorem set_mid (P l : List Int) (k : Nat) (t : Int) (hP : P.length = k) (hk : k < l.length) : (P ++ l.drop k).set k t = (P ++ [t]) ++ l.drop (k + 1) := by
  rw [List.set_append_right _ _ (by omega), hP, Nat.sub_self, List.drop_eq_getElem_cons hk, List.set_cons_zero]
  simp
theorem getD_mid (P l : List Int) (k : Nat) (hP : P.length = k) (_hk : k < l.length) : (P ++ l.drop k).getD k 0 = l.getD k 0 := by
  rw [List.getD_eq_getElem?_getD, List.getElem?_append_right (by omega), hP, Nat.sub_self, List.getElem?_drop]
  simp

/-- A step of taking a multiple away, in place. -/
theorem takeStep {ws vs zs : List Int} {k : Nat} {bo by_ t b2 t2 : Int} (hz : zs.length = k) (hd : Dig zs) (hws : Dig ws) (hvs : Dig vs) (hb0 : 0 ≤ bo) (hb1 : bo < 1000000000) (hby : 0 ≤ by_ ∧ by_ < 1000000000)
    (hv : val zs - bp k * bo = val (ws.take k) - by_ * val (vs.take k)) (ht : t = ws.getD k 0 - bo - vs.getD k 0 * by_) (hb2 : b2 = if t < 0 then (-t + 1000000000 - 1) / 1000000000 else 0) (ht2 : t2 = if t < 0 then t + b2 * 1000000000 else t) :
    Dig (zs ++ [t2]) ∧ val (zs ++ [t2]) - bp (k + 1) * b2 = val (ws.take (k + 1)) - by_ * val (vs.take (k + 1)) ∧ 0 ≤ b2 ∧ b2 < 1000000000 := by
  have hx := hws.getD k
  have hy := hvs.getD k
  have hm := mul_bound hy ⟨hby.1, by omega⟩
  generalize hp : vs.getD k 0 * by_ = p at *
  have hp2 : p ≤ 999999998000000001 := by omega
  have ht2' : 0 ≤ t2 ∧ t2 < 1000000000 := by
    subst ht2 hb2
    split <;> omega
  have hb2' : 0 ≤ b2 ∧ b2 < 1000000000 := by
    subst hb2
    split <;> omega
  refine ⟨hd.snoc ht2'.1 ht2'.2, ?_, hb2'.1, hb2'.2⟩
  have e : t2 = t + 1000000000 * b2 := by
    subst ht2 hb2
    split <;> omega
  rw [val_snoc, hz, val_take_succ', val_take_succ', bp_mul_succ, e, ht, ← hp]
  grind

theorem addBackStep {ws vs zs : List Int} {k : Nat} {cy t : Int} (hz : zs.length = k) (hd : Dig zs) (hws : Dig ws) (hvs : Dig vs) (hc0 : 0 ≤ cy) (hc1 : cy ≤ 1)
    (hv : val zs + bp k * cy = val (ws.take k) + val (vs.take k)) (ht : t = ws.getD k 0 + cy + vs.getD k 0) :
    Dig (zs ++ [t % 1000000000]) ∧ val (zs ++ [t % 1000000000]) + bp (k + 1) * (t / 1000000000) = val (ws.take (k + 1)) + val (vs.take (k + 1)) ∧ 0 ≤ t / 1000000000 ∧ t / 1000000000 ≤ 1 := by
  have hx := hws.getD k
  have hy := hvs.getD k
  have h := addStep hz hd hv ht
  exact ⟨h.1, h.2, by omega, by omega⟩

theorem takeEnd {ws vs zs : List Int} {n : Nat} {bo q t : Int} (hz : zs.length = n) (hd : Dig zs) (hws : Dig ws) (hvn : vs.length = n) (hb0 : 0 ≤ bo)
    (hv : val zs - bp n * bo = val (ws.take n) - q * val (vs.take n)) (hlo : - bp n ≤ val (ws.take (n + 1)) - q * val vs) (ht : t = ws.getD n 0 - bo) :
    -1 ≤ t ∧ t < 1000000000 ∧ (t < 0 → Dig (zs ++ [t + 1000000000]) ∧ val (zs ++ [t + 1000000000]) = val (ws.take (n + 1)) - q * val vs + bp (n + 1) * 1) ∧
      (0 ≤ t → Dig (zs ++ [t]) ∧ val (zs ++ [t]) = val (ws.take (n + 1)) - q * val vs + bp (n + 1) * 0) := by
  have hx := hws.getD n
  have h1 := val_lt hd
  have h2 := bp_pos n
  rw [hz] at h1
  rw [List.take_of_length_le (l := vs) (by omega)] at hv
  have e : val (ws.take (n + 1)) - q * val vs = val zs + bp n * t := by
    rw [val_take_succ', ht]; grind
  rw [e] at hlo ⊢
  have ht1 : -1 ≤ t := by
    rcases Int.lt_or_le t (-1) with h | h
    · exfalso
      have := Int.mul_le_mul_of_nonneg_left (show t ≤ -2 by omega) (show 0 ≤ bp n by omega)
      omega
    · exact h
  refine ⟨ht1, by omega, fun h => ⟨hd.snoc (by omega) (by omega), ?_⟩, fun h => ⟨hd.snoc h (by omega), ?_⟩⟩
  · rw [val_snoc, hz, bp_mul_succ]; grind
  · rw [val_snoc, hz]; grind

theorem addBackEnd {ws vs zs : List Int} {n : Nat} {cy : Int} (hvn : vs.length ≤ n) (hv : val zs + bp n * cy = val (ws.take n) + val (vs.take n)) : val zs + bp n * cy = val (ws.take n) + val vs := by
  rwa [List.take_of_length_le (l := vs) hvn] at hv

end FE
end Go.Proofs.YtpaabengkidefaaGreat

namespace Go.Proofs.YtpaabengkidefaaGreat
open Go.RowKit

theorem ret_int {k : IntKind} {a b : Int} (h : a = b) : Ending.returned (.int k a) = .returned (.int k b) := by rw [h]
theorem ret_bool {a b : Bool} (h : a = b) : Ending.returned (.bool a) = .returned (.bool b) := by rw [h]

/-- The slice at address A reads as the list xs (nothing is asked of an empty one). -/
def RI (w : World) (A : Option Addr) (xs : List Int) : Prop :=
  xs ≠ [] → ∃ b off, A = some ⟨b, off, none⟩ ∧ b < w.heap.size ∧ ∀ i, i < xs.length → w.cell? ⟨b, off + i, none⟩ = some (.int .i64 (xs.getD i 0))

theorem RI.below {w w' : World} {A : Option Addr} {xs : List Int} {B : Nat} (h : RI w A xs) (hb : Below B w w') (hB : ∀ a, A = some a → xs ≠ [] → a.block < B) : RI w' A xs := by
  intro hx
  obtain ⟨b, off, rfl, hlt, hc⟩ := h hx
  refine ⟨b, off, rfl, Nat.lt_of_lt_of_le hlt hb.size, fun i hi => ?_⟩
  rw [hb.cell (p := ⟨b, off + i, none⟩) (hB ⟨b, off, none⟩ rfl hx)]
  exact hc i hi

theorem RI.later {w w' : World} {A : Option Addr} {xs : List Int} (h : RI w A xs) (hb : Below w.heap.size w w') : RI w' A xs :=
  h.below hb (by
    rintro a rfl hx
    obtain ⟨b, off, he, hlt, _⟩ := h hx
    injection he with he
    subst he
    exact hlt)

theorem RI.drewN {w : World} {A : Option Addr} {xs : List Int} (h : RI w A xs) (n : Nat) : RI (w.drewN n) A xs := h
theorem RI.drew {w : World} {A : Option Addr} {xs : List Int} (h : RI w A xs) : RI w.drew A xs := h
theorem RI.alloc {w : World} {A : Option Addr} {xs : List Int} (h : RI w A xs) (o : Obj) : RI (w.alloc o) A xs :=
  h.later ((Below.refl _ _).alloc (Nat.le_refl _) o)
theorem RI.nil (w : World) (A : Option Addr) : RI w A [] := fun h => absurd rfl h

theorem RI.of_own {w : World} {base : Nat} {e : TypeId} {xs : List Int} {A : Option Addr} {n c : Nat} (h : w.ownsRow base e 1 (.slice A n c) n (xs.map (Value.int .i64))) : RI w A xs := by
  intro hx
  have hlen : xs.length = n := by simpa using h.1
  have hn : n ≠ 0 := by
    intro h0
    exact hx (List.eq_nil_of_length_eq_zero (by omega))
  rcases h.2 with ⟨_, h0⟩ | ⟨g, cap, cur, hv, _, hh, _⟩
  · exact absurd h0 hn
  · injection hv with hA _ _
    subst hA
    refine ⟨g, 0, rfl, (Array.getElem?_eq_some_iff.1 hh).1, fun i hi => ?_⟩
    have := h.cells (g := g) rfl i (.int .i64 (xs.getD i 0)) (by simp [hi])
    unfold Addr.add at this
    by_cases hi0 : i = 0
    · subst hi0; simpa using this
    · rw [if_neg hi0] at this; simpa using this

theorem below_drewN {B : Nat} {a w : World} (h : Below B a w) (n : Nat) : Below B a (w.drewN n) := ⟨h.os, h.tape, h.output, h.size, h.block⟩
theorem below_self_drewN {B : Nat} (w : World) (n : Nat) : Below B w (w.drewN n) := below_drewN (Below.refl _ _) n
theorem below_trans {a b c : World} (h : Below a.heap.size a b) (k : Below b.heap.size b c) : Below a.heap.size a c := h.trans (k.mono h.size)
theorem quiet_add_same {P : Program} {f : FuncId} {args : Array Value} {w : World} {a n : Nat} {v : Value}
    (h : Calls P f args (w.drewN (a + n)) fun e w' => e = .returned v ∧ w' = w.drewN (a + n)) :
    Calls P f args (w.drewN (a + n)) fun e w'' => e = .returned v ∧ ∃ m, w'' = w.drewN (a + m) :=
  h.mono fun _ _ ⟨he, hm⟩ => ⟨he, n, hm⟩

theorem Tryz.intInfo : (Tryz.prog.info? 3).map (fun i => (i.zero, i.size, i.bytes)) = some (some (.int .i64 0), 1, 8) := by kernel_rfl

/-- Block g is an array of ints of the call's own: its first cells are xs, it has cap cells. -/
def Arr (w : World) (g cap : Nat) (xs : List Int) : Prop :=
  ∃ rest : List Value, xs.length + rest.length = cap ∧ cap ≤ maxLen ∧ w.heap[g]? = some (.cells (xs.map (Value.int .i64) ++ rest).toArray 3 (0, 0))

theorem Arr.lt {w : World} {g cap : Nat} {xs : List Int} (h : Arr w g cap xs) : g < w.heap.size := by
  obtain ⟨rest, _, _, hh⟩ := h
  exact (Array.getElem?_eq_some_iff.1 hh).1
theorem Arr.len {w : World} {g cap : Nat} {xs : List Int} (h : Arr w g cap xs) : xs.length ≤ cap ∧ cap ≤ maxLen := by
  obtain ⟨rest, h1, h2, _⟩ := h
  exact ⟨by omega, h2⟩
theorem Arr.cell {w : World} {g cap : Nat} {xs : List Int} (h : Arr w g cap xs) (i : Nat) (hi : i < xs.length) : w.cell? ⟨g, i, none⟩ = some (.int .i64 (xs.getD i 0)) := by
  obtain ⟨rest, _, _, hh⟩ := h
  rw [cell_of_row w g i _ 3 (0, 0) hh]
  simp [hi, List.getElem?_append_left]
theorem Arr.frozen {w : World} {g cap : Nat} {xs : List Int} (h : Arr w g cap xs) (i : Nat) : w.frozen? ⟨g, i, none⟩ = false := by
  obtain ⟨rest, _, _, hh⟩ := h
  simp [World.frozen?, hh]
theorem Arr.block {w w' : World} {g cap : Nat} {xs : List Int} (h : Arr w g cap xs) (hb : w'.heap[g]? = w.heap[g]?) : Arr w' g cap xs := by
  obtain ⟨rest, h1, h2, hh⟩ := h
  exact ⟨rest, h1, h2, hb.trans hh⟩
theorem Arr.below {w w' : World} {g cap B : Nat} {xs : List Int} (h : Arr w g cap xs) (hb : Below B w w') (hg : g < B) : Arr w' g cap xs := h.block (hb.block g hg)
theorem Arr.later {w w' : World} {g cap : Nat} {xs : List Int} (h : Arr w g cap xs) (hb : Below w.heap.size w w') : Arr w' g cap xs := h.below hb h.lt
theorem Arr.alloc {w : World} {g cap : Nat} {xs : List Int} (h : Arr w g cap xs) (o : Obj) : Arr (w.alloc o) g cap xs := h.block (Below.heap_alloc w o g h.lt)
theorem Arr.drew {w : World} {g cap : Nat} {xs : List Int} (h : Arr w g cap xs) : Arr w.drew g cap xs := h
theorem Arr.drewN {w : World} {g cap : Nat} {xs : List Int} (h : Arr w g cap xs) (n : Nat) : Arr (w.drewN n) g cap xs := h
theorem Arr.far {w : World} {g cap : Nat} {xs : List Int} (h : Arr w g cap xs) {p : Addr} (hp : g ≠ p.block) (u : Value) : Arr (w.setCell p u) g cap xs := h.block (Below.heap_setCell w p u g hp)
theorem Arr.set {w : World} {g cap : Nat} {xs : List Int} (h : Arr w g cap xs) (i : Nat) (hi : i < xs.length) (x : Int) : Arr (w.setCell ⟨g, i, none⟩ (.int .i64 x)) g cap (xs.set i x) := by
  obtain ⟨rest, h1, h2, hh⟩ := h
  refine ⟨rest, by simpa using h1, h2, ?_⟩
  simp only [World.setCell, Array.getElem?_modify, hh, if_true]
  simp [List.map_set, List.set_append_left, hi]
theorem Arr.set2 {w : World} {g cap : Nat} {xs : List Int} (h : Arr w g cap xs) (i : Nat) (hi : i < xs.length) (x y : Int) : Arr ((w.setCell ⟨g, i, none⟩ (.int .i64 x)).setCell ⟨g, i, none⟩ (.int .i64 y)) g cap (xs.set i y) := by
  have := (h.set i hi x).set i (by simpa using hi) y
  rwa [List.set_set] at this
theorem Arr.own {w : World} {g cap base : Nat} {xs : List Int} (h : Arr w g cap xs) (hb : base ≤ g) : w.ownsRow base 3 1 (.slice (some ⟨g, 0, none⟩) xs.length cap) xs.length (xs.map (Value.int .i64)) := by
  obtain ⟨rest, h1, h2, hh⟩ := h
  refine ⟨by simp, .inr ⟨g, cap, _, rfl, hb, hh, by omega, h2, by simp; omega, by simp⟩⟩
theorem Arr.of_own {w : World} {g cap base : Nat} {xs : List Int} (h : w.ownsRow base 3 1 (.slice (some ⟨g, 0, none⟩) xs.length cap) xs.length (xs.map (Value.int .i64))) : base ≤ g ∧ Arr w g cap xs := by
  rcases h.2 with ⟨he, _⟩ | ⟨g', cap', cur, hv, hb, hh, hnc, hcm, hcs, htake⟩
  · cases he
  · injection hv with e1 e2 e3
    injection e1 with e1
    injection e1 with e1
    subst e1; subst e3
    refine ⟨hb, cur.toList.drop xs.length, by simp; omega, hcm, ?_⟩
    rw [hh]
    congr 2
    apply Array.toList_inj.1
    simp only [Nat.mul_one] at htake
    rw [← htake]
    simp
theorem Arr.cut {w : World} {g cap : Nat} {xs : List Int} (h : Arr w g cap xs) (k : Nat) : Arr w g cap (xs.take k) := by
  obtain ⟨rest, h1, h2, hh⟩ := h
  refine ⟨(xs.drop k).map (Value.int .i64) ++ rest, ?_, h2, ?_⟩
  · simp only [List.length_take, List.length_append, List.length_map, List.length_drop]; omega
  · rw [hh, ← List.append_assoc, ← List.map_append, List.take_append_drop]
theorem Arr.reads {w : World} {g cap : Nat} {xs : List Int} (h : Arr w g cap xs) : RI w (some ⟨g, 0, none⟩) xs := fun _ =>
  ⟨g, 0, rfl, h.lt, fun i hi => by rw [Nat.zero_add]; exact h.cell i hi⟩
theorem madeCells_int (n : Nat) : madeCells #[.int .i64 0] n = (List.replicate n (Value.int .i64 0)).toArray := by
  unfold madeCells
  apply Array.ext
  · simp
  · intro i h1 h2
    simp [Nat.mod_one]
theorem Arr.made {w : World} (n : Nat) (hn : n ≤ maxLen) : Arr (w.alloc (.cells (madeCells #[.int .i64 0] n) 3)) w.heap.size n (List.replicate n 0) := by
  refine ⟨[], by simp, hn, ?_⟩
  rw [heap_alloc_new, madeCells_int]
  simp

/-- A slice of ints that the call owns (block base or later): it can be appended to. -/
def OI (w : World) (base : Nat) (v : Value) (xs : List Int) : Prop := w.ownsRow base 3 1 v xs.length (xs.map (Value.int .i64))
theorem OI.alloc {w : World} {base : Nat} {v : Value} {xs : List Int} (h : OI w base v xs) (o : Obj) : OI (w.alloc o) base v xs := World.ownsRow.alloc h o
theorem OI.drew {w : World} {base : Nat} {v : Value} {xs : List Int} (h : OI w base v xs) : OI w.drew base v xs := h
theorem OI.drewN {w : World} {base : Nat} {v : Value} {xs : List Int} (h : OI w base v xs) (n : Nat) : OI (w.drewN n) base v xs := h
theorem OI.nil (w : World) (base : Nat) : OI w base (.slice none 0 0) [] := World.ownsRow_nil w base 3 1
theorem OI.made {w : World} {cap : Nat} {base : Nat} (h : Arr w base cap []) {b : Nat} (hb : b ≤ base) : OI w b (.slice (some ⟨base, 0, none⟩) 0 cap) [] := h.own hb
theorem OI.of_arr {w : World} {g cap base : Nat} {xs : List Int} (h : Arr w g cap xs) (hb : base ≤ g) : OI w base (.slice (some ⟨g, 0, none⟩) xs.length cap) xs := h.own hb
theorem OI.later {w w' : World} {base : Nat} {v : Value} {xs : List Int} (h : OI w base v xs) (hb : Below w.heap.size w w') : OI w' base v xs :=
  World.ownsRow.kept (row := none) h ⟨hb.os, hb.tape, hb.output, hb.size, fun k hk _ => hb.block k hk⟩ (by cases v.ownBlock <;> simp)

/-- A result: a slice of ints in memory of the call's own (block base or later), or an empty one. -/
def RO (w : World) (base : Nat) (v : Value) (xs : List Int) : Prop :=
  ∃ A c, v = .slice A xs.length c ∧ xs.length ≤ c ∧ c ≤ maxLen ∧ (xs ≠ [] → ∃ g, A = some ⟨g, 0, none⟩ ∧ base ≤ g ∧ Arr w g c xs)

theorem RO.reads {w : World} {base : Nat} {xs : List Int} {A : Option Addr} {n c : Nat} (h : RO w base (.slice A n c) xs) : RI w A xs := by
  intro hx
  obtain ⟨A', c', he, _, _, h2⟩ := h
  injection he with e1 e2 e3
  obtain ⟨g, e, _, ha⟩ := h2 hx
  rw [e1, e]
  exact ha.reads hx
theorem RO.form {w : World} {base : Nat} {v : Value} {xs : List Int} (h : RO w base v xs) : ∃ A c, v = .slice A xs.length c ∧ xs.length ≤ c := by
  obtain ⟨A, c, h1, h2, _⟩ := h
  exact ⟨A, c, h1, h2⟩
theorem RO.later {w w' : World} {base : Nat} {v : Value} {xs : List Int} (h : RO w base v xs) (hb : Below w.heap.size w w') : RO w' base v xs := by
  obtain ⟨A, c, rfl, h1, h2, h3⟩ := h
  refine ⟨A, c, rfl, h1, h2, fun hx => ?_⟩
  obtain ⟨g, e, hg, ha⟩ := h3 hx
  exact ⟨g, e, hg, ha.later hb⟩
theorem RO.mono {w : World} {base base' : Nat} {v : Value} {xs : List Int} (h : RO w base v xs) (hb : base' ≤ base) : RO w base' v xs := by
  obtain ⟨A, c, rfl, h1, h2, h3⟩ := h
  refine ⟨A, c, rfl, h1, h2, fun hx => ?_⟩
  obtain ⟨g, e, hg, ha⟩ := h3 hx
  exact ⟨g, e, Nat.le_trans hb hg, ha⟩
theorem RO.of_own {w : World} {base : Nat} {v : Value} {xs : List Int} (h : OI w base v xs) : RO w base v xs := by
  rcases h.2 with ⟨rfl, h0⟩ | ⟨g, cap, cur, rfl, hb, hh, hnc, hcm, hcs, htake⟩
  · exact ⟨none, 0, by rw [h0], by omega, Nat.zero_le _, fun hx => absurd (List.eq_nil_of_length_eq_zero h0) hx⟩
  · exact ⟨_, cap, rfl, hnc, hcm, fun _ => ⟨g, rfl, hb, (Arr.of_own h).2⟩⟩
theorem RO.nil (w : World) (base : Nat) (A : Option Addr) (c : Nat) (hc : c ≤ maxLen) : RO w base (.slice A 0 c) [] := ⟨A, c, rfl, Nat.zero_le _, hc, fun h => absurd rfl h⟩

/-- make([]int, n, k): a new array of zeros. -/
theorem makeInts {P : Program} {ops : Array Oper} {rest : List Oper} {o : Oper} {a : Act} {w : World} {Q : Exit → Act → World → Prop} (hgd : o.guard = none) (l c : Operand) (T : TypeId)
    (hop : o.op = Op.makeSlice T l c) (ht : P.underlying T = some (.slice 3)) (hinfo : (P.info? 3).map (fun i => (i.zero, i.size, i.bytes)) = some (some (.int .i64 0), 1, 8))
    (n k : Nat) (x y : Int) (hl : a.eval l = .int .i64 x) (hc : a.eval c = .int .i64 y) (hx : x = n) (hy : y = k) (hnk : n ≤ k) (hk : k ≤ 1099511627776)
    (h : Arr (w.alloc (.cells (madeCells #[.int .i64 0] k) 3)) w.heap.size k (List.replicate k 0) →
      wpList P ops Q rest (a.put o.dst (.slice (some ⟨w.heap.size, 0, none⟩) n k)) (w.alloc (.cells (madeCells #[.int .i64 0] k) 3))) : wpList P ops Q (o :: rest) a w := by
  obtain ⟨i, hi, hz0, hz1, hz2⟩ := info_parts hinfo
  subst hx; subst hy
  refine wpList_plain hgd fun K hK' => ?_
  have hrun := run_make (P := P) w T 3 i _ ht hi hz0 .i64 .i64 (n : Int) (k : Int) (by omega) (by omega) (by rw [hz2]; omega) (by omega)
  simp only [Int.toNat_natCast, hz1, Nat.mul_one] at hrun
  unfold Oper.wp
  simp [execOp, hop, hl, hc, hrun, Result.andThen]
  exact hK' _ _ (h (Arr.made k (by unfold maxLen; omega)))

theorem cell_new1 (w : World) (v : Value) (T : TypeId) : (w.alloc (.cells #[v] T)).cell? ⟨w.heap.size, 0, none⟩ = some v := by
  rw [World.cell?_alloc_at _ _ _ _ rfl]; rfl

/-- One int appended to a slice of the call's own. -/
theorem append1 {P : Program} {ops : Array Oper} {rest : List Oper} {o : Oper} {a : Act} {w : World} {Q : Exit → Act → World → Prop} (hgd : o.guard = none) (s x : Operand) (T : TypeId)
    (ho : o.op = .call { callee := .builtin .append, args := #[s, x], argTypes := #[T, T] }) (ht : P.underlying T = some (.slice 3))
    (hinfo : (P.info? 3).map (fun i => (i.zero, i.size, i.bytes)) = some (some (.int .i64 0), 1, 8))
    (base : Nat) (v : Value) (xs : List Int) (hs : a.eval s = v) (hown : OI w base v xs)
    (ad : Addr) (y : Int) (hx : a.eval x = .slice (some ad) 1 1) (hy : w.cell? ad = some (.int .i64 y)) (hlen : xs.length < 1099511627776) (hbase : base ≤ w.heap.size)
    (h : ∀ v' w', OI w' base v' (xs ++ [y]) → Below base w w' → wpList P ops Q rest (a.put o.dst v') w') : wpList P ops Q (o :: rest) a w := by
  obtain ⟨i0, hi, hz0, hz1, hz2⟩ := info_parts hinfo
  refine wpList_append_own w hgd s x T ho base 3 i0 (.int .i64 0) 1 8 ht hi hz0 hz1 hz2 rfl (by decide) v xs.length _ hs hown ad 1 1 [.int .i64 y] hx rfl ?_ ?_ ?_ ?_ hbase ?_
  · intro j u hj
    match j, hj with
    | 0, hj => simp at hj; subst hj; simpa [Addr.add] using hy
  · intro u hu; simp at hu; subst hu; rfl
  · unfold maxLen; omega
  · omega
  · intro v' w' h1 hg _
    refine h v' w' (by simpa [OI] using h1) ?_
    exact (Below.refl _ _).grown hg hbase (fun k hk => (hown.lt k hk).1)

theorem run_append_of_nil {P : Program} (w : World) (base : Nat) (t ty e : TypeId) (i : TypeInfo) (size : Nat) (ht : P.underlying t = some (.slice e)) (hi : P.info? e = some i)
    (v : Value) (n : Nat) (xs : List Value) (hown : w.ownsRow base e size v n xs) (c : Nat) : (Builtin.append_ #[t, t] ty #[v, .slice none 0 c]).run P w = .ok v w := by
  rcases hown.2 with ⟨rfl, rfl⟩ | ⟨g, cap, cur, rfl, _, _, hnc, _⟩
  · simp [Builtin.append_, run_underlying ht, sizeOf, typeInfo, hi, Builtin.lenOf, Builtin.firstCells]
  · simp [Builtin.append_, run_underlying ht, sizeOf, typeInfo, hi, Builtin.lenOf, Builtin.firstCells, hnc, storeCells]

/-- A list of ints appended to a slice of the call's own. -/
theorem appendAll {P : Program} {ops : Array Oper} {rest : List Oper} {o : Oper} {a : Act} {w : World} {Q : Exit → Act → World → Prop} (hgd : o.guard = none) (s x : Operand) (T : TypeId)
    (ho : o.op = .call { callee := .builtin .append, args := #[s, x], argTypes := #[T, T] }) (ht : P.underlying T = some (.slice 3))
    (hinfo : (P.info? 3).map (fun i => (i.zero, i.size, i.bytes)) = some (some (.int .i64 0), 1, 8))
    (base : Nat) (v : Value) (xs : List Int) (hs : a.eval s = v) (hown : OI w base v xs)
    (A : Option Addr) (ys : List Int) (m c' : Nat) (hx : a.eval x = .slice A m c') (hm : ys.length = m) (hr : RI w A ys) (hlen : xs.length + m < 1099511627776) (hbase : base ≤ w.heap.size)
    (h : ∀ v' w', OI w' base v' (xs ++ ys) → Below base w w' → wpList P ops Q rest (a.put o.dst v') w') : wpList P ops Q (o :: rest) a w := by
  obtain ⟨i0, hi, hz0, hz1, hz2⟩ := info_parts hinfo
  by_cases hys : ys = []
  · subst hys
    simp at hm
    subst hm
    cases A with
    | none =>
      refine wpList_plain hgd fun K hK => ?_
      have hrun := run_append_of_nil (P := P) w base T o.type 3 i0 1 ht hi v _ _ hown c'
      unfold Oper.wp
      simp [execOp, ho, resolve, invoke, builtin, hs, hx, hrun, Result.andThen]
      exact hK _ _ (h _ _ (by simpa using hown) (Below.refl _ _))
    | some ad =>
      refine wpList_append_own w hgd s x T ho base 3 i0 (.int .i64 0) 1 8 ht hi hz0 hz1 hz2 rfl (by decide) v xs.length _ hs hown ad 0 c' [] hx rfl (by simp) (by simp) (by unfold maxLen; omega) (by omega) hbase ?_
      intro v' w' h1 hg _
      exact h v' w' (by simpa [OI] using h1) ((Below.refl _ _).grown hg hbase (fun k hk => (World.ownsRow.lt hown k hk).1))
  · obtain ⟨b, off, rfl, hb, hc⟩ := hr hys
    refine wpList_append_own w hgd s x T ho base 3 i0 (.int .i64 0) 1 8 ht hi hz0 hz1 hz2 rfl (by decide) v xs.length _ hs hown ⟨b, off, none⟩ m c' (ys.map (Value.int .i64)) hx (by simpa using hm) ?_ ?_ ?_ ?_ hbase ?_
    · intro j u hj
      have hjl : j < ys.length := by
        have := (List.getElem?_eq_some_iff.1 hj).1
        simpa using this
      have hcc := hc j hjl
      have hu : u = .int .i64 (ys.getD j 0) := by simpa [hjl] using hj.symm
      rw [hu]
      unfold Addr.add
      by_cases h0 : j = 0
      · subst h0; simpa using hcc
      · rw [if_neg h0]; simpa using hcc
    · intro u hu
      obtain ⟨z, _, rfl⟩ := List.mem_map.1 hu
      rfl
    · unfold maxLen; omega
    · omega
    · intro v' w' h1 hg _
      exact h v' w' (by simpa [OI, hm] using h1) ((Below.refl _ _).grown hg hbase (fun k hk => (World.ownsRow.lt hown k hk).1))

end Go.Proofs.YtpaabengkidefaaGreat

namespace Go.Proofs.YtpaabengkidefaaGreat
open Go.RowKit Go.Joins Go.Deep

theorem lt_of_cell' {w : World} {b o : Nat} {s : Option Nat} {v : Value} (h : w.cell? ⟨b, o, s⟩ = some v) : b < w.heap.size ∧ s = none := by
  unfold World.cell? at h
  cases hb : w.heap[b]? with
  | none => simp [hb] at h
  | some x =>
    refine ⟨(Array.getElem?_eq_some_iff.1 hb).1, ?_⟩
    cases s with
    | none => rfl
    | some s => cases x <;> simp [hb] at h

/-- A slice at address A reads as the list xs of things that take k cells each ('At': what one of them is). -/
def SI {α : Type} (At : World → Nat → Nat → α → Prop) (k : Nat) (d : α) (w : World) (A : Option Addr) (xs : List α) : Prop :=
  xs ≠ [] → ∃ b off, A = some ⟨b, off, none⟩ ∧ b < w.heap.size ∧ ∀ i, i < xs.length → At w b (off + i * k) (xs.getD i d)

/-- What is there stays where nothing that was there turns. -/
def Stays {α : Type} (At : World → Nat → Nat → α → Prop) : Prop := ∀ (w w' : World) (b o : Nat) (x : α), b < w.heap.size → At w b o x → Below w.heap.size w w' → At w' b o x

theorem SI.later {α : Type} {At : World → Nat → Nat → α → Prop} {k : Nat} {d : α} (hs : Stays At) {w w' : World} {A : Option Addr} {xs : List α} (h : SI At k d w A xs) (hb : Below w.heap.size w w') : SI At k d w' A xs := by
  intro hx
  obtain ⟨b, off, rfl, hlt, hc⟩ := h hx
  exact ⟨b, off, rfl, Nat.lt_of_lt_of_le hlt hb.size, fun i hi => hs _ _ _ _ _ hlt (hc i hi) hb⟩
theorem SI.nil {α : Type} (At : World → Nat → Nat → α → Prop) (k : Nat) (d : α) (w : World) (A : Option Addr) : SI At k d w A [] := fun h => absurd rfl h

theorem cell_later {w w' : World} {b o : Nat} {v : Value} (hlt : b < w.heap.size) (h : w.cell? ⟨b, o, none⟩ = some v) (hb : Below w.heap.size w w') : w'.cell? ⟨b, o, none⟩ = some v := by
  rw [hb.cell (p := ⟨b, o, none⟩) hlt]; exact h

/-- The cells of a struct that was boxed, read later. -/
theorem box_cell {w w2 : World} {C : Array Value} {t : TypeId} (hb : Below (w.alloc (.cells C t)).heap.size (w.alloc (.cells C t)) w2) (j : Nat) {v : Value} (h : C[j]? = some v) : w2.cell? ⟨w.heap.size, j, none⟩ = some v := by
  rw [hb.cell (p := ⟨w.heap.size, j, none⟩) (by simp), cell_alloc_mark_at w C t _ _ j rfl]
  exact h
theorem box_below {w w2 : World} {C : Array Value} {t : TypeId} (hb : Below (w.alloc (.cells C t)).heap.size (w.alloc (.cells C t)) w2) : Below w.heap.size w w2 := (below_alloc1 w _).trans (below_le hb (by simp))

/-- A variable of the call's own, read later. -/
theorem own_cell {w w2 : World} {C : Array Value} {t : TypeId} (hb : Below (w.alloc (.cells C t)).heap.size (w.alloc (.cells C t)) w2) {g : Nat} (hg : g = w.heap.size) :
    (∀ j v, C[j]? = some v → w2.cell? ⟨g, j, none⟩ = some v) ∧ ∀ j, w2.frozen? ⟨g, j, none⟩ = false := by
  subst hg
  refine ⟨fun j v h => box_cell hb j h, fun j => ?_⟩
  rw [hb.frozen (p := ⟨w.heap.size, j, none⟩) (by simp)]
  exact unfrozen_of_block (cs := C) (t := t) (heap_alloc_new _ _) j
theorem below_step {w w2 : World} {o : Obj} (hb : Below (w.alloc o).heap.size (w.alloc o) w2) : Below w.heap.size w w2 := (below_alloc1 w _).trans (below_le hb (by simp))
theorem RO.far {w : World} {base : Nat} {v : Value} {xs : List Int} (h : RO w base v xs) {p : Addr} (hp : p.block < base) (u : Value) : RO (w.setCell p u) base v xs := by
  obtain ⟨A, c, rfl, hl, hc, h⟩ := h
  refine ⟨A, c, rfl, hl, hc, fun hx => ?_⟩
  obtain ⟨g, rfl, hg, ha⟩ := h hx
  exact ⟨g, rfl, hg, ha.far (by omega) u⟩

/-- A fraction's parts as they lie in memory. -/
structure RatD where
  neg : Bool
  mag : List Int
  den : List Int
def zR : RatD := ⟨false, [], []⟩

def RatAt (w : World) (b off : Nat) (r : RatD) : Prop :=
  ∃ A c B d, w.cell? ⟨b, off, none⟩ = some (.bool r.neg) ∧ w.cell? ⟨b, off + 1, none⟩ = some (.slice A r.mag.length c) ∧ w.cell? ⟨b, off + 2, none⟩ = some (.slice B r.den.length d) ∧
    (r.mag.length ≤ c ∧ c ≤ maxLen ∧ r.den.length ≤ d ∧ d ≤ maxLen) ∧ RI w A r.mag ∧ RI w B r.den
/-- A fraction as a value. -/
def RatV (w : World) (v : Value) (r : RatD) : Prop :=
  ∃ A c B d, v = .agg #[.bool r.neg, .slice A r.mag.length c, .slice B r.den.length d] ∧
    (r.mag.length ≤ c ∧ c ≤ maxLen ∧ r.den.length ≤ d ∧ d ≤ maxLen) ∧ RI w A r.mag ∧ RI w B r.den
theorem RatV.later {w w' : World} {v : Value} {r : RatD} (h : RatV w v r) (hb : Below w.heap.size w w') : RatV w' v r := by
  obtain ⟨A, c, B, d, rfl, hl, h1, h2⟩ := h
  exact ⟨A, c, B, d, rfl, hl, h1.later hb, h2.later hb⟩
theorem RatAt.stays : Stays RatAt := by
  intro w w' b o x hlt h hb
  obtain ⟨A, c, B, d, h0, h1, h2, hl, h3, h4⟩ := h
  exact ⟨A, c, B, d, cell_later hlt h0 hb, cell_later hlt h1 hb, cell_later hlt h2 hb, hl, h3.later hb, h4.later hb⟩
/-- A vector. -/
def VI (w : World) (A : Option Addr) (rs : List RatD) : Prop := SI RatAt 3 zR w A rs
theorem VI.later {w w' : World} {A : Option Addr} {rs : List RatD} (h : VI w A rs) (hb : Below w.heap.size w w') : VI w' A rs := SI.later RatAt.stays h hb
theorem VI.nil (w : World) (A : Option Addr) : VI w A [] := SI.nil _ _ _ w A

section
variable {H : Type} {enc : TypeId × Value → H} {P : Program} {w : World}

end
end Go.Proofs.YtpaabengkidefaaGreat

namespace Go.Proofs.YtpaabengkidefaaGreat
namespace FE

/-- The value of a list of limbs, as a natural number. -/
def nv (l : List Int) : Nat := (val l).toNat
theorem nv_toL (n : Nat) : nv (toL n) = n := by rw [nv, val_toL, Int.toNat_natCast]
theorem nv_nil : nv [] = 0 := rfl
def digB (l : List Int) : Bool := l.all fun x => decide (0 ≤ x) && decide (x < 1000000000)
theorem digB_iff {l : List Int} : digB l = true ↔ Dig l := by simp [digB, Dig]
def topB (l : List Int) : Bool := l.getLast? != some 0
theorem topB_iff {l : List Int} : topB l = true ↔ Top l := by
  unfold topB Top
  cases l with
  | nil => simp
  | cons x l => rw [List.getLast?_eq_some_getLast (by simp)]; simp
/-- Whether a list of ints is a natural number of the program. -/
def natOk (l : List Int) : Bool := decide (l.length ≤ 60) && (topB l && digB l)
theorem natOk_iff {l : List Int} : natOk l = true ↔ NatOk l := by
  simp only [natOk, NatOk, digB_iff, topB_iff, Bool.and_eq_true, decide_eq_true_eq]
  exact ⟨fun ⟨a, b, c⟩ => ⟨a, c, b⟩, fun ⟨a, b, c⟩ => ⟨a, c, b⟩⟩
theorem toL_nv {l : List Int} (h : natOk l = true) : toL (nv l) = l := toL_val (natOk_iff.1 h).2.1 (natOk_iff.1 h).2.2
theorem natOk_len {l : List Int} (h : natOk l = true) : l.length ≤ 60 := (natOk_iff.1 h).1
theorem natOk_of_toL {n : Nat} (h : (toL n).length ≤ 60) : natOk (toL n) = true := natOk_iff.2 ⟨h, toL_dig n, toL_top n⟩
def bigOk (s : Bool) (l : List Int) : Bool := natOk l && (!s || !l.isEmpty)
/-- Whether a fraction is valid. -/
def ratOk (r : RatD) : Bool := (bigOk r.neg r.mag && (natOk r.den && !r.den.isEmpty)) && ((decide (r.mag.length ≤ 24) && decide (r.den.length ≤ 24)) && Nat.gcd (nv r.mag) (nv r.den) == 1)

/-- A fraction of a sign and two natural numbers. -/
def mkR (s : Bool) (p q : Nat) : RatD := ⟨s && decide (p ≠ 0), toL p, toL q⟩
/-- Numbers with few limbs. -/
def few (p : Nat) : Bool := decide ((toL p).length ≤ 24)
/-- The fraction p/q in lowest terms; the zero value if there is none. -/
def low (s : Bool) (p q : Nat) : RatD :=
  if q = 0 then zR else if few (p / Nat.gcd p q) && few (q / Nat.gcd p q) then mkR s (p / Nat.gcd p q) (q / Nat.gcd p q) else zR

structure OkR (r : RatD) (p q : Nat) : Prop where
  mag : r.mag = toL p
  den : r.den = toL q
  p0 : r.neg = true → p ≠ 0
  q0 : q ≠ 0
  pl : (toL p).length ≤ 24
  ql : (toL q).length ≤ 24
  gcd : Nat.gcd p q = 1

theorem ratOk_iff {r : RatD} : ratOk r = true ↔ OkR r (nv r.mag) (nv r.den) := by
  constructor
  · intro h
    simp only [ratOk, bigOk, Bool.and_eq_true, decide_eq_true_eq, beq_iff_eq, Bool.or_eq_true, Bool.not_eq_true', List.isEmpty_eq_false_iff] at h
    obtain ⟨⟨⟨h1, h2⟩, h3, h4⟩, ⟨h5, h6⟩, h7⟩ := h
    have e1 := toL_nv h1
    have e2 := toL_nv h3
    refine ⟨e1.symm, e2.symm, fun hs h0 => ?_, fun h0 => h4 ?_, by rw [e1]; exact h5, by rw [e2]; exact h6, h7⟩
    · rcases h2 with h2 | h2
      · rw [h2] at hs; cases hs
      · rw [h0, toL_zero] at e1; exact h2 e1.symm
    · rw [h0, toL_zero] at e2; exact e2.symm
  · intro h
    have l1 : r.mag.length ≤ 24 := by rw [h.mag]; exact h.pl
    have l2 : r.den.length ≤ 24 := by rw [h.den]; exact h.ql
    have n1 : natOk r.mag = true := by rw [h.mag]; exact natOk_of_toL (by have := h.pl; omega)
    have n2 : natOk r.den = true := by rw [h.den]; exact natOk_of_toL (by have := h.ql; omega)
    have hd : r.den ≠ [] := by rw [h.den]; intro e; exact h.q0 (toL_eq_nil.1 e)
    have hm : r.neg = true → r.mag ≠ [] := by intro hs; rw [h.mag]; intro e; exact h.p0 hs (toL_eq_nil.1 e)
    simp only [ratOk, bigOk, Bool.and_eq_true, decide_eq_true_eq, beq_iff_eq, Bool.or_eq_true, Bool.not_eq_true', List.isEmpty_eq_false_iff]
    refine ⟨⟨⟨n1, ?_⟩, n2, hd⟩, ⟨l1, l2⟩, h.gcd⟩
    cases hs : r.neg
    · exact .inl rfl
    · exact .inr (hm hs)

theorem OkR.ok {r : RatD} {p q : Nat} (h : OkR r p q) : ratOk r = true := by
  refine ratOk_iff.2 ?_
  have e1 : nv r.mag = p := by rw [h.mag, nv_toL]
  have e2 : nv r.den = q := by rw [h.den, nv_toL]
  rw [e1, e2]; exact h
/-- A result: valid or the zero value. -/
def Res (r : RatD) : Prop := r = zR ∨ ratOk r = true
theorem Res.den {r : RatD} (h : Res r) : (r.den.length == 0) = !ratOk r := by
  rcases h with rfl | h
  · decide
  · rw [h]
    have h' := ratOk_iff.1 h
    have : r.den ≠ [] := by rw [h'.den]; intro e; exact h'.q0 (toL_eq_nil.1 e)
    simpa using this

/-- The numerator as an integer. -/
def num (r : RatD) : Int := if r.neg then -(nv r.mag : Int) else nv r.mag
def rint (n : Int) : RatD := ⟨decide (n < 0), toL n.natAbs, [1]⟩
end FE
end Go.Proofs.YtpaabengkidefaaGreat

namespace Go.Proofs.YtpaabengkidefaaGreat
open Go.RowKit

def cmpI (a b : Int) : Int := if a < b then -1 else if b < a then 1 else 0
/-- The comparison from limb number i - 1 downwards. -/
def cmpAt (xs ys : List Int) : Nat → Int
  | 0 => 0
  | i + 1 => if xs.getD i 0 = ys.getD i 0 then cmpAt xs ys i else cmpI (xs.getD i 0) (ys.getD i 0)
def cmpL (xs ys : List Int) : Int := if xs.length = ys.length then cmpAt xs ys xs.length else cmpI xs.length ys.length

set_option maxHeartbeats 400000 in
theorem cmpCompare (a b : Int) (w : World) :
    Calls Tryz.prog 246 #[.int .i64 a, .int .i64 b] w fun e w' => e = .returned (.int .i64 (cmpI a b)) ∧ w' = w := by
  go_enter Tryz.func246, Tryz.ntmps246
  go_wp2
  all_goals go_ret
  · exact ⟨by rw [cmpI, if_pos (by assumption)]; rfl, rfl⟩
  · exact ⟨by rw [cmpI, if_neg (by omega), if_pos (by assumption)]; rfl, rfl⟩
  · exact ⟨by rw [cmpI, if_neg (by omega), if_neg (by omega)]; rfl, rfl⟩

set_option maxHeartbeats 400000 in
theorem natCmp_any (xs ys : List Int) (n m c d : Nat) (hn : xs.length = n) (hm : ys.length = m) (hn1 : n ≤ 4611686018427387904) (hm1 : m ≤ 4611686018427387904) (A B : Option Addr) (w : World) (ha : RI w A xs) (hb : RI w B ys) :
    Calls Tryz.prog 212 #[.slice A n c, .slice B m d] w fun e w' => e = .returned (.int .i64 (cmpL xs ys)) ∧ ∃ k, w' = w.drewN k := by
  by_cases hnm : n = m
  · subst hnm
    have hh : ((n : Int) != n) = false := by simp
    have hL : cmpL xs ys = cmpAt xs ys n := by rw [cmpL, hn, hm, if_pos rfl]
    rw [hL]
    clear hL
    go_enter Tryz.func212, Tryz.ntmps212
    go_wp2_with fail
    go_loopw [5] (fun i wr => ∃ k : Nat, k ≤ n ∧ i = .int .i64 ((k : Int) - 1) ∧ cmpAt xs ys n = cmpAt xs ys k ∧ ∃ q, wr = w.drewN q) (fun i _ => (intOf i + 1).toNat)
    case atStart => exact ⟨n, Nat.le_refl _, rfl, rfl, 0, rfl⟩
    case round =>
      obtain ⟨k, hk, rfl, hc, q, rfl⟩ := hrel
      have HC := Lib.hid hc; clear hc
      by_cases hk0 : k = 0
      · subst hk0
        go_wp2
        go_ret
        exact ⟨ret_int (by rw [HC.out]; rfl), q, rfl⟩
      · obtain ⟨j, rfl⟩ := Nat.exists_eq_succ_of_ne_zero hk0
        obtain ⟨b1, o1, rfl, hb1, hc1⟩ := ha (by intro h; subst h; simp at hn; omega)
        obtain ⟨b2, o2, rfl, hb2, hc2⟩ := hb (by intro h; subst h; simp at hm; omega)
        have e1 := hc1 j (by omega)
        have e2 := hc2 j (by omega)
        clear hc1 hc2
        have hj : cmpAt xs ys (j + 1) = if xs.getD j 0 = ys.getD j 0 then cmpAt xs ys j else cmpI (xs.getD j 0) (ys.getD j 0) := rfl
        generalize xs.getD j 0 = x at *
        generalize ys.getD j 0 = y at *
        have Hj := Lib.hid hj; clear hj
        by_cases hxy : x = y
        · subst hxy
          have hx1 : (x != x) = false := by simp
          go_wp2
          go_quiet (fail)
          go_wp2
          go_roundw
          case rel => exact ⟨j, by omega, by go_num, by rw [HC.out, Hj.out, if_pos trivial], _, rfl⟩
          case measure => simp [intOf]
        · have hx1 : (x != y) = true := by simpa using hxy
          have Hxy := Lib.hid hxy; clear hxy
          go_wp2
          go_quiet (fail)
          simp only [World.drewN_drewN]
          generalize q + nq = q2
          go_wp2
          go_quiet ((go_at_call 246; exact quiet_add_same (cmpCompare _ _ _)))
          go_wp2
          go_ret
          exact ⟨ret_int (by rw [HC.out, Hj.out, if_neg Hxy.out]), q2 + nq, World.drewN_drewN _ _ _⟩
  · have hh : ((n : Int) != m) = true := by simp; omega
    have hL : cmpL xs ys = cmpI n m := by rw [cmpL, hn, hm, if_neg hnm]
    rw [hL]
    clear hL
    have Hnm := Lib.hid hnm; clear hnm
    go_enter Tryz.func212, Tryz.ntmps212
    go_wp2_with (go_at_call 246; refine (cmpCompare _ _ _).mono ?_; rintro e w' ⟨rfl, rfl⟩)
    go_ret
    exact ⟨rfl, 0, rfl⟩

end Go.Proofs.YtpaabengkidefaaGreat

namespace Go.Proofs.YtpaabengkidefaaGreat
open Go.RowKit Go.Joins

def inB (n lo hi : Int) : Bool := decide (lo ≤ n) && decide (n ≤ hi)
theorem inB_true {n lo hi : Int} (h : lo ≤ n) (h2 : n ≤ hi) : inB n lo hi = true := by simp [inB, h, h2]
theorem inB_lo {n lo hi : Int} (h : ¬ lo ≤ n) : inB n lo hi = false := by simp [inB]; omega
theorem inB_hi {n lo hi : Int} (h : ¬ n ≤ hi) : inB n lo hi = false := by simp [inB]; omega

set_option maxHeartbeats 400000 in
theorem iWithin (n lo hi : Int) (w : World) :
    Calls Tryz.prog 60 #[.int .i64 n, .int .i64 lo, .int .i64 hi] w fun e w' => e = .returned (.bool (inB n lo hi)) ∧ w' = w := by
  by_cases h1 : lo ≤ n
  · by_cases h2 : n ≤ hi
    · rw [inB_true h1 h2]
      go_enter Tryz.func60, Tryz.ntmps60
      go_wp2
      go_ret
      exact ⟨rfl, rfl⟩
    · rw [inB_hi h2]
      go_enter Tryz.func60, Tryz.ntmps60
      go_wp2
      go_ret
      exact ⟨rfl, rfl⟩
  · rw [inB_lo h1]
    go_enter Tryz.func60, Tryz.ntmps60
    go_wp2
    go_ret
    exact ⟨rfl, rfl⟩
set_option maxHeartbeats 400000 in
theorem iNatOk1 (x : Int) (w : World) :
    Calls Tryz.prog 164 #[.int .i64 x] w fun e w' => e = .returned (.bool (!inB x 0 999999999)) ∧ w' = w := by
  go_enter Tryz.func164, Tryz.ntmps164
  go_wp2_with fail
  refine (iWithin _ _ _ _).mono ?_
  rintro e w1 ⟨rfl, rfl⟩
  go_wp2
  go_ret
  exact ⟨rfl, rfl⟩

namespace FE
theorem digB_take {l : List Int} {k : Nat} (hk : k < l.length) (h : digB (l.take k) = true) (hx : inB (l.getD k 0) 0 999999999 = true) : digB (l.take (k + 1)) = true := by
  rw [digB_iff] at h ⊢
  rw [List.take_succ_eq_append_getElem hk]
  have e : l[k] = l.getD k 0 := by simp [hk]
  rw [e]
  simp only [inB, Bool.and_eq_true, decide_eq_true_eq] at hx
  exact h.append (Dig.cons hx.1 (by omega) Dig.nil)
theorem digB_bad {l : List Int} {k : Nat} (hk : k < l.length) (hx : inB (l.getD k 0) 0 999999999 = false) : digB l = false := by
  cases h : digB l
  · rfl
  · have := (digB_iff.1 h).get k hk
    have e : l[k] = l.getD k 0 := by simp [hk]
    rw [e] at this
    simp only [inB, Bool.and_eq_false_iff, decide_eq_false_iff_not] at hx
    omega
theorem topB_last {l : List Int} {k : Nat} (h : l.length = k + 1) : topB l = (l.getD k 0 != 0) := by
  unfold topB
  rw [List.getLast?_eq_getElem?, h, Nat.add_sub_cancel]
  have hk : k < l.length := by omega
  simp [hk]
  rfl
theorem natOk_long {l : List Int} (h : 60 < l.length) : natOk l = false := by simp [natOk]; omega
theorem natOk_zero {l : List Int} {k : Nat} (h : l.length = k + 1) (h0 : l.getD k 0 = 0) : natOk l = false := by simp only [natOk, topB_last h, h0]; simp
theorem natOk_dig {l : List Int} {k : Nat} (h : l.length = k + 1) (hl : l.length ≤ 60) (h0 : l.getD k 0 ≠ 0) : natOk l = digB l := by simp only [natOk, topB_last h, hl, bne_iff_ne.2 h0]; simp
end FE

set_option maxHeartbeats 400000 in
theorem iIndex (xs : List Int) (n c : Nat) (hn : xs.length = n) (hn1 : n ≤ 4611686018427387904) (A : Option Addr) (w : World) (ha : RI w A xs) :
    Calls Tryz.prog 226 #[.slice A n c, .func (.func 164) #[] #[]] w fun e w' => ∃ r : Int, e = .returned (.int .i64 r) ∧ (FE.digB xs = !decide (0 ≤ r)) ∧ w' = w := by
  have HN := Lib.hid hn; clear hn
  go_enter Tryz.func226, Tryz.ntmps226
  go_wp2_with fail
  go_loop [8] (fun u => ∃ k : Nat, k ≤ n ∧ u = .int .i64 k ∧ FE.digB (xs.take k) = true) (fun u => n - (intOf u).toNat)
  case atStart => exact ⟨0, Nat.zero_le _, rfl, rfl⟩
  case round =>
    obtain ⟨k, hk, rfl, ht⟩ := hrel
    have HT := Lib.hid ht; clear ht
    by_cases hkn : k = n
    · subst hkn
      have h0 : decide ((k : Int) < (k : Int)) = false := by simp
      go_wp2
      go_ret
      refine ⟨-1, rfl, ?_, rfl⟩
      have := HT.out
      rw [List.take_of_length_le (by rw [HN.out]; exact Nat.le_refl _)] at this
      rw [this]; rfl
    · have hlt : (k : Int) < (n : Int) := by omega
      have hkl : k < xs.length := by rw [HN.out]; omega
      obtain ⟨b, off, rfl, hb, hc⟩ := ha (by intro h; subst h; simp at hkl)
      have e1 := hc k hkl
      have HB := Lib.hid (fun h => FE.digB_bad (l := xs) hkl h)
      have HG := Lib.hid (fun h => FE.digB_take (l := xs) hkl HT.out h)
      clear hc hkl
      generalize xs.getD k 0 = x at *
      have hC := fun W => iNatOk1 x W
      obtain ⟨q, hq⟩ : ∃ q, inB x 0 999999999 = q := ⟨_, rfl⟩
      simp only [hq] at hC
      rw [hq] at HB HG
      clear hq
      replace hC := Lib.hid hC
      cases q
      · have hF := HB.out rfl
        have HF := Lib.hid hF; clear hF
        go_wp2_with fail
        refine (hC.out _).mono ?_
        rintro e w1 ⟨rfl, rfl⟩
        go_wp2
        go_ret
        exact ⟨_, rfl, by rw [HF.out]; simp, rfl⟩
      · have hF := HG.out rfl
        have HF := Lib.hid hF; clear hF
        go_wp2_with fail
        refine (hC.out _).mono ?_
        rintro e w1 ⟨rfl, rfl⟩
        go_wp2
        go_round
        case rel => exact ⟨k + 1, by omega, rfl, HF.out⟩
        case measure => simp [intOf]; omega

set_option maxHeartbeats 400000 in
theorem iContains (xs : List Int) (n c : Nat) (hn : xs.length = n) (hn1 : n ≤ 4611686018427387904) (A : Option Addr) (w : World) (ha : RI w A xs) :
    Calls Tryz.prog 163 #[.slice A n c, .func (.func 164) #[] #[]] w fun e w' => e = .returned (.bool (!FE.digB xs)) ∧ w' = w := by
  go_enter Tryz.func163, Tryz.ntmps163
  go_wp2_with fail
  refine (iIndex xs n c hn hn1 A _ ha).mono ?_
  rintro e w1 ⟨r, rfl, hd, rfl⟩
  have HD := Lib.hid hd; clear hd
  go_wp2
  go_ret
  exact ⟨ret_bool (by rw [HD.out]; simp), rfl⟩

set_option maxHeartbeats 400000 in
theorem iNatOk (xs : List Int) (n c : Nat) (hn : xs.length = n) (hn1 : n ≤ 4611686018427387904) (A : Option Addr) (w : World) (ha : RI w A xs) :
    Calls Tryz.prog 87 #[.slice A n c] w fun e w' => e = .returned (.bool (FE.natOk xs)) ∧ w' = w := by
  by_cases h60 : n ≤ 60
  · cases n with
    | zero =>
      have hx : xs = [] := List.eq_nil_of_length_eq_zero hn
      subst hx
      have HC := Lib.hid (iContains [] 0 c rfl (by omega) A w ha)
      clear hn
      go_enter Tryz.func87, Tryz.ntmps87
      go_wp2_with fail
      refine HC.out.mono ?_
      rintro e w1 ⟨rfl, rfl⟩
      go_wp2
      go_ret
      exact ⟨rfl, rfl⟩
    | succ k =>
      have HC := Lib.hid (iContains xs (k + 1) c hn (by omega) A w ha)
      obtain ⟨b, off, rfl, hb, hc⟩ := ha (by intro h; subst h; simp at hn)
      have e1 := hc k (by omega)
      have z0 : (((k : Int) + 1) == 0) = false := by simp; omega
      have HN := Lib.hid hn
      clear hc hn
      by_cases hx0 : xs.getD k 0 = 0
      · have HF := Lib.hid (FE.natOk_zero HN.out hx0)
        rw [hx0] at e1
        clear hx0
        go_enter Tryz.func87, Tryz.ntmps87
        go_wp2
        go_ret
        exact ⟨ret_bool HF.out.symm, rfl⟩
      · have HF := Lib.hid (FE.natOk_dig HN.out (by rw [HN.out]; exact h60) hx0)
        generalize xs.getD k 0 = x at *
        have hx1 : (x != 0) = true := by simp [hx0]
        go_enter Tryz.func87, Tryz.ntmps87
        go_wp2_with fail
        refine HC.out.mono ?_
        rintro e w1 ⟨rfl, rfl⟩
        go_wp2
        go_ret
        exact ⟨ret_bool (by rw [HF.out]), rfl⟩
  · have HF := Lib.hid (FE.natOk_long (show 60 < xs.length by omega))
    clear hn
    go_enter Tryz.func87, Tryz.ntmps87
    go_wp2
    go_ret
    exact ⟨ret_bool HF.out.symm, rfl⟩

end Go.Proofs.YtpaabengkidefaaGreat

namespace Go.Proofs.YtpaabengkidefaaGreat
namespace FE

theorem cmpAt_spec {xs ys : List Int} (hx : Dig xs) (hy : Dig ys) : ∀ k : Nat, k ≤ xs.length → k ≤ ys.length → cmpAt xs ys k = cmpI (val (xs.take k)) (val (ys.take k))
  | 0, _, _ => by simp [cmpAt, val, cmpI]
  | k + 1, h1, h2 => by
    have ih := cmpAt_spec hx hy k (by omega) (by omega)
    have ax := val_lt (hx.take k)
    have ay := val_lt (hy.take k)
    have bx := val_nonneg (hx.take k)
    have b_y := val_nonneg (hy.take k)
    rw [List.length_take, Nat.min_eq_left (by omega)] at ax ay
    rw [cmpAt, ih, val_take_succ', val_take_succ']
    generalize xs.getD k 0 = x
    generalize ys.getD k 0 = y
    have hb := bp_pos k
    split
    · rename_i h
      subst h
      unfold cmpI
      simp only [Int.add_lt_add_iff_right]
    · rename_i h
      unfold cmpI
      rcases Int.lt_or_le x y with hl | hl
      · have := Int.mul_le_mul_of_nonneg_left (show x + 1 ≤ y by omega) (show 0 ≤ bp k by omega)
        rw [Int.mul_add] at this
        rw [if_pos hl, if_pos (by omega)]
      · have hl' : y < x := by omega
        have := Int.mul_le_mul_of_nonneg_left (show y + 1 ≤ x by omega) (show 0 ≤ bp k by omega)
        rw [Int.mul_add] at this
        rw [if_neg (by omega), if_pos hl', if_neg (by omega), if_pos (by omega)]

theorem cmpL_spec {xs ys : List Int} (hx : Dig xs) (hxt : Top xs) (hy : Dig ys) (hyt : Top ys) : cmpL xs ys = cmpI (val xs) (val ys) := by
  unfold cmpL
  split
  · rename_i h
    rw [cmpAt_spec hx hy _ (Nat.le_refl _) (by omega), List.take_of_length_le (Nat.le_refl _), List.take_of_length_le (by omega)]
  · rename_i h
    rcases Nat.lt_or_ge xs.length ys.length with hl | hl
    · have h1 := val_lt hx
      have h2 := val_ge hy hyt (by intro e; subst e; simp at hl)
      have h3 := bp_mono (show xs.length ≤ ys.length - 1 by omega)
      unfold cmpI
      rw [if_pos (by omega), if_pos (by omega)]
    · have hl' : ys.length < xs.length := by omega
      have h1 := val_lt hy
      have h2 := val_ge hx hxt (by intro e; subst e; simp at hl')
      have h3 := bp_mono (show ys.length ≤ xs.length - 1 by omega)
      unfold cmpI
      rw [if_neg (by omega), if_pos (by omega), if_neg (by omega), if_pos (by omega)]

/-- The two highest limbs of n + 2 limbs. -/
theorem val_top2 {vs : List Int} {n : Nat} (h : vs.length = n + 2) : val vs = val (vs.take n) + bp n * (vs.getD (n + 1) 0 * 1000000000 + vs.getD n 0) := by
  have e : val vs = val (vs.take (n + 1 + 1)) := by rw [List.take_of_length_le (by omega)]
  rw [e, val_take_succ', val_take_succ', bp_mul_succ]; grind
theorem val_top3 {ws : List Int} {n : Nat} (h : ws.length = n + 3) : val ws = val (ws.take n) + bp n * ((ws.getD (n + 2) 0 * 1000000000 + ws.getD (n + 1) 0) * 1000000000 + ws.getD n 0) := by
  have e : val ws = val (ws.take (n + 1 + 1 + 1)) := by rw [List.take_of_length_le (by omega)]
  rw [e, val_take_succ', val_take_succ', val_take_succ', bp_mul_succ, bp_mul_succ, bp_mul_succ]; grind

/-- What a guessed digit q keeps: no greater digit fits. -/
def NoMore (W V q : Int) : Prop := ∀ t : Int, 0 ≤ t → t ≤ 999999999 → t * V ≤ W → t ≤ q

section digit
variable {W V P wl vl top u2 v1 v2 : Int}

theorem guess (hP : 0 < P) (hwl : wl < P) (hvl : 0 ≤ vl) (hW : W = wl + P * (top * 1000000000 + u2)) (hV : V = vl + P * (v1 * 1000000000 + v2)) (hu2 : u2 < 1000000000) (hv2 : 0 ≤ v2) (hv1 : 0 < v1) (_htop : 0 ≤ top) :
    NoMore W V (if 999999999 < top / v1 then 999999999 else top / v1) := by
  intro t h0 h1 h2
  have h3 : t * v1 ≤ top := by
    rcases Int.lt_or_le top (t * v1) with h | h
    · exfalso
      have e1 : t * (P * (v1 * 1000000000)) ≤ t * V := by
        refine Int.mul_le_mul_of_nonneg_left ?_ h0
        have : P * (v1 * 1000000000 + v2) = P * (v1 * 1000000000) + P * v2 := Int.mul_add _ _ _
        have := Int.mul_nonneg (show 0 ≤ P by omega) hv2
        omega
      have e2 : P * ((top + 1) * 1000000000) ≤ P * (t * v1 * 1000000000) := Int.mul_le_mul_of_nonneg_left (by omega) (by omega)
      have e3 : t * (P * (v1 * 1000000000)) = P * (t * v1 * 1000000000) := by grind
      have e4 : P * ((top + 1) * 1000000000) = P * (top * 1000000000 + u2) + P * (1000000000 - u2) := by grind
      have e5 : P * 1 ≤ P * (1000000000 - u2) := Int.mul_le_mul_of_nonneg_left (by omega) (by omega)
      omega
    · exact h
  have h4 : t ≤ top / v1 := (Int.le_ediv_iff_mul_le hv1).2 h3
  split <;> omega

theorem correct {q rest : Int} (hP : 0 < P) (hwl : wl < P) (hvl : 0 ≤ vl) (hW : W = wl + P * (top * 1000000000 + u2)) (hV : V = vl + P * (v1 * 1000000000 + v2)) (hr : rest = top - q * v1)
    (hno : NoMore W V q) (hc : rest * 1000000000 + u2 < q * v2) : NoMore W V (q - 1) := by
  intro t h0 h1 h2
  have h3 := hno t h0 h1 h2
  rcases Int.lt_or_le t q with h | h
  · omega
  · exfalso
    have e : t = q := by omega
    subst e
    have e1 : P * (t * (v1 * 1000000000 + v2)) ≤ t * V := by
      have := Int.mul_nonneg h0 hvl
      have e : t * V = P * (t * (v1 * 1000000000 + v2)) + t * vl := by rw [hV]; grind
      omega
    have e2 : P * (top * 1000000000 + u2 + 1) ≤ P * (t * (v1 * 1000000000 + v2)) := by
      refine Int.mul_le_mul_of_nonneg_left ?_ (by omega)
      have : t * (v1 * 1000000000 + v2) = t * v1 * 1000000000 + t * v2 := by grind
      omega
    have e3 : P * (top * 1000000000 + u2 + 1) = P * (top * 1000000000 + u2) + P := by grind
    omega

theorem leave {q rest : Int} (hP : 0 < P) (hwl : 0 ≤ wl) (hvl : vl < P) (hW : W = wl + P * (top * 1000000000 + u2)) (hV : V = vl + P * (v1 * 1000000000 + v2)) (hr : rest = top - q * v1) (hq0 : 0 ≤ q) (hq1 : q ≤ 999999999)
    (hv1 : 0 < v1) (hv2 : 0 ≤ v2 ∧ v2 < 1000000000) (hu2 : 0 ≤ u2) (hvl0 : 0 ≤ vl) (hc : 1000000000 ≤ rest ∨ q * v2 ≤ rest * 1000000000 + u2) : q * V ≤ W + V := by
  have h1 : q * (v1 * 1000000000 + v2) ≤ top * 1000000000 + u2 := by
    have e : q * (v1 * 1000000000 + v2) = q * v1 * 1000000000 + q * v2 := by grind
    rcases hc with h | h
    · have := Int.mul_le_mul_of_nonneg_left (show v2 ≤ 1000000000 by omega) hq0
      omega
    · omega
  have h2 : q * V ≤ P * (q * (v1 * 1000000000 + v2)) + q * P := by
    rw [hV, Int.mul_add]
    have := Int.mul_le_mul_of_nonneg_left (show vl ≤ P by omega) hq0
    have e : q * (P * (v1 * 1000000000 + v2)) = P * (q * (v1 * 1000000000 + v2)) := by grind
    omega
  have h3 := Int.mul_le_mul_of_nonneg_left h1 (show 0 ≤ P by omega)
  have h4 : q * P ≤ V := by
    have e1 : P * 1000000000 ≤ P * (v1 * 1000000000 + v2) := Int.mul_le_mul_of_nonneg_left (by omega) (by omega)
    have e2 : P * q ≤ P * 1000000000 := Int.mul_le_mul_of_nonneg_left (by omega) (by omega)
    rw [Int.mul_comm q P]
    omega
  omega

theorem noMore_lt {q : Int} (hq0 : 0 ≤ q) (hq1 : q ≤ 999999999) (hno : NoMore W V q) (hWV : W < V * 1000000000) : W < q * V + V := by
  rcases Int.lt_or_le W (q * V + V) with h | h
  · exact h
  · exfalso
    have e : (q + 1) * V = q * V + V := by grind
    by_cases hq : q = 999999999
    · subst hq; omega
    · have := hno (q + 1) (by omega) (by omega) (by omega)
      omega
end digit

end FE
end Go.Proofs.YtpaabengkidefaaGreat

namespace Go.Proofs.YtpaabengkidefaaGreat
open Go.RowKit

theorem trim_take (l : List Int) : FE.trim l = l.take (FE.trim l).length := by
  induction l with
  | nil => rfl
  | cons x l ih =>
    simp only [FE.trim]
    split
    · rfl
    · rw [List.length_cons, List.take_succ_cons, ← ih]
theorem trim_len (l : List Int) : (FE.trim l).length ≤ l.length := by
  have := congrArg List.length (trim_take l)
  rw [List.length_take] at this
  omega

theorem RO.of_trim {w : World} {base g c : Nat} {xs : List Int} (h : Arr w g c xs) (hb : base ≤ g) : RO w base (.slice (some ⟨g, 0, none⟩) (FE.trim xs).length c) (FE.trim xs) := by
  have hl := trim_len xs
  have h1 := h.len
  refine ⟨_, c, rfl, by omega, h1.2, fun _ => ⟨g, rfl, hb, ?_⟩⟩
  rw [trim_take xs]
  exact h.cut _

theorem trim_zero (xs : List Int) (j : Nat) (hj : j < xs.length) (h : xs.getD j 0 = 0) : FE.trim (xs.take (j + 1)) = FE.trim (xs.take j) := by
  rw [List.take_succ_eq_append_getElem hj]
  have : xs[j] = 0 := by simpa [hj] using h
  rw [this, FE.trim_snoc_zero]
theorem trim_ne (xs : List Int) (j : Nat) (hj : j < xs.length) (h : xs.getD j 0 ≠ 0) : (FE.trim (xs.take (j + 1))).length = j + 1 := by
  rw [List.take_succ_eq_append_getElem hj]
  have : xs[j] ≠ 0 := by simpa [hj] using h
  rw [FE.trim_snoc_ne _ this]
  simp; omega

set_option maxHeartbeats 400000 in
theorem trimmed_any (xs : List Int) (n c : Nat) (hn : xs.length = n) (hn1 : n ≤ 1073741824) (hnc : n ≤ c) (A : Option Addr) (w : World) (ha : RI w A xs) :
    Calls Tryz.prog 185 #[.slice A n c] w fun e w' => e = .returned (.slice A (FE.trim xs).length c) ∧ w' = w := by
  go_enter Tryz.func185, Tryz.ntmps185
  go_wp2_with fail
  go_loop [0] (fun v => ∃ k : Nat, k ≤ n ∧ v = .slice A k c ∧ FE.trim xs = FE.trim (xs.take k)) (fun v => match v with | .slice _ k _ => k | _ => 0)
  case atStart => exact ⟨n, Nat.le_refl _, rfl, by rw [List.take_of_length_le (by omega)]⟩
  case round =>
    obtain ⟨k, hk, rfl, ht⟩ := hrel
    have HT := Lib.hid ht; clear ht
    by_cases hk0 : k = 0
    · subst hk0
      have h0 : decide ((0 : Int) < ((0 : Nat) : Int)) = false := by simp
      go_wp2
      go_ret
      exact ⟨by rw [HT.out]; rfl, rfl⟩
    · obtain ⟨j, rfl⟩ := Nat.exists_eq_succ_of_ne_zero hk0
      obtain ⟨b, o, rfl, hb, hc⟩ := ha (by intro h; subst h; simp at hn; omega)
      have e1 := hc j (by omega)
      clear hc
      have h0 : (0 : Int) < ((j + 1 : Nat) : Int) := by omega
      by_cases hx : xs.getD j 0 = 0
      · have hz := trim_zero xs j (by omega) hx
        have HZ := Lib.hid hz; clear hz
        rw [hx] at e1
        clear hx
        go_wp2
        go_round
        case rel => exact ⟨j, by omega, rfl, by rw [HT.out]; exact HZ.out⟩
        case measure => simp
      · have hz := trim_ne xs j (by omega) hx
        have HZ := Lib.hid hz; clear hz
        generalize xs.getD j 0 = x at *
        have hx0 : (x == 0) = false := by simpa using hx
        have HX := Lib.hid hx; clear hx
        go_wp2
        go_ret
        exact ⟨by rw [HT.out, HZ.out]; rfl, rfl⟩

set_option maxHeartbeats 400000 in
theorem clone_any (xs : List Int) (n c : Nat) (hn : xs.length = n) (hn1 : n ≤ 1073741824) (A : Option Addr) (w : World) (ha : RI w A xs) :
    Calls Tryz.prog 161 #[.slice A n c] w fun e w' => ∃ v, e = .returned v ∧ RO w' w.heap.size v xs ∧ Below w.heap.size w w' := by
  have hnil := fun (W : World) (a : Option Addr) (l k : Nat) => Lib.run_eql_slice_nil (P := Tryz.prog) W 28 3 a l k 0 0 Tryz.underlying28
  by_cases hA : A = none
  · subst hA
    have hx : xs = [] := by
      by_cases h : xs = []
      · exact h
      · obtain ⟨b, o, h1, _⟩ := ha h
        cases h1
    subst hx
    go_enter Tryz.func161, Tryz.ntmps161
    go_wp2
    go_ret
    exact ⟨_, rfl, RO.nil _ _ _ _ (Nat.zero_le _), Below.refl _ _⟩
  · obtain ⟨ad, rfl⟩ := Option.ne_none_iff_exists'.1 hA
    go_enter Tryz.func161, Tryz.ntmps161
    go_wp2_with (at_builtin; refine appendAll rfl _ _ _ rfl Tryz.underlying28 Tryz.intInfo w.heap.size _ [] rfl (OI.of_arr (g := w.heap.size) (cap := 0) ⟨[], rfl, Nat.zero_le _, heap_alloc_new _ _⟩ (Nat.le_refl _)) _ xs n c rfl hn (ha.alloc _) (by simp; omega) (by simp) ?_)
    intro v' w1 hown hb1
    go_wp2
    go_ret
    exact ⟨_, rfl, RO.of_own hown, ((Below.refl _ _).alloc (Nat.le_refl _) _).trans hb1⟩

end Go.Proofs.YtpaabengkidefaaGreat

namespace Go.Proofs.YtpaabengkidefaaGreat
open Go.RowKit

set_option maxHeartbeats 800000 in
theorem divSmall_any (xs : List Int) (n c : Nat) (d : Int) (hn : xs.length = n) (hn1 : n ≤ 1048576) (hxd : FE.Dig xs) (hd0 : 0 < d) (hd1 : d ≤ 1000000000)
    (A : Option Addr) (w : World) (ha : RI w A xs) :
    Calls Tryz.prog 227 #[.slice A n c, .int .i64 d] w fun e w' => ∃ v, e = .returned (.tuple #[v, .int .i64 (FE.val xs % d)]) ∧ RO w' w.heap.size v (FE.toL (FE.val xs / d).toNat) ∧ Below w.heap.size w w' := by
  go_enter Tryz.func227, Tryz.ntmps227
  go_wp2_with (at_make; refine makeInts rfl _ _ _ rfl Tryz.underlying28 Tryz.intInfo n n _ _ rfl rfl rfl rfl (Nat.le_refl _) (by omega) ?_; intro harr0)
  go_loopw [7, 8] (fun r i wr => ∃ (k : Nat) (zs : List Int) (q : Int), k ≤ n ∧ i = .int .i64 ((k : Int) - 1) ∧ r = .int .i64 q ∧ 0 ≤ q ∧ q < d ∧ zs.length = n ∧ FE.Dig zs ∧ (∀ j, j < k → zs.getD j 0 = 0) ∧
      FE.val xs = d * FE.val zs + FE.bp k * q + FE.val (xs.take k) ∧ Arr wr w.heap.size n zs ∧ Below w.heap.size w wr) (fun _ i _ => (intOf i + 1).toNat)
  case atStart => exact ⟨n, List.replicate n 0, 0, Nat.le_refl _, rfl, rfl, by omega, hd0, by simp, FE.Dig.replicate n, fun j hj => by simp [hj], by rw [FE.val_replicate, List.take_of_length_le (by omega)]; simp, harr0, (Below.refl _ _).alloc (Nat.le_refl _) _⟩
  case round =>
    obtain ⟨k, zs, q, hk, rfl, rfl, hq0, hq1, hz, hzd, hzz, hv, harr, hbel⟩ := hrel
    have HZ := Lib.hid hz; clear hz
    have HV := Lib.hid hv; clear hv
    have HZZ := Lib.hid hzz; clear hzz
    clear harr0
    by_cases hk0 : k = 0
    · subst hk0
      have hfin : FE.val xs = d * FE.val zs + q := by have := HV.out; simp [FE.bp_zero, FE.val] at this; exact this
      have hz0 := FE.val_nonneg hzd
      have hq : FE.val xs / d = FE.val zs := by
        rw [hfin, Int.add_comm, Int.add_mul_ediv_left _ _ (by omega), Int.ediv_eq_zero_of_lt hq0 hq1]; omega
      have hr : FE.val xs % d = q := by rw [hfin, Int.add_comm, Int.add_mul_emod_self_left]; exact Int.emod_eq_of_lt hq0 hq1
      have ht : FE.trim zs = FE.toL (FE.val xs / d).toNat := FE.trim_eq hzd (by rw [hq]; omega)
      have HR := Lib.hid hr
      have HT := Lib.hid ht
      clear hfin hq hr ht
      go_wp2_with (go_at_call 185; refine (trimmed_any zs n n HZ.out (by omega) (Nat.le_refl _) _ _ harr.reads).mono ?_; rintro e w' ⟨rfl, rfl⟩)
      go_ret2
      refine ⟨_, by rw [HR.out]; rfl, ?_, hbel⟩
      rw [← HT.out]
      exact RO.of_trim harr (Nat.le_refl _)
    · obtain ⟨j, rfl⟩ := Nat.exists_eq_succ_of_ne_zero hk0
      obtain ⟨b1, o1, rfl, hb1, hc1⟩ := ha (by intro h; subst h; simp at hn; omega)
      have e1 := (hbel.cell (p := ⟨b1, o1 + j, none⟩) hb1).trans (hc1 j (by omega))
      have hzl := HZ.out
      have e2 := harr.cell j (by omega)
      have e3 := harr.frozen j
      have hstep := FE.divStep hd0 hq0 hq1 hxd (by omega) (hzl.trans hn.symm) hzd (HZZ.out j (by omega)) HV.out rfl
      have hx := hxd.getD j
      clear hc1 hzl
      generalize hxe : xs.getD j 0 = x at *
      generalize hye : zs.getD j 0 = y at *
      have hs1 := hstep.1
      have hs2 := hstep.2.1
      have hm0 := Int.emod_nonneg (q * 1000000000 + x) (show d ≠ 0 by omega)
      have hm1 := Int.emod_lt_of_pos (q * 1000000000 + x) hd0
      have HS := Lib.hid hstep; clear hstep hxe hye
      go_wp2
      go_roundw
      case rel =>
        refine ⟨j, zs.set j ((q * 1000000000 + x) / d), _, by omega, by go_num, rfl, hm0, hm1, by simp; exact HZ.out, HS.out.2.2.1, ?_, HS.out.2.2.2, harr.set j (by have := HZ.out; omega) _, hbel.setCell (Nat.le_refl _) _⟩
        intro j' hj'
        rw [FE.getD_set, if_neg (by omega)]
        exact HZZ.out j' (by omega)
      case measure => simp [intOf]

set_option maxHeartbeats 800000 in
theorem scaled_any (xs : List Int) (n c N : Nat) (by_ : Int) (hn : xs.length = n) (hn1 : n ≤ 1048576) (hN : N ≤ 1048576) (hxd : FE.Dig xs) (hb0 : 0 ≤ by_) (hb1 : by_ < 1000000000)
    (A : Option Addr) (w : World) (ha : RI w A xs) :
    Calls Tryz.prog 228 #[.slice A n c, .int .i64 by_, .int .i64 N] w fun e w' => ∃ (g : Nat) (zs : List Int) (cy : Int), e = .returned (.slice (some ⟨g, 0, none⟩) N N) ∧ w.heap.size ≤ g ∧ Arr w' g N zs ∧ zs.length = N ∧
      FE.Dig zs ∧ 0 ≤ cy ∧ FE.val zs + FE.bp N * cy = FE.val (xs.take N) * by_ ∧ Below w.heap.size w w' := by
  go_enter Tryz.func228, Tryz.ntmps228
  go_wp2_with (at_make; refine makeInts rfl _ _ _ rfl Tryz.underlying28 Tryz.intInfo N N _ _ rfl rfl rfl rfl (Nat.le_refl _) (by omega) ?_; intro harr0)
  go_loopw [8, 15] (fun r i wr => ∃ (k : Nat) (zs : List Int) (cy : Int), k ≤ N ∧ i = .int .i64 k ∧ r = .int .i64 cy ∧ 0 ≤ cy ∧ cy ≤ by_ ∧ zs.length = N ∧ FE.Dig zs ∧ (∀ j, k ≤ j → zs.getD j 0 = 0) ∧
      FE.val zs + FE.bp k * cy = FE.val (xs.take k) * by_ ∧ Arr wr w.heap.size N zs ∧ Below w.heap.size w wr) (fun _ i _ => N - (intOf i).toNat)
  case atStart => exact ⟨0, List.replicate N 0, 0, Nat.zero_le _, rfl, rfl, by omega, hb0, by simp, FE.Dig.replicate N, by intro j _; by_cases h : j < N <;> simp [h], by rw [FE.val_replicate]; simp [FE.val], harr0, (Below.refl _ _).alloc (Nat.le_refl _) _⟩
  case round =>
    obtain ⟨k, zs, cy, hk, rfl, rfl, hq0, hq1, hz, hzd, hzz, hv, harr, hbel⟩ := hrel
    have HZ := Lib.hid hz; clear hz
    have HV := Lib.hid hv; clear hv
    have HZZ := Lib.hid hzz; clear hzz
    clear harr0
    by_cases hkN : k < N
    · have hzl := HZ.out
      have e2 := harr.cell k (by omega)
      have e3 := harr.frozen k
      have hstep := FE.scaleStep (xs := xs) hzd (by omega) (HZZ.out k (Nat.le_refl _)) hq0 hq1 hb1 hxd HV.out rfl
      have hx := hxd.getD k
      have hm := FE.mul_bound hx ⟨hb0, by omega⟩
      clear hzl
      generalize hye : zs.getD k 0 = y at *
      by_cases hkn : k < n
      · obtain ⟨b1, o1, rfl, hb1', hc1⟩ := ha (by intro h; subst h; simp at hn; omega)
        have e1 := (hbel.cell (p := ⟨b1, o1 + k, none⟩) hb1').trans (hc1 k (by omega))
        clear hc1
        generalize hxe : xs.getD k 0 = x at *
        have HS := Lib.hid hstep; clear hstep hxe hye
        go_wp2
        go_roundw
        case rel =>
          refine ⟨k + 1, zs.set k _, _, by omega, by go_num, rfl, HS.out.2.2.1, HS.out.2.2.2, by simp; exact HZ.out, HS.out.1, ?_, HS.out.2.1, harr.set k (by have := HZ.out; omega) _, hbel.setCell (Nat.le_refl _) _⟩
          intro j' hj'
          rw [FE.getD_set, if_neg (by omega)]
          exact HZZ.out j' (by omega)
        case measure => simp [intOf]; omega
      · have hx0 : xs.getD k 0 = 0 := by simp [List.getElem?_eq_none (show xs.length ≤ k by omega)]
        rw [hx0] at hstep hm
        simp only [Int.zero_mul, Int.add_zero] at hstep
        clear hx0 hm hx
        have HS := Lib.hid hstep; clear hstep hye
        go_wp2
        go_roundw
        case rel =>
          refine ⟨k + 1, zs.set k _, _, by omega, by go_num, rfl, HS.out.2.2.1, HS.out.2.2.2, by simp; exact HZ.out, HS.out.1, ?_, HS.out.2.1, harr.set k (by have := HZ.out; omega) _, hbel.setCell (Nat.le_refl _) _⟩
          intro j' hj'
          rw [FE.getD_set, if_neg (by omega)]
          exact HZZ.out j' (by omega)
        case measure => simp [intOf]; omega
    · have hkN' : k = N := by omega
      subst hkN'
      go_wp2
      go_ret
      exact ⟨_, zs, cy, rfl, Nat.le_refl _, harr, HZ.out, hzd, hq0, HV.out, hbel⟩

end Go.Proofs.YtpaabengkidefaaGreat

namespace Go.Proofs.YtpaabengkidefaaGreat
open Go.RowKit

/-- Only block g, and what is new, has turned. -/
def Only (g : Nat) (w w' : World) : Prop := w.grownBy w' (some g)
theorem Only.refl (g : Nat) (w : World) : Only g w w := ⟨rfl, rfl, rfl, Nat.le_refl _, fun _ _ _ => rfl⟩
theorem Only.set {g : Nat} {a w : World} (h : Only g a w) (i : Nat) (u : Value) : Only g a (w.setCell ⟨g, i, none⟩ u) :=
  ⟨h.os, h.tape, h.output, by simpa [World.setCell] using h.size, fun k hk hne => (Below.heap_setCell w _ u k (fun e => hne (by rw [e]))).trans (h.block k hk hne)⟩
theorem Only.drew {g : Nat} {a w : World} (h : Only g a w) : Only g a w.drew := ⟨h.os, h.tape, h.output, h.size, h.block⟩
theorem Only.below {g B : Nat} {a w : World} (h : Only g a w) (hg : B ≤ g) (hB : B ≤ a.heap.size) : Below B a w :=
  ⟨h.os, h.tape, h.output, h.size, fun k hk => h.block k (by omega) (fun e => by injection e with e; omega)⟩
theorem Only.reads {g : Nat} {a w : World} {A : Option Addr} {xs : List Int} (h : Only g a w) (hr : RI a A xs) (hne : ∀ b, A = some b → xs ≠ [] → b.block ≠ g) : RI w A xs := by
  intro hx
  obtain ⟨b, off, rfl, hb, hc⟩ := hr hx
  refine ⟨b, off, rfl, Nat.lt_of_lt_of_le hb h.size, fun i hi => ?_⟩
  rw [World.cell?_of_block (w := a) (w' := w) (h.block b hb (fun e => hne _ rfl hx (by injection e)))]
  exact hc i hi
theorem Only.arr {g g' cap : Nat} {a w : World} {xs : List Int} (h : Only g a w) (hr : Arr a g' cap xs) (hne : g' ≠ g) : Arr w g' cap xs :=
  hr.block (h.block g' hr.lt (fun e => hne (by injection e)))

set_option maxRecDepth 100000 in
set_option maxHeartbeats 2000000 in
theorem subtract_any (us vs : List Int) (off n c1 d cap g : Nat) (q : Int) (hm : vs.length = n) (hus : off + n + 1 ≤ us.length) (hul : us.length ≤ 1048576) (hud : FE.Dig us) (hvd : FE.Dig vs) (hq : 0 ≤ q ∧ q < 1000000000)
    (hlo : - FE.bp n ≤ FE.val ((us.drop off).take (n + 1)) - q * FE.val vs)
    (B : Option Addr) (w : World) (harr : Arr w g cap us) (hb : RI w B vs) (hne : ∀ b, B = some b → vs ≠ [] → b.block ≠ g) :
    Calls Tryz.prog 229 #[.slice (some ⟨g, off, none⟩) (n + 1) c1, .slice B n d, .int .i64 q] w fun e w' => ∃ (zs : List Int) (r : Int), e = .returned (.int .i64 r) ∧ (r = 0 ∨ r = 1) ∧ zs.length = n + 1 ∧ FE.Dig zs ∧
      FE.val zs = FE.val ((us.drop off).take (n + 1)) - q * FE.val vs + FE.bp (n + 1) * r ∧ Arr w' g cap (us.take off ++ zs ++ us.drop (off + n + 1)) ∧ Only g w w' := by
  go_enter Tryz.func229, Tryz.ntmps229
  go_wp2_with fail
  have HLO := Lib.hid hlo; clear hlo
  have HNE := Lib.hid hne; clear hne
  have hwd : FE.Dig (us.drop off) := hud.drop off
  go_loopw [7, 14] (fun r i wr => ∃ (k : Nat) (zs : List Int) (bo : Int), k ≤ n ∧ i = .int .i64 k ∧ r = .int .i64 bo ∧ 0 ≤ bo ∧ bo < 1000000000 ∧ zs.length = k ∧ FE.Dig zs ∧
      FE.val zs - FE.bp k * bo = FE.val ((us.drop off).take k) - q * FE.val (vs.take k) ∧ Arr wr g cap ((us.take off ++ zs) ++ us.drop (off + k)) ∧ Only g w wr) (fun _ i _ => n - (intOf i).toNat)
  case atStart => exact ⟨0, [], 0, Nat.zero_le _, rfl, rfl, by omega, by omega, rfl, FE.Dig.nil, by simp [FE.val], by simpa using harr, Only.refl _ _⟩
  case round =>
    obtain ⟨k, zs, bo, hk, rfl, rfl, hb0, hb1, hz, hzd, hv, har, honly⟩ := hrel
    have HZ := Lib.hid hz; clear hz
    have HV := Lib.hid hv; clear hv
    have hpl : (us.take off ++ zs).length = off + k := by simp [HZ.out]; omega
    have hlen : off + k < ((us.take off ++ zs) ++ us.drop (off + k)).length := by rw [List.length_append, hpl, List.length_drop]; omega
    have e2 := har.cell (off + k) hlen
    have e3 := har.frozen (off + k)
    rw [FE.getD_mid _ _ _ hpl (by omega)] at e2
    have hwk : (us.drop off).getD k 0 = us.getD (off + k) 0 := by simp
    have hfin : ∀ t (wz : World), Arr wz g cap (((us.take off ++ zs) ++ us.drop (off + k)).set (off + k) t) → Arr wz g cap ((us.take off ++ (zs ++ [t])) ++ us.drop (off + (k + 1))) := fun t wz h => by
      rw [FE.set_mid _ _ _ _ hpl (by omega)] at h
      simpa [Nat.add_assoc] using h
    have HF := Lib.hid hfin; clear hfin
    have HPL := Lib.hid hpl; clear hpl
    by_cases hkn : k < n
    · obtain ⟨b2, o2, rfl, hb2', hc2⟩ := hb (by intro h; subst h; simp at hm; omega)
      have hneq : b2 ≠ g := HNE.out _ rfl (by intro h; subst h; simp at hm; omega)
      have e4 := (World.cell?_of_block (w := w) (w' := wr) (a := ⟨b2, o2 + k, none⟩) (honly.block b2 hb2' (fun e => hneq (by injection e)))).trans (hc2 k (by omega))
      clear hc2
      have hx := hud.getD (off + k)
      have hy := hvd.getD k
      have hmm := FE.mul_bound hy ⟨hq.1, by omega⟩
      have hstep := FE.takeStep (t := us.getD (off + k) 0 - bo - vs.getD k 0 * q) HZ.out hzd hwd hvd hb0 hb1 hq HV.out (by rw [hwk]) rfl rfl
      clear hwk
      generalize hye : vs.getD k 0 = y at *
      generalize hxe : us.getD (off + k) 0 = x at *
      clear hxe hye
      by_cases ht : x - bo - y * q < 0
      · rw [if_pos ht, if_pos ht] at hstep
        have HS := Lib.hid hstep; clear hstep
        go_wp2
        go_roundw
        case rel => exact ⟨k + 1, zs ++ [_], _, by omega, by go_num, rfl, HS.out.2.2.1, HS.out.2.2.2, by simp; exact HZ.out, HS.out.1, HS.out.2.1, HF.out _ _ (har.set (off + k) hlen _), honly.set _ _⟩
        case measure => simp [intOf]; omega
      · rw [if_neg ht, if_neg ht] at hstep
        have HS := Lib.hid hstep; clear hstep
        go_wp2
        go_roundw
        case rel => exact ⟨k + 1, zs ++ [x - bo - y * q], 0, by omega, by go_num, rfl, by omega, by omega, by simp; exact HZ.out, HS.out.1, HS.out.2.1, HF.out _ _ (har.set (off + k) hlen _), honly.set _ _⟩
        case measure => simp [intOf]; omega
    · have hkn' : k = n := by omega
      subst hkn'
      have hend := FE.takeEnd (t := us.getD (off + k) 0 - bo) HZ.out hzd hwd hm hb0 HV.out HLO.out (by rw [hwk])
      clear hwk
      have hx := hud.getD (off + k)
      generalize hxe : us.getD (off + k) 0 = x at *
      clear hxe
      have h1 := hend.1
      have h2 := hend.2.1
      have hee := hend.2.2
      clear hend
      have HE := Lib.hid hee; clear hee
      by_cases ht : x - bo < 0
      · go_wp2
        go_ret
        exact ⟨zs ++ [x - bo + 1000000000], 1, rfl, .inr rfl, by simp; exact HZ.out, (HE.out.1 ht).1, (HE.out.1 ht).2, by
          have h3 := HF.out _ _ (har.set2 (off + k) hlen (x - bo) (x - bo + 1000000000))
          simpa [Nat.add_assoc] using h3, (honly.set _ _).set _ _⟩
      · go_wp2
        go_ret
        exact ⟨zs ++ [x - bo], 0, rfl, .inl rfl, by simp; exact HZ.out, (HE.out.2 (by omega)).1, (HE.out.2 (by omega)).2, by
          have h3 := HF.out _ _ (har.set (off + k) hlen (x - bo))
          simpa [Nat.add_assoc] using h3, honly.set _ _⟩

set_option maxRecDepth 100000 in
set_option maxHeartbeats 2000000 in
theorem addBack_any (us vs : List Int) (off n c1 d cap g N : Nat) (hm : vs.length = n) (hnN : n ≤ N) (hus : off + N ≤ us.length) (hul : us.length ≤ 1048576) (hud : FE.Dig us) (hvd : FE.Dig vs)
    (B : Option Addr) (w : World) (harr : Arr w g cap us) (hb : RI w B vs) (hne : ∀ b, B = some b → vs ≠ [] → b.block ≠ g) :
    Calls Tryz.prog 230 #[.slice (some ⟨g, off, none⟩) N c1, .slice B n d] w fun e w' => ∃ (zs : List Int) (cy : Int), e = .returned (.tuple #[]) ∧ 0 ≤ cy ∧ cy ≤ 1 ∧ zs.length = N ∧ FE.Dig zs ∧
      FE.val zs + FE.bp N * cy = FE.val ((us.drop off).take N) + FE.val vs ∧ Arr w' g cap (us.take off ++ zs ++ us.drop (off + N)) ∧ Only g w w' := by
  go_enter Tryz.func230, Tryz.ntmps230
  go_wp2_with fail
  have HNE := Lib.hid hne; clear hne
  have hwd : FE.Dig (us.drop off) := hud.drop off
  go_loopw [4, 9] (fun r i wr => ∃ (k : Nat) (zs : List Int) (cy : Int), k ≤ N ∧ i = .int .i64 k ∧ r = .int .i64 cy ∧ 0 ≤ cy ∧ cy ≤ 1 ∧ zs.length = k ∧ FE.Dig zs ∧
      FE.val zs + FE.bp k * cy = FE.val ((us.drop off).take k) + FE.val (vs.take k) ∧ Arr wr g cap ((us.take off ++ zs) ++ us.drop (off + k)) ∧ Only g w wr) (fun _ i _ => N - (intOf i).toNat)
  case atStart => exact ⟨0, [], 0, Nat.zero_le _, rfl, rfl, by omega, by omega, rfl, FE.Dig.nil, by simp [FE.val], by simpa using harr, Only.refl _ _⟩
  case round =>
    obtain ⟨k, zs, cy, hk, rfl, rfl, hb0, hb1, hz, hzd, hv, har, honly⟩ := hrel
    have HZ := Lib.hid hz; clear hz
    have HV := Lib.hid hv; clear hv
    by_cases hkN : k < N
    · have hpl : (us.take off ++ zs).length = off + k := by simp [HZ.out]; omega
      have hlen : off + k < ((us.take off ++ zs) ++ us.drop (off + k)).length := by rw [List.length_append, hpl, List.length_drop]; omega
      have e2 := har.cell (off + k) hlen
      have e3 := har.frozen (off + k)
      rw [FE.getD_mid _ _ _ hpl (by omega)] at e2
      have hwk : (us.drop off).getD k 0 = us.getD (off + k) 0 := by simp
      have hfin : ∀ t (wz : World), Arr wz g cap (((us.take off ++ zs) ++ us.drop (off + k)).set (off + k) t) → Arr wz g cap ((us.take off ++ (zs ++ [t])) ++ us.drop (off + (k + 1))) := fun t wz h => by
        rw [FE.set_mid _ _ _ _ hpl (by omega)] at h
        simpa [Nat.add_assoc] using h
      have HF := Lib.hid hfin; clear hfin hpl
      have hx := hud.getD (off + k)
      have hy := hvd.getD k
      have hstep := FE.addBackStep (t := us.getD (off + k) 0 + cy + vs.getD k 0) HZ.out hzd hwd hvd hb0 hb1 HV.out (by rw [hwk])
      clear hwk
      by_cases hkn : k < n
      · obtain ⟨b2, o2, rfl, hb2', hc2⟩ := hb (by intro h; subst h; simp at hm; omega)
        have hneq : b2 ≠ g := HNE.out _ rfl (by intro h; subst h; simp at hm; omega)
        have e4 := (World.cell?_of_block (w := w) (w' := wr) (a := ⟨b2, o2 + k, none⟩) (honly.block b2 hb2' (fun e => hneq (by injection e)))).trans (hc2 k (by omega))
        clear hc2
        generalize hye : vs.getD k 0 = y at *
        generalize hxe : us.getD (off + k) 0 = x at *
        clear hxe hye
        have HS := Lib.hid hstep; clear hstep
        go_wp2
        go_roundw
        case rel => exact ⟨k + 1, zs ++ [_], _, by omega, by go_num, rfl, HS.out.2.2.1, HS.out.2.2.2, by simp; exact HZ.out, HS.out.1, HS.out.2.1, HF.out _ _ (har.set (off + k) hlen _), honly.set _ _⟩
        case measure => simp [intOf]; omega
      · have hy0 : vs.getD k 0 = 0 := by simp [List.getElem?_eq_none (show vs.length ≤ k by omega)]
        rw [hy0] at hstep
        simp only [Int.add_zero] at hstep
        clear hy0 hy
        generalize hxe : us.getD (off + k) 0 = x at *
        clear hxe
        have HS := Lib.hid hstep; clear hstep
        go_wp2
        go_roundw
        case rel => exact ⟨k + 1, zs ++ [_], _, by omega, by go_num, rfl, HS.out.2.2.1, HS.out.2.2.2, by simp; exact HZ.out, HS.out.1, HS.out.2.1, HF.out _ _ (har.set (off + k) hlen _), honly.set _ _⟩
        case measure => simp [intOf]; omega
    · have hkN' : k = N := by omega
      subst hkN'
      go_wp2
      go_end0
      exact ⟨zs, cy, rfl, hb0, hb1, HZ.out, hzd, FE.addBackEnd (by omega) HV.out, har, honly⟩

end Go.Proofs.YtpaabengkidefaaGreat

namespace Go.Proofs.YtpaabengkidefaaGreat
open Go.RowKit

theorem toL_step (zs : List Int) (q : Nat) (hq : q ≠ 0) : zs ++ FE.toL q = (zs ++ [((q % 1000000000 : Nat) : Int)]) ++ FE.toL (q / 1000000000) := by
  rw [FE.toL_pos hq]; simp

theorem natOf_len {l : List Int} {q N : Nat} (hq : q ≠ 0) (h : 1000000000 ^ l.length * q ≤ N) (hN : N ≤ 4611686018427387904) : l.length < 1000 := by
  rcases Nat.lt_or_ge l.length 1000 with h1 | h1
  · exact h1
  · exfalso
    have h2 : 1000000000 ^ 7 ≤ 1000000000 ^ l.length := Nat.pow_le_pow_right (by omega) (by omega)
    have h3 : 1000000000 ^ l.length * 1 ≤ 1000000000 ^ l.length * q := Nat.mul_le_mul_left _ (by omega)
    omega
theorem natOf_step {l : List Int} {q N : Nat} {x : Int} (h : 1000000000 ^ l.length * q ≤ N) : 1000000000 ^ (l ++ [x]).length * (q / 1000000000) ≤ N := by
  have h1 : (l ++ [x]).length = l.length + 1 := by simp
  rw [h1, Nat.pow_succ, Nat.mul_assoc]
  exact Nat.le_trans (Nat.mul_le_mul_left _ (Nat.mul_div_le _ _)) h

set_option maxRecDepth 100000 in
set_option maxHeartbeats 800000 in
theorem natOf_any (N : Nat) (hN : N ≤ 4611686018427387904) (w : World) :
    Calls Tryz.prog 184 #[.int .u64 N] w fun e w' => ∃ v, e = .returned v ∧ RO w' w.heap.size v (FE.toL N) ∧ Below w.heap.size w w' := by
  go_enter Tryz.func184, Tryz.ntmps184
  go_wp2_with fail
  go_loopw [0, 3] (fun r v wr => ∃ (q : Nat) (zs : List Int), q ≤ N ∧ r = .int .u64 q ∧ 1000000000 ^ zs.length * q ≤ N ∧ FE.toL N = zs ++ FE.toL q ∧ OI wr w.heap.size v zs ∧ Below w.heap.size w wr) (fun r _ _ => (intOf r).toNat)
  case atStart => exact ⟨N, [], Nat.le_refl _, rfl, by simp, by simp, OI.of_arr (g := w.heap.size) (cap := 0) ⟨[], rfl, Nat.zero_le _, heap_alloc_new _ _⟩ (Nat.le_refl _), (Below.refl _ _).alloc (Nat.le_refl _) _⟩
  case round =>
    obtain ⟨q, zs, hq, rfl, hl1, hL, hown, hbel⟩ := hrel
    have HL := Lib.hid hL; clear hL
    by_cases hq0 : q = 0
    · subst hq0
      go_wp2
      go_ret
      exact ⟨_, rfl, RO.of_own (by rw [HL.out, FE.toL_zero, List.append_nil]; exact hown), hbel⟩
    · have hlen := natOf_len hq0 hl1 hN
      have HL1 := Lib.hid hl1; clear hl1
      go_wp2_with (at_builtin; refine append1 rfl _ _ _ rfl Tryz.underlying28 Tryz.intInfo w.heap.size _ zs rfl (hown.alloc _) ⟨wr.heap.size, 0, none⟩ _ rfl (cell_new1 _ _ _) (by omega) (by have := hbel.size; simp; omega) ?_)
      intro v' w1 hown1 hb1'
      go_wp2
      go_roundw
      case rel => exact ⟨q / 1000000000, zs ++ [((q % 1000000000 : Nat) : Int)], by omega, by go_num, natOf_step HL1.out, by rw [HL.out]; exact toL_step zs q hq0, by simpa using hown1, (hbel.alloc hbel.size _).trans hb1'⟩
      case measure => simp [intOf]; omega

set_option maxHeartbeats 800000 in
theorem gcd_any (a b : Nat) (ha : a ≤ 4611686018427387904) (hb : b ≤ 4611686018427387904) (w : World) :
    Calls Tryz.prog 90 #[.int .i64 a, .int .i64 b] w fun e w' => e = .returned (.int .i64 (Nat.gcd a b)) ∧ ∃ k, w' = w.drewN k := by
  go_enter Tryz.func90, Tryz.ntmps90
  go_wp2_with fail
  go_loopw [0, 1] (fun r s wr => ∃ (p q : Nat), p ≤ 4611686018427387904 ∧ q ≤ 4611686018427387904 ∧ r = .int .i64 p ∧ s = .int .i64 q ∧ Nat.gcd a b = Nat.gcd p q ∧ ∃ k, wr = w.drewN k) (fun _ s _ => (intOf s).toNat)
  case atStart => exact ⟨a, b, ha, hb, rfl, rfl, rfl, 0, rfl⟩
  case round =>
    obtain ⟨p, q, hp, hq, rfl, rfl, hg, k, rfl⟩ := hrel
    have HG := Lib.hid hg; clear hg
    by_cases hq0 : q = 0
    · subst hq0
      go_wp2
      go_ret
      exact ⟨by rw [HG.out, Nat.gcd_zero_right]; rfl, k, rfl⟩
    · have hm := Nat.mod_lt p (show 0 < q by omega)
      have HM : Nat.gcd p q = Nat.gcd q (p % q) := by rw [Nat.gcd_comm, Nat.gcd_rec, Nat.gcd_comm]
      have HM' := Lib.hid HM; clear HM
      have e1 : ((p : Int) % (q : Int)) = ((p % q : Nat) : Int) := by omega
      have hq1 : 1 ≤ q := by omega
      clear hq0
      have E1 := Lib.hid e1; clear e1
      go_wp2
      go_quiet (fail)
      go_wp2
      go_roundw
      case rel => exact ⟨q, p % q, hq, by omega, rfl, by rw [E1.out], by rw [HG.out, HM'.out], _, World.drewN_drewN _ _ _⟩
      case measure => simp [intOf]; omega

end Go.Proofs.YtpaabengkidefaaGreat

namespace Go.Proofs.YtpaabengkidefaaGreat
open Go.RowKit

theorem natCmp_val (xs ys : List Int) (n m c d : Nat) (hn : xs.length = n) (hm : ys.length = m) (hn1 : n ≤ 1048576) (hm1 : m ≤ 1048576) (hxd : FE.Dig xs) (hxt : FE.Top xs) (hyd : FE.Dig ys) (hyt : FE.Top ys)
    (v : Int) (hv : cmpI (FE.val xs) (FE.val ys) = v) (A B : Option Addr) (w : World) (ha : RI w A xs) (hb : RI w B ys) :
    Calls Tryz.prog 212 #[.slice A n c, .slice B m d] w fun e w' => e = .returned (.int .i64 v) ∧ ∃ k, w' = w.drewN k := by
  have h := natCmp_any xs ys n m c d hn hm (by omega) (by omega) A B w ha hb
  rwa [FE.cmpL_spec hxd hxt hyd hyt, hv] at h

set_option maxRecDepth 100000 in
set_option maxHeartbeats 1000000 in
theorem natDiv_lt (xs ys : List Int) (n m c d : Nat) (hn : xs.length = n) (hm : ys.length = m) (hn1 : n ≤ 65536) (hm1 : m ≤ 65536) (hxd : FE.Dig xs) (hxt : FE.Top xs) (hyd : FE.Dig ys) (hyt : FE.Top ys)
    (hlt : FE.val xs < FE.val ys) (A B : Option Addr) (w : World) (ha : RI w A xs) (hb : RI w B ys) :
    Calls Tryz.prog 165 #[.slice A n c, .slice B m d] w fun e w' => ∃ v1 v2, e = .returned (.tuple #[v1, v2]) ∧ RO w' w.heap.size v1 (FE.toL (FE.val xs / FE.val ys).toNat) ∧ RO w' w.heap.size v2 (FE.toL (FE.val xs % FE.val ys).toNat) ∧ Below w.heap.size w w' := by
  have hx0 := FE.val_nonneg hxd
  have hq : FE.val xs / FE.val ys = 0 := Int.ediv_eq_zero_of_lt hx0 hlt
  have hr : FE.val xs % FE.val ys = FE.val xs := Int.emod_eq_of_lt hx0 hlt
  have hL : FE.toL (FE.val xs).toNat = xs := FE.toL_val hxd hxt
  rw [hq, hr, hL, show FE.toL (0 : Int).toNat = [] from FE.toL_zero]
  have C := fun W h1 h2 => natCmp_val xs ys n m c d hn hm (by omega) (by omega) hxd hxt hyd hyt (-1) (by rw [cmpI, if_pos hlt]) A B W h1 h2
  have HC := Lib.hid C
  clear C hq hr hL hx0 hlt
  go_enter Tryz.func165, Tryz.ntmps165
  go_wp2_with fail
  refine (HC.out _ ha hb).mono ?_
  rintro e w1 ⟨rfl, k, rfl⟩
  go_wp2_with (go_at_call 161; refine (clone_any xs n c hn (by omega) A _ ((ha.drewN _).alloc _)).mono ?_; rintro e w2 ⟨v2, rfl, hro, hb2⟩)
  go_ret2
  have hsz : w.heap.size ≤ ((w.drewN k).alloc (.cells #[] 3)).heap.size := by simp
  exact ⟨_, _, rfl, RO.nil _ _ _ _ (Nat.zero_le _), hro.mono hsz, (below_drewN ((Below.refl _ _).alloc (Nat.le_refl _) _) k).trans (hb2.mono hsz)⟩

set_option maxRecDepth 100000 in
set_option maxHeartbeats 1000000 in
theorem natDiv_one (xs : List Int) (y : Int) (n c d : Nat) (hn : xs.length = n) (hn1 : n ≤ 65536) (hxd : FE.Dig xs) (hxt : FE.Top xs) (hy0 : 0 < y) (hy1 : y < 1000000000)
    (hge : y ≤ FE.val xs) (A B : Option Addr) (w : World) (ha : RI w A xs) (hb : RI w B [y]) :
    Calls Tryz.prog 165 #[.slice A n c, .slice B 1 d] w fun e w' => ∃ v1 v2, e = .returned (.tuple #[v1, v2]) ∧ RO w' w.heap.size v1 (FE.toL (FE.val xs / y).toNat) ∧ RO w' w.heap.size v2 (FE.toL (FE.val xs % y).toNat) ∧ Below w.heap.size w w' := by
  have hvy : FE.val [y] = y := by simp [FE.val]
  have hyd : FE.Dig [y] := FE.Dig.cons (by omega) hy1 FE.Dig.nil
  have hyt : FE.Top [y] := by intro h; simp; omega
  obtain ⟨b2, o2, rfl, hb2, hc2⟩ := hb (by simp)
  have e2 := hc2 0 (by simp)
  simp only [List.getD_cons_zero, Nat.add_zero] at e2
  have hr0 := Int.emod_nonneg (FE.val xs) (show y ≠ 0 by omega)
  have hr1 := Int.emod_lt_of_pos (FE.val xs) hy0
  obtain ⟨r, hr⟩ : ∃ r : Nat, FE.val xs % y = r := ⟨(FE.val xs % y).toNat, by omega⟩
  have hDS := fun W h1 => divSmall_any xs n c y hn (by omega) hxd hy0 (by omega) A W h1
  have hNO := fun W => natOf_any r (by omega) W
  rw [hr]
  simp only [hr] at hDS
  simp only [Int.toNat_natCast]
  have hrl : r ≤ 1000000000 := by omega
  have hsgn : ∀ v : Int, v = cmpI (FE.val xs) y → (v = 0 ∨ v = 1) := by intro v hv; unfold cmpI at hv; rw [if_neg (by omega)] at hv; split at hv <;> omega
  obtain ⟨s, hs⟩ : ∃ s, cmpI (FE.val xs) y = s := ⟨_, rfl⟩
  have C := fun W h1 h2 => natCmp_val xs [y] n 1 c d hn rfl (by omega) (by omega) hxd hxt hyd hyt s (by rw [hvy]; exact hs) A (some ⟨b2, o2, none⟩) W h1 h2
  have hs0 : 0 ≤ s := by have := hsgn s hs.symm; omega
  have HC := Lib.hid C
  have HDS := Lib.hid hDS
  have HNO := Lib.hid hNO
  clear C hDS hNO hs hsgn hvy hge hr hr0 hr1
  go_enter Tryz.func165, Tryz.ntmps165
  go_wp2_with fail
  refine (HC.out _ ha hb).mono ?_
  rintro e w1 ⟨rfl, k, rfl⟩
  go_wp2_with fail
  refine (HDS.out _ (ha.drewN k)).mono ?_
  rintro e w2 ⟨v2, rfl, hro2, hb2'⟩
  go_wp2_with fail
  refine (HNO.out _).mono ?_
  rintro e w3 ⟨v3, rfl, hro3, hb3⟩
  go_wp2
  go_ret2
  exact ⟨_, _, rfl, hro2.later hb3, hro3.mono hb2'.size, (below_self_drewN w k).trans (hb2'.trans (hb3.mono hb2'.size))⟩

end Go.Proofs.YtpaabengkidefaaGreat

namespace Go.Proofs.YtpaabengkidefaaGreat
namespace FE

/-- The factor by which both numbers are scaled. -/
theorem normal {ys : List Int} {m : Nat} (hd : Dig ys) (ht : Top ys) (hm : ys.length = m + 1) : 1 ≤ ys.getD m 0 ∧ 1 ≤ 1000000000 / (ys.getD m 0 + 1) ∧ 1000000000 / (ys.getD m 0 + 1) ≤ 500000000 ∧ val ys * (1000000000 / (ys.getD m 0 + 1)) < bp (m + 1) := by
  have h1 := hd.getD m
  have hl : ys ≠ [] := by intro e; subst e; simp at hm
  have htop : ys.getD m 0 ≠ 0 := by
    have := ht hl
    rw [List.getLast_eq_getElem] at this
    have e : ys.length - 1 = m := by omega
    simp only [e] at this
    rw [List.getD_eq_getElem?_getD, List.getElem?_eq_getElem (by omega)]
    simpa using this
  have e : val ys = val (ys.take m) + bp m * ys.getD m 0 := by
    have e : val ys = val (ys.take (m + 1)) := by rw [List.take_of_length_le (by omega)]
    rw [e, val_take_succ']
  have hlow := val_lt (hd.take m)
  rw [List.length_take, Nat.min_eq_left (by omega)] at hlow
  generalize ys.getD m 0 = b at *
  have hb : 0 < b + 1 := by omega
  have hf := Int.ediv_mul_le 1000000000 (show b + 1 ≠ 0 by omega)
  have h2 : 1 ≤ 1000000000 / (b + 1) := (Int.le_ediv_iff_mul_le hb).2 (by omega)
  have h3 : 1000000000 / (b + 1) ≤ 500000000 := by
    have : 1000000000 / (b + 1) < 500000001 := (Int.ediv_lt_iff_lt_mul hb).2 (by omega)
    omega
  generalize 1000000000 / (b + 1) = f at *
  refine ⟨by omega, h2, h3, ?_⟩
  have hv : val ys < bp m * (b + 1) := by rw [e, Int.mul_add]; omega
  have h4 : val ys * f < bp m * (b + 1) * f := Int.mul_lt_mul_of_pos_right hv (by omega)
  have h5 : bp m * (f * (b + 1)) ≤ bp m * 1000000000 := Int.mul_le_mul_of_nonneg_left hf (by have := bp_pos m; omega)
  have h6 : bp m * (b + 1) * f = bp m * (f * (b + 1)) := by grind
  rw [bp_succ]; omega

theorem start {xs ys : List Int} {n m : Nat} {f : Int} (hxd : Dig xs) (hyd : Dig ys) (hyt : Top ys) (hn : xs.length = n) (hm : ys.length = m + 1) (hmn : m + 1 ≤ n) (hf : 1 ≤ f) :
    val xs * f < val ys * f * bp (n - (m + 1) + 1) := by
  have h1 := val_lt hxd
  have h2 := val_ge hyd hyt (by intro e; subst e; simp at hm)
  rw [hn] at h1
  rw [hm, Nat.add_sub_cancel] at h2
  have e : n = m + (n - (m + 1) + 1) := by omega
  have h3 : bp n = bp m * bp (n - (m + 1) + 1) := by rw [← bp_add, ← e]
  have hp := bp_pos (n - (m + 1) + 1)
  have h4 : bp m * bp (n - (m + 1) + 1) ≤ val ys * bp (n - (m + 1) + 1) := Int.mul_le_mul_of_nonneg_right h2 (by omega)
  have h5 : val xs < val ys * bp (n - (m + 1) + 1) := by omega
  have h6 := Int.mul_lt_mul_of_pos_right h5 (show 0 < f by omega)
  have h7 : val ys * bp (n - (m + 1) + 1) * f = val ys * f * bp (n - (m + 1) + 1) := by grind
  omega

theorem window {us : List Int} {j m : Nat} {V : Int} (hd : Dig us) (hl : j + m + 1 ≤ us.length) (hV : V < bp m) (hlt : val us < V * bp (j + 1)) :
    val us = val (us.take j) + bp j * val ((us.drop j).take (m + 1)) ∧ val (us.drop (j + m + 1)) = 0 ∧ 0 ≤ val ((us.drop j).take (m + 1)) ∧ val ((us.drop j).take (m + 1)) < V * 1000000000 := by
  have e1 := val_take_drop us j (by omega)
  have e2 := val_take_drop (us.drop j) (m + 1) (by rw [List.length_drop]; omega)
  rw [List.drop_drop] at e2
  have a1 := val_nonneg (hd.take j)
  have a2 := val_nonneg ((hd.drop j).take (m + 1))
  have a3 := val_nonneg (hd.drop (j + (m + 1)))
  have p1 := bp_pos j
  have p2 := bp_pos (m + 1)
  have p3 := bp_pos (j + 1)
  have hz : val (us.drop (j + (m + 1))) = 0 := by
    rcases Int.lt_or_le 0 (val (us.drop (j + (m + 1)))) with h | h
    · exfalso
      have h1 : bp (m + 1) * 1 ≤ bp (m + 1) * val (us.drop (j + (m + 1))) := Int.mul_le_mul_of_nonneg_left (by omega) (by omega)
      have h2 : bp j * bp (m + 1) ≤ bp j * val (us.drop j) := Int.mul_le_mul_of_nonneg_left (by omega) (by omega)
      have h3 : V * bp (j + 1) ≤ bp m * bp (j + 1) := Int.mul_le_mul_of_nonneg_right (by omega) (by omega)
      have h4 : bp j * bp (m + 1) = bp m * bp (j + 1) := by rw [← bp_add, ← bp_add]; congr 1; omega
      omega
    · omega
  rw [hz] at e2
  simp only [Int.mul_zero, Int.add_zero] at e2
  rw [e2] at e1
  refine ⟨e1, hz, a2, ?_⟩
  rcases Int.lt_or_le (val ((us.drop j).take (m + 1))) (V * 1000000000) with h | h
  · exact h
  · exfalso
    have h1 := Int.mul_le_mul_of_nonneg_left h (show 0 ≤ bp j by omega)
    have h2 : V * bp (j + 1) = bp j * (V * 1000000000) := by rw [bp_succ]; grind
    omega

theorem newU {us Z : List Int} {j m : Nat} (hl : j + m + 1 ≤ us.length) (hZ : Z.length = m + 1) (hz : val (us.drop (j + m + 1)) = 0) :
    (us.take j ++ Z ++ us.drop (j + m + 1)).length = us.length ∧ val (us.take j ++ Z ++ us.drop (j + m + 1)) = val (us.take j) + bp j * val Z := by
  constructor
  · simp [hZ]; omega
  · rw [val_append, val_append, hz, List.length_take, Nat.min_eq_left (by omega)]; simp

theorem newU_len {us Z : List Int} {j m : Nat} (hl : j + m + 1 ≤ us.length) (hZ : Z.length = m + 1) : (us.take j ++ Z ++ us.drop (j + m + 1)).length = us.length := by
  simp [hZ]; omega

/-- What a round leaves. -/
theorem round {us zs Z : List Int} {j m M : Nat} {V q U : Int} (hud : Dig us) (hl : j + m + 1 ≤ us.length) (hV : V < bp m) (hlt : val us < V * bp (j + 1)) (hZ : Z.length = m + 1) (hZd : Dig Z)
    (hZv : val Z = val ((us.drop j).take (m + 1)) - q * V) (hZlt : val Z < V) (hzl : zs.length = M) (hj : j < M) (hz0 : zs.getD j 0 = 0) (hU : U = V * val zs + val us) :
    (us.take j ++ Z ++ us.drop (j + m + 1)).length = us.length ∧ Dig (us.take j ++ Z ++ us.drop (j + m + 1)) ∧ val (us.take j ++ Z ++ us.drop (j + m + 1)) < V * bp j ∧
      U = V * val (zs.set j q) + val (us.take j ++ Z ++ us.drop (j + m + 1)) := by
  obtain ⟨h1, h2, h3, h4⟩ := window hud hl hV hlt
  obtain ⟨h5, h6⟩ := newU hl hZ h2
  refine ⟨h5, ((hud.take j).append hZd).append (hud.drop _), ?_, ?_⟩
  · rw [h6]
    have a := val_lt (hud.take j)
    rw [List.length_take, Nat.min_eq_left (by omega)] at a
    have b := Int.mul_le_mul_of_nonneg_left (show val Z + 1 ≤ V by omega) (show 0 ≤ bp j by have := bp_pos j; omega)
    rw [Int.mul_add] at b
    rw [Int.mul_comm V]; omega
  · rw [h6, hU, val_set' _ _ _ (by omega), hz0, hZv, h1]; grind

theorem low_zero {us : List Int} {m : Nat} {V : Int} (hd : Dig us) (hl : m ≤ us.length) (hV : V < bp m) (hlt : val us < V * bp 0) : val (us.take m) = val us := by
  have e := val_take_drop us m hl
  have a1 := val_nonneg (hd.take m)
  have a3 := val_nonneg (hd.drop m)
  have p := bp_pos m
  rw [bp_zero, Int.mul_one] at hlt
  rcases Int.lt_or_le 0 (val (us.drop m)) with h | h
  · exfalso
    have := Int.mul_le_mul_of_nonneg_left (show 1 ≤ val (us.drop m) by omega) (show 0 ≤ bp m by omega)
    omega
  · have : val (us.drop m) = 0 := by omega
    rw [this] at e; omega

theorem finish {x y f z u : Int} (hf : 1 ≤ f) (hU : x * f = y * f * z + u) (hu0 : 0 ≤ u) (hu : u < y * f) (hy : 0 < y) : x / y = z ∧ x % y = u / f := by
  have hu' : u = x * f - y * f * z := by omega
  have hdvd : f ∣ u := ⟨x - y * z, by rw [hu']; grind⟩
  obtain ⟨r, rfl⟩ := hdvd
  have hr0 : 0 ≤ r := by
    rcases Int.lt_or_le r 0 with h | h
    · exfalso
      have := Int.mul_le_mul_of_nonneg_left (show r ≤ -1 by omega) (show 0 ≤ f by omega)
      omega
    · exact h
  have hr1 : r < y := by
    rcases Int.lt_or_le r y with h | h
    · exact h
    · exfalso
      have := Int.mul_le_mul_of_nonneg_left h (show 0 ≤ f by omega)
      rw [Int.mul_comm f y] at this
      omega
  have hx : x = y * z + r := by
    have : f * x = f * (y * z + r) := by grind
    exact Int.eq_of_mul_eq_mul_left (by omega) this
  refine ⟨?_, ?_⟩
  · rw [hx, Int.add_comm, Int.add_mul_ediv_left _ _ (by omega), Int.ediv_eq_zero_of_lt hr0 hr1]; omega
  · rw [hx, Int.add_comm, Int.add_mul_emod_self_left, Int.emod_eq_of_lt hr0 hr1, Int.mul_ediv_cancel_left _ (by omega)]

theorem len_le_of_val {xs ys : List Int} (hxd : Dig xs) (hyd : Dig ys) (hyt : Top ys) (h : val ys ≤ val xs) : ys.length ≤ xs.length := by
  have := val_lt hxd
  exact (len_le_iff hyd hyt _).2 (by omega)

theorem carry_zero {a cy p b : Int} (ha0 : 0 ≤ a) (hcy : 0 ≤ cy) (h : a + p * cy = b) (hb : b < p) (hp : 0 < p) : cy = 0 := by
  rcases Int.lt_or_le 0 cy with h1 | h1
  · exfalso
    have := Int.mul_le_mul_of_nonneg_left (show 1 ≤ cy by omega) (show 0 ≤ p by omega)
    omega
  · omega
theorem scaled_fits {xs zs : List Int} {n : Nat} {f cy : Int} (hxd : Dig xs) (hn : xs.length = n) (_hf0 : 0 ≤ f) (hf : f ≤ 500000000) (hzd : Dig zs) (_hz : zs.length = n + 1) (hcy : 0 ≤ cy) (h : val zs + bp (n + 1) * cy = val xs * f) : cy = 0 := by
  refine carry_zero (val_nonneg hzd) hcy h ?_ (bp_pos _)
  have h1 := val_lt hxd
  rw [hn] at h1
  have h3 := val_nonneg hxd
  have h2 := Int.mul_le_mul_of_nonneg_left hf h3
  rw [bp_succ]
  omega
theorem scaled_fits' {zs : List Int} {n : Nat} {b cy : Int} (hb : b < bp n) (hzd : Dig zs) (hcy : 0 ≤ cy) (h : val zs + bp n * cy = b) : cy = 0 :=
  carry_zero (val_nonneg hzd) hcy h hb (bp_pos _)

theorem mid_drop {us Z R : List Int} {j k : Nat} (hj : j ≤ us.length) (hZ : Z.length = k) : ((us.take j ++ Z ++ R).drop j).take k = Z ∧ (us.take j ++ Z ++ R).take j = us.take j ∧ (us.take j ++ Z ++ R).drop (j + k) = R := by
  have hl : (us.take j).length = j := by rw [List.length_take]; omega
  refine ⟨?_, ?_, ?_⟩
  · rw [List.append_assoc, List.drop_append_of_le_length (by omega), List.drop_eq_nil_of_le (by omega), List.nil_append, ← hZ, List.take_left']
    rfl
  · rw [List.append_assoc, List.take_append_of_le_length (by omega), List.take_of_length_le (by omega)]
  · rw [List.drop_append, List.drop_eq_nil_of_le (by rw [List.length_append]; omega), List.nil_append, List.length_append, hl, hZ, Nat.sub_self, List.drop_zero]

end FE
end Go.Proofs.YtpaabengkidefaaGreat
