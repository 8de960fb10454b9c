/-
  Words for memory: a slice of ints that reads as a list; small lemmas on worlds.
-/
import Derived.Test.YtkmmdajlbkbnmaaProg
import Derived.Test.YtkmmdajlbkbnmaaNat
import Derived.WalkKit
import Derived.WalkSpells
import Derived.WalkLawsBesides
import Derived.BigQuiet
import Derived.Deep.QuietTactic
import Derived.Deep.Draws
import Derived.Deep.OwnRows
import Derived.Lib.Hide
import Derived.StillTailTactics
namespace Go.Proofs.Ytkmmdajlbkbnmaa
open Go.RowKit

theorem ret_int {k : IntKind} {a b : Int} (h : a = b) : Ending.returned (.int k a) = .returned (.int k b) := by rw [h]
theorem ret_bool {a b : Bool} (h : a = b) : Ending.returned (.bool a) = .returned (.bool b) := by rw [h]

/-- The slice at address A reads as the list xs (nothing is asked of an empty one). -/
def RI (w : World) (A : Option Addr) (xs : List Int) : Prop :=
  xs ≠ [] → ∃ b off, A = some ⟨b, off, none⟩ ∧ b < w.heap.size ∧ ∀ i, i < xs.length → w.cell? ⟨b, off + i, none⟩ = some (.int .i64 (xs.getD i 0))

theorem RI.below {w w' : World} {A : Option Addr} {xs : List Int} {B : Nat} (h : RI w A xs) (hb : Below B w w') (hB : ∀ a, A = some a → xs ≠ [] → a.block < B) : RI w' A xs := by
  intro hx
  obtain ⟨b, off, rfl, hlt, hc⟩ := h hx
  refine ⟨b, off, rfl, Nat.lt_of_lt_of_le hlt hb.size, fun i hi => ?_⟩
  rw [hb.cell (p := ⟨b, off + i, none⟩) (hB ⟨b, off, none⟩ rfl hx)]
  exact hc i hi

theorem RI.later {w w' : World} {A : Option Addr} {xs : List Int} (h : RI w A xs) (hb : Below w.heap.size w w') : RI w' A xs :=
  h.below hb (by
    rintro a rfl hx
    obtain ⟨b, off, he, hlt, _⟩ := h hx
    injection he with he
    subst he
    exact hlt)

theorem RI.drewN {w : World} {A : Option Addr} {xs : List Int} (h : RI w A xs) (n : Nat) : RI (w.drewN n) A xs := h
theorem RI.drew {w : World} {A : Option Addr} {xs : List Int} (h : RI w A xs) : RI w.drew A xs := h
theorem RI.alloc {w : World} {A : Option Addr} {xs : List Int} (h : RI w A xs) (o : Obj) : RI (w.alloc o) A xs :=
  h.later ((Below.refl _ _).alloc (Nat.le_refl _) o)
theorem RI.nil (w : World) (A : Option Addr) : RI w A [] := fun h => absurd rfl h

theorem RI.of_own {w : World} {base : Nat} {e : TypeId} {xs : List Int} {A : Option Addr} {n c : Nat} (h : w.ownsRow base e 1 (.slice A n c) n (xs.map (Value.int .i64))) : RI w A xs := by
  intro hx
  have hlen : xs.length = n := by simpa using h.1
  have hn : n ≠ 0 := by
    intro h0
    exact hx (List.eq_nil_of_length_eq_zero (by omega))
  rcases h.2 with ⟨_, h0⟩ | ⟨g, cap, cur, hv, _, hh, _⟩
  · exact absurd h0 hn
  · injection hv with hA _ _
    subst hA
    refine ⟨g, 0, rfl, (Array.getElem?_eq_some_iff.1 hh).1, fun i hi => ?_⟩
    have := h.cells (g := g) rfl i (.int .i64 (xs.getD i 0)) (by simp [hi])
    unfold Addr.add at this
    by_cases hi0 : i = 0
    · subst hi0; simpa using this
    · rw [if_neg hi0] at this; simpa using this

theorem below_drewN {B : Nat} {a w : World} (h : Below B a w) (n : Nat) : Below B a (w.drewN n) := ⟨h.os, h.tape, h.output, h.size, h.block⟩
theorem below_self_drewN {B : Nat} (w : World) (n : Nat) : Below B w (w.drewN n) := below_drewN (Below.refl _ _) n
theorem below_trans {a b c : World} (h : Below a.heap.size a b) (k : Below b.heap.size b c) : Below a.heap.size a c := h.trans (k.mono h.size)
theorem bcell {W w1 : World} (hb : Below W.heap.size W w1) : (∀ b o, b < W.heap.size → w1.cell? ⟨b, o, none⟩ = W.cell? ⟨b, o, none⟩) ∧ (∀ b o, b < W.heap.size → w1.frozen? ⟨b, o, none⟩ = W.frozen? ⟨b, o, none⟩) :=
  ⟨fun b o h => hb.cell (p := ⟨b, o, none⟩) h, fun b o h => hb.frozen (p := ⟨b, o, none⟩) h⟩

/-- A region that draws: reads, then a tail in the text's order (the draw spelled 'drew'). -/
theorem wp_tail {P : Program} {id : Nat} {Q : Exit → Act → World → Prop} {a : Act} {w : World} {l : List Oper} (n : Nat) (hm : P.follows .mixedOrders = true) (hB : Region.lexTailB .any l.toArray n = true)
    (h : wpStill P l.toArray w.drew (fun a' => wpList P l.toArray Q (l.drop n) a' w.drew) (l.take n) a) : (Code.region id l.toArray true).wp P Q a w := wp_region_still_tail n hm hB h

/-- Quiet regions behind a quiet region (after the guide's own small lemmas). -/
theorem quiet_add {P : Program} {f : FuncId} {args : Array Value} {w : World} {a n : Nat} {v : Value}
    (h : Calls P f args (w.drewN (a + n)) fun e w' => e = .returned v ∧ ∃ m, w' = (w.drewN (a + n)).drewN m) :
    Calls P f args (w.drewN (a + n)) fun e w'' => e = .returned v ∧ ∃ m, w'' = w.drewN (a + m) :=
  h.mono fun _ _ ⟨he, m, hm⟩ => ⟨he, n + m, by rw [hm, World.drewN_drewN, Nat.add_assoc]⟩
theorem quiet_add_same {P : Program} {f : FuncId} {args : Array Value} {w : World} {a n : Nat} {v : Value}
    (h : Calls P f args (w.drewN (a + n)) fun e w' => e = .returned v ∧ w' = w.drewN (a + n)) :
    Calls P f args (w.drewN (a + n)) fun e w'' => e = .returned v ∧ ∃ m, w'' = w.drewN (a + m) :=
  h.mono fun _ _ ⟨he, hm⟩ => ⟨he, n, hm⟩

theorem Try.intInfo : (Try.prog.info? 3).map (fun i => (i.zero, i.size, i.bytes)) = some (some (.int .i64 0), 1, 8) := by kernel_rfl

/-- Block g is an array of ints of the call's own: its first cells are xs, it has cap cells. -/
def Arr (w : World) (g cap : Nat) (xs : List Int) : Prop :=
  ∃ rest : List Value, xs.length + rest.length = cap ∧ cap ≤ maxLen ∧ w.heap[g]? = some (.cells (xs.map (Value.int .i64) ++ rest).toArray 3 (0, 0))

theorem Arr.lt {w : World} {g cap : Nat} {xs : List Int} (h : Arr w g cap xs) : g < w.heap.size := by
  obtain ⟨rest, _, _, hh⟩ := h
  exact (Array.getElem?_eq_some_iff.1 hh).1
theorem Arr.len {w : World} {g cap : Nat} {xs : List Int} (h : Arr w g cap xs) : xs.length ≤ cap ∧ cap ≤ maxLen := by
  obtain ⟨rest, h1, h2, _⟩ := h
  exact ⟨by omega, h2⟩
theorem Arr.cell {w : World} {g cap : Nat} {xs : List Int} (h : Arr w g cap xs) (i : Nat) (hi : i < xs.length) : w.cell? ⟨g, i, none⟩ = some (.int .i64 (xs.getD i 0)) := by
  obtain ⟨rest, _, _, hh⟩ := h
  rw [cell_of_row w g i _ 3 (0, 0) hh]
  simp [hi, List.getElem?_append_left]
theorem Arr.frozen {w : World} {g cap : Nat} {xs : List Int} (h : Arr w g cap xs) (i : Nat) : w.frozen? ⟨g, i, none⟩ = false := by
  obtain ⟨rest, _, _, hh⟩ := h
  simp [World.frozen?, hh]
theorem Arr.block {w w' : World} {g cap : Nat} {xs : List Int} (h : Arr w g cap xs) (hb : w'.heap[g]? = w.heap[g]?) : Arr w' g cap xs := by
  obtain ⟨rest, h1, h2, hh⟩ := h
  exact ⟨rest, h1, h2, hb.trans hh⟩
theorem Arr.below {w w' : World} {g cap B : Nat} {xs : List Int} (h : Arr w g cap xs) (hb : Below B w w') (hg : g < B) : Arr w' g cap xs := h.block (hb.block g hg)
theorem Arr.later {w w' : World} {g cap : Nat} {xs : List Int} (h : Arr w g cap xs) (hb : Below w.heap.size w w') : Arr w' g cap xs := h.below hb h.lt
theorem Arr.alloc {w : World} {g cap : Nat} {xs : List Int} (h : Arr w g cap xs) (o : Obj) : Arr (w.alloc o) g cap xs := h.block (Below.heap_alloc w o g h.lt)
theorem Arr.drew {w : World} {g cap : Nat} {xs : List Int} (h : Arr w g cap xs) : Arr w.drew g cap xs := h
theorem Arr.drewN {w : World} {g cap : Nat} {xs : List Int} (h : Arr w g cap xs) (n : Nat) : Arr (w.drewN n) g cap xs := h
theorem Arr.far {w : World} {g cap : Nat} {xs : List Int} (h : Arr w g cap xs) {p : Addr} (hp : g ≠ p.block) (u : Value) : Arr (w.setCell p u) g cap xs := h.block (Below.heap_setCell w p u g hp)
theorem Arr.set {w : World} {g cap : Nat} {xs : List Int} (h : Arr w g cap xs) (i : Nat) (hi : i < xs.length) (x : Int) : Arr (w.setCell ⟨g, i, none⟩ (.int .i64 x)) g cap (xs.set i x) := by
  obtain ⟨rest, h1, h2, hh⟩ := h
  refine ⟨rest, by simpa using h1, h2, ?_⟩
  simp only [World.setCell, Array.getElem?_modify, hh, if_true]
  simp [List.map_set, List.set_append_left, hi]
theorem Arr.set2 {w : World} {g cap : Nat} {xs : List Int} (h : Arr w g cap xs) (i : Nat) (hi : i < xs.length) (x y : Int) : Arr ((w.setCell ⟨g, i, none⟩ (.int .i64 x)).setCell ⟨g, i, none⟩ (.int .i64 y)) g cap (xs.set i y) := by
  have := (h.set i hi x).set i (by simpa using hi) y
  rwa [List.set_set] at this
theorem Arr.set3 {w : World} {g cap : Nat} {xs : List Int} (h : Arr w g cap xs) (i : Nat) (hi : i < xs.length) (x y z : Int) :
    Arr (((w.setCell ⟨g, i, none⟩ (.int .i64 x)).setCell ⟨g, i, none⟩ (.int .i64 y)).setCell ⟨g, i, none⟩ (.int .i64 z)) g cap (xs.set i z) := by
  have := (h.set2 i hi x y).set i (by simpa using hi) z
  rwa [List.set_set] at this
theorem Arr.own {w : World} {g cap base : Nat} {xs : List Int} (h : Arr w g cap xs) (hb : base ≤ g) : w.ownsRow base 3 1 (.slice (some ⟨g, 0, none⟩) xs.length cap) xs.length (xs.map (Value.int .i64)) := by
  obtain ⟨rest, h1, h2, hh⟩ := h
  refine ⟨by simp, .inr ⟨g, cap, _, rfl, hb, hh, by omega, h2, by simp; omega, by simp⟩⟩
theorem Arr.of_own {w : World} {g cap base : Nat} {xs : List Int} (h : w.ownsRow base 3 1 (.slice (some ⟨g, 0, none⟩) xs.length cap) xs.length (xs.map (Value.int .i64))) : base ≤ g ∧ Arr w g cap xs := by
  rcases h.2 with ⟨he, _⟩ | ⟨g', cap', cur, hv, hb, hh, hnc, hcm, hcs, htake⟩
  · cases he
  · injection hv with e1 e2 e3
    injection e1 with e1
    injection e1 with e1
    subst e1; subst e3
    refine ⟨hb, cur.toList.drop xs.length, by simp; omega, hcm, ?_⟩
    rw [hh]
    congr 2
    apply Array.toList_inj.1
    simp only [Nat.mul_one] at htake
    rw [← htake]
    simp
theorem Arr.cut {w : World} {g cap : Nat} {xs : List Int} (h : Arr w g cap xs) (k : Nat) : Arr w g cap (xs.take k) := by
  obtain ⟨rest, h1, h2, hh⟩ := h
  refine ⟨(xs.drop k).map (Value.int .i64) ++ rest, ?_, h2, ?_⟩
  · simp only [List.length_take, List.length_append, List.length_map, List.length_drop]; omega
  · rw [hh, ← List.append_assoc, ← List.map_append, List.take_append_drop]
theorem Arr.reads {w : World} {g cap : Nat} {xs : List Int} (h : Arr w g cap xs) : RI w (some ⟨g, 0, none⟩) xs := fun _ =>
  ⟨g, 0, rfl, h.lt, fun i hi => by rw [Nat.zero_add]; exact h.cell i hi⟩
theorem Arr.reads_at {w : World} {g cap : Nat} {xs : List Int} (h : Arr w g cap xs) (j k : Nat) : RI w (some ⟨g, j, none⟩) ((xs.drop j).take k) := fun _ =>
  ⟨g, j, rfl, h.lt, fun i hi => by
    simp only [List.length_take, List.length_drop] at hi
    rw [h.cell (j + i) (by omega)]
    simp [show i < k by omega]⟩
theorem madeCells_int (n : Nat) : madeCells #[.int .i64 0] n = (List.replicate n (Value.int .i64 0)).toArray := by
  unfold madeCells
  apply Array.ext
  · simp
  · intro i h1 h2
    simp [Nat.mod_one]
theorem Arr.made {w : World} (n : Nat) (hn : n ≤ maxLen) : Arr (w.alloc (.cells (madeCells #[.int .i64 0] n) 3)) w.heap.size n (List.replicate n 0) := by
  refine ⟨[], by simp, hn, ?_⟩
  rw [heap_alloc_new, madeCells_int]
  simp

/-- A slice of ints that the call owns (block base or later): it can be appended to. -/
def OI (w : World) (base : Nat) (v : Value) (xs : List Int) : Prop := w.ownsRow base 3 1 v xs.length (xs.map (Value.int .i64))
theorem OI.alloc {w : World} {base : Nat} {v : Value} {xs : List Int} (h : OI w base v xs) (o : Obj) : OI (w.alloc o) base v xs := World.ownsRow.alloc h o
theorem OI.drew {w : World} {base : Nat} {v : Value} {xs : List Int} (h : OI w base v xs) : OI w.drew base v xs := h
theorem OI.drewN {w : World} {base : Nat} {v : Value} {xs : List Int} (h : OI w base v xs) (n : Nat) : OI (w.drewN n) base v xs := h
theorem OI.nil (w : World) (base : Nat) : OI w base (.slice none 0 0) [] := World.ownsRow_nil w base 3 1
theorem OI.made {w : World} {cap : Nat} {base : Nat} (h : Arr w base cap []) {b : Nat} (hb : b ≤ base) : OI w b (.slice (some ⟨base, 0, none⟩) 0 cap) [] := h.own hb
theorem OI.of_arr {w : World} {g cap base : Nat} {xs : List Int} (h : Arr w g cap xs) (hb : base ≤ g) : OI w base (.slice (some ⟨g, 0, none⟩) xs.length cap) xs := h.own hb
theorem OI.later {w w' : World} {base : Nat} {v : Value} {xs : List Int} (h : OI w base v xs) (hb : Below w.heap.size w w') : OI w' base v xs :=
  World.ownsRow.kept (row := none) h ⟨hb.os, hb.tape, hb.output, hb.size, fun k hk _ => hb.block k hk⟩ (by cases v.ownBlock <;> simp)

/-- A result: a slice of ints in memory of the call's own (block base or later), or an empty one. -/
def RO (w : World) (base : Nat) (v : Value) (xs : List Int) : Prop :=
  ∃ A c, v = .slice A xs.length c ∧ xs.length ≤ c ∧ c ≤ maxLen ∧ (xs ≠ [] → ∃ g, A = some ⟨g, 0, none⟩ ∧ base ≤ g ∧ Arr w g c xs)

theorem RO.reads {w : World} {base : Nat} {xs : List Int} {A : Option Addr} {n c : Nat} (h : RO w base (.slice A n c) xs) : RI w A xs := by
  intro hx
  obtain ⟨A', c', he, _, _, h2⟩ := h
  injection he with e1 e2 e3
  obtain ⟨g, e, _, ha⟩ := h2 hx
  rw [e1, e]
  exact ha.reads hx
theorem RO.form {w : World} {base : Nat} {v : Value} {xs : List Int} (h : RO w base v xs) : ∃ A c, v = .slice A xs.length c ∧ xs.length ≤ c := by
  obtain ⟨A, c, h1, h2, _⟩ := h
  exact ⟨A, c, h1, h2⟩
theorem RO.later {w w' : World} {base : Nat} {v : Value} {xs : List Int} (h : RO w base v xs) (hb : Below w.heap.size w w') : RO w' base v xs := by
  obtain ⟨A, c, rfl, h1, h2, h3⟩ := h
  refine ⟨A, c, rfl, h1, h2, fun hx => ?_⟩
  obtain ⟨g, e, hg, ha⟩ := h3 hx
  exact ⟨g, e, hg, ha.later hb⟩
theorem RO.mono {w : World} {base base' : Nat} {v : Value} {xs : List Int} (h : RO w base v xs) (hb : base' ≤ base) : RO w base' v xs := by
  obtain ⟨A, c, rfl, h1, h2, h3⟩ := h
  refine ⟨A, c, rfl, h1, h2, fun hx => ?_⟩
  obtain ⟨g, e, hg, ha⟩ := h3 hx
  exact ⟨g, e, Nat.le_trans hb hg, ha⟩
theorem RO.of_own {w : World} {base : Nat} {v : Value} {xs : List Int} (h : OI w base v xs) : RO w base v xs := by
  rcases h.2 with ⟨rfl, h0⟩ | ⟨g, cap, cur, rfl, hb, hh, hnc, hcm, hcs, htake⟩
  · exact ⟨none, 0, by rw [h0], by omega, Nat.zero_le _, fun hx => absurd (List.eq_nil_of_length_eq_zero h0) hx⟩
  · exact ⟨_, cap, rfl, hnc, hcm, fun _ => ⟨g, rfl, hb, (Arr.of_own h).2⟩⟩
theorem RO.nil (w : World) (base : Nat) (A : Option Addr) (c : Nat) (hc : c ≤ maxLen) : RO w base (.slice A 0 c) [] := ⟨A, c, rfl, Nat.zero_le _, hc, fun h => absurd rfl h⟩

/-- make([]int, n, k): a new array of zeros. -/
theorem makeInts {P : Program} {ops : Array Oper} {rest : List Oper} {o : Oper} {a : Act} {w : World} {Q : Exit → Act → World → Prop} (hgd : o.guard = none) (l c : Operand) (T : TypeId)
    (hop : o.op = Op.makeSlice T l c) (ht : P.underlying T = some (.slice 3)) (hinfo : (P.info? 3).map (fun i => (i.zero, i.size, i.bytes)) = some (some (.int .i64 0), 1, 8))
    (n k : Nat) (x y : Int) (hl : a.eval l = .int .i64 x) (hc : a.eval c = .int .i64 y) (hx : x = n) (hy : y = k) (hnk : n ≤ k) (hk : k ≤ 1099511627776)
    (h : Arr (w.alloc (.cells (madeCells #[.int .i64 0] k) 3)) w.heap.size k (List.replicate k 0) →
      wpList P ops Q rest (a.put o.dst (.slice (some ⟨w.heap.size, 0, none⟩) n k)) (w.alloc (.cells (madeCells #[.int .i64 0] k) 3))) : wpList P ops Q (o :: rest) a w := by
  obtain ⟨i, hi, hz0, hz1, hz2⟩ := info_parts hinfo
  subst hx; subst hy
  refine wpList_plain hgd fun K hK' => ?_
  have hrun := run_make (P := P) w T 3 i _ ht hi hz0 .i64 .i64 (n : Int) (k : Int) (by omega) (by omega) (by rw [hz2]; omega) (by omega)
  simp only [Int.toNat_natCast, hz1, Nat.mul_one] at hrun
  unfold Oper.wp
  simp [execOp, hop, hl, hc, hrun, Result.andThen]
  exact hK' _ _ (h (Arr.made k (by unfold maxLen; omega)))

theorem cell_new1 (w : World) (v : Value) (T : TypeId) : (w.alloc (.cells #[v] T)).cell? ⟨w.heap.size, 0, none⟩ = some v := by
  rw [World.cell?_alloc_at _ _ _ _ rfl]; rfl

/-- One int appended to a slice of the call's own. -/
theorem append1 {P : Program} {ops : Array Oper} {rest : List Oper} {o : Oper} {a : Act} {w : World} {Q : Exit → Act → World → Prop} (hgd : o.guard = none) (s x : Operand) (T : TypeId)
    (ho : o.op = .call { callee := .builtin .append, args := #[s, x], argTypes := #[T, T] }) (ht : P.underlying T = some (.slice 3))
    (hinfo : (P.info? 3).map (fun i => (i.zero, i.size, i.bytes)) = some (some (.int .i64 0), 1, 8))
    (base : Nat) (v : Value) (xs : List Int) (hs : a.eval s = v) (hown : OI w base v xs)
    (ad : Addr) (y : Int) (hx : a.eval x = .slice (some ad) 1 1) (hy : w.cell? ad = some (.int .i64 y)) (hlen : xs.length < 1099511627776) (hbase : base ≤ w.heap.size)
    (h : ∀ v' w', OI w' base v' (xs ++ [y]) → Below base w w' → wpList P ops Q rest (a.put o.dst v') w') : wpList P ops Q (o :: rest) a w := by
  obtain ⟨i0, hi, hz0, hz1, hz2⟩ := info_parts hinfo
  refine wpList_append_own w hgd s x T ho base 3 i0 (.int .i64 0) 1 8 ht hi hz0 hz1 hz2 rfl (by decide) v xs.length _ hs hown ad 1 1 [.int .i64 y] hx rfl ?_ ?_ ?_ ?_ hbase ?_
  · intro j u hj
    match j, hj with
    | 0, hj => simp at hj; subst hj; simpa [Addr.add] using hy
  · intro u hu; simp at hu; subst hu; rfl
  · unfold maxLen; omega
  · omega
  · intro v' w' h1 hg _
    refine h v' w' (by simpa [OI] using h1) ?_
    exact (Below.refl _ _).grown hg hbase (fun k hk => (hown.lt k hk).1)

theorem run_append_of_nil {P : Program} (w : World) (base : Nat) (t ty e : TypeId) (i : TypeInfo) (size : Nat) (ht : P.underlying t = some (.slice e)) (hi : P.info? e = some i)
    (v : Value) (n : Nat) (xs : List Value) (hown : w.ownsRow base e size v n xs) (c : Nat) : (Builtin.append_ #[t, t] ty #[v, .slice none 0 c]).run P w = .ok v w := by
  rcases hown.2 with ⟨rfl, rfl⟩ | ⟨g, cap, cur, rfl, _, _, hnc, _⟩
  · simp [Builtin.append_, run_underlying ht, sizeOf, typeInfo, hi, Builtin.lenOf, Builtin.firstCells]
  · simp [Builtin.append_, run_underlying ht, sizeOf, typeInfo, hi, Builtin.lenOf, Builtin.firstCells, hnc, storeCells]

/-- A list of ints appended to a slice of the call's own. -/
theorem appendAll {P : Program} {ops : Array Oper} {rest : List Oper} {o : Oper} {a : Act} {w : World} {Q : Exit → Act → World → Prop} (hgd : o.guard = none) (s x : Operand) (T : TypeId)
    (ho : o.op = .call { callee := .builtin .append, args := #[s, x], argTypes := #[T, T] }) (ht : P.underlying T = some (.slice 3))
    (hinfo : (P.info? 3).map (fun i => (i.zero, i.size, i.bytes)) = some (some (.int .i64 0), 1, 8))
    (base : Nat) (v : Value) (xs : List Int) (hs : a.eval s = v) (hown : OI w base v xs)
    (A : Option Addr) (ys : List Int) (m c' : Nat) (hx : a.eval x = .slice A m c') (hm : ys.length = m) (hr : RI w A ys) (hlen : xs.length + m < 1099511627776) (hbase : base ≤ w.heap.size)
    (h : ∀ v' w', OI w' base v' (xs ++ ys) → Below base w w' → wpList P ops Q rest (a.put o.dst v') w') : wpList P ops Q (o :: rest) a w := by
  obtain ⟨i0, hi, hz0, hz1, hz2⟩ := info_parts hinfo
  by_cases hys : ys = []
  · subst hys
    simp at hm
    subst hm
    cases A with
    | none =>
      refine wpList_plain hgd fun K hK => ?_
      have hrun := run_append_of_nil (P := P) w base T o.type 3 i0 1 ht hi v _ _ hown c'
      unfold Oper.wp
      simp [execOp, ho, resolve, invoke, builtin, hs, hx, hrun, Result.andThen]
      exact hK _ _ (h _ _ (by simpa using hown) (Below.refl _ _))
    | some ad =>
      refine wpList_append_own w hgd s x T ho base 3 i0 (.int .i64 0) 1 8 ht hi hz0 hz1 hz2 rfl (by decide) v xs.length _ hs hown ad 0 c' [] hx rfl (by simp) (by simp) (by unfold maxLen; omega) (by omega) hbase ?_
      intro v' w' h1 hg _
      exact h v' w' (by simpa [OI] using h1) ((Below.refl _ _).grown hg hbase (fun k hk => (World.ownsRow.lt hown k hk).1))
  · obtain ⟨b, off, rfl, hb, hc⟩ := hr hys
    refine wpList_append_own w hgd s x T ho base 3 i0 (.int .i64 0) 1 8 ht hi hz0 hz1 hz2 rfl (by decide) v xs.length _ hs hown ⟨b, off, none⟩ m c' (ys.map (Value.int .i64)) hx (by simpa using hm) ?_ ?_ ?_ ?_ hbase ?_
    · intro j u hj
      have hjl : j < ys.length := by
        have := (List.getElem?_eq_some_iff.1 hj).1
        simpa using this
      have hcc := hc j hjl
      have hu : u = .int .i64 (ys.getD j 0) := by simpa [hjl] using hj.symm
      rw [hu]
      unfold Addr.add
      by_cases h0 : j = 0
      · subst h0; simpa using hcc
      · rw [if_neg h0]; simpa using hcc
    · intro u hu
      obtain ⟨z, _, rfl⟩ := List.mem_map.1 hu
      rfl
    · unfold maxLen; omega
    · omega
    · intro v' w' h1 hg _
      exact h v' w' (by simpa [OI, hm] using h1) ((Below.refl _ _).grown hg hbase (fun k hk => (World.ownsRow.lt hown k hk).1))

end Go.Proofs.Ytkmmdajlbkbnmaa
