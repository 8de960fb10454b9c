/-
  Words for memory: fractions, vectors and slices of whatever in memory, and how an argument is opened into them.
-/
import Derived.Test.YtkmmdajlbkbnmaaMem
import Derived.Deep.Slices
import Derived.Lib.SmallJoins
namespace Go.Proofs.Ytkmmdajlbkbnmaa
open Go.RowKit Go.Joins Go.Deep

theorem lt_of_cell' {w : World} {b o : Nat} {s : Option Nat} {v : Value} (h : w.cell? ⟨b, o, s⟩ = some v) : b < w.heap.size ∧ s = none := by
  unfold World.cell? at h
  cases hb : w.heap[b]? with
  | none => simp [hb] at h
  | some x =>
    refine ⟨(Array.getElem?_eq_some_iff.1 hb).1, ?_⟩
    cases s with
    | none => rfl
    | some s => cases x <;> simp [hb] at h

/-- A slice at address A reads as the list xs of things that take k cells each ('At': what one of them is). -/
def SI {α : Type} (At : World → Nat → Nat → α → Prop) (k : Nat) (d : α) (w : World) (A : Option Addr) (xs : List α) : Prop :=
  xs ≠ [] → ∃ b off, A = some ⟨b, off, none⟩ ∧ b < w.heap.size ∧ ∀ i, i < xs.length → At w b (off + i * k) (xs.getD i d)

/-- What is there stays where nothing that was there turns. -/
def Stays {α : Type} (At : World → Nat → Nat → α → Prop) : Prop := ∀ (w w' : World) (b o : Nat) (x : α), b < w.heap.size → At w b o x → Below w.heap.size w w' → At w' b o x

theorem SI.later {α : Type} {At : World → Nat → Nat → α → Prop} {k : Nat} {d : α} (hs : Stays At) {w w' : World} {A : Option Addr} {xs : List α} (h : SI At k d w A xs) (hb : Below w.heap.size w w') : SI At k d w' A xs := by
  intro hx
  obtain ⟨b, off, rfl, hlt, hc⟩ := h hx
  exact ⟨b, off, rfl, Nat.lt_of_lt_of_le hlt hb.size, fun i hi => hs _ _ _ _ _ hlt (hc i hi) hb⟩
theorem SI.nil {α : Type} (At : World → Nat → Nat → α → Prop) (k : Nat) (d : α) (w : World) (A : Option Addr) : SI At k d w A [] := fun h => absurd rfl h

theorem cell_later {w w' : World} {b o : Nat} {v : Value} (hlt : b < w.heap.size) (h : w.cell? ⟨b, o, none⟩ = some v) (hb : Below w.heap.size w w') : w'.cell? ⟨b, o, none⟩ = some v := by
  rw [hb.cell (p := ⟨b, o, none⟩) hlt]; exact h

/-- The cells of a struct that was boxed, read later. -/
theorem box_cell {w w2 : World} {C : Array Value} {t : TypeId} (hb : Below (w.alloc (.cells C t)).heap.size (w.alloc (.cells C t)) w2) (j : Nat) {v : Value} (h : C[j]? = some v) : w2.cell? ⟨w.heap.size, j, none⟩ = some v := by
  rw [hb.cell (p := ⟨w.heap.size, j, none⟩) (by simp), cell_alloc_mark_at w C t _ _ j rfl]
  exact h
theorem box_below {w w2 : World} {C : Array Value} {t : TypeId} (hb : Below (w.alloc (.cells C t)).heap.size (w.alloc (.cells C t)) w2) : Below w.heap.size w w2 := (below_alloc1 w _).trans (below_le hb (by simp))

/-- A variable of the call's own, read later. -/
theorem own_cell {w w2 : World} {C : Array Value} {t : TypeId} (hb : Below (w.alloc (.cells C t)).heap.size (w.alloc (.cells C t)) w2) {g : Nat} (hg : g = w.heap.size) :
    (∀ j v, C[j]? = some v → w2.cell? ⟨g, j, none⟩ = some v) ∧ ∀ j, w2.frozen? ⟨g, j, none⟩ = false := by
  subst hg
  refine ⟨fun j v h => box_cell hb j h, fun j => ?_⟩
  rw [hb.frozen (p := ⟨w.heap.size, j, none⟩) (by simp)]
  exact unfrozen_of_block (cs := C) (t := t) (heap_alloc_new _ _) j
theorem below_step {w w2 : World} {o : Obj} (hb : Below (w.alloc o).heap.size (w.alloc o) w2) : Below w.heap.size w w2 := (below_alloc1 w _).trans (below_le hb (by simp))
theorem RO.far {w : World} {base : Nat} {v : Value} {xs : List Int} (h : RO w base v xs) {p : Addr} (hp : p.block < base) (u : Value) : RO (w.setCell p u) base v xs := by
  obtain ⟨A, c, rfl, hl, hc, h⟩ := h
  refine ⟨A, c, rfl, hl, hc, fun hx => ?_⟩
  obtain ⟨g, rfl, hg, ha⟩ := h hx
  exact ⟨g, rfl, hg, ha.far (by omega) u⟩

/-- A fraction's parts as they lie in memory. -/
structure RatD where
  neg : Bool
  mag : List Int
  den : List Int
def zR : RatD := ⟨false, [], []⟩

def RatAt (w : World) (b off : Nat) (r : RatD) : Prop :=
  ∃ A c B d, w.cell? ⟨b, off, none⟩ = some (.bool r.neg) ∧ w.cell? ⟨b, off + 1, none⟩ = some (.slice A r.mag.length c) ∧ w.cell? ⟨b, off + 2, none⟩ = some (.slice B r.den.length d) ∧
    (r.mag.length ≤ c ∧ c ≤ maxLen ∧ r.den.length ≤ d ∧ d ≤ maxLen) ∧ RI w A r.mag ∧ RI w B r.den
/-- A fraction as a value. -/
def RatV (w : World) (v : Value) (r : RatD) : Prop :=
  ∃ A c B d, v = .agg #[.bool r.neg, .slice A r.mag.length c, .slice B r.den.length d] ∧
    (r.mag.length ≤ c ∧ c ≤ maxLen ∧ r.den.length ≤ d ∧ d ≤ maxLen) ∧ RI w A r.mag ∧ RI w B r.den
theorem RatV.later {w w' : World} {v : Value} {r : RatD} (h : RatV w v r) (hb : Below w.heap.size w w') : RatV w' v r := by
  obtain ⟨A, c, B, d, rfl, hl, h1, h2⟩ := h
  exact ⟨A, c, B, d, rfl, hl, h1.later hb, h2.later hb⟩
theorem RatAt.stays : Stays RatAt := by
  intro w w' b o x hlt h hb
  obtain ⟨A, c, B, d, h0, h1, h2, hl, h3, h4⟩ := h
  exact ⟨A, c, B, d, cell_later hlt h0 hb, cell_later hlt h1 hb, cell_later hlt h2 hb, hl, h3.later hb, h4.later hb⟩
/-- A vector. -/
def VI (w : World) (A : Option Addr) (rs : List RatD) : Prop := SI RatAt 3 zR w A rs
theorem VI.later {w w' : World} {A : Option Addr} {rs : List RatD} (h : VI w A rs) (hb : Below w.heap.size w w') : VI w' A rs := SI.later RatAt.stays h hb
theorem VI.nil (w : World) (A : Option Addr) : VI w A [] := SI.nil _ _ _ w A

section
variable {H : Type} {enc : TypeId × Value → H} {P : Program} {w : World}

theorem openRI {t e : TypeId} {fuel : Nat} {cs : List Value} {x : DataW H × List MemPlace} (ht : P.underlying t = some (.slice e)) (he : P.underlying e = some (.int .i64)) (hc : P.cellsOf e = 1)
    (h : DataW.trod enc P w 0 (fun _ => true) true fuel t cs = some x) :
    ∃ A c xs, cs = [.slice A xs.length c] ∧ xs.length ≤ c ∧ c ≤ maxLen ∧ RI w A xs ∧ ∀ n ∈ xs, In64 n := by
  rcases Go.ChangeShapes.open_ints ht he hc h with ⟨rfl, _⟩ | ⟨a, len, cap, zs, rfl, _, hlc, hcm, hzl, _, hcell, hwf⟩
  · exact ⟨none, 0, [], rfl, by simp, Nat.zero_le _, RI.nil w none, by simp⟩
  · simp only [if_true] at hzl
    have hl : (zs.take len).length = len := by rw [List.length_take]; omega
    refine ⟨some a, cap, zs.take len, by rw [hl], by omega, hcm, ?_, fun n hn => in64_of_wf (hwf n (List.mem_of_mem_take hn))⟩
    intro hx
    have h0 : 0 < zs.length := by
      cases zs with
      | nil => simp at hx
      | cons => simp
    have h1 := hcell 0 h0
    obtain ⟨b, o, s⟩ := a
    simp only [Addr.add, if_true] at h1
    obtain ⟨hb, rfl⟩ := lt_of_cell' h1
    refine ⟨b, o, rfl, hb, fun i hi => ?_⟩
    rw [hl] at hi
    have := hcell i (by omega)
    have e1 : (⟨b, o, none⟩ : Addr).add i = ⟨b, o + i, none⟩ := by
      unfold Addr.add
      split
      · rename_i h; subst h; rfl
      · rfl
    rw [e1] at this
    rw [this]
    simp [hi]

/-- A slice of whatever is opened, once one of its things is. -/
theorem openSI {α : Type} {At : World → Nat → Nat → α → Prop} {k : Nat} {d : α} {G : α → Prop} {t e : TypeId} {fuel : Nat} {cs : List Value} {x : DataW H × List MemPlace} (ht : P.underlying t = some (.slice e)) (hk : P.cellsOf e = k) (hk0 : 0 < k)
    (hone : ∀ (n : Nat) (cs' : List Value) (y : DataW H × List MemPlace), DataW.trod enc P w 0 (fun _ => true) true n e cs' = some y → cs'.length = k →
      ∃ z : α, G z ∧ ∀ b o : Nat, (∀ j, j < k → w.cell? ⟨b, o + j, none⟩ = cs'[j]?) → At w b o z)
    (h : DataW.trod enc P w 0 (fun _ => true) true fuel t cs = some x) :
    ∃ A c xs, cs = [.slice A xs.length c] ∧ xs.length ≤ c ∧ c ≤ maxLen ∧ SI At k d w A xs ∧ ∀ z ∈ xs, G z := by
  rcases open_slice ht h with ⟨rfl, _⟩ | ⟨a, len, cap, m, n, D, Pl, rfl, _, hlc, hcm, hm, _, hx⟩
  · exact ⟨none, 0, [], rfl, by simp, Nat.zero_le _, SI.nil _ _ _ w none, by simp⟩
  · simp only [if_true] at hm
    have each : ∀ i, i < len → ∃ z : Option α, ∃ y, z = some y ∧ G y ∧ At w a.block (a.off + i * k) y ∧ a.spot = none ∧ a.block < w.heap.size := by
      intro i hi
      obtain ⟨cs', h1, h2⟩ := hx i (by omega)
      rw [hk] at h1
      obtain ⟨_, hlen, hcell⟩ := World.cells?_some h1
      obtain ⟨z, hg, hz⟩ := hone n cs' _ h2 hlen
      have hsp : a.spot = none ∧ a.block < w.heap.size := by
        obtain ⟨cs0, g1, _⟩ := hx 0 (by omega)
        obtain ⟨_, gl, gc⟩ := World.cells?_some g1
        rw [hk] at gl
        have := gc 0 (by omega)
        obtain ⟨b, o, s⟩ := a
        simp only [Nat.zero_mul, Addr.add, if_true] at this
        have hc0 : cs0[0]? = some (cs0[0]'(by omega)) := List.getElem?_eq_getElem (by omega)
        rw [hc0] at this
        exact ⟨(lt_of_cell' this).2, (lt_of_cell' this).1⟩
      refine ⟨some z, z, rfl, hg, hz _ _ fun j hj => ?_, hsp⟩
      have := hcell j hj
      obtain ⟨b, o, s⟩ := a
      obtain ⟨rfl, _⟩ := hsp
      rw [← this]
      congr 1
      unfold Addr.add
      split <;> split <;> simp_all <;> omega
    obtain ⟨f, hf⟩ := choose_lt each
    have hS : ∀ i, i < len → ∃ y, f i = some y ∧ G y ∧ At w a.block (a.off + i * k) y ∧ a.spot = none ∧ a.block < w.heap.size := hf
    have hl : ((List.range len).map fun i => (f i).getD d).length = len := by simp
    refine ⟨some a, cap, (List.range len).map fun i => (f i).getD d, by rw [hl], by omega, hcm, ?_, ?_⟩
    · intro hne
      have h0 : 0 < len := by
        rcases Nat.eq_zero_or_pos len with h | h
        · subst h; simp at hne
        · exact h
      obtain ⟨_, _, _, _, hsp, hb⟩ := hS 0 h0
      obtain ⟨b, o, s⟩ := a
      simp only at hsp
      subst hsp
      refine ⟨b, o, rfl, hb, fun i hi => ?_⟩
      rw [hl] at hi
      obtain ⟨y, hy, _, hA, _⟩ := hS i hi
      simpa [hi, hy] using hA
    · intro z hz
      obtain ⟨i, hi, rfl⟩ := List.mem_map.1 hz
      obtain ⟨y, hy, hg, _⟩ := hS i (by simpa using hi)
      simpa [hy] using hg
end
end Go.Proofs.Ytkmmdajlbkbnmaa
