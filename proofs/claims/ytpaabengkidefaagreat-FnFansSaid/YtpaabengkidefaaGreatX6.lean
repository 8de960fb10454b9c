/-
  Shared texts (X6).
-/
import Derived.Test.YtpaabengkidefaaGreatX5
import Derived.Test.YtpaabengkidefaaGreatX3
import Derived.Deep.LoopGhost
import Derived.Deep.RegionHeld3
import Derived.Test.YtpaabengkidefaaGreatX4
namespace Go.Proofs.YtpaabengkidefaaGreat
open Go.RowKit Go.Joins Go.Deep

/-- The block of a slice that is not empty. -/
def blk : Value → Option Nat
  | .slice (some a) n _ => if n = 0 then none else some a.block
  | _ => none
theorem blk_slice {a : Addr} {n c : Nat} (h : n ≠ 0) : blk (.slice (some a) n c) = some a.block := if_neg h
theorem blk_nil {A : Option Addr} {c : Nat} : blk (.slice A 0 c) = none := by cases A <;> rfl
theorem Apart.ne_blk {u v : Value} (h : Apart u v) {g k : Nat} (hg : blk u = some g) (hk : blk v = some k) : g ≠ k := by
  unfold blk at hg hk
  split at hg
  · rename_i a n c
    split at hk
    · rename_i b m d
      split at hg
      · cases hg
      · rename_i hn
        split at hk
        · cases hk
        · rename_i hm
          injection hg with hg
          injection hk with hk
          subst hg hk
          exact h a n c b m d rfl rfl hn hm
    · cases hk
  · cases hg

/-- Of what was there, only blocks of S have turned. -/
structure Frame (S : Nat → Prop) (w w' : World) : Prop where
  os : w'.os = w.os
  tape : w'.tape = w.tape
  output : w'.output = w.output
  size : w.heap.size ≤ w'.heap.size
  block : ∀ b, b < w.heap.size → ¬ S b → w'.heap[b]? = w.heap[b]?
theorem Frame.refl (S : Nat → Prop) (w : World) : Frame S w w := ⟨rfl, rfl, rfl, Nat.le_refl _, fun _ _ _ => rfl⟩
theorem Frame.trans {S : Nat → Prop} {a b c : World} (h : Frame S a b) (k : Frame S b c) : Frame S a c :=
  ⟨k.os.trans h.os, k.tape.trans h.tape, k.output.trans h.output, Nat.le_trans h.size k.size, fun i hi hs => (k.block i (Nat.lt_of_lt_of_le hi h.size) hs).trans (h.block i hi hs)⟩
theorem Frame.mono {S S' : Nat → Prop} {w w' : World} (h : Frame S w w') (hs : ∀ b, S b → S' b) : Frame S' w w' :=
  ⟨h.os, h.tape, h.output, h.size, fun b hb hn => h.block b hb (fun k => hn (hs b k))⟩
theorem Frame.of_below {S : Nat → Prop} {w w' : World} (h : Below w.heap.size w w') : Frame S w w' := ⟨h.os, h.tape, h.output, h.size, fun b hb _ => h.block b hb⟩
theorem Frame.to_below {S : Nat → Prop} {w w' : World} {B : Nat} (h : Frame S w w') (hB : B ≤ w.heap.size) (hs : ∀ b, b < B → ¬ S b) : Below B w w' :=
  ⟨h.os, h.tape, h.output, h.size, fun k hk => h.block k (Nat.lt_of_lt_of_le hk hB) (hs k hk)⟩
theorem Frame.setCell {S : Nat → Prop} {a w : World} (h : Frame S a w) {p : Addr} (hp : S p.block) (u : Value) : Frame S a (w.setCell p u) :=
  h.trans ⟨rfl, rfl, rfl, by simp [World.setCell], fun k _ hn => Below.heap_setCell _ _ _ _ (fun e => hn (e ▸ hp))⟩
theorem Frame.drewN {S : Nat → Prop} {a w : World} (h : Frame S a w) (n : Nat) : Frame S a (w.drewN n) := ⟨h.os, h.tape, h.output, h.size, h.block⟩
theorem Frame.drew {S : Nat → Prop} {a w : World} (h : Frame S a w) : Frame S a w.drew := ⟨h.os, h.tape, h.output, h.size, h.block⟩
theorem Frame.cell {S : Nat → Prop} {w w' : World} (h : Frame S w w') {b o : Nat} (hb : b < w.heap.size) (hs : ¬ S b) : w'.cell? ⟨b, o, none⟩ = w.cell? ⟨b, o, none⟩ :=
  World.cell?_of_block (w := w) (h.block b hb hs)
theorem Frame.frozen {S : Nat → Prop} {w w' : World} (h : Frame S w w') {b o : Nat} (hb : b < w.heap.size) (hs : ¬ S b) : w'.frozen? ⟨b, o, none⟩ = w.frozen? ⟨b, o, none⟩ :=
  World.frozen?_of_block (w := w) (h.block b hb hs)

/-- Ints stay ints, signs stay signs, slices stay what they are. -/
structure Turn (w w' : World) : Prop where
  size : w.heap.size ≤ w'.heap.size
  arr : ∀ g c xs, Arr w g c xs → ∃ xs', xs'.length = xs.length ∧ Arr w' g c xs'
  sl : ∀ b o A n c, w.cell? ⟨b, o, none⟩ = some (.slice A n c) → w'.cell? ⟨b, o, none⟩ = some (.slice A n c)
  sign : ∀ b o s, w.cell? ⟨b, o, none⟩ = some (.bool s) → ∃ s', w'.cell? ⟨b, o, none⟩ = some (.bool s')
  int : ∀ b o x, w.cell? ⟨b, o, none⟩ = some (.int .i64 x) → ∃ x', w'.cell? ⟨b, o, none⟩ = some (.int .i64 x')
  froz : ∀ b o, b < w.heap.size → w'.frozen? ⟨b, o, none⟩ = w.frozen? ⟨b, o, none⟩
theorem Turn.refl (w : World) : Turn w w := ⟨Nat.le_refl _, fun _ _ xs h => ⟨xs, rfl, h⟩, fun _ _ _ _ _ h => h, fun _ _ s h => ⟨s, h⟩, fun _ _ x h => ⟨x, h⟩, fun _ _ _ => rfl⟩
theorem Turn.trans {a b c : World} (h : Turn a b) (k : Turn b c) : Turn a c := by
  refine ⟨Nat.le_trans h.size k.size, fun g c xs hx => ?_, fun b o A n c hx => k.sl _ _ _ _ _ (h.sl _ _ _ _ _ hx), fun b o s hx => ?_, fun b o x hx => ?_, fun b o hb => (k.froz _ _ (Nat.lt_of_lt_of_le hb h.size)).trans (h.froz _ _ hb)⟩
  · obtain ⟨y, hy, hz⟩ := h.arr _ _ _ hx
    obtain ⟨z, hz1, hz2⟩ := k.arr _ _ _ hz
    exact ⟨z, hz1.trans hy, hz2⟩
  · obtain ⟨y, hy⟩ := h.sign _ _ _ hx
    exact k.sign _ _ _ hy
  · obtain ⟨y, hy⟩ := h.int _ _ _ hx
    exact k.int _ _ _ hy
theorem Turn.of_below {w w' : World} (h : Below w.heap.size w w') : Turn w w' :=
  ⟨h.size, fun _ _ xs hx => ⟨xs, rfl, hx.later h⟩, fun _ _ _ _ _ hx => cell_later (lt_of_cell' hx).1 hx h, fun _ _ s hx => ⟨s, cell_later (lt_of_cell' hx).1 hx h⟩, fun _ _ s hx => ⟨s, cell_later (lt_of_cell' hx).1 hx h⟩, fun b o hb => h.frozen (p := ⟨b, o, none⟩) hb⟩
/-- A part: ints of the call's own between lo and hi. -/
def PO (w : World) (lo hi : Nat) (va : Value) (xs : List Int) : Prop := RO w lo va xs ∧ ∀ b, blk va = some b → lo ≤ b ∧ b < hi
theorem RO.at_blk {w : World} {lo : Nat} {va : Value} {xs : List Int} (h : RO w lo va xs) {b : Nat} (hb : blk va = some b) : xs ≠ [] ∧ lo ≤ b ∧ ∃ c, va = .slice (some ⟨b, 0, none⟩) xs.length c ∧ Arr w b c xs := by
  obtain ⟨A, c, rfl, h1, h2, h3⟩ := h
  have hx : xs ≠ [] := by
    rintro rfl
    rw [List.length_nil, blk_nil] at hb
    cases hb
  obtain ⟨g, rfl, hg, ha⟩ := h3 hx
  rw [blk_slice (n := xs.length) (by simpa using hx)] at hb
  injection hb with hb
  simp only at hb
  subst hb
  exact ⟨hx, hg, c, rfl, ha⟩
theorem RO.io {w : World} {lo : Nat} {va : Value} {xs : List Int} (h : RO w lo va xs) : PO w lo w.heap.size va xs :=
  ⟨h, fun _ hb => by obtain ⟨_, h1, _, _, ha⟩ := h.at_blk hb; exact ⟨h1, ha.lt⟩⟩
theorem PO.form {w : World} {lo hi : Nat} {va : Value} {xs : List Int} (h : PO w lo hi va xs) : ∃ A c, va = .slice A xs.length c ∧ xs.length ≤ c ∧ c ≤ maxLen := by
  obtain ⟨⟨A, c, h1, h2, h3, _⟩, _⟩ := h
  exact ⟨A, c, h1, h2, h3⟩
theorem RO.of_arr {w : World} {lo : Nat} {va : Value} {xs ys : List Int} (h : RO w lo va xs) {w' : World} (hl : ys.length = xs.length) (ha : ∀ b c, blk va = some b → Arr w b c xs → Arr w' b c ys) : RO w' lo va ys := by
  obtain ⟨A, c, rfl, h1, h2, h3⟩ := id h
  refine ⟨A, c, by rw [hl], by omega, h2, fun hy => ?_⟩
  have hx : xs ≠ [] := by rintro rfl; exact hy (List.eq_nil_of_length_eq_zero hl)
  obtain ⟨g, rfl, hg, hA⟩ := h3 hx
  exact ⟨g, rfl, hg, ha g c (blk_slice (by simpa using hx)) hA⟩
theorem PO.turn {w w' : World} {lo hi : Nat} {va : Value} {xs : List Int} (h : PO w lo hi va xs) (ht : Turn w w') : ∃ xs', xs'.length = xs.length ∧ PO w' lo hi va xs' := by
  cases hb : blk va with
  | none => exact ⟨xs, rfl, h.1.of_arr rfl (fun b c hb' => by rw [hb] at hb'; cases hb'), h.2⟩
  | some b =>
    obtain ⟨hx, hg, c, hv, ha⟩ := h.1.at_blk hb
    obtain ⟨xs', hl, ha'⟩ := ht.arr _ _ _ ha
    refine ⟨xs', hl, h.1.of_arr hl (fun b' c' hb' ha2 => ?_), h.2⟩
    rw [hb] at hb'
    injection hb' with hb'
    subst hb'
    have : c' = c := by
      obtain ⟨r1, l1, _, e1⟩ := ha
      obtain ⟨r2, l2, _, e2⟩ := ha2
      rw [e1] at e2
      injection e2 with e2
      injection e2 with e2
      have := congrArg Array.size e2
      simp at this
      omega
    subst this
    exact ha'
theorem PO.frame {S : Nat → Prop} {w w' : World} {lo hi : Nat} {va : Value} {xs : List Int} (h : PO w lo hi va xs) (hf : Frame S w w') (hs : ∀ b, blk va = some b → ¬ S b) : PO w' lo hi va xs :=
  ⟨h.1.of_arr rfl (fun b _ hb ha => ha.block (hf.block b ha.lt (hs b hb))), h.2⟩
theorem PO.reads {w : World} {lo hi : Nat} {xs : List Int} {A : Option Addr} {n c : Nat} (h : PO w lo hi (.slice A n c) xs) : RI w A xs := h.1.reads
theorem PO.wide {w : World} {lo hi lo' hi' : Nat} {va : Value} {xs : List Int} (h : PO w lo hi va xs) (h1 : lo' ≤ lo) (h2 : hi ≤ hi') : PO w lo' hi' va xs :=
  ⟨h.1.mono h1, fun b hb => ⟨Nat.le_trans h1 (h.2 b hb).1, Nat.lt_of_lt_of_le (h.2 b hb).2 h2⟩⟩

def shp (r : RatD) : Nat × Nat := (r.mag.length, r.den.length)
theorem getD_setR (l : List RatD) (i j : Nat) (x : RatD) : (l.set i x).getD j zR = if i = j ∧ j < l.length then x else l.getD j zR := by
  simp only [List.getD_eq_getElem?_getD, List.getElem?_set]
  split
  · rename_i h
    subst h
    split
    · rename_i h; simp [h]
    · rename_i h; simp [h]
  · rename_i h
    rw [if_neg (fun h' => h h'.1)]
/-- A fraction in the cells of block g from off on, its parts p. -/
def EA (w : World) (lo hi g off : Nat) (p : Value × Value) (r : RatD) : Prop :=
  w.cell? ⟨g, off, none⟩ = some (.bool r.neg) ∧ w.cell? ⟨g, off + 1, none⟩ = some p.1 ∧ w.cell? ⟨g, off + 2, none⟩ = some p.2 ∧ PO w lo hi p.1 r.mag ∧ PO w lo hi p.2 r.den
def zP : Value × Value := (.slice none 0 0, .slice none 0 0)
/-- A vector of the call's own between lo and hi, its parts ps. -/
def VS (w : World) (lo hi : Nat) (v : Value) (ps : List (Value × Value)) (rs : List RatD) : Prop :=
  ps.length = rs.length ∧ ∃ A c, v = .slice A rs.length c ∧ rs.length ≤ c ∧ c ≤ maxLen ∧
    (rs ≠ [] → ∃ g, A = some ⟨g, 0, none⟩ ∧ lo ≤ g ∧ g < hi ∧ g < w.heap.size ∧ (∀ i, w.frozen? ⟨g, i, none⟩ = false) ∧ ∀ j, j < rs.length → EA w lo hi g (j * 3) (ps.getD j zP) (rs.getD j zR))
/-- The blocks that a vector takes up. -/
def Foot (v : Value) (ps : List (Value × Value)) (b : Nat) : Prop := blk v = some b ∨ ∃ j, j < ps.length ∧ (blk (ps.getD j zP).1 = some b ∨ blk (ps.getD j zP).2 = some b)
/-- All parts lie apart. -/
def Aps (ps : List (Value × Value)) : Prop :=
  (∀ j, j < ps.length → Apart (ps.getD j zP).1 (ps.getD j zP).2) ∧
  ∀ i j, i < ps.length → j < ps.length → i ≠ j → Apart (ps.getD i zP).1 (ps.getD j zP).1 ∧ Apart (ps.getD i zP).1 (ps.getD j zP).2 ∧ Apart (ps.getD i zP).2 (ps.getD j zP).1 ∧ Apart (ps.getD i zP).2 (ps.getD j zP).2

theorem EA.turn {w w' : World} {lo hi g off : Nat} {p : Value × Value} {r : RatD} (h : EA w lo hi g off p r) (ht : Turn w w') : ∃ r', shp r' = shp r ∧ EA w' lo hi g off p r' := by
  obtain ⟨h0, h1, h2, h3, h4⟩ := h
  obtain ⟨s', hs⟩ := ht.sign _ _ _ h0
  obtain ⟨x, hx, h3'⟩ := h3.turn ht
  obtain ⟨y, hy, h4'⟩ := h4.turn ht
  obtain ⟨A, c, e1, _⟩ := h3.form
  obtain ⟨B, d, e2, _⟩ := h4.form
  rw [e1] at h1
  rw [e2] at h2
  exact ⟨⟨s', x, y⟩, by simp [shp, hx, hy], hs, by rw [e1]; exact ht.sl _ _ _ _ _ h1, by rw [e2]; exact ht.sl _ _ _ _ _ h2, h3', h4'⟩
theorem EA.frame {S : Nat → Prop} {w w' : World} {lo hi g off : Nat} {p : Value × Value} {r : RatD} (h : EA w lo hi g off p r) (hf : Frame S w w') (hg : g < w.heap.size) (hs : ¬ S g) (h1 : ∀ b, blk p.1 = some b → ¬ S b) (h2 : ∀ b, blk p.2 = some b → ¬ S b) : EA w' lo hi g off p r :=
  ⟨(hf.cell hg hs).trans h.1, (hf.cell hg hs).trans h.2.1, (hf.cell hg hs).trans h.2.2.1, h.2.2.2.1.frame hf h1, h.2.2.2.2.frame hf h2⟩

theorem VS.form {w : World} {lo hi : Nat} {v : Value} {ps : List (Value × Value)} {rs : List RatD} (h : VS w lo hi v ps rs) : ∃ A c, v = .slice A rs.length c ∧ rs.length ≤ c ∧ c ≤ maxLen := by
  obtain ⟨_, A, c, h1, h2, h3, _⟩ := h
  exact ⟨A, c, h1, h2, h3⟩
theorem VS.turn {w w' : World} {lo hi : Nat} {v : Value} {ps : List (Value × Value)} {rs : List RatD} (h : VS w lo hi v ps rs) (ht : Turn w w') : ∃ rs', rs'.length = rs.length ∧ (∀ j, j < rs.length → shp (rs'.getD j zR) = shp (rs.getD j zR)) ∧ VS w' lo hi v ps rs' := by
  obtain ⟨hp, A, c, rfl, h1, h2, h3⟩ := h
  by_cases hx : rs = []
  · subst hx
    exact ⟨[], rfl, fun j hj => by simp at hj, hp, A, c, rfl, h1, h2, fun hh => absurd rfl hh⟩
  · obtain ⟨g, rfl, hg, hgh, hgs, hfz, he⟩ := h3 hx
    have each : ∀ j, j < rs.length → ∃ z : Option RatD, ∃ y, z = some y ∧ shp y = shp (rs.getD j zR) ∧ EA w' lo hi g (j * 3) (ps.getD j zP) y := fun j hj => by
      obtain ⟨r', q1, q2⟩ := (he j hj).turn ht
      exact ⟨some r', r', rfl, q1, q2⟩
    obtain ⟨f, hf⟩ := choose_lt each
    have hl : ((List.range rs.length).map fun i => (f i).getD zR).length = rs.length := by simp
    have hget : ∀ j, j < rs.length → ((List.range rs.length).map fun i => (f i).getD zR).getD j zR = (f j).getD zR := fun j hj => by
      rw [List.getD_eq_getElem?_getD, List.getElem?_map, List.getElem?_range hj]; rfl
    refine ⟨(List.range rs.length).map fun i => (f i).getD zR, hl, fun j hj => ?_, by rw [hl]; exact hp, some ⟨g, 0, none⟩, c, by rw [hl], by rw [hl]; exact h1, h2, fun _ => ⟨g, rfl, hg, hgh, Nat.lt_of_lt_of_le hgs ht.size, fun i => (ht.froz g i hgs).trans (hfz i), fun j hj => ?_⟩⟩
    · obtain ⟨y, e, q1, _⟩ := hf j hj
      rw [hget j hj, e]; exact q1
    · rw [hl] at hj
      obtain ⟨y, e, _, q2⟩ := hf j hj
      rw [hget j hj, e]; exact q2
theorem VS.at_blk {w : World} {lo hi : Nat} {v : Value} {ps : List (Value × Value)} {rs : List RatD} (h : VS w lo hi v ps rs) {b : Nat} (hb : blk v = some b) :
    rs ≠ [] ∧ (∃ c, v = .slice (some ⟨b, 0, none⟩) rs.length c) ∧ lo ≤ b ∧ b < hi ∧ b < w.heap.size ∧ (∀ i, w.frozen? ⟨b, i, none⟩ = false) ∧ ∀ j, j < rs.length → EA w lo hi b (j * 3) (ps.getD j zP) (rs.getD j zR) := by
  obtain ⟨_, A, c, rfl, h1, h2, h3⟩ := h
  have hx : rs ≠ [] := by
    rintro rfl
    rw [List.length_nil, blk_nil] at hb
    cases hb
  obtain ⟨g, rfl, hg⟩ := h3 hx
  rw [blk_slice (n := rs.length) (by simpa using hx)] at hb
  injection hb with hb
  simp only at hb
  subst hb
  exact ⟨hx, ⟨c, rfl⟩, hg⟩
/-- The headers' block is none of the parts'. -/
theorem EA.head {w : World} {lo hi g off : Nat} {p : Value × Value} {r : RatD} (h0 : ∃ s, w.cell? ⟨g, 0, none⟩ = some (.bool s)) (h : EA w lo hi g off p r) : blk p.1 ≠ some g ∧ blk p.2 ≠ some g := by
  obtain ⟨s, h0⟩ := h0
  constructor
  · intro hb
    obtain ⟨hx, _, c, _, ha⟩ := h.2.2.2.1.1.at_blk hb
    have := ha.cell 0 (List.length_pos_iff.2 hx)
    rw [h0] at this; cases this
  · intro hb
    obtain ⟨hx, _, c, _, ha⟩ := h.2.2.2.2.1.at_blk hb
    have := ha.cell 0 (List.length_pos_iff.2 hx)
    rw [h0] at this; cases this
theorem VS.frame {S : Nat → Prop} {w w' : World} {lo hi : Nat} {v : Value} {ps : List (Value × Value)} {rs : List RatD} (h : VS w lo hi v ps rs) (hf : Frame S w w') (hs : ∀ b, Foot v ps b → ¬ S b) : VS w' lo hi v ps rs := by
  obtain ⟨hp, A, c, rfl, h1, h2, h3⟩ := h
  refine ⟨hp, A, c, rfl, h1, h2, fun hx => ?_⟩
  obtain ⟨g, rfl, hg, hgh, hgs, hfz, he⟩ := h3 hx
  have hgS : ¬ S g := hs g (.inl (blk_slice (by simpa using hx)))
  exact ⟨g, rfl, hg, hgh, Nat.lt_of_lt_of_le hgs hf.size, fun i => (hf.frozen hgs hgS).trans (hfz i), fun j hj => (he j hj).frame hf hgs hgS (fun b hb => hs b (.inr ⟨j, by omega, .inl hb⟩)) (fun b hb => hs b (.inr ⟨j, by omega, .inr hb⟩))⟩
theorem VS.reads {w : World} {lo hi n c : Nat} {A : Option Addr} {ps : List (Value × Value)} {rs : List RatD} (h : VS w lo hi (.slice A n c) ps rs) : VI w A rs := by
  intro hx
  obtain ⟨_, A', c', he, _, _, h⟩ := h
  injection he with e1 e2 e3
  subst e1
  obtain ⟨g, rfl, _, _, hlt, _, h⟩ := h hx
  refine ⟨g, 0, rfl, hlt, fun j hj => ?_⟩
  obtain ⟨h0, h1, h2, h3, h4⟩ := h j hj
  obtain ⟨A1, c1, e1, k1, k2⟩ := h3.form
  obtain ⟨B1, d1, e2, k3, k4⟩ := h4.form
  rw [e1] at h1 h3
  rw [e2] at h2 h4
  rw [Nat.zero_add]
  exact ⟨A1, c1, B1, d1, h0, h1, h2, ⟨k1, k2, k3, k4⟩, h3.reads, h4.reads⟩
theorem VO.parts {w : World} {lo : Nat} {v : Value} {rs : List RatD} (h : VO w lo v rs) : ∃ ps, VS w lo w.heap.size v ps rs := by
  obtain ⟨A, c, rfl, h1, h2, h3⟩ := h
  by_cases hx : rs = []
  · subst hx
    exact ⟨[], rfl, A, c, rfl, h1, h2, fun hh => absurd rfl hh⟩
  · obtain ⟨g, rfl, hg, hgs, hfz, he⟩ := h3 hx
    have each : ∀ j, j < rs.length → ∃ z : Option (Value × Value), ∃ y, z = some y ∧ EA w lo w.heap.size g (j * 3) y (rs.getD j zR) := fun j hj => by
      obtain ⟨va, vb, q0, q1, q2, q3, q4⟩ := he j hj
      have l1 := q3.io
      have l2 := q4.io
      exact ⟨some (va, vb), (va, vb), rfl, q0, q1, q2, l1.wide (by omega) (Nat.le_refl _), l2.wide (by omega) (Nat.le_refl _)⟩
    obtain ⟨f, hf⟩ := choose_lt each
    have hl : ((List.range rs.length).map fun i => (f i).getD zP).length = rs.length := by simp
    refine ⟨(List.range rs.length).map fun i => (f i).getD zP, hl, some ⟨g, 0, none⟩, c, rfl, h1, h2, fun _ => ⟨g, rfl, hg, hgs, hgs, hfz, fun j hj => ?_⟩⟩
    obtain ⟨y, e, q⟩ := hf j hj
    rw [List.getD_eq_getElem?_getD, List.getElem?_map, List.getElem?_range hj]
    simp only [Option.map_some, Option.getD_some, e]
    exact q
theorem VS.wide {w : World} {lo hi lo' hi' : Nat} {v : Value} {ps : List (Value × Value)} {rs : List RatD} (h : VS w lo hi v ps rs) (k1 : lo' ≤ lo) (k2 : hi ≤ hi') : VS w lo' hi' v ps rs := by
  obtain ⟨hp, A, c, rfl, h1, h2, h3⟩ := h
  refine ⟨hp, A, c, rfl, h1, h2, fun hx => ?_⟩
  obtain ⟨g, rfl, hg, hgh, hgs, hfz, he⟩ := h3 hx
  exact ⟨g, rfl, by omega, by omega, hgs, hfz, fun j hj => ⟨(he j hj).1, (he j hj).2.1, (he j hj).2.2.1, (he j hj).2.2.2.1.wide k1 k2, (he j hj).2.2.2.2.wide k1 k2⟩⟩
/-- One element turned, all parts apart. -/
theorem VS.put {S : Nat → Prop} {w w' : World} {lo hi g n c : Nat} {ps : List (Value × Value)} {rs : List RatD} {i : Nat} {x : RatD} (h : VS w lo hi (.slice (some ⟨g, 0, none⟩) n c) ps rs) (hi1 : i < rs.length) (hap : Aps ps)
    (hf : Frame S w w') (hS : ∀ b, S b → b = g ∨ blk (ps.getD i zP).1 = some b ∨ blk (ps.getD i zP).2 = some b)
    (hfz : ∀ o, w'.frozen? ⟨g, o, none⟩ = w.frozen? ⟨g, o, none⟩) (hc : ∀ o, o ≠ i * 3 → w'.cell? ⟨g, o, none⟩ = w.cell? ⟨g, o, none⟩)
    (h0 : w'.cell? ⟨g, i * 3, none⟩ = some (.bool x.neg)) (h1 : PO w' lo hi (ps.getD i zP).1 x.mag) (h2 : PO w' lo hi (ps.getD i zP).2 x.den) :
    VS w' lo hi (.slice (some ⟨g, 0, none⟩) n c) ps (rs.set i x) := by
  have hnn : n = rs.length := by
    obtain ⟨_, A, c', e, _⟩ := h
    injection e
  subst hnn
  have hx : rs ≠ [] := by rintro rfl; simp at hi1
  have hbv : blk (.slice (some ⟨g, 0, none⟩) rs.length c) = some g := blk_slice (by simpa using hx)
  obtain ⟨_, _, k1, k2, k3, k4, ke⟩ := h.at_blk hbv
  obtain ⟨hp, A, c', e, q1, q2, _⟩ := h
  injection e with _ _ e
  subst e
  have hz : ∃ s, w.cell? ⟨g, 0, none⟩ = some (.bool s) := ⟨_, by have := (ke 0 (List.length_pos_iff.2 hx)).1; rwa [Nat.zero_mul] at this⟩
  refine ⟨by simpa using hp, some ⟨g, 0, none⟩, c, by simp, by simpa using q1, q2, fun _ => ⟨g, rfl, k1, k2, Nat.lt_of_lt_of_le k3 hf.size, fun o => (hfz o).trans (k4 o), fun j hj => ?_⟩⟩
  rw [List.length_set] at hj
  rw [getD_setR]
  by_cases e : i = j
  · subst e
    rw [if_pos ⟨rfl, hj⟩]
    exact ⟨h0, (hc _ (by omega)).trans (ke i hj).2.1, (hc _ (by omega)).trans (ke i hj).2.2.1, h1, h2⟩
  · rw [if_neg (fun h' => e h'.1)]
    obtain ⟨m1, m2⟩ := (ke j hj).head hz
    obtain ⟨a1, a2, a3, a4⟩ := hap.2 j i (by omega) (by omega) (fun h' => e h'.symm)
    refine ⟨(hc _ (by omega)).trans (ke j hj).1, (hc _ (by omega)).trans (ke j hj).2.1, (hc _ (by omega)).trans (ke j hj).2.2.1, (ke j hj).2.2.2.1.frame hf (fun b hb hSb => ?_), (ke j hj).2.2.2.2.frame hf (fun b hb hSb => ?_)⟩
    · rcases hS b hSb with hh | hh | hh
      · subst hh; exact m1 hb
      · exact a1.ne_blk hb hh rfl
      · exact a2.ne_blk hb hh rfl
    · rcases hS b hSb with hh | hh | hh
      · subst hh; exact m2 hb
      · exact a3.ne_blk hb hh rfl
      · exact a4.ne_blk hb hh rfl
end Go.Proofs.YtpaabengkidefaaGreat

namespace Go.Proofs.YtpaabengkidefaaGreat
open Go.RowKit Go.Joins

theorem land_le (x : Int) (m j : Nat) (hm : m < 2 ^ j) (hj : j ≤ 62) : 0 ≤ bits .and .i64 x (m : Int) ∧ bits .and .i64 x (m : Int) ≤ (m : Int) := by
  have h1 : (BitVec.ofInt 64 (m : Int)).toNat = m := by
    rw [BitVec.ofInt_natCast, BitVec.toNat_ofNat]
    exact Nat.mod_eq_of_lt (Nat.lt_trans hm (Nat.pow_lt_pow_right (by decide) (by omega)))
  have h2 : (2 : Nat) ^ j ≤ 2 ^ 62 := Nat.pow_le_pow_right (by decide) hj
  have e : bits .and .i64 x (m : Int) = IntKind.i64.wrap ((BitVec.ofInt 64 x &&& BitVec.ofInt 64 (m : Int)).toNat : Int) := rfl
  have h3 : (BitVec.ofInt 64 x &&& BitVec.ofInt 64 (m : Int)).toNat ≤ m := by
    rw [BitVec.toNat_and, h1]; exact Nat.and_le_right
  rw [e, IntKind.wrap_i64]
  omega
/-- Bytes in memory. -/
def BI (w : World) (A : Option Addr) (n : Nat) : Prop := n ≠ 0 → ∃ b o, A = some ⟨b, o, none⟩ ∧ b < w.heap.size ∧ ∀ j, j < n → ∃ x : Int, (0 ≤ x ∧ x < 256) ∧ w.cell? ⟨b, o + j, none⟩ = some (.int .u8 x)
/-- A cursor of the draws, in block g. -/
structure Cu (w : World) (g : Nat) (A : Option Addr) (n c : Nat) : Prop where
  lt : g < w.heap.size
  few : n ≤ 1048576
  off : n ≠ 0 → ∀ a, A = some a → a.block ≠ g
  bytes : BI w A n
  sl : w.cell? ⟨g, 0, none⟩ = some (.slice A n c)
  at_ : ∃ i : Nat, i ≤ n ∧ w.cell? ⟨g, 1, none⟩ = some (.int .i64 i)
  hash : ∃ h : Int, w.cell? ⟨g, 2, none⟩ = some (.int .i64 h)
  froz : ∀ o, w.frozen? ⟨g, o, none⟩ = false
theorem BI.frame {S : Nat → Prop} {w w' : World} {A : Option Addr} {n : Nat} (h : BI w A n) (hf : Frame S w w') (hs : n ≠ 0 → ∀ a, A = some a → ¬ S a.block) : BI w' A n := by
  intro hn
  obtain ⟨b, o, rfl, hb, hc⟩ := h hn
  refine ⟨b, o, rfl, Nat.lt_of_lt_of_le hb hf.size, fun j hj => ?_⟩
  obtain ⟨x, hx, hy⟩ := hc j hj
  exact ⟨x, hx, (hf.cell hb (hs hn _ rfl)).trans hy⟩
theorem Cu.frame {S : Nat → Prop} {w w' : World} {g : Nat} {A : Option Addr} {n c : Nat} (h : Cu w g A n c) (hf : Frame S w w') (hg : ¬ S g) (hs : n ≠ 0 → ∀ a, A = some a → ¬ S a.block) : Cu w' g A n c := by
  obtain ⟨i, hi, h1⟩ := h.at_
  obtain ⟨k, h2⟩ := h.hash
  exact ⟨Nat.lt_of_lt_of_le h.lt hf.size, h.few, h.off, h.bytes.frame hf hs, (hf.cell h.lt hg).trans h.sl, ⟨i, hi, (hf.cell h.lt hg).trans h1⟩, ⟨k, (hf.cell h.lt hg).trans h2⟩, fun o => (hf.frozen h.lt hg).trans (h.froz o)⟩
theorem Cu.later {w w' : World} {g : Nat} {A : Option Addr} {n c : Nat} (h : Cu w g A n c) (hb : Below w.heap.size w w') : Cu w' g A n c :=
  h.frame (S := fun _ => False) (Frame.of_below hb) (fun h => h) (fun _ _ _ h => h)
/-- The cursor's own cells turned. -/
theorem Cu.turn {w : World} {g : Nat} {A : Option Addr} {n c : Nat} (h : Cu w g A n c) (x : Int) : Cu (w.setCell ⟨g, 2, none⟩ (.int .i64 x)) g A n c := by
  have hf : Frame (fun b => b = g) w (w.setCell ⟨g, 2, none⟩ (.int .i64 x)) := Frame.setCell (S := fun b => b = g) (p := ⟨g, _, none⟩) (Frame.refl _ w) rfl _
  obtain ⟨i, hi, h1⟩ := h.at_
  obtain ⟨k, h2⟩ := h.hash
  refine ⟨by simpa [World.setCell] using h.lt, h.few, h.off, h.bytes.frame hf (fun hn a ha => h.off hn a ha), ?_, ⟨i, hi, ?_⟩, ⟨x, ?_⟩, fun o => by simpa using h.froz o⟩
  · rw [World.cell?_setCell_other _ _ _ _ (by intro e; injection e with _ e; omega)]; exact h.sl
  · rw [World.cell?_setCell_other _ _ _ _ (by intro e; injection e with _ e; omega)]; exact h1
  · exact World.cell?_setCell_same (u := .int .i64 k) _ _ _ h2
theorem Cu.step {w : World} {g : Nat} {A : Option Addr} {n c i : Nat} (h : Cu w g A n c) (hi : i ≤ n) : Cu (w.setCell ⟨g, 1, none⟩ (.int .i64 i)) g A n c := by
  have hf : Frame (fun b => b = g) w (w.setCell ⟨g, 1, none⟩ (.int .i64 i)) := Frame.setCell (S := fun b => b = g) (p := ⟨g, _, none⟩) (Frame.refl _ w) rfl _
  obtain ⟨i', hi', h1⟩ := h.at_
  obtain ⟨k, h2⟩ := h.hash
  refine ⟨by simpa [World.setCell] using h.lt, h.few, h.off, h.bytes.frame hf (fun hn a ha => h.off hn a ha), ?_, ⟨i, hi, ?_⟩, ⟨k, ?_⟩, fun o => by simpa using h.froz o⟩
  · rw [World.cell?_setCell_other _ _ _ _ (by intro e; injection e with _ e; omega)]; exact h.sl
  · exact World.cell?_setCell_same (u := .int .i64 i') _ _ _ h1
  · rw [World.cell?_setCell_other _ _ _ _ (by intro e; injection e with _ e; omega)]; exact h2
/-- Of what was there only the cursor has turned. -/
def CF (g : Nat) (w w' : World) : Prop := Frame (fun b => b = g) w w'

theorem CF.trans {g : Nat} {a b c : World} (h : CF g a b) (k : CF g b c) : CF g a c := Frame.trans h k
theorem CF.later {g : Nat} {a b : World} (h : Below a.heap.size a b) : CF g a b := Frame.of_below h
theorem CF.below {g B : Nat} {a b : World} (h : CF g a b) (hB : B ≤ a.heap.size) (hg : B ≤ g) : Below B a b := Frame.to_below h hB (fun b hb e => by omega)

end Go.Proofs.YtpaabengkidefaaGreat

namespace Go.Proofs.YtpaabengkidefaaGreat
open Go.RowKit Go.Joins

def nxtH (k : Int) : Int := wrap64 (wrap64 (k * 6364136223846793005) + 1442695040888963407)
def nxtX (k : Int) : Int := bits .and .i64 (bits .xor .i64 (k / 8589934592) (k / 35184372088832)) 255
theorem nxtX_in (k : Int) : 0 ≤ nxtX k ∧ nxtX k ≤ 255 := land_le (bits .xor .i64 (k / 8589934592) (k / 35184372088832)) 255 8 (by decide) (by decide)
/-- The bytes in memory are those of y. -/
def BE (w : World) (A : Option Addr) (n : Nat) (y : Nat → Int) : Prop := n ≠ 0 → ∃ b o, A = some ⟨b, o, none⟩ ∧ b < w.heap.size ∧ ∀ j, j < n → w.cell? ⟨b, o + j, none⟩ = some (.int .u8 (y j))
def Byt (y : Nat → Int) : Prop := ∀ j, 0 ≤ y j ∧ y j < 256

/-- A cursor: where it stands, and its number. -/
structure CE (z : Nat) (w : World) (g : Nat) (A : Option Addr) (n c i : Nat) (h : Int) : Prop where
  le : i ≤ n
  sl : w.cell? ⟨g, 0, none⟩ = some (.slice A n c)
  at_ : w.cell? ⟨g, 1, none⟩ = some (.int .i64 i)
  hash : w.cell? ⟨g, 2, none⟩ = some (.int .i64 h)
  froz : ∀ o, w.frozen? ⟨g, o, none⟩ = false
  row : ∃ (arr : Array Value) (ty : Nat), w.heap[g]? = some (.cells arr ty (0, 0)) ∧ arr.size = z

theorem row_set {z : Nat} {w : World} {g o : Nat} {x : Value} (h : ∃ (arr : Array Value) (ty : Nat), w.heap[g]? = some (.cells arr ty (0, 0)) ∧ arr.size = z) :
    ∃ (arr : Array Value) (ty : Nat), (w.setCell ⟨g, o, none⟩ x).heap[g]? = some (.cells arr ty (0, 0)) ∧ arr.size = z := by
  obtain ⟨arr, ty, h1, h2⟩ := h
  exact ⟨_, ty, heap_setCell_same _ _ _ _ _ _ h1, by simpa using h2⟩

/-- The state of the draws: how many bytes are used, and the number. -/
def nxt (n : Nat) (s : Nat × Int) : Nat × Int := (if s.1 < n then s.1 + 1 else s.1, nxtH s.2)
def nxtB (n : Nat) (y : Nat → Int) (s : Nat × Int) : Int := if s.1 < n then bits .and .i64 (nxtX (nxtH s.2) + y s.1) 255 else nxtX (nxtH s.2)
theorem nxtB_in (n : Nat) (y : Nat → Int) (s : Nat × Int) : 0 ≤ nxtB n y s ∧ nxtB n y s ≤ 255 := by
  unfold nxtB
  split
  · exact land_le (nxtX (nxtH s.2) + y s.1) 255 8 (by decide) (by decide)
  · exact nxtX_in _

theorem CE.turn {z : Nat} {w : World} {g : Nat} {A : Option Addr} {n c i : Nat} {h : Int} (hc : CE z w g A n c i h) (x : Int) : CE z (w.setCell ⟨g, 2, none⟩ (.int .i64 x)) g A n c i x := by
  refine ⟨hc.le, ?_, ?_, ?_, fun o => by simpa using hc.froz o, row_set hc.row⟩
  · rw [World.cell?_setCell_other _ _ _ _ (by intro e; injection e with _ e; omega)]; exact hc.sl
  · rw [World.cell?_setCell_other _ _ _ _ (by intro e; injection e with _ e; omega)]; exact hc.at_
  · exact World.cell?_setCell_same (u := .int .i64 h) _ _ _ hc.hash
theorem CE.step {z : Nat} {w : World} {g : Nat} {A : Option Addr} {n c i j : Nat} {h : Int} (hc : CE z w g A n c i h) (hj : j ≤ n) : CE z (w.setCell ⟨g, 1, none⟩ (.int .i64 j)) g A n c j h := by
  refine ⟨hj, ?_, ?_, ?_, fun o => by simpa using hc.froz o, row_set hc.row⟩
  · rw [World.cell?_setCell_other _ _ _ _ (by intro e; injection e with _ e; omega)]; exact hc.sl
  · exact World.cell?_setCell_same (u := .int .i64 i) _ _ _ hc.at_
  · rw [World.cell?_setCell_other _ _ _ _ (by intro e; injection e with _ e; omega)]; exact hc.hash
theorem CE.same {z : Nat} {w w' : World} {g : Nat} {A : Option Addr} {n c i : Nat} {h : Int} (hc : CE z w g A n c i h) (hh : w'.heap[g]? = w.heap[g]?) : CE z w' g A n c i h := by
  have e : ∀ o, w'.cell? ⟨g, o, none⟩ = w.cell? ⟨g, o, none⟩ := fun o => by simp [World.cell?, hh]
  have e2 : ∀ o, w'.frozen? ⟨g, o, none⟩ = w.frozen? ⟨g, o, none⟩ := fun o => by simp [World.frozen?, hh]
  exact ⟨hc.le, by rw [e]; exact hc.sl, by rw [e]; exact hc.at_, by rw [e]; exact hc.hash, fun o => by rw [e2]; exact hc.froz o, by rw [hh]; exact hc.row⟩
theorem BE.setCell {w : World} {A : Option Addr} {n : Nat} {y : Nat → Int} (h : BE w A n y) {g o : Nat} (hg : n ≠ 0 → ∀ a, A = some a → a.block ≠ g) (x : Value) : BE (w.setCell ⟨g, o, none⟩ x) A n y := by
  intro hn
  obtain ⟨b, o', rfl, hb, hc⟩ := h hn
  refine ⟨b, o', rfl, by simpa [World.setCell] using hb, fun j hj => ?_⟩
  have hbg : b ≠ g := hg hn _ rfl
  rw [World.cell?_setCell_other _ _ _ _ (by intro e; injection e with e _; exact hbg e.symm)]
  exact hc j hj

/-- A draw's end: its value, the cursor behind it. -/
def EB (z g n c i : Nat) (k : Int) (A : Option Addr) (y : Nat → Int) (F : Int → Int) (w : World) (e : Ending) (w' : World) : Prop :=
  e = .returned (.int .i64 (F (nxtB n y (i, k)))) ∧ CE z w' g A n c (nxt n (i, k)).1 (nxt n (i, k)).2 ∧ CF g w w'
theorem nxt_lt {n i : Nat} (k : Int) (y : Nat → Int) (h : i < n) : nxtB n y (i, k) = bits .and .i64 (nxtX (nxtH k) + y i) 255 ∧ nxt n (i, k) = (i + 1, nxtH k) := ⟨by simp [nxtB, h], by simp [nxt, h]⟩
theorem nxt_ge {n i : Nat} (k : Int) (y : Nat → Int) (h : ¬ i < n) : nxtB n y (i, k) = nxtX (nxtH k) ∧ nxt n (i, k) = (i, nxtH k) := ⟨by simp [nxtB, h], by simp [nxt, h]⟩

set_option maxRecDepth 100000 in
set_option maxHeartbeats 1600000 in
theorem eByte (z g n c i : Nat) (k : Int) (A : Option Addr) (y : Nat → Int) (w : World) (_hgl : g < w.heap.size) (hn : n ≤ 1048576) (hy : Byt y) (hne : n ≠ 0 → ∀ a, A = some a → a.block ≠ g) (hb : BE w A n y) (h : CE z w g A n c i k) :
    Calls Tryz.prog 156 #[.pointer (some ⟨g, 0, none⟩)] w (EB z g n c i k A y id w) := by
  have h0 := h.sl
  have h1 := h.at_
  have h2 := h.hash
  have z2 := h.froz 2
  have z1 := h.froz 1
  have HC := Lib.hid h
  have HB := Lib.hid hb
  have HY := Lib.hid hy
  have HK := Lib.hid (show nxtH k = wrap64 (wrap64 (k * 6364136223846793005) + 1442695040888963407) from rfl)
  have HNE := Lib.hid hne
  have hi := h.le
  clear h hb hy hne
  go_enter Tryz.func156, Tryz.ntmps156
  go_wp2
  generalize wrap64 (wrap64 (k * 6364136223846793005) + 1442695040888963407) = k1 at *
  have HC1 := Lib.hid (HC.out.turn k1)
  have HB1 := Lib.hid (HB.out.setCell (o := 2) HNE.out (.int .i64 k1))
  have hf1 : CF g w (w.setCell ⟨g, 2, none⟩ (.int .i64 k1)) := Frame.setCell (S := fun b => b = g) (p := ⟨g, 2, none⟩) (Frame.refl _ w) rfl _
  clear h0 h1 h2 z1 z2 HC HB
  generalize w.setCell ⟨g, 2, none⟩ (.int .i64 k1) = w1 at *
  have h0 := HC1.out.sl
  have h1 := HC1.out.at_
  have h2 := HC1.out.hash
  have z1 := HC1.out.froz 1
  go_quiet (fail)
  have hx := nxtX_in k1
  have HK1 := Lib.hid (show nxtX k1 = bits .and .i64 (bits .xor .i64 (k1 / 8589934592) (k1 / 35184372088832)) 255 from rfl)
  obtain ⟨x, hxe⟩ : ∃ x, nxtX k1 = x := ⟨_, rfl⟩
  have HK2 := Lib.hid hxe
  rw [hxe] at hx HK1
  rw [← HK1.out]
  clear hxe
  go_wp2
  go_quiet (fail)
  by_cases hin : i < n
  · have hint : (i : Int) < (n : Int) := by omega
    obtain ⟨b, o, rfl, hb, hby⟩ := HB1.out (by omega)
    have hyc := hby i hin
    have hyy := HY.out i
    have hin2 := Lib.hid hin
    clear hby
    obtain ⟨v, hv⟩ : ∃ v, y i = v := ⟨_, rfl⟩
    rw [hv] at hyc hyy
    replace hv := Lib.hid hv
    go_wp2
    go_quiet (fail)
    have hx2 := land_le (x + v) 255 8 (by decide) (by decide)
    rw [show ((255 : Nat) : Int) = 255 from rfl] at hx2
    obtain ⟨z, hz⟩ : ∃ z, bits .and .i64 (x + v) 255 = z := ⟨_, rfl⟩
    rw [hz] at hx2
    replace hz := Lib.hid hz
    rw [hz.out]
    go_wp2
    go_ret
    obtain ⟨a1, a2⟩ := nxt_lt k y hin
    refine ⟨?_, ?_, Frame.setCell (S := fun b => b = g) (p := ⟨g, 1, none⟩) (hf1.drewN _) rfl _⟩
    · rw [a1, HK.out, HK2.out, hv.out, hz.out]; rfl
    · rw [a2, HK.out]
      exact CE.step (j := i + 1) (HC1.out.same rfl) (by omega)
  · have hint : ¬ (i : Int) < (n : Int) := by omega
    go_wp2
    go_ret
    obtain ⟨a1, a2⟩ := nxt_ge k y hin
    refine ⟨?_, ?_, hf1.drewN _⟩
    · rw [a1, HK.out, HK2.out]; rfl
    · rw [a2, HK.out]
      exact HC1.out.same rfl

set_option maxRecDepth 100000 in
set_option maxHeartbeats 1600000 in
theorem eBelow (z g n c i : Nat) (k : Int) (A : Option Addr) (y : Nat → Int) (m : Int) (hm : 1 ≤ m) (hm2 : m ≤ 256) (w : World) (hgl : g < w.heap.size) (hn : n ≤ 1048576) (hy : Byt y) (hne : n ≠ 0 → ∀ a, A = some a → a.block ≠ g) (hb : BE w A n y) (h : CE z w g A n c i k) :
    Calls Tryz.prog 77 #[.pointer (some ⟨g, 0, none⟩), .int .i64 m] w (EB z g n c i k A y (fun x => x % m) w) := by
  have HC := Lib.hid (eByte z g n c i k A y w hgl hn hy hne hb h)
  have HX := Lib.hid (nxtB_in n y (i, k))
  clear h hb hy hne
  have h1 : ¬ m ≤ 0 := by omega
  have h2 : m ≠ 0 := by omega
  go_enter Tryz.func77, Tryz.ntmps77
  go_wp2_with fail
  obtain ⟨x, hx⟩ : ∃ x, nxtB n y (i, k) = x := ⟨_, rfl⟩
  have hx1 := HX.out
  rw [hx] at hx1
  have HE := Lib.hid hx
  refine HC.out.mono ?_
  rintro e w1 ⟨he, hc, hf⟩
  have he' : e = .returned (.int .i64 x) := by rw [he, hx]; rfl
  subst he'
  clear he hx HX HC
  have h3 : x.tmod m = x % m := Int.tmod_eq_emod_of_nonneg hx1.1
  have h4 := Int.emod_nonneg x h2
  have h5 := Int.emod_lt_of_pos x (show 0 < m by omega)
  have hc' := Lib.hid hc
  have hf' := Lib.hid hf
  clear hc hf
  go_wp2
  go_ret
  exact ⟨by rw [HE.out]; rfl, hc'.out, hf'.out⟩

/-- The number at the start. -/
def hsh (n : Nat) (y : Nat → Int) : Nat → Int
  | 0 => 1949 + n
  | j + 1 => bits .and .i64 (wrap64 (wrap64 (wrap64 (hsh n y j * 67) + y j) + 7)) 1073741823
def EN (n c : Nat) (A : Option Addr) (y : Nat → Int) (w : World) (e : Ending) (w' : World) : Prop :=
  ∃ wr, Below w.heap.size w wr ∧ e = .returned (.pointer (some ⟨wr.heap.size, 0, none⟩)) ∧ w' = wr.alloc (.cells #[.slice A n c, .int .i64 0, .int .i64 (hsh n y (min n 4000))] 156)

set_option maxRecDepth 100000 in
set_option maxHeartbeats 1600000 in
theorem eNew (n c : Nat) (A : Option Addr) (y : Nat → Int) (hn : n ≤ 1048576) (hy : Byt y) (w : World) (h : BE w A n y) :
    Calls Tryz.prog 57 #[.slice A n c] w (EN n c A y w) := by
  have HB := Lib.hid h
  have HY := Lib.hid hy
  have H0 := Lib.hid (show hsh n y 0 = 1949 + n from rfl)
  have HM := Lib.hid (show min n 4000 = if n ≤ 4000 then n else 4000 by split <;> omega)
  clear h hy
  go_enter Tryz.func57, Tryz.ntmps57
  go_wp2
  go_loopw [3, 4] (fun u z wr => ∃ i : Nat, i ≤ n ∧ i ≤ 4000 ∧ u = .int .i64 (hsh n y i) ∧ z = .int .i64 i ∧ Below w.heap.size w wr) (fun _ z _ => n - (intOf z).toNat)
  case atStart => exact ⟨0, Nat.zero_le _, Nat.zero_le _, rfl, rfl, Below.refl _ _⟩
  case round =>
    obtain ⟨i, hi, hi4, rfl, rfl, hb⟩ := hrel
    by_cases h1 : i < n
    · obtain ⟨b, o, eA, hb1, hby⟩ := HB.out (by omega)
      have hyc := hby i h1
      have hyy := HY.out i
      have HS := Lib.hid (show hsh n y (i + 1) = bits .and .i64 (wrap64 (wrap64 (wrap64 (hsh n y i * 67) + y i) + 7)) 1073741823 from rfl)
      have hyc' := (World.cell?_of_block (w := w) (hb.block b hb1) : wr.cell? ⟨b, o + i, none⟩ = w.cell? ⟨b, o + i, none⟩).trans hyc
      clear hby hyc
      subst eA
      have hyr := hyy
      by_cases h2 : i < 4000
      · have h3 : (i : Int) < 4000 := by omega
        go_wp2
        go_roundw
        case rel => exact ⟨i + 1, by omega, by omega, by rw [HS.out], rfl, hb⟩
        case measure => simp [intOf]; omega
      · have h3 : ¬ ((i : Int) < 4000) := by omega
        go_wp2
        go_ret
        have hm : min n 4000 = i := by omega
        exact ⟨wr, hb, rfl, by rw [hm]⟩
    · have h3 : True := trivial
      go_wp2
      go_ret
      have hm : min n 4000 = i := by omega
      exact ⟨wr, hb, rfl, by rw [hm]⟩
end Go.Proofs.YtpaabengkidefaaGreat

namespace Go.Proofs.YtpaabengkidefaaGreat
open Go.RowKit Go.Joins Go.SX

/-- A fraction's cells, and the blocks on which they hang. -/
def TVal (val : Nat → RatD) (j : Nat) (F : List Nat) (w : World) (cs : Array Value) : Prop :=
  ∃ A c B d, cs = #[.bool (val j).neg, .slice A (val j).mag.length c, .slice B (val j).den.length d] ∧ ((val j).mag.length ≤ c ∧ c ≤ maxLen ∧ (val j).den.length ≤ d ∧ d ≤ maxLen) ∧ RI w A (val j).mag ∧ RI w B (val j).den ∧
    (∀ a, A = some a → (val j).mag ≠ [] → a.block ∈ F) ∧ (∀ a, B = some a → (val j).den ≠ [] → a.block ∈ F)

theorem RI.same {w w' : World} {A : Option Addr} {xs : List Int} (h : RI w A xs) (hs : ∀ a, A = some a → xs ≠ [] → w'.heap[a.block]? = w.heap[a.block]?) : RI w' A xs := by
  intro hx
  obtain ⟨b, off, rfl, hlt, hc⟩ := h hx
  have e := hs _ rfl hx
  simp only at e
  have hb : b < w'.heap.size := by
    have := Array.getElem?_eq_getElem hlt
    rw [← e] at this
    exact (Array.getElem?_eq_some_iff.1 this).1
  exact ⟨b, off, rfl, hb, fun i hi => by rw [World.cell?_of_block e]; exact hc i hi⟩

/-- The state of the draws ahead of a draw. -/
def stp (n : Nat) (y : Nat → Int) : Nat → Nat × Int
  | 0 => (0, hsh n y (min n 4000))
  | p + 1 => nxt n (stp n y p)
def fixOf (A : Option Addr) (n c : Nat) (y : Nat → Int) : Fix where
  code := .slice A n c
  cur := fun p => #[.slice A n c, .int .i64 (stp n y p).1, .int .i64 (stp n y p).2]
  byte := fun p => (nxtB n y (stp n y p)).toNat
/-- What is known of the draws. -/
def DrOk (drw : Nat → Nat → Option Nat) (f : Fix) : Prop := ∀ p m r, drw p m = some r → f.byte p % m = r
def BaseOk (drw : Nat → Nat → Option Nat) (f : Fix) (F : List Nat) (w : World) : Prop :=
  ∃ A n c y, f = fixOf A n c y ∧ BE w A n y ∧ Byt y ∧ n ≤ 1048576 ∧ (n ≠ 0 → ∀ a, A = some a → a.block ∈ F) ∧ DrOk drw f

theorem BE.same {w w' : World} {A : Option Addr} {n : Nat} {y : Nat → Int} (h : BE w A n y) (hs : n ≠ 0 → ∀ a, A = some a → w'.heap[a.block]? = w.heap[a.block]?) : BE w' A n y := by
  intro hn
  obtain ⟨b, o, rfl, hlt, hc⟩ := h hn
  have e := hs hn _ rfl
  simp only at e
  have hb : b < w'.heap.size := by
    have := Array.getElem?_eq_getElem hlt
    rw [← e] at this
    exact (Array.getElem?_eq_some_iff.1 this).1
  exact ⟨b, o, rfl, hb, fun j hj => by rw [World.cell?_of_block e]; exact hc j hj⟩

def toks (val : Nat → RatD) (drw : Nat → Nat → Option Nat) : Toks where
  TV := TVal val
  stab := fun j F w w' cs h ⟨A, c, B, d, e, hl, h1, h2, h3, h4⟩ =>
    ⟨A, c, B, d, e, hl, h1.same fun a ha hx => h _ (h3 a ha hx), h2.same fun a ha hx => h _ (h4 a ha hx), h3, h4⟩
  base := BaseOk drw
  bstab := fun f F w w' h ⟨A, n, c, y, e, h1, h2, h3, h4, h5⟩ => ⟨A, n, c, y, e, h1.same fun hn a ha => h _ (h4 hn a ha), h2, h3, h4, h5⟩
  bcode := fun f F w ⟨A, n, c, y, e, h1, h2, h3, h4, h5⟩ => ⟨A, n, c, by rw [e]; rfl, h3⟩

/-- A fraction. -/
def rat (j : Nat) : S := .agg [.cell j 0, .cell j 1, .cell j 2]

theorem rat_val {val : Nat → RatD} {drw : Nat → Nat → Option Nat} {E : Env} {w : World} (hg : GI (toks val drw) E w) {j : Nat} {v : Value} (hr : RelS E (rat j) v) : RatV w v (val j) := by
  obtain ⟨arr, rfl, h⟩ := hr
  match hl : arr.toList, h with
  | [a, b, c], ⟨⟨cs, h1, h2, _⟩, ⟨cs', h1', h2', _⟩, ⟨cs'', h1'', h2'', _⟩, _⟩ =>
    rw [h1] at h1' h1''
    injection h1' with e1; injection h1'' with e2
    subst e1; subst e2
    obtain ⟨F, _, A, c1, B, d, e, hb, ra, rb, _⟩ := hg.tok j cs h1
    subst e
    simp at h2 h2' h2''
    have : arr = #[.bool (val j).neg, .slice A (val j).mag.length c1, .slice B (val j).den.length d] := by
      apply Array.toList_inj.1
      rw [hl, ← h2, ← h2', ← h2'']
    rw [this]
    exact ⟨A, c1, B, d, rfl, hb, ra, rb⟩
  | [], h => exact h.elim
  | [_], h => exact h.2.elim
  | [_, _], h => exact h.2.2.elim
  | _ :: _ :: _ :: _ :: _, h => exact h.2.2.2.elim

section
variable {K : Toks} {E : Env} {w u : World} {st : St}

/-- A call that makes memory only. -/
theorem out_below {v : V} {x : Value} {rd : Option (List Nat)} (hg : GI K E w) (hb : Below w.heap.size w u) (hv : RelV E v x) : Out K E w st ⟨v, st, [], rd⟩ E u x := by
  refine ⟨⟨.refl E, fun k h => absurd rfl h, fun j h => absurd rfl h, hb.os, hb.tape, hb.output, hb.size, fun b hlt _ => hb.block b hlt, fun k p s h1 h2 => by have : k < st.nb := h2; omega, ?_⟩, hv,
    fun k b hk => ?_, fun k k' b b' p s s' hk => ?_⟩
  · exact gi_grow hg rfl rfl (fun k p s hk => Nat.lt_of_lt_of_le (hg.low k p s hk) hb.size) hb.size (fun k p s hk _ => ⟨k, s, hk⟩) (fun b hlt _ => hb.block b hlt)
  · rcases hk with hk | hk
    · simp at hk
    · have : k < st.nb := hk.2
      omega
  · rcases hk with hk | hk
    · simp at hk
    · have : k < st.nb := hk.2
      omega

def addT (E : Env) (j : Nat) (cs : Array Value) : Env := { E with sig := fun i => if i = j then some cs else E.sig i }

theorem ro_fresh {base : Nat} {A : Option Addr} {n c : Nat} {xs : List Int} (h : RO w base (.slice A n c) xs) : xs ≠ [] → ∀ a, A = some a → base ≤ a.block ∧ a.block < w.heap.size := by
  intro hx a ha
  have hr := h.reads hx
  obtain ⟨A', c', he, _, _, h2⟩ := h
  injection he with e1 e2 e3
  obtain ⟨g, e, hb, _⟩ := h2 hx
  obtain ⟨b, o, e', hlt, _⟩ := hr
  rw [ha] at e1 e'
  injection e' with e'
  rw [← e1] at e
  injection e with e
  subst e'
  injection e with e _
  subst e
  exact ⟨hb, hlt⟩

/-- A call that makes a fraction. -/
theorem out_token {val : Nat → RatD} {drw : Nat → Nat → Option Nat} {x : Value} {rd : Option (List Nat)} (hg : GI (toks val drw) E w) (hb : Below w.heap.size w u) (hn : E.sig st.nt = none) (hr : RatP u w.heap.size x (val st.nt)) :
    ∃ F, Out (toks val drw) E w st ⟨.s (rat st.nt), ⟨st.mem, st.nb, st.nt + 1⟩, [], rd⟩ F u x := by
  obtain ⟨va, vb, rfl, h1, h2, _⟩ := hr
  obtain ⟨A, c, rfl, hl, hc, _⟩ := id h1
  obtain ⟨B, d, rfl, hm, hd, _⟩ := id h2
  have f1 := ro_fresh h1
  have f2 := ro_fresh h2
  let cs : Array Value := #[.bool (val st.nt).neg, .slice A (val st.nt).mag.length c, .slice B (val st.nt).den.length d]
  have hsame : (addT E st.nt cs).sig st.nt = some cs := by simp [addT]
  have hle : E.le (addT E st.nt cs) := by
    refine ⟨fun _ _ h => h, fun j v hj => ?_, rfl⟩
    have : j ≠ st.nt := fun e => by rw [e, hn] at hj; cases hj
    simp [addT, this, hj]
  refine ⟨addT E st.nt cs, ⟨hle, fun k h => absurd rfl h, fun j hj => ?_, hb.os, hb.tape, hb.output, hb.size, fun b hlt _ => hb.block b hlt, fun k p s h1 h2 => by have : k < st.nb := h2; omega, ?_⟩, ?_, fun k b hk => ?_, fun k k' b b' p s s' hk => ?_⟩
  · by_cases e : j = st.nt
    · subst e; exact ⟨Nat.le_refl _, Nat.lt_succ_self _⟩
    · exact absurd (by simp [addT, e]) hj
  · have hbase : ∃ F, (∀ b ∈ F, b < u.heap.size ∧ ∀ k s, (addT E st.nt cs).rho k ≠ some (b, s)) ∧ (toks val drw).base (addT E st.nt cs).fix F u := by
      obtain ⟨G, hG, hB⟩ := hg.base
      exact ⟨G, fun b hbm => ⟨Nat.lt_of_lt_of_le (hG b hbm).1 hb.size, (hG b hbm).2⟩, (toks val drw).bstab _ G w u (fun b hbm => hb.block b (hG b hbm).1) hB⟩
    refine ⟨fun k p s hk => Nat.lt_of_lt_of_le (hg.low k p s hk) hb.size, fun j cs' hj => ?_, hbase⟩
    by_cases e : j = st.nt
    · subst e
      rw [hsame] at hj
      injection hj with hj
      subst hj
      refine ⟨(match A with | some a => if (val st.nt).mag = [] then [] else [a.block] | none => []) ++ (match B with | some b => if (val st.nt).den = [] then [] else [b.block] | none => []), fun b hbm => ?_, A, c, B, d, rfl, ⟨hl, hc, hm, hd⟩, h1.reads, h2.reads, fun a ha hx => ?_, fun a ha hx => ?_⟩
      · have key : w.heap.size ≤ b ∧ b < u.heap.size := by
          rcases List.mem_append.1 hbm with hbm | hbm
          · cases A with
            | none => simp at hbm
            | some a =>
              by_cases hx : (val st.nt).mag = []
              · simp [hx] at hbm
              · simp [hx] at hbm
                subst hbm
                exact f1 hx a rfl
          · cases B with
            | none => simp at hbm
            | some a =>
              by_cases hx : (val st.nt).den = []
              · simp [hx] at hbm
              · simp [hx] at hbm
                subst hbm
                exact f2 hx a rfl
        exact ⟨key.2, fun k s hk => by have := hg.low k b s hk; omega⟩
      · subst ha; simp [hx]
      · subst ha; simp [hx]
    · have hj' : E.sig j = some cs' := by simpa [addT, e] using hj
      obtain ⟨G, hG, hT⟩ := hg.tok j cs' hj'
      exact ⟨G, fun b hbm => ⟨Nat.lt_of_lt_of_le (hG b hbm).1 hb.size, (hG b hbm).2⟩, (toks val drw).stab j G w u cs' (fun b hbm => hb.block b (hG b hbm).1) hT⟩
  · refine ⟨cs, rfl, ⟨cs, hsame, rfl, ?_, ?_⟩, ⟨cs, hsame, rfl, ?_, ?_⟩, ⟨cs, hsame, rfl, ?_, ?_⟩, trivial⟩ <;> simp
  · rcases hk with hk | hk
    · simp at hk
    · have : k < st.nb := hk.2
      have : st.nb ≤ k := hk.1
      omega
  · rcases hk with hk | hk
    · simp at hk
    · have : k < st.nb := hk.2
      have : st.nb ≤ k := hk.1
      omega

end
end Go.Proofs.YtpaabengkidefaaGreat

namespace Go.Proofs.YtpaabengkidefaaGreat
open Go.RowKit

set_option maxHeartbeats 400000 in
theorem sTrim_any (xs : List Int) (n c : Nat) (hn : xs.length = n) (hn1 : n ≤ 1073741824) (hnc : n ≤ c) (A : Option Addr) (w : World) (ha : RI w A xs) :
    Calls Tryz.prog 277 #[.slice A n c] w fun e w' => e = .returned (.slice A (FE.trim xs).length c) ∧ w' = w := by
  go_enter Tryz.func277, Tryz.ntmps277
  go_wp2_with fail
  go_loop [3] (fun v => ∃ k : Nat, k ≤ n ∧ v = .int .i64 k ∧ FE.trim xs = FE.trim (xs.take k)) (fun v => (intOf v).toNat)
  case atStart => exact ⟨n, Nat.le_refl _, rfl, by rw [List.take_of_length_le (by omega)]⟩
  case round =>
    obtain ⟨k, hk, rfl, ht⟩ := hrel
    have HT := Lib.hid ht; clear ht
    by_cases hk0 : k = 0
    · subst hk0
      have h0 : decide ((0 : Int) < ((0 : Nat) : Int)) = false := by simp
      go_wp2
      go_ret
      exact ⟨by rw [HT.out]; rfl, rfl⟩
    · obtain ⟨j, rfl⟩ : ∃ j, k = j + 1 := ⟨k - 1, by omega⟩
      obtain ⟨b, o, rfl, hb, hc⟩ := ha (by intro h; subst h; simp at hn; omega)
      have e1 := hc j (by omega)
      clear hc
      have h0 : (0 : Int) < ((j + 1 : Nat) : Int) := by omega
      by_cases hx : xs.getD j 0 = 0
      · have hz := trim_zero xs j (by omega) hx
        have HZ := Lib.hid hz; clear hz
        rw [hx] at e1
        clear hx
        go_wp2
        go_round
        case rel => exact ⟨j, by omega, by go_num, by rw [HT.out]; exact HZ.out⟩
        case measure => simp [intOf]
      · have hz := trim_ne xs j (by omega) hx
        have HZ := Lib.hid hz; clear hz
        generalize xs.getD j 0 = x at *
        have hx0 : (x == 0) = false := by simpa using hx
        have HX := Lib.hid hx; clear hx
        go_wp2
        go_ret
        exact ⟨by rw [HT.out, HZ.out]; rfl, rfl⟩

set_option maxRecDepth 100000 in
set_option maxHeartbeats 800000 in
theorem sNatOf_any (N : Nat) (hN : N ≤ 4611686018427387904) (w : World) :
    Calls Tryz.prog 256 #[.int .i64 N] w fun e w' => ∃ v, e = .returned v ∧ RO w' w.heap.size v (FE.toL N) ∧ Below w.heap.size w w' := by
  go_enter Tryz.func256, Tryz.ntmps256
  go_wp2_with fail
  go_loopw [0, 3] (fun r v wr => ∃ (q : Nat) (zs : List Int), q ≤ N ∧ r = .int .i64 q ∧ 1000000000 ^ zs.length * q ≤ N ∧ FE.toL N = zs ++ FE.toL q ∧ OI wr w.heap.size v zs ∧ Below w.heap.size w wr) (fun r _ _ => (intOf r).toNat)
  case atStart => exact ⟨N, [], Nat.le_refl _, rfl, by simp, by simp, OI.of_arr (g := w.heap.size) (cap := 0) ⟨[], rfl, Nat.zero_le _, heap_alloc_new _ _⟩ (Nat.le_refl _), (Below.refl _ _).alloc (Nat.le_refl _) _⟩
  case round =>
    obtain ⟨q, zs, hq, rfl, hl1, hL, hown, hbel⟩ := hrel
    have HL := Lib.hid hL; clear hL
    by_cases hq0 : q = 0
    · subst hq0
      go_wp2
      go_ret
      exact ⟨_, rfl, RO.of_own (by rw [HL.out, FE.toL_zero, List.append_nil]; exact hown), hbel⟩
    · have hlen := natOf_len hq0 hl1 hN
      have HL1 := Lib.hid hl1; clear hl1
      go_wp2_with (at_builtin; refine append1 rfl _ _ _ rfl Tryz.underlying28 Tryz.intInfo w.heap.size _ zs rfl (hown.alloc _) ⟨wr.heap.size, 0, none⟩ _ rfl (cell_new1 _ _ _) (by omega) (by have := hbel.size; simp; omega) ?_)
      intro v' w1 hown1 hb1'
      go_wp2
      go_roundw
      case rel => exact ⟨q / 1000000000, zs ++ [((q % 1000000000 : Nat) : Int)], by omega, by go_num, natOf_step HL1.out, by rw [HL.out]; exact toL_step zs q hq0, by simpa using hown1, (hbel.alloc hbel.size _).trans hb1'⟩
      case measure => simp [intOf]; omega

end Go.Proofs.YtpaabengkidefaaGreat

namespace Go.Proofs.YtpaabengkidefaaGreat
open Go.RowKit

end Go.Proofs.YtpaabengkidefaaGreat

namespace Go.Proofs.YtpaabengkidefaaGreat
open Go.RowKit

end Go.Proofs.YtpaabengkidefaaGreat

namespace Go.Proofs.YtpaabengkidefaaGreat
open Go.RowKit

theorem OI.form {w : World} {base : Nat} {v : Value} {xs : List Int} (h : OI w base v xs) : ∃ A c, v = .slice A xs.length c ∧ xs.length ≤ c ∧ RI w A xs ∧ RO w base (.slice A (FE.trim xs).length c) (FE.trim xs) := by
  have hro := RO.of_own h
  obtain ⟨A, c, rfl, h1, h2, h3⟩ := hro
  refine ⟨A, c, rfl, h1, RO.reads (RO.of_own h), A, c, rfl, ?_, h2, fun hx => ?_⟩
  · have := trim_len xs; omega
  · obtain ⟨g, e, hg, ha⟩ := h3 (by intro e; subst e; exact hx rfl)
    refine ⟨g, e, hg, ?_⟩
    rw [trim_take xs]
    exact ha.cut _

end Go.Proofs.YtpaabengkidefaaGreat

namespace Go.Proofs.YtpaabengkidefaaGreat
open Go.RowKit

end Go.Proofs.YtpaabengkidefaaGreat

namespace Go.Proofs.YtpaabengkidefaaGreat
open Go.RowKit

end Go.Proofs.YtpaabengkidefaaGreat

namespace Go.Proofs.YtpaabengkidefaaGreat
open Go.RowKit

end Go.Proofs.YtpaabengkidefaaGreat

namespace Go.Proofs.YtpaabengkidefaaGreat
open Go.RowKit Go.Joins

/-- A slice that reads as a list of ints. -/
def RV (w : World) (v : Value) (xs : List Int) : Prop := ∃ A c, v = .slice A xs.length c ∧ xs.length ≤ c ∧ c ≤ maxLen ∧ RI w A xs
theorem RO.cap {w : World} {base n c : Nat} {A : Option Addr} {xs : List Int} (h : RO w base (.slice A n c) xs) : c ≤ maxLen := by
  obtain ⟨A', c', he, _, h2, _⟩ := h
  injection he with _ _ he
  omega
theorem RO.rv {w : World} {base : Nat} {v : Value} {xs : List Int} (h : RO w base v xs) : RV w v xs := by
  obtain ⟨A, c, rfl, hl, hc, _⟩ := id h
  exact ⟨A, c, rfl, hl, hc, h.reads⟩

end Go.Proofs.YtpaabengkidefaaGreat

namespace Go.Proofs.YtpaabengkidefaaGreat
open Go.RowKit Go.Joins

end Go.Proofs.YtpaabengkidefaaGreat

namespace Go.Proofs.YtpaabengkidefaaGreat
open Go.RowKit Go.Joins

theorem AnyK.far {w : World} {g k : Nat} (h : AnyK w g k) {p : Addr} (hp : p.block ≠ g) (u : Value) : AnyK (w.setCell p u) g k := by
  obtain ⟨cs, hl, h⟩ := h
  exact ⟨cs, hl, h.far hp u⟩

end Go.Proofs.YtpaabengkidefaaGreat

namespace Go.Proofs.YtpaabengkidefaaGreat
open Go.RowKit Go.Joins

end Go.Proofs.YtpaabengkidefaaGreat

namespace Go.Proofs.YtpaabengkidefaaGreat
open Go.RowKit Go.Joins

theorem trim_toL (p : Nat) : FE.trim (FE.toL p) = FE.toL p := FE.trim_eq (FE.toL_dig p) (FE.val_toL p)
set_option maxHeartbeats 400000 in
theorem sCap (p : Nat) (n c : Nat) (hn : (FE.toL p).length = n) (hn1 : n ≤ 60) (hnc : n ≤ c) (A : Option Addr) (w : World) (ha : RI w A (FE.toL p)) :
    Calls Tryz.prog 281 #[.slice A n c] w fun e w' => e = .returned (.slice A n c) ∧ w = w' := by
  have H := sTrim_any (FE.toL p) n c hn (by omega) hnc A w ha
  rw [trim_toL, hn] at H
  replace H := Lib.hid H
  clear ha hn
  go_enter Tryz.func281, Tryz.ntmps281
  go_wp2_with fail
  refine H.out.mono ?_
  rintro e w1 ⟨rfl, hw⟩
  subst w1
  go_wp2
  go_ret
  exact ⟨rfl, rfl⟩

def sgB (s : Bool) (n : Nat) : Bool := s && decide (n ≠ 0)
theorem sgB_toL (s : Bool) (n : Nat) : sgB s (FE.toL n).length = (s && decide (n ≠ 0)) := by
  unfold sgB
  congr 1
  rw [Bool.eq_iff_iff]
  simp only [decide_eq_true_eq, ne_eq, List.length_eq_zero_iff, FE.toL_eq_nil]
theorem Slots.newF {w w1 : World} {C : Array Value} {t : TypeId} (h : w.alloc (.cells C t) = w1) {g : Nat} (hg : g = w.heap.size) : Slots w1 g C.toList := by
  subst h
  exact Slots.new (Below.refl _ _) hg
set_option maxRecDepth 100000 in
set_option maxHeartbeats 1600000 in
theorem sMake_at (s : Bool) (xs : List Int) (n c : Nat) (hn : xs.length = n) (hn1 : n ≤ 60) (A : Option Addr) (w : World) (ha : RI w A xs)
    (H0 : ∀ o, Calls Tryz.prog 281 #[.slice A n c] (w.alloc o) fun e w' => e = .returned (.slice A n c) ∧ w.alloc o = w') :
    Calls Tryz.prog 255 #[.bool s, .slice A n c] w fun e w' => ∃ v, e = .returned v ∧ BigO w' w.heap.size v (sgB s n) xs ∧ Below w.heap.size w w' := by
  have H1 := Lib.hid H0
  clear H0
  have HN := Lib.hid hn; clear hn
  go_enter Tryz.func255, Tryz.ntmps255
  go_wp2_with fail
  refine (H1.out _).mono ?_
  rintro e w1 ⟨rfl, hw⟩
  have hb1 : Below w.heap.size w w1 := by rw [← hw]; exact below_alloc1 _ _
  have S0 := Slots.newF hw rfl
  have ha1 := ha.later hb1
  clear hw ha
  go_wp2_with (at_builtin; refine appendAll rfl _ _ _ rfl Tryz.underlying28 Tryz.intInfo w1.heap.size _ [] rfl (OI.of_arr (g := w1.heap.size) (cap := 0) ⟨[], rfl, Nat.zero_le _, heap_alloc_new _ _⟩ (Nat.le_refl _)) A xs n c rfl HN.out (ha1.alloc _) (by simp; omega) (by simp) ?_; intro v2 w2 ho2 hb2; have hb2' := (below_alloc1 w1 (.cells #[] 3)).trans hb2; have ho2' := RO.of_own (by simpa using ho2); obtain ⟨A2, c2, rfl, _⟩ := id ho2'; have S2 := S0.later hb2'; obtain ⟨t0, t1, y0, y1⟩ := S2.k2; clear ho2)
  all_goals rename_i hs _
  · have hB : decide (0 < n) = sgB s n := by
      simp [sgB, hs, Nat.pos_iff_ne_zero]
    have S3 : Slots ((w2.setCell ⟨w.heap.size, 0, none⟩ (.bool (decide (0 < n)))).setCell ⟨w.heap.size, 1, none⟩ (.slice A2 xs.length c2)) w.heap.size [.bool (decide (0 < n)), .slice A2 xs.length c2] := (S2.set 0 (by decide) _).set 1 (by show 1 < 2; decide) _
    obtain ⟨q0, q1, _, _⟩ := S3.k2
    have f := (ho2'.far (p := ⟨w.heap.size, 0, none⟩) S0.1 (.bool (decide (0 < n)))).far (p := ⟨w.heap.size, 1, none⟩) S0.1 (.slice A2 xs.length c2)
    have hb := ((hb1.trans (below_le hb2' hb1.size)).setCell (p := ⟨w.heap.size, 0, none⟩) (Nat.le_refl _) (.bool (decide (0 < n)))).setCell (p := ⟨w.heap.size, 1, none⟩) (Nat.le_refl _) (.slice A2 xs.length c2)
    refine bodyPost_ret (v := .agg #[.bool (decide (0 < n)), .slice A2 xs.length c2]) (by simp [results, Tryz.results255, go_sem, q0, q1]) rfl ⟨_, rfl, ?_, hb⟩
    rw [← hB]
    exact ⟨_, rfl, f.mono hb1.size⟩
  · have hB : false = sgB s n := by
      simp [sgB, hs]
    have S3 : Slots ((w2.setCell ⟨w.heap.size, 0, none⟩ (.bool (false))).setCell ⟨w.heap.size, 1, none⟩ (.slice A2 xs.length c2)) w.heap.size [.bool (false), .slice A2 xs.length c2] := (S2.set 0 (by decide) _).set 1 (by show 1 < 2; decide) _
    obtain ⟨q0, q1, _, _⟩ := S3.k2
    have f := (ho2'.far (p := ⟨w.heap.size, 0, none⟩) S0.1 (.bool (false))).far (p := ⟨w.heap.size, 1, none⟩) S0.1 (.slice A2 xs.length c2)
    have hb := ((hb1.trans (below_le hb2' hb1.size)).setCell (p := ⟨w.heap.size, 0, none⟩) (Nat.le_refl _) (.bool (false))).setCell (p := ⟨w.heap.size, 1, none⟩) (Nat.le_refl _) (.slice A2 xs.length c2)
    refine bodyPost_ret (v := .agg #[.bool (false), .slice A2 xs.length c2]) (by simp [results, Tryz.results255, go_sem, q0, q1]) rfl ⟨_, rfl, ?_, hb⟩
    rw [← hB]
    exact ⟨_, rfl, f.mono hb1.size⟩
theorem sMake (s : Bool) (p : Nat) (n c : Nat) (hn : (FE.toL p).length = n) (hn1 : n ≤ 60) (hnc : n ≤ c) (A : Option Addr) (w : World) (ha : RI w A (FE.toL p)) :
    Calls Tryz.prog 255 #[.bool s, .slice A n c] w fun e w' => ∃ v, e = .returned v ∧ BigO w' w.heap.size v (s && decide (p ≠ 0)) (FE.toL p) ∧ Below w.heap.size w w' := by
  have h := sMake_at s (FE.toL p) n c hn hn1 A w ha (fun o => sCap p n c hn hn1 hnc A (w.alloc o) (ha.alloc o))
  rw [← hn, sgB_toL, hn] at h
  exact h
end Go.Proofs.YtpaabengkidefaaGreat

namespace Go.Proofs.YtpaabengkidefaaGreat
open Go.RowKit Go.Joins

end Go.Proofs.YtpaabengkidefaaGreat

namespace Go.Proofs.YtpaabengkidefaaGreat
open Go.RowKit

end Go.Proofs.YtpaabengkidefaaGreat

namespace Go.Proofs.YtpaabengkidefaaGreat
open Go.RowKit

end Go.Proofs.YtpaabengkidefaaGreat

namespace Go.Proofs.YtpaabengkidefaaGreat
open Go.RowKit

end Go.Proofs.YtpaabengkidefaaGreat

namespace Go.Proofs.YtpaabengkidefaaGreat
open Go.RowKit Go.Joins

end Go.Proofs.YtpaabengkidefaaGreat

namespace Go.Proofs.YtpaabengkidefaaGreat
open Go.RowKit Go.Joins

theorem RO.below {w w' : World} {base : Nat} {v : Value} {xs : List Int} (h : RO w base v xs) (hb : Below w.heap.size w w') : RO w' base v xs := h.later hb

end Go.Proofs.YtpaabengkidefaaGreat

namespace Go.Proofs.YtpaabengkidefaaGreat
open Go.RowKit Go.Joins

end Go.Proofs.YtpaabengkidefaaGreat

namespace Go.Proofs.YtpaabengkidefaaGreat
open Go.RowKit Go.Joins

end Go.Proofs.YtpaabengkidefaaGreat

namespace Go.Proofs.YtpaabengkidefaaGreat
open Go.RowKit Go.Joins

theorem below3 {w W : World} {B g : Nat} (h : Below B w W) (hg : B ≤ g) (x y z : Value) : Below B w (((W.setCell ⟨g, 0, none⟩ x).setCell ⟨g, 1, none⟩ y).setCell ⟨g, 2, none⟩ z) :=
  ((h.setCell (p := ⟨g, 0, none⟩) hg x).setCell (p := ⟨g, 1, none⟩) hg y).setCell (p := ⟨g, 2, none⟩) hg z

end Go.Proofs.YtpaabengkidefaaGreat

namespace Go.Proofs.YtpaabengkidefaaGreat
open Go.RowKit Go.Joins

theorem toL_small3 {k : Nat} (hk : k ≤ 4611686018427387904) : (FE.toL k).length ≤ 3 := (FE.toL_len_le k 3).2 (by
  rw [FE.bp_succ, FE.bp_succ, FE.bp_succ, FE.bp_zero]; omega)
set_option maxRecDepth 100000 in
set_option maxHeartbeats 1600000 in
theorem sBigIntOf_pos (N : Nat) (hN : N ≤ 4611686018427387904) (w : World) :
    Calls Tryz.prog 223 #[.int .i64 N] w fun e w' => ∃ v, e = .returned v ∧ BigO w' w.heap.size v false (FE.toL N) ∧ Below w.heap.size w w' := by
  have eqB : (false && decide (N ≠ 0)) = false := by simp
  have H1 := Lib.hid (fun W => sNatOf_any N hN W)
  have H2 := Lib.hid (fun (n c : Nat) (hn : (FE.toL N).length = n) (hn1 : n ≤ 60) (hnc : n ≤ c) A W (ha : RI W A (FE.toL N)) => (show _ from eqB ▸ sMake false N n c hn hn1 hnc A W ha : Calls Tryz.prog 255 #[.bool false, .slice A n c] W fun e w' => ∃ v, e = .returned v ∧ BigO w' W.heap.size v false (FE.toL N) ∧ Below W.heap.size W w'))
  have HL := Lib.hid (toL_small3 hN)
  clear eqB
  have e1 : ((N : Int) == -9223372036854775808) = false := by simp
  go_enter Tryz.func223, Tryz.ntmps223
  go_wp2_with fail
  refine (H1.out _).mono ?_
  rintro e w3 ⟨v3, rfl, hro3, hb3⟩
  have S1 := Slots.new hb3 (g := w.heap.size) rfl
  replace hb3 := below_step hb3
  replace hro3 := hro3.mono (base' := w.heap.size + 1) (by simp)
  obtain ⟨A3, c3, rfl, hl3, hm3, _⟩ := id hro3
  go_wp2_with fail
  refine (H2.out _ _ rfl (Nat.le_trans HL.out (by decide)) hl3 _ _ hro3.reads).mono ?_
  rintro e w4 ⟨v4, rfl, ho4, hb4⟩
  have hsz : w.heap.size < w3.heap.size := S1.1
  replace S1 := S1.later hb4
  replace hb3 := below_trans hb3 hb4
  obtain ⟨va4, rfl, hr4⟩ := ho4
  obtain ⟨b0, b1, z0, z1⟩ := S1.k2
  have hb := (hb3.setCell (p := ⟨w.heap.size, 0, none⟩) (Nat.le_refl _) (.bool false)).setCell (p := ⟨w.heap.size, 1, none⟩) (Nat.le_refl _) va4
  have f4 := (hr4.far (p := ⟨w.heap.size, 0, none⟩) hsz (.bool false)).far (p := ⟨w.heap.size, 1, none⟩) hsz va4
  obtain ⟨A4, c4, rfl, _⟩ := id hr4
  go_wp2
  refine bodyPost_ret (v := .agg #[.bool false, .slice A4 (FE.toL N).length c4]) (by simp [results, Tryz.results223, go_sem, b0, b1]) rfl ⟨_, rfl, ⟨_, rfl, f4.mono (Nat.le_of_lt hsz)⟩, hb⟩
set_option maxRecDepth 100000 in
set_option maxHeartbeats 1600000 in
theorem sBigIntOf_m1 (w : World) :
    Calls Tryz.prog 223 #[.int .i64 (-1)] w fun e w' => ∃ v, e = .returned v ∧ BigO w' w.heap.size v true (FE.toL 1) ∧ Below w.heap.size w w' := by
  have eqB : (true && decide (1 ≠ 0)) = true := by decide
  have H1 := Lib.hid (fun W => sNatOf_any 1 (by decide) W)
  have H2 := Lib.hid (fun (n c : Nat) (hn : (FE.toL 1).length = n) (hn1 : n ≤ 60) (hnc : n ≤ c) A W (ha : RI W A (FE.toL 1)) => (show _ from eqB ▸ sMake true 1 n c hn hn1 hnc A W ha : Calls Tryz.prog 255 #[.bool true, .slice A n c] W fun e w' => ∃ v, e = .returned v ∧ BigO w' W.heap.size v true (FE.toL 1) ∧ Below W.heap.size W w'))
  have HL := Lib.hid (toL_small3 (k := 1) (by decide))
  clear eqB
  generalize FE.toL 1 = L at *
  go_enter Tryz.func223, Tryz.ntmps223
  go_wp2_with fail
  refine (H1.out _).mono ?_
  rintro e w3 ⟨v3, rfl, hro3, hb3⟩
  have S1 := Slots.new hb3 (g := w.heap.size) rfl
  replace hb3 := below_step hb3
  replace hro3 := hro3.mono (base' := w.heap.size + 1) (by simp)
  obtain ⟨A3, c3, rfl, hl3, hm3, _⟩ := id hro3
  go_wp2_with fail
  refine (H2.out _ _ rfl (Nat.le_trans HL.out (by decide)) hl3 _ _ hro3.reads).mono ?_
  rintro e w4 ⟨v4, rfl, ho4, hb4⟩
  have hsz : w.heap.size < w3.heap.size := S1.1
  replace S1 := S1.later hb4
  replace hb3 := below_trans hb3 hb4
  obtain ⟨va4, rfl, hr4⟩ := ho4
  obtain ⟨b0, b1, z0, z1⟩ := S1.k2
  have hb := (hb3.setCell (p := ⟨w.heap.size, 0, none⟩) (Nat.le_refl _) (.bool true)).setCell (p := ⟨w.heap.size, 1, none⟩) (Nat.le_refl _) va4
  have f4 := (hr4.far (p := ⟨w.heap.size, 0, none⟩) hsz (.bool true)).far (p := ⟨w.heap.size, 1, none⟩) hsz va4
  obtain ⟨A4, c4, rfl, _⟩ := id hr4
  go_wp2
  refine bodyPost_ret (v := .agg #[.bool true, .slice A4 L.length c4]) (by simp [results, Tryz.results223, go_sem, b0, b1]) rfl ⟨_, rfl, ⟨_, rfl, f4.mono (Nat.le_of_lt hsz)⟩, hb⟩

set_option maxRecDepth 100000 in
set_option maxHeartbeats 1600000 in
/-- An int as a fraction, once it is a signed number. -/
theorem sRatFromInt_at (n : Int) (s : Bool) (xs : List Int) (H0 : ∀ W, Calls Tryz.prog 223 #[.int .i64 n] W fun e w' => ∃ v, e = .returned v ∧ BigO w' W.heap.size v s xs ∧ Below W.heap.size W w') (w : World) :
    Calls Tryz.prog 191 #[.int .i64 n] w fun e w' => ∃ v, e = .returned v ∧ RatP w' w.heap.size v ⟨s, xs, [1]⟩ ∧ Below w.heap.size w w' := by
  have H1 := Lib.hid H0
  clear H0
  go_enter Tryz.func191, Tryz.ntmps191
  go_wp2_with fail
  refine (H1.out _).mono ?_
  rintro e w3 ⟨v3, rfl, ⟨va, rfl, hr3⟩, hb3⟩
  have S1 := Slots.new hb3 (g := w.heap.size) rfl
  replace hb3 := below_step hb3
  have hsz : w.heap.size < w3.heap.size := S1.1
  replace hr3 := hr3.mono (base' := w.heap.size + 1) (by simp)
  obtain ⟨A3, c3, rfl, _⟩ := id hr3
  obtain ⟨b0, b1, b2, z0, z1, z2⟩ := Slots.c3 S1
  go_wp2
  have S2 : Slots (((w3.setCell ⟨w.heap.size, 0, none⟩ (.bool s)).setCell ⟨w.heap.size, 1, none⟩ (.slice A3 xs.length c3)).setCell ⟨w.heap.size, 2, none⟩ (.slice (some ⟨w3.heap.size, 0, none⟩) 1 1)) w.heap.size [.bool s, .slice A3 xs.length c3, .slice (some ⟨w3.heap.size, 0, none⟩) 1 1] :=
    ((S1.set 0 (by decide) _).set 1 (by show 1 < 3; decide) _).set 2 (by show 2 < 3; decide) _
  have hb := below3 hb3 (Nat.le_refl w.heap.size) (.bool s) (.slice A3 xs.length c3) (.slice (some ⟨w3.heap.size, 0, none⟩) 1 1)
  have f3 := ((hr3.far (p := ⟨w.heap.size, 0, none⟩) (Nat.lt_succ_self _) (.bool s)).far (p := ⟨w.heap.size, 1, none⟩) (Nat.lt_succ_self _) (.slice A3 xs.length c3)).far (p := ⟨w.heap.size, 2, none⟩) (Nat.lt_succ_self _) (.slice (some ⟨w3.heap.size, 0, none⟩) 1 1)
  have hX : (((w3.setCell ⟨w.heap.size, 0, none⟩ (.bool s)).setCell ⟨w.heap.size, 1, none⟩ (.slice A3 xs.length c3)).setCell ⟨w.heap.size, 2, none⟩ (.slice (some ⟨w3.heap.size, 0, none⟩) 1 1)).heap.size = w3.heap.size := by simp
  generalize ((w3.setCell ⟨w.heap.size, 0, none⟩ (.bool s)).setCell ⟨w.heap.size, 1, none⟩ (.slice A3 xs.length c3)).setCell ⟨w.heap.size, 2, none⟩ (.slice (some ⟨w3.heap.size, 0, none⟩) 1 1) = X at *
  have hA : Arr (X.alloc (.cells #[.int .i64 1] 3)) w3.heap.size 1 [1] := ⟨[], rfl, by decide, by rw [← hX]; exact heap_alloc_new _ _⟩
  have hr4 := RO.of_own (OI.of_arr hA (Nat.le_refl _))
  have hap := apart_of hr3 hr4 (Nat.le_refl _)
  obtain ⟨q0, q1, q2, _⟩ := Slots.c3 (S2.later (below_alloc1 X (.cells #[.int .i64 1] 3)))
  have hb4 := hb.trans (below_le (below_alloc1 X (.cells #[.int .i64 1] 3)) hb.size)
  refine bodyPost_ret (v := .agg #[.bool s, .slice A3 xs.length c3, .slice (some ⟨w3.heap.size, 0, none⟩) 1 1]) (by simp only [results, Tryz.results191]; simp [go_sem, q0, q1, q2]) rfl
    ⟨_, rfl, ⟨_, _, rfl, (f3.later (below_alloc1 X _)).mono (by omega), hr4.mono (by omega), hap⟩, hb4⟩
end Go.Proofs.YtpaabengkidefaaGreat

namespace Go.Proofs.YtpaabengkidefaaGreat
open Go.RowKit Go.Joins

end Go.Proofs.YtpaabengkidefaaGreat

namespace Go.Proofs.YtpaabengkidefaaGreat
open Go.RowKit Go.Joins

end Go.Proofs.YtpaabengkidefaaGreat

namespace Go.Proofs.YtpaabengkidefaaGreat
open Go.RowKit Go.Joins

end Go.Proofs.YtpaabengkidefaaGreat

namespace Go.Proofs.YtpaabengkidefaaGreat
open Go.RowKit Go.Joins

end Go.Proofs.YtpaabengkidefaaGreat

namespace Go.Proofs.YtpaabengkidefaaGreat
open Go.RowKit Go.Joins

end Go.Proofs.YtpaabengkidefaaGreat

namespace Go.Proofs.YtpaabengkidefaaGreat
open Go.RowKit Go.Joins

theorem low_zero (s : Bool) (p : Nat) : FE.low s p 0 = zR := if_pos rfl
end Go.Proofs.YtpaabengkidefaaGreat

namespace Go.Proofs.YtpaabengkidefaaGreat
open Go.RowKit Go.Joins

set_option maxRecDepth 100000 in
set_option maxHeartbeats 1600000 in
theorem sBigIntOf_m2 (w : World) :
    Calls Tryz.prog 223 #[.int .i64 (-2)] w fun e w' => ∃ v, e = .returned v ∧ BigO w' w.heap.size v true (FE.toL 2) ∧ Below w.heap.size w w' := by
  have eqB : (true && decide (2 ≠ 0)) = true := by decide
  have H1 := Lib.hid (fun W => sNatOf_any 2 (by decide) W)
  have H2 := Lib.hid (fun (n c : Nat) (hn : (FE.toL 2).length = n) (hn1 : n ≤ 60) (hnc : n ≤ c) A W (ha : RI W A (FE.toL 2)) => (show _ from eqB ▸ sMake true 2 n c hn hn1 hnc A W ha : Calls Tryz.prog 255 #[.bool true, .slice A n c] W fun e w' => ∃ v, e = .returned v ∧ BigO w' W.heap.size v true (FE.toL 2) ∧ Below W.heap.size W w'))
  have HL := Lib.hid (toL_small3 (k := 2) (by decide))
  clear eqB
  generalize FE.toL 2 = L at *
  go_enter Tryz.func223, Tryz.ntmps223
  go_wp2_with fail
  refine (H1.out _).mono ?_
  rintro e w3 ⟨v3, rfl, hro3, hb3⟩
  have S1 := Slots.new hb3 (g := w.heap.size) rfl
  replace hb3 := below_step hb3
  replace hro3 := hro3.mono (base' := w.heap.size + 1) (by simp)
  obtain ⟨A3, c3, rfl, hl3, hm3, _⟩ := id hro3
  go_wp2_with fail
  refine (H2.out _ _ rfl (Nat.le_trans HL.out (by decide)) hl3 _ _ hro3.reads).mono ?_
  rintro e w4 ⟨v4, rfl, ho4, hb4⟩
  have hsz : w.heap.size < w3.heap.size := S1.1
  replace S1 := S1.later hb4
  replace hb3 := below_trans hb3 hb4
  obtain ⟨va4, rfl, hr4⟩ := ho4
  obtain ⟨b0, b1, z0, z1⟩ := S1.k2
  have hb := (hb3.setCell (p := ⟨w.heap.size, 0, none⟩) (Nat.le_refl _) (.bool true)).setCell (p := ⟨w.heap.size, 1, none⟩) (Nat.le_refl _) va4
  have f4 := (hr4.far (p := ⟨w.heap.size, 0, none⟩) hsz (.bool true)).far (p := ⟨w.heap.size, 1, none⟩) hsz va4
  obtain ⟨A4, c4, rfl, _⟩ := id hr4
  go_wp2
  refine bodyPost_ret (v := .agg #[.bool true, .slice A4 L.length c4]) (by simp [results, Tryz.results223, go_sem, b0, b1]) rfl ⟨_, rfl, ⟨_, rfl, f4.mono (Nat.le_of_lt hsz)⟩, hb⟩

set_option maxRecDepth 100000 in
set_option maxHeartbeats 1600000 in
theorem sBigIntOf_m3 (w : World) :
    Calls Tryz.prog 223 #[.int .i64 (-3)] w fun e w' => ∃ v, e = .returned v ∧ BigO w' w.heap.size v true (FE.toL 3) ∧ Below w.heap.size w w' := by
  have eqB : (true && decide (3 ≠ 0)) = true := by decide
  have H1 := Lib.hid (fun W => sNatOf_any 3 (by decide) W)
  have H2 := Lib.hid (fun (n c : Nat) (hn : (FE.toL 3).length = n) (hn1 : n ≤ 60) (hnc : n ≤ c) A W (ha : RI W A (FE.toL 3)) => (show _ from eqB ▸ sMake true 3 n c hn hn1 hnc A W ha : Calls Tryz.prog 255 #[.bool true, .slice A n c] W fun e w' => ∃ v, e = .returned v ∧ BigO w' W.heap.size v true (FE.toL 3) ∧ Below W.heap.size W w'))
  have HL := Lib.hid (toL_small3 (k := 3) (by decide))
  clear eqB
  generalize FE.toL 3 = L at *
  go_enter Tryz.func223, Tryz.ntmps223
  go_wp2_with fail
  refine (H1.out _).mono ?_
  rintro e w3 ⟨v3, rfl, hro3, hb3⟩
  have S1 := Slots.new hb3 (g := w.heap.size) rfl
  replace hb3 := below_step hb3
  replace hro3 := hro3.mono (base' := w.heap.size + 1) (by simp)
  obtain ⟨A3, c3, rfl, hl3, hm3, _⟩ := id hro3
  go_wp2_with fail
  refine (H2.out _ _ rfl (Nat.le_trans HL.out (by decide)) hl3 _ _ hro3.reads).mono ?_
  rintro e w4 ⟨v4, rfl, ho4, hb4⟩
  have hsz : w.heap.size < w3.heap.size := S1.1
  replace S1 := S1.later hb4
  replace hb3 := below_trans hb3 hb4
  obtain ⟨va4, rfl, hr4⟩ := ho4
  obtain ⟨b0, b1, z0, z1⟩ := S1.k2
  have hb := (hb3.setCell (p := ⟨w.heap.size, 0, none⟩) (Nat.le_refl _) (.bool true)).setCell (p := ⟨w.heap.size, 1, none⟩) (Nat.le_refl _) va4
  have f4 := (hr4.far (p := ⟨w.heap.size, 0, none⟩) hsz (.bool true)).far (p := ⟨w.heap.size, 1, none⟩) hsz va4
  obtain ⟨A4, c4, rfl, _⟩ := id hr4
  go_wp2
  refine bodyPost_ret (v := .agg #[.bool true, .slice A4 L.length c4]) (by simp [results, Tryz.results223, go_sem, b0, b1]) rfl ⟨_, rfl, ⟨_, rfl, f4.mono (Nat.le_of_lt hsz)⟩, hb⟩

set_option maxRecDepth 100000 in
set_option maxHeartbeats 1600000 in
theorem sBigIntOf_m4 (w : World) :
    Calls Tryz.prog 223 #[.int .i64 (-4)] w fun e w' => ∃ v, e = .returned v ∧ BigO w' w.heap.size v true (FE.toL 4) ∧ Below w.heap.size w w' := by
  have eqB : (true && decide (4 ≠ 0)) = true := by decide
  have H1 := Lib.hid (fun W => sNatOf_any 4 (by decide) W)
  have H2 := Lib.hid (fun (n c : Nat) (hn : (FE.toL 4).length = n) (hn1 : n ≤ 60) (hnc : n ≤ c) A W (ha : RI W A (FE.toL 4)) => (show _ from eqB ▸ sMake true 4 n c hn hn1 hnc A W ha : Calls Tryz.prog 255 #[.bool true, .slice A n c] W fun e w' => ∃ v, e = .returned v ∧ BigO w' W.heap.size v true (FE.toL 4) ∧ Below W.heap.size W w'))
  have HL := Lib.hid (toL_small3 (k := 4) (by decide))
  clear eqB
  generalize FE.toL 4 = L at *
  go_enter Tryz.func223, Tryz.ntmps223
  go_wp2_with fail
  refine (H1.out _).mono ?_
  rintro e w3 ⟨v3, rfl, hro3, hb3⟩
  have S1 := Slots.new hb3 (g := w.heap.size) rfl
  replace hb3 := below_step hb3
  replace hro3 := hro3.mono (base' := w.heap.size + 1) (by simp)
  obtain ⟨A3, c3, rfl, hl3, hm3, _⟩ := id hro3
  go_wp2_with fail
  refine (H2.out _ _ rfl (Nat.le_trans HL.out (by decide)) hl3 _ _ hro3.reads).mono ?_
  rintro e w4 ⟨v4, rfl, ho4, hb4⟩
  have hsz : w.heap.size < w3.heap.size := S1.1
  replace S1 := S1.later hb4
  replace hb3 := below_trans hb3 hb4
  obtain ⟨va4, rfl, hr4⟩ := ho4
  obtain ⟨b0, b1, z0, z1⟩ := S1.k2
  have hb := (hb3.setCell (p := ⟨w.heap.size, 0, none⟩) (Nat.le_refl _) (.bool true)).setCell (p := ⟨w.heap.size, 1, none⟩) (Nat.le_refl _) va4
  have f4 := (hr4.far (p := ⟨w.heap.size, 0, none⟩) hsz (.bool true)).far (p := ⟨w.heap.size, 1, none⟩) hsz va4
  obtain ⟨A4, c4, rfl, _⟩ := id hr4
  go_wp2
  refine bodyPost_ret (v := .agg #[.bool true, .slice A4 L.length c4]) (by simp [results, Tryz.results223, go_sem, b0, b1]) rfl ⟨_, rfl, ⟨_, rfl, f4.mono (Nat.le_of_lt hsz)⟩, hb⟩

set_option maxRecDepth 100000 in
set_option maxHeartbeats 1600000 in
theorem sBigIntOf_m5 (w : World) :
    Calls Tryz.prog 223 #[.int .i64 (-5)] w fun e w' => ∃ v, e = .returned v ∧ BigO w' w.heap.size v true (FE.toL 5) ∧ Below w.heap.size w w' := by
  have eqB : (true && decide (5 ≠ 0)) = true := by decide
  have H1 := Lib.hid (fun W => sNatOf_any 5 (by decide) W)
  have H2 := Lib.hid (fun (n c : Nat) (hn : (FE.toL 5).length = n) (hn1 : n ≤ 60) (hnc : n ≤ c) A W (ha : RI W A (FE.toL 5)) => (show _ from eqB ▸ sMake true 5 n c hn hn1 hnc A W ha : Calls Tryz.prog 255 #[.bool true, .slice A n c] W fun e w' => ∃ v, e = .returned v ∧ BigO w' W.heap.size v true (FE.toL 5) ∧ Below W.heap.size W w'))
  have HL := Lib.hid (toL_small3 (k := 5) (by decide))
  clear eqB
  generalize FE.toL 5 = L at *
  go_enter Tryz.func223, Tryz.ntmps223
  go_wp2_with fail
  refine (H1.out _).mono ?_
  rintro e w3 ⟨v3, rfl, hro3, hb3⟩
  have S1 := Slots.new hb3 (g := w.heap.size) rfl
  replace hb3 := below_step hb3
  replace hro3 := hro3.mono (base' := w.heap.size + 1) (by simp)
  obtain ⟨A3, c3, rfl, hl3, hm3, _⟩ := id hro3
  go_wp2_with fail
  refine (H2.out _ _ rfl (Nat.le_trans HL.out (by decide)) hl3 _ _ hro3.reads).mono ?_
  rintro e w4 ⟨v4, rfl, ho4, hb4⟩
  have hsz : w.heap.size < w3.heap.size := S1.1
  replace S1 := S1.later hb4
  replace hb3 := below_trans hb3 hb4
  obtain ⟨va4, rfl, hr4⟩ := ho4
  obtain ⟨b0, b1, z0, z1⟩ := S1.k2
  have hb := (hb3.setCell (p := ⟨w.heap.size, 0, none⟩) (Nat.le_refl _) (.bool true)).setCell (p := ⟨w.heap.size, 1, none⟩) (Nat.le_refl _) va4
  have f4 := (hr4.far (p := ⟨w.heap.size, 0, none⟩) hsz (.bool true)).far (p := ⟨w.heap.size, 1, none⟩) hsz va4
  obtain ⟨A4, c4, rfl, _⟩ := id hr4
  go_wp2
  refine bodyPost_ret (v := .agg #[.bool true, .slice A4 L.length c4]) (by simp [results, Tryz.results223, go_sem, b0, b1]) rfl ⟨_, rfl, ⟨_, rfl, f4.mono (Nat.le_of_lt hsz)⟩, hb⟩

set_option maxRecDepth 100000 in
set_option maxHeartbeats 1600000 in
theorem sBigIntOf_m6 (w : World) :
    Calls Tryz.prog 223 #[.int .i64 (-6)] w fun e w' => ∃ v, e = .returned v ∧ BigO w' w.heap.size v true (FE.toL 6) ∧ Below w.heap.size w w' := by
  have eqB : (true && decide (6 ≠ 0)) = true := by decide
  have H1 := Lib.hid (fun W => sNatOf_any 6 (by decide) W)
  have H2 := Lib.hid (fun (n c : Nat) (hn : (FE.toL 6).length = n) (hn1 : n ≤ 60) (hnc : n ≤ c) A W (ha : RI W A (FE.toL 6)) => (show _ from eqB ▸ sMake true 6 n c hn hn1 hnc A W ha : Calls Tryz.prog 255 #[.bool true, .slice A n c] W fun e w' => ∃ v, e = .returned v ∧ BigO w' W.heap.size v true (FE.toL 6) ∧ Below W.heap.size W w'))
  have HL := Lib.hid (toL_small3 (k := 6) (by decide))
  clear eqB
  generalize FE.toL 6 = L at *
  go_enter Tryz.func223, Tryz.ntmps223
  go_wp2_with fail
  refine (H1.out _).mono ?_
  rintro e w3 ⟨v3, rfl, hro3, hb3⟩
  have S1 := Slots.new hb3 (g := w.heap.size) rfl
  replace hb3 := below_step hb3
  replace hro3 := hro3.mono (base' := w.heap.size + 1) (by simp)
  obtain ⟨A3, c3, rfl, hl3, hm3, _⟩ := id hro3
  go_wp2_with fail
  refine (H2.out _ _ rfl (Nat.le_trans HL.out (by decide)) hl3 _ _ hro3.reads).mono ?_
  rintro e w4 ⟨v4, rfl, ho4, hb4⟩
  have hsz : w.heap.size < w3.heap.size := S1.1
  replace S1 := S1.later hb4
  replace hb3 := below_trans hb3 hb4
  obtain ⟨va4, rfl, hr4⟩ := ho4
  obtain ⟨b0, b1, z0, z1⟩ := S1.k2
  have hb := (hb3.setCell (p := ⟨w.heap.size, 0, none⟩) (Nat.le_refl _) (.bool true)).setCell (p := ⟨w.heap.size, 1, none⟩) (Nat.le_refl _) va4
  have f4 := (hr4.far (p := ⟨w.heap.size, 0, none⟩) hsz (.bool true)).far (p := ⟨w.heap.size, 1, none⟩) hsz va4
  obtain ⟨A4, c4, rfl, _⟩ := id hr4
  go_wp2
  refine bodyPost_ret (v := .agg #[.bool true, .slice A4 L.length c4]) (by simp [results, Tryz.results223, go_sem, b0, b1]) rfl ⟨_, rfl, ⟨_, rfl, f4.mono (Nat.le_of_lt hsz)⟩, hb⟩

set_option maxRecDepth 100000 in
set_option maxHeartbeats 1600000 in
theorem sBigIntOf_m7 (w : World) :
    Calls Tryz.prog 223 #[.int .i64 (-7)] w fun e w' => ∃ v, e = .returned v ∧ BigO w' w.heap.size v true (FE.toL 7) ∧ Below w.heap.size w w' := by
  have eqB : (true && decide (7 ≠ 0)) = true := by decide
  have H1 := Lib.hid (fun W => sNatOf_any 7 (by decide) W)
  have H2 := Lib.hid (fun (n c : Nat) (hn : (FE.toL 7).length = n) (hn1 : n ≤ 60) (hnc : n ≤ c) A W (ha : RI W A (FE.toL 7)) => (show _ from eqB ▸ sMake true 7 n c hn hn1 hnc A W ha : Calls Tryz.prog 255 #[.bool true, .slice A n c] W fun e w' => ∃ v, e = .returned v ∧ BigO w' W.heap.size v true (FE.toL 7) ∧ Below W.heap.size W w'))
  have HL := Lib.hid (toL_small3 (k := 7) (by decide))
  clear eqB
  generalize FE.toL 7 = L at *
  go_enter Tryz.func223, Tryz.ntmps223
  go_wp2_with fail
  refine (H1.out _).mono ?_
  rintro e w3 ⟨v3, rfl, hro3, hb3⟩
  have S1 := Slots.new hb3 (g := w.heap.size) rfl
  replace hb3 := below_step hb3
  replace hro3 := hro3.mono (base' := w.heap.size + 1) (by simp)
  obtain ⟨A3, c3, rfl, hl3, hm3, _⟩ := id hro3
  go_wp2_with fail
  refine (H2.out _ _ rfl (Nat.le_trans HL.out (by decide)) hl3 _ _ hro3.reads).mono ?_
  rintro e w4 ⟨v4, rfl, ho4, hb4⟩
  have hsz : w.heap.size < w3.heap.size := S1.1
  replace S1 := S1.later hb4
  replace hb3 := below_trans hb3 hb4
  obtain ⟨va4, rfl, hr4⟩ := ho4
  obtain ⟨b0, b1, z0, z1⟩ := S1.k2
  have hb := (hb3.setCell (p := ⟨w.heap.size, 0, none⟩) (Nat.le_refl _) (.bool true)).setCell (p := ⟨w.heap.size, 1, none⟩) (Nat.le_refl _) va4
  have f4 := (hr4.far (p := ⟨w.heap.size, 0, none⟩) hsz (.bool true)).far (p := ⟨w.heap.size, 1, none⟩) hsz va4
  obtain ⟨A4, c4, rfl, _⟩ := id hr4
  go_wp2
  refine bodyPost_ret (v := .agg #[.bool true, .slice A4 L.length c4]) (by simp [results, Tryz.results223, go_sem, b0, b1]) rfl ⟨_, rfl, ⟨_, rfl, f4.mono (Nat.le_of_lt hsz)⟩, hb⟩

set_option maxRecDepth 100000 in
set_option maxHeartbeats 1600000 in
theorem sBigIntOf_m8 (w : World) :
    Calls Tryz.prog 223 #[.int .i64 (-8)] w fun e w' => ∃ v, e = .returned v ∧ BigO w' w.heap.size v true (FE.toL 8) ∧ Below w.heap.size w w' := by
  have eqB : (true && decide (8 ≠ 0)) = true := by decide
  have H1 := Lib.hid (fun W => sNatOf_any 8 (by decide) W)
  have H2 := Lib.hid (fun (n c : Nat) (hn : (FE.toL 8).length = n) (hn1 : n ≤ 60) (hnc : n ≤ c) A W (ha : RI W A (FE.toL 8)) => (show _ from eqB ▸ sMake true 8 n c hn hn1 hnc A W ha : Calls Tryz.prog 255 #[.bool true, .slice A n c] W fun e w' => ∃ v, e = .returned v ∧ BigO w' W.heap.size v true (FE.toL 8) ∧ Below W.heap.size W w'))
  have HL := Lib.hid (toL_small3 (k := 8) (by decide))
  clear eqB
  generalize FE.toL 8 = L at *
  go_enter Tryz.func223, Tryz.ntmps223
  go_wp2_with fail
  refine (H1.out _).mono ?_
  rintro e w3 ⟨v3, rfl, hro3, hb3⟩
  have S1 := Slots.new hb3 (g := w.heap.size) rfl
  replace hb3 := below_step hb3
  replace hro3 := hro3.mono (base' := w.heap.size + 1) (by simp)
  obtain ⟨A3, c3, rfl, hl3, hm3, _⟩ := id hro3
  go_wp2_with fail
  refine (H2.out _ _ rfl (Nat.le_trans HL.out (by decide)) hl3 _ _ hro3.reads).mono ?_
  rintro e w4 ⟨v4, rfl, ho4, hb4⟩
  have hsz : w.heap.size < w3.heap.size := S1.1
  replace S1 := S1.later hb4
  replace hb3 := below_trans hb3 hb4
  obtain ⟨va4, rfl, hr4⟩ := ho4
  obtain ⟨b0, b1, z0, z1⟩ := S1.k2
  have hb := (hb3.setCell (p := ⟨w.heap.size, 0, none⟩) (Nat.le_refl _) (.bool true)).setCell (p := ⟨w.heap.size, 1, none⟩) (Nat.le_refl _) va4
  have f4 := (hr4.far (p := ⟨w.heap.size, 0, none⟩) hsz (.bool true)).far (p := ⟨w.heap.size, 1, none⟩) hsz va4
  obtain ⟨A4, c4, rfl, _⟩ := id hr4
  go_wp2
  refine bodyPost_ret (v := .agg #[.bool true, .slice A4 L.length c4]) (by simp [results, Tryz.results223, go_sem, b0, b1]) rfl ⟨_, rfl, ⟨_, rfl, f4.mono (Nat.le_of_lt hsz)⟩, hb⟩

set_option maxRecDepth 100000 in
set_option maxHeartbeats 1600000 in
theorem sBigIntOf_m9 (w : World) :
    Calls Tryz.prog 223 #[.int .i64 (-9)] w fun e w' => ∃ v, e = .returned v ∧ BigO w' w.heap.size v true (FE.toL 9) ∧ Below w.heap.size w w' := by
  have eqB : (true && decide (9 ≠ 0)) = true := by decide
  have H1 := Lib.hid (fun W => sNatOf_any 9 (by decide) W)
  have H2 := Lib.hid (fun (n c : Nat) (hn : (FE.toL 9).length = n) (hn1 : n ≤ 60) (hnc : n ≤ c) A W (ha : RI W A (FE.toL 9)) => (show _ from eqB ▸ sMake true 9 n c hn hn1 hnc A W ha : Calls Tryz.prog 255 #[.bool true, .slice A n c] W fun e w' => ∃ v, e = .returned v ∧ BigO w' W.heap.size v true (FE.toL 9) ∧ Below W.heap.size W w'))
  have HL := Lib.hid (toL_small3 (k := 9) (by decide))
  clear eqB
  generalize FE.toL 9 = L at *
  go_enter Tryz.func223, Tryz.ntmps223
  go_wp2_with fail
  refine (H1.out _).mono ?_
  rintro e w3 ⟨v3, rfl, hro3, hb3⟩
  have S1 := Slots.new hb3 (g := w.heap.size) rfl
  replace hb3 := below_step hb3
  replace hro3 := hro3.mono (base' := w.heap.size + 1) (by simp)
  obtain ⟨A3, c3, rfl, hl3, hm3, _⟩ := id hro3
  go_wp2_with fail
  refine (H2.out _ _ rfl (Nat.le_trans HL.out (by decide)) hl3 _ _ hro3.reads).mono ?_
  rintro e w4 ⟨v4, rfl, ho4, hb4⟩
  have hsz : w.heap.size < w3.heap.size := S1.1
  replace S1 := S1.later hb4
  replace hb3 := below_trans hb3 hb4
  obtain ⟨va4, rfl, hr4⟩ := ho4
  obtain ⟨b0, b1, z0, z1⟩ := S1.k2
  have hb := (hb3.setCell (p := ⟨w.heap.size, 0, none⟩) (Nat.le_refl _) (.bool true)).setCell (p := ⟨w.heap.size, 1, none⟩) (Nat.le_refl _) va4
  have f4 := (hr4.far (p := ⟨w.heap.size, 0, none⟩) hsz (.bool true)).far (p := ⟨w.heap.size, 1, none⟩) hsz va4
  obtain ⟨A4, c4, rfl, _⟩ := id hr4
  go_wp2
  refine bodyPost_ret (v := .agg #[.bool true, .slice A4 L.length c4]) (by simp [results, Tryz.results223, go_sem, b0, b1]) rfl ⟨_, rfl, ⟨_, rfl, f4.mono (Nat.le_of_lt hsz)⟩, hb⟩

set_option maxRecDepth 100000 in
set_option maxHeartbeats 1600000 in
theorem sBigIntOf_m10 (w : World) :
    Calls Tryz.prog 223 #[.int .i64 (-10)] w fun e w' => ∃ v, e = .returned v ∧ BigO w' w.heap.size v true (FE.toL 10) ∧ Below w.heap.size w w' := by
  have eqB : (true && decide (10 ≠ 0)) = true := by decide
  have H1 := Lib.hid (fun W => sNatOf_any 10 (by decide) W)
  have H2 := Lib.hid (fun (n c : Nat) (hn : (FE.toL 10).length = n) (hn1 : n ≤ 60) (hnc : n ≤ c) A W (ha : RI W A (FE.toL 10)) => (show _ from eqB ▸ sMake true 10 n c hn hn1 hnc A W ha : Calls Tryz.prog 255 #[.bool true, .slice A n c] W fun e w' => ∃ v, e = .returned v ∧ BigO w' W.heap.size v true (FE.toL 10) ∧ Below W.heap.size W w'))
  have HL := Lib.hid (toL_small3 (k := 10) (by decide))
  clear eqB
  generalize FE.toL 10 = L at *
  go_enter Tryz.func223, Tryz.ntmps223
  go_wp2_with fail
  refine (H1.out _).mono ?_
  rintro e w3 ⟨v3, rfl, hro3, hb3⟩
  have S1 := Slots.new hb3 (g := w.heap.size) rfl
  replace hb3 := below_step hb3
  replace hro3 := hro3.mono (base' := w.heap.size + 1) (by simp)
  obtain ⟨A3, c3, rfl, hl3, hm3, _⟩ := id hro3
  go_wp2_with fail
  refine (H2.out _ _ rfl (Nat.le_trans HL.out (by decide)) hl3 _ _ hro3.reads).mono ?_
  rintro e w4 ⟨v4, rfl, ho4, hb4⟩
  have hsz : w.heap.size < w3.heap.size := S1.1
  replace S1 := S1.later hb4
  replace hb3 := below_trans hb3 hb4
  obtain ⟨va4, rfl, hr4⟩ := ho4
  obtain ⟨b0, b1, z0, z1⟩ := S1.k2
  have hb := (hb3.setCell (p := ⟨w.heap.size, 0, none⟩) (Nat.le_refl _) (.bool true)).setCell (p := ⟨w.heap.size, 1, none⟩) (Nat.le_refl _) va4
  have f4 := (hr4.far (p := ⟨w.heap.size, 0, none⟩) hsz (.bool true)).far (p := ⟨w.heap.size, 1, none⟩) hsz va4
  obtain ⟨A4, c4, rfl, _⟩ := id hr4
  go_wp2
  refine bodyPost_ret (v := .agg #[.bool true, .slice A4 L.length c4]) (by simp [results, Tryz.results223, go_sem, b0, b1]) rfl ⟨_, rfl, ⟨_, rfl, f4.mono (Nat.le_of_lt hsz)⟩, hb⟩

theorem sBigIntOf_small (n : Int) (h : -10 ≤ n) (h2 : n ≤ 1000) (w : World) :
    Calls Tryz.prog 223 #[.int .i64 n] w fun e w' => ∃ v, e = .returned v ∧ BigO w' w.heap.size v (decide (n < 0)) (FE.toL n.natAbs) ∧ Below w.heap.size w w' := by
  by_cases hn : 0 ≤ n
  · have h3 := sBigIntOf_pos n.natAbs (by omega) w
    rw [show ((n.natAbs : Nat) : Int) = n by omega] at h3
    rw [show decide (n < 0) = false by simp; omega]
    exact h3
  · have h4 : n = -1 ∨ n = -2 ∨ n = -3 ∨ n = -4 ∨ n = -5 ∨ n = -6 ∨ n = -7 ∨ n = -8 ∨ n = -9 ∨ n = -10 := by omega
    rcases h4 with rfl | rfl | rfl | rfl | rfl | rfl | rfl | rfl | rfl | rfl
    · exact sBigIntOf_m1 w
    · exact sBigIntOf_m2 w
    · exact sBigIntOf_m3 w
    · exact sBigIntOf_m4 w
    · exact sBigIntOf_m5 w
    · exact sBigIntOf_m6 w
    · exact sBigIntOf_m7 w
    · exact sBigIntOf_m8 w
    · exact sBigIntOf_m9 w
    · exact sBigIntOf_m10 w

theorem sRatFromInt_small (n : Int) (h : -10 ≤ n) (h2 : n ≤ 1000) (w : World) :
    Calls Tryz.prog 191 #[.int .i64 n] w fun e w' => ∃ v, e = .returned v ∧ RatP w' w.heap.size v (FE.rint n) ∧ Below w.heap.size w w' :=
  sRatFromInt_at n (decide (n < 0)) (FE.toL n.natAbs) (fun W => sBigIntOf_small n h h2 W) w
end Go.Proofs.YtpaabengkidefaaGreat

namespace Go.Proofs.YtpaabengkidefaaGreat
open Go.RowKit Go.Joins Go.SX

/-- A function by its contract. -/
def OrcOne (P : Program) (K : Toks) (f : Nat) (g : List V → St → Option R) : Prop :=
  ∀ vl st r, g vl st = some r → StOk st → Eff st r ∧ (∀ vs w, (callFunc f vs).run P w = .ok (.enter f vs) w) ∧
    ∀ E w vs, RelA E vl vs → Pre K E w st r → Calls P f vs.toArray w fun e u => ∃ v F, e = .returned v ∧ Out K E w st r F u v

noncomputable def asRat (s : S) : Option Nat :=
  match s with
  | .agg [.cell a i, .cell b j, .cell c k] => bi (Nat.beq a b) (bi (Nat.beq a c) (bi (Nat.beq i 0) (bi (Nat.beq j 1) (bi (Nat.beq k 2) (some a) none) none) none) none) none
  | _ => none

theorem asRat_inv {s : S} {j : Nat} (h : asRat s = some j) : s = rat j := by
  unfold asRat at h
  split at h
  · obtain ⟨h1, h⟩ := bi_inv h
    obtain ⟨h2, h⟩ := bi_inv h
    obtain ⟨h3, h⟩ := bi_inv h
    obtain ⟨h4, h⟩ := bi_inv h
    obtain ⟨h5, h⟩ := bi_inv h
    injection h with h
    rw [← beq_inv h1, ← beq_inv h2, beq_inv h3, beq_inv h4, beq_inv h5, h]
    rfl
  · cases h

/-- The values that are known. -/
def NumOk (val : Nat → RatD) (num : Nat → Option (Int × Nat)) : Prop :=
  ∀ j p, num j = some p → val j = ⟨decide (p.1 < 0), FE.toL p.1.natAbs, FE.toL p.2⟩ ∧ p.1.natAbs < 1000000000 ∧ 0 < p.2 ∧ p.2 < 1000000000 ∧ Nat.gcd p.1.natAbs p.2 = 1
def OkOk (val : Nat → RatD) (okj : Nat → Bool) : Prop := ∀ j, okj j = true → FE.ratOk (val j) = true

noncomputable def orFromInt (num : Nat → Option (Int × Nat)) (l : List V) (st : St) : Option R :=
  ob (one l) fun c => ob (cInt c) fun n => ob (num st.nt) fun p => bi (ibeq p.1 n) (bi (Nat.beq p.2 1) (bi (ible (-10) n) (bi (ible n 1000) (some ⟨.s (rat st.nt), ⟨st.mem, st.nb, st.nt + 1⟩, [], some []⟩) none) none) none) none
noncomputable def orOk (okj : Nat → Bool) (l : List V) (st : St) : Option R :=
  match l with
  | [v] => ob (vS v) fun s => ob (asRat s) fun j => bi (okj j) (some ⟨vB true, st, [], some []⟩) none
  | _ => none
noncomputable def orIsSmall (num : Nat → Option (Int × Nat)) (l : List V) (st : St) : Option R :=
  match l with
  | [v] => ob (vS v) fun s => ob (asRat s) fun j => ob (num j) fun _ => some ⟨vB true, st, [], some []⟩
  | _ => none
noncomputable def orSmall (num : Nat → Option (Int × Nat)) (l : List V) (st : St) : Option R :=
  match l with
  | [v] => ob (vS v) fun s => ob (asRat s) fun j => ob (num j) fun p => some ⟨.tup [.c (.int p.1), .c (.int p.2)], st, [], some []⟩
  | _ => none
noncomputable def orEqual (num : Nat → Option (Int × Nat)) (l : List V) (st : St) : Option R :=
  match l with
  | [u, v] => ob (vS u) fun s => ob (vS v) fun t => ob (asRat s) fun i => ob (asRat t) fun j => ob (num i) fun p => ob (num j) fun q =>
    some ⟨vB (bi (ibeq p.1 q.1) (Nat.beq p.2 q.2) false), st, [], some []⟩
  | _ => none

section
variable {val : Nat → RatD} {drw : Nat → Nat → Option Nat} {num : Nat → Option (Int × Nat)} {okj : Nat → Bool}

theorem num_ok (h : NumOk val num) {j : Nat} {p : Int × Nat} (hj : num j = some p) : FE.ratOk (val j) = true ∧ (val j).mag.length ≤ 1 ∧ (val j).den.length = 1 := by
  obtain ⟨hv, h1, h2, h3, h4⟩ := h j p hj
  have l1 : (FE.toL p.1.natAbs).length ≤ 1 := (FE.toL_len_le _ _).2 (by rw [FE.bp_succ, FE.bp_zero]; omega)
  have l2 : FE.toL p.2 = [(p.2 : Int)] := toL_one h2 h3
  have l3 : (FE.toL p.2).length = 1 := by rw [l2]; rfl
  refine ⟨?_, by rw [hv]; exact l1, by rw [hv]; exact l3⟩
  rw [hv]
  unfold FE.ratOk FE.bigOk
  simp only [FE.nv_toL, h4]
  rw [FE.natOk_of_toL (by omega), FE.natOk_of_toL (by omega)]
  have e1 : decide ((FE.toL p.1.natAbs).length ≤ 24) = true := by simp; omega
  have e2 : decide ((FE.toL p.2).length ≤ 24) = true := by simp; omega
  have e3 : (FE.toL p.2).isEmpty = false := by rw [l2]; rfl
  have e4 : (!decide (p.1 < 0) || !(FE.toL p.1.natAbs).isEmpty) = true := by
    by_cases hn : p.1 < 0
    · have : FE.toL p.1.natAbs ≠ [] := by
        intro e
        have := FE.nv_toL p.1.natAbs
        rw [e, FE.nv_nil] at this
        omega
      simp [hn, this]
    · simp [hn]
  rw [e1, e2, e3, e4]
  rfl

theorem ok_len {r : RatD} (h : FE.ratOk r = true) : r.mag.length ≤ 1048576 ∧ r.den.length ≤ 1048576 := by
  unfold FE.ratOk at h
  simp only [Bool.and_eq_true, decide_eq_true_eq] at h
  omega

theorem one_rel {E : Env} {v : V} {l : List V} {vs : List Value} (hl : l = [v]) (r : RelA E l vs) : ∃ x, vs = [x] ∧ RelV E v x := by
  subst hl
  match vs, r with
  | [x], r => exact ⟨x, rfl, r.1⟩
  | [], r => exact r.elim
  | _ :: _ :: _, r => exact r.2.elim

theorem orFromInt_ok (h : NumOk val num) : OrcOne Tryz.prog (toks val drw) 191 (orFromInt num) := by
  intro vl st r hr hst
  obtain ⟨c, h1, hr⟩ := ob_inv hr
  obtain ⟨n, h2, hr⟩ := ob_inv hr
  obtain ⟨p, h3, hr⟩ := ob_inv hr
  obtain ⟨h4, hr⟩ := bi_inv hr
  obtain ⟨h5, hr⟩ := bi_inv hr
  obtain ⟨h6, hr⟩ := bi_inv hr
  obtain ⟨h7, hr⟩ := bi_inv hr
  injection hr with hr
  subst hr
  refine ⟨⟨Nat.le_refl _, Nat.le_succ _, fun _ _ _ => rfl, fun k hk => by simp at hk, ⟨hst.nb, hst.dom⟩, fun l hl k hk => by simp at hk⟩, Tryz.call191, fun E w vs hrel hp => ?_⟩
  obtain ⟨v, rfl, hv⟩ := one_inv h1 hrel
  rw [cInt_inv h2] at hv
  have hv' : v = .int .i64 n := hv
  subst hv'
  rw [ible_eq, decide_eq_true_eq] at h6 h7
  rw [ibeq_eq, beq_iff_eq] at h4
  have h5' := beq_inv h5
  obtain ⟨e, _⟩ := h _ p h3
  refine (sRatFromInt_small n h6 h7 w).mono fun e' u ⟨x, he, hx, hb⟩ => ?_
  have hval : FE.rint n = val st.nt := by
    rw [e, h5', h4, show FE.toL 1 = [1] from toL_one (q := 1) (by decide) (by decide)]; rfl
  rw [hval] at hx
  obtain ⟨F, ho⟩ := out_token (rd := some []) hp.gi hb (hp.newT _ (Nat.le_refl _) (Nat.lt_succ_self _)) hx
  exact ⟨x, F, he, ho⟩

theorem orOk_ok (h : OkOk val okj) : OrcOne Tryz.prog (toks val drw) 29 (orOk okj) := by
  intro vl st r hr hst
  unfold orOk at hr
  split at hr
  · rename_i v
    obtain ⟨s, h1, hr⟩ := ob_inv hr
    obtain ⟨j, h2, hr⟩ := ob_inv hr
    obtain ⟨h3, hr⟩ := bi_inv hr
    injection hr with hr
    subst hr
    refine ⟨eff_pure hst _ _, Tryz.call29, fun E w vs hrel hp => ?_⟩
    obtain ⟨x, rfl, hx⟩ := one_rel rfl hrel
    have hs := vS_rel h1 hx
    rw [asRat_inv h2] at hs
    have ho := h j h3
    refine (iRatOk (val j) x w (rat_val hp.gi hs) (ok_len ho).1 (ok_len ho).2).mono fun e u ⟨he, hb⟩ => ?_
    exact ⟨_, E, he, out_below hp.gi hb (by rw [ho]; rfl)⟩
  · cases hr

theorem orIsSmall_ok (h : NumOk val num) : OrcOne Tryz.prog (toks val drw) 88 (orIsSmall num) := by
  intro vl st r hr hst
  unfold orIsSmall at hr
  split at hr
  · rename_i v
    obtain ⟨s, h1, hr⟩ := ob_inv hr
    obtain ⟨j, h2, hr⟩ := ob_inv hr
    obtain ⟨p, h3, hr⟩ := ob_inv hr
    injection hr with hr
    subst hr
    refine ⟨eff_pure hst _ _, Tryz.call88, fun E w vs hrel hp => ?_⟩
    obtain ⟨x, rfl, hx⟩ := one_rel rfl hrel
    have hs := vS_rel h1 hx
    rw [asRat_inv h2] at hs
    obtain ⟨_, l1, l2⟩ := num_ok h h3
    refine (iIsSmall (val j) x w (rat_val hp.gi hs)).mono fun e u ⟨he, hb⟩ => ?_
    have hsm : smallB (val j) = true := by unfold smallB; rw [l2]; simp [l1]
    exact ⟨_, E, he, out_below hp.gi hb (by rw [hsm]; rfl)⟩
  · cases hr

theorem orSmall_ok (h : NumOk val num) : OrcOne Tryz.prog (toks val drw) 89 (orSmall num) := by
  intro vl st r hr hst
  unfold orSmall at hr
  split at hr
  · rename_i v
    obtain ⟨s, h1, hr⟩ := ob_inv hr
    obtain ⟨j, h2, hr⟩ := ob_inv hr
    obtain ⟨p, h3, hr⟩ := ob_inv hr
    injection hr with hr
    subst hr
    refine ⟨eff_pure hst _ _, Tryz.call89, fun E w vs hrel hp => ?_⟩
    obtain ⟨x, rfl, hx⟩ := one_rel rfl hrel
    have hs := vS_rel h1 hx
    rw [asRat_inv h2] at hs
    obtain ⟨hv, g1, g2, g3, g4⟩ := h j p h3
    refine (iSmall (val j) p.1.natAbs p.2 ⟨by rw [hv], by rw [hv], g1, g2, g3⟩ x w (rat_val hp.gi hs)).mono fun e u ⟨he, hb⟩ => ?_
    have hsg : sgnI (val j).neg p.1.natAbs = p.1 := by
      rw [hv]
      unfold sgnI
      by_cases hn : p.1 < 0
      · simp [hn]; omega
      · simp [hn]; omega
    rw [hsg] at he
    exact ⟨_, E, he, out_below hp.gi hb ⟨_, rfl, rfl, rfl, trivial⟩⟩
  · cases hr

theorem toL_inj {a b : Nat} (h : FE.toL a = FE.toL b) : a = b := by rw [← FE.nv_toL a, ← FE.nv_toL b, h]

theorem orEqual_ok (h : NumOk val num) : OrcOne Tryz.prog (toks val drw) 21 (orEqual num) := by
  intro vl st r hr hst
  unfold orEqual at hr
  split at hr
  · rename_i v1 v2
    obtain ⟨s, h1, hr⟩ := ob_inv hr
    obtain ⟨t, h2, hr⟩ := ob_inv hr
    obtain ⟨i, h3, hr⟩ := ob_inv hr
    obtain ⟨j, h4, hr⟩ := ob_inv hr
    obtain ⟨p, h5, hr⟩ := ob_inv hr
    obtain ⟨q, h6, hr⟩ := ob_inv hr
    injection hr with hr
    subst hr
    refine ⟨eff_pure hst _ _, Tryz.call21, fun E w vs hrel hp => ?_⟩
    match vs, hrel with
    | [x, y], ⟨hx, hy, _⟩ =>
      have hs := vS_rel h1 hx
      have ht := vS_rel h2 hy
      rw [asRat_inv h3] at hs
      rw [asRat_inv h4] at ht
      have oi := ok_len (num_ok h h5).1
      have oj := ok_len (num_ok h h6).1
      refine (iRatEqual (val i) (val j) x y w (rat_val hp.gi hs) (rat_val hp.gi ht) oi.1 oi.2 oj.1 oj.2).mono fun e u ⟨he, hb⟩ => ?_
      have hsame : (val i).same (val j) = bi (ibeq p.1 q.1) (Nat.beq p.2 q.2) false := by
        obtain ⟨e1, _⟩ := h i p h5
        obtain ⟨e2, _⟩ := h j q h6
        rw [e1, e2, ibeq_eq, beq_dec, bi_eq]
        unfold RatD.same
        rw [Bool.eq_iff_iff]
        simp only [Bool.and_eq_true, beq_iff_eq, decide_eq_decide]
        constructor
        · rintro ⟨g1, g2, g3⟩
          have g2' := toL_inj g2
          have g3' := toL_inj g3
          have : p.1 = q.1 := by omega
          simp [this, g3']
        · intro g
          split at g
          · rename_i hpq
            have : p.2 = q.2 := by simpa using g
            rw [hpq, this]
            simp
          · cases g
      exact ⟨_, E, he, out_below hp.gi hb (by rw [hsame]; rfl)⟩
    | [], hrel => exact hrel.elim
    | [_], hrel => exact hrel.2.elim
    | _ :: _ :: _ :: _, hrel => exact hrel.2.2.elim
  · cases hr

end
end Go.Proofs.YtpaabengkidefaaGreat
