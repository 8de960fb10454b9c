/-
 Shared texts (H6).
-/
import Derived.Test.YtlpomcihkjiokaaGreatH4
import Derived.Test.YtlpomcihkjiokaaGreatH3
import Derived.Test.YtlpomcihkjiokaaGreatH5
namespace Go.Proofs.YtlpomcihkjiokaaGreat
open Go.RowKit Go.Joins Go.Deep
def blk : Value → Option Nat
 | .slice (some a) n _ => if n = 0 then none else some a.block
 | _ => none
theorem blk_slice {a : Addr} {n c : Nat} (h : n ≠ 0) : blk (.slice (some a) n c) = some a.block := if_neg h
theorem blk_nil {A : Option Addr} {c : Nat} : blk (.slice A 0 c) = none := by cases A <;> rfl
theorem Apart.ne_blk {u v : Value} (h : Apart u v) {g k : Nat} (hg : blk u = some g) (hk : blk v = some k) : g ≠ k := by
 unfold blk at hg hk
 split at hg
 ·rename_i a n c
  split at hk
  ·rename_i b m d
   split at hg
   ·cases hg
   ·rename_i hn
    split at hk
    ·cases hk
    ·rename_i hm
     injection hg with hg
     injection hk with hk
     subst hg hk
     exact h a n c b m d rfl rfl hn hm
  ·cases hk
 ·cases hg
structure Frame (S : Nat → Prop) (w w' : World) : Prop where
 os : w'.os = w.os
 tape : w'.tape = w.tape
 output : w'.output = w.output
 size : w.heap.size ≤ w'.heap.size
 block : ∀ b, b < w.heap.size → ¬ S b → w'.heap[b]? = w.heap[b]?
theorem Frame.refl (S : Nat → Prop) (w : World) : Frame S w w := ⟨rfl, rfl, rfl, Nat.le_refl _, fun _ _ _ => rfl⟩
theorem Frame.trans {S : Nat → Prop} {a b c : World} (h : Frame S a b) (k : Frame S b c) : Frame S a c :=
 ⟨k.os.trans h.os, k.tape.trans h.tape, k.output.trans h.output, Nat.le_trans h.size k.size, fun i hi hs => (k.block i (Nat.lt_of_lt_of_le hi h.size) hs).trans (h.block i hi hs)⟩
theorem Frame.mono {S S' : Nat → Prop} {w w' : World} (h : Frame S w w') (hs : ∀ b, S b → S' b) : Frame S' w w' :=
 ⟨h.os, h.tape, h.output, h.size, fun b hb hn => h.block b hb (fun k => hn (hs b k))⟩
theorem Frame.of_below {S : Nat → Prop} {w w' : World} (h : Below w.heap.size w w') : Frame S w w' := ⟨h.os, h.tape, h.output, h.size, fun b hb _ => h.block b hb⟩
theorem Frame.to_below {S : Nat → Prop} {w w' : World} {B : Nat} (h : Frame S w w') (hB : B ≤ w.heap.size) (hs : ∀ b, b < B → ¬ S b) : Below B w w' :=
 ⟨h.os, h.tape, h.output, h.size, fun k hk => h.block k (Nat.lt_of_lt_of_le hk hB) (hs k hk)⟩
theorem Frame.setCell {S : Nat → Prop} {a w : World} (h : Frame S a w) {p : Addr} (hp : S p.block) (u : Value) : Frame S a (w.setCell p u) :=
 h.trans ⟨rfl, rfl, rfl, by simp [World.setCell], fun k _ hn => Below.heap_setCell _ _ _ _ (fun e => hn (e ▸ hp))⟩
theorem Frame.drewN {S : Nat → Prop} {a w : World} (h : Frame S a w) (n : Nat) : Frame S a (w.drewN n) := ⟨h.os, h.tape, h.output, h.size, h.block⟩
theorem Frame.drew {S : Nat → Prop} {a w : World} (h : Frame S a w) : Frame S a w.drew := ⟨h.os, h.tape, h.output, h.size, h.block⟩
theorem Frame.cell {S : Nat → Prop} {w w' : World} (h : Frame S w w') {b o : Nat} (hb : b < w.heap.size) (hs : ¬ S b) : w'.cell? ⟨b, o, none⟩ = w.cell? ⟨b, o, none⟩ :=
 World.cell?_of_block (w := w) (h.block b hb hs)
theorem Frame.frozen {S : Nat → Prop} {w w' : World} (h : Frame S w w') {b o : Nat} (hb : b < w.heap.size) (hs : ¬ S b) : w'.frozen? ⟨b, o, none⟩ = w.frozen? ⟨b, o, none⟩ :=
 World.frozen?_of_block (w := w) (h.block b hb hs)
structure Turn (w w' : World) : Prop where
 size : w.heap.size ≤ w'.heap.size
 arr : ∀ g c xs, Arr w g c xs → ∃ xs', xs'.length = xs.length ∧ Arr w' g c xs'
 sl : ∀ b o A n c, w.cell? ⟨b, o, none⟩ = some (.slice A n c) → w'.cell? ⟨b, o, none⟩ = some (.slice A n c)
 sign : ∀ b o s, w.cell? ⟨b, o, none⟩ = some (.bool s) → ∃ s', w'.cell? ⟨b, o, none⟩ = some (.bool s')
 int : ∀ b o x, w.cell? ⟨b, o, none⟩ = some (.int .i64 x) → ∃ x', w'.cell? ⟨b, o, none⟩ = some (.int .i64 x')
 froz : ∀ b o, b < w.heap.size → w'.frozen? ⟨b, o, none⟩ = w.frozen? ⟨b, o, none⟩
theorem Turn.refl (w : World) : Turn w w := ⟨Nat.le_refl _, fun _ _ xs h => ⟨xs, rfl, h⟩, fun _ _ _ _ _ h => h, fun _ _ s h => ⟨s, h⟩, fun _ _ x h => ⟨x, h⟩, fun _ _ _ => rfl⟩
theorem Turn.trans {a b c : World} (h : Turn a b) (k : Turn b c) : Turn a c := by
 refine ⟨Nat.le_trans h.size k.size, fun g c xs hx => ?_, fun b o A n c hx => k.sl _ _ _ _ _ (h.sl _ _ _ _ _ hx), fun b o s hx => ?_, fun b o x hx => ?_, fun b o hb => (k.froz _ _ (Nat.lt_of_lt_of_le hb h.size)).trans (h.froz _ _ hb)⟩
 ·obtain ⟨y, hy, hz⟩ := h.arr _ _ _ hx
  obtain ⟨z, hz1, hz2⟩ := k.arr _ _ _ hz
  exact ⟨z, hz1.trans hy, hz2⟩
 ·obtain ⟨y, hy⟩ := h.sign _ _ _ hx
  exact k.sign _ _ _ hy
 ·obtain ⟨y, hy⟩ := h.int _ _ _ hx
  exact k.int _ _ _ hy
theorem Turn.of_below {w w' : World} (h : Below w.heap.size w w') : Turn w w' :=
 ⟨h.size, fun _ _ xs hx => ⟨xs, rfl, hx.later h⟩, fun _ _ _ _ _ hx => cell_later (lt_of_cell' hx).1 hx h, fun _ _ s hx => ⟨s, cell_later (lt_of_cell' hx).1 hx h⟩, fun _ _ s hx => ⟨s, cell_later (lt_of_cell' hx).1 hx h⟩, fun b o hb => h.frozen (p := ⟨b, o, none⟩) hb⟩
def PO (w : World) (lo hi : Nat) (va : Value) (xs : List Int) : Prop := RO w lo va xs ∧ ∀ b, blk va = some b → lo ≤ b ∧ b < hi
theorem RO.at_blk {w : World} {lo : Nat} {va : Value} {xs : List Int} (h : RO w lo va xs) {b : Nat} (hb : blk va = some b) : xs ≠ [] ∧ lo ≤ b ∧ ∃ c, va = .slice (some ⟨b, 0, none⟩) xs.length c ∧ Arr w b c xs := by
 obtain ⟨A, c, rfl, h1, h2, h3⟩ := h
 have hx : xs ≠ [] := by
  rintro rfl
  rw [List.length_nil, blk_nil] at hb
  cases hb
 obtain ⟨g, rfl, hg, ha⟩ := h3 hx
 rw [blk_slice (n := xs.length) (by simpa using hx)] at hb
 injection hb with hb
 simp only at hb
 subst hb
 exact ⟨hx, hg, c, rfl, ha⟩
theorem RO.io {w : World} {lo : Nat} {va : Value} {xs : List Int} (h : RO w lo va xs) : PO w lo w.heap.size va xs :=
 ⟨h, fun _ hb => by obtain ⟨_, h1, _, _, ha⟩ := h.at_blk hb; exact ⟨h1, ha.lt⟩⟩
theorem PO.form {w : World} {lo hi : Nat} {va : Value} {xs : List Int} (h : PO w lo hi va xs) : ∃ A c, va = .slice A xs.length c ∧ xs.length ≤ c ∧ c ≤ maxLen := by
 obtain ⟨⟨A, c, h1, h2, h3, _⟩, _⟩ := h
 exact ⟨A, c, h1, h2, h3⟩
theorem RO.of_arr {w : World} {lo : Nat} {va : Value} {xs ys : List Int} (h : RO w lo va xs) {w' : World} (hl : ys.length = xs.length) (ha : ∀ b c, blk va = some b → Arr w b c xs → Arr w' b c ys) : RO w' lo va ys := by
 obtain ⟨A, c, rfl, h1, h2, h3⟩ := id h
 refine ⟨A, c, by rw [hl], by omega, h2, fun hy => ?_⟩
 have hx : xs ≠ [] := by rintro rfl; exact hy (List.eq_nil_of_length_eq_zero hl)
 obtain ⟨g, rfl, hg, hA⟩ := h3 hx
 exact ⟨g, rfl, hg, ha g c (blk_slice (by simpa using hx)) hA⟩
theorem PO.turn {w w' : World} {lo hi : Nat} {va : Value} {xs : List Int} (h : PO w lo hi va xs) (ht : Turn w w') : ∃ xs', xs'.length = xs.length ∧ PO w' lo hi va xs' := by
 cases hb : blk va with
 | none => exact ⟨xs, rfl, h.1.of_arr rfl (fun b c hb' => by rw [hb] at hb'; cases hb'), h.2⟩
 | some b =>
  obtain ⟨hx, hg, c, hv, ha⟩ := h.1.at_blk hb
  obtain ⟨xs', hl, ha'⟩ := ht.arr _ _ _ ha
  refine ⟨xs', hl, h.1.of_arr hl (fun b' c' hb' ha2 => ?_), h.2⟩
  rw [hb] at hb'
  injection hb' with hb'
  subst hb'
  have : c' = c := by
   obtain ⟨r1, l1, _, e1⟩ := ha
   obtain ⟨r2, l2, _, e2⟩ := ha2
   rw [e1] at e2
   injection e2 with e2
   injection e2 with e2
   have := congrArg Array.size e2
   simp at this
   omega
  subst this
  exact ha'
theorem PO.frame {S : Nat → Prop} {w w' : World} {lo hi : Nat} {va : Value} {xs : List Int} (h : PO w lo hi va xs) (hf : Frame S w w') (hs : ∀ b, blk va = some b → ¬ S b) : PO w' lo hi va xs :=
 ⟨h.1.of_arr rfl (fun b _ hb ha => ha.block (hf.block b ha.lt (hs b hb))), h.2⟩
theorem PO.reads {w : World} {lo hi : Nat} {xs : List Int} {A : Option Addr} {n c : Nat} (h : PO w lo hi (.slice A n c) xs) : RI w A xs := h.1.reads
theorem PO.wide {w : World} {lo hi lo' hi' : Nat} {va : Value} {xs : List Int} (h : PO w lo hi va xs) (h1 : lo' ≤ lo) (h2 : hi ≤ hi') : PO w lo' hi' va xs :=
 ⟨h.1.mono h1, fun b hb => ⟨Nat.le_trans h1 (h.2 b hb).1, Nat.lt_of_lt_of_le (h.2 b hb).2 h2⟩⟩
def mkI (n : Nat) (k : Int) : List Int := (List.range n).map fun i => k + (i : Nat)
def shp (r : RatD) : Nat × Nat := (r.mag.length, r.den.length)
def cntR (r : RatD) : Nat := 1 + r.mag.length + r.den.length
def cntV (rs : List RatD) : Nat := (rs.map cntR).sum
def mkRat (r : RatD) (k : Int) : RatD := ⟨k % 3 == 0, mkI r.mag.length (k + 1), mkI r.den.length (k + 1 + r.mag.length)⟩
def mixV (rs : List RatD) (k : Int) (i : Nat) : List RatD := (List.range rs.length).map fun j => if j < i then mkRat (rs.getD j zR) (k + (cntV (rs.take j) : Nat)) else rs.getD j zR
def mkV (rs : List RatD) (k : Int) : List RatD := mixV rs k rs.length
theorem mixV_len (rs : List RatD) (k : Int) (i : Nat) : (mixV rs k i).length = rs.length := by simp [mixV]
theorem mixV_get {rs : List RatD} {k : Int} {i j : Nat} (h : j < rs.length) : (mixV rs k i).getD j zR = if j < i then mkRat (rs.getD j zR) (k + (cntV (rs.take j) : Nat)) else rs.getD j zR := by
 unfold mixV
 rw [List.getD_eq_getElem?_getD, List.getElem?_map, List.getElem?_range h]
 rfl
theorem vec_same {xs zs : List RatD} (h : zs.length = xs.length) (hj : ∀ j, j < xs.length → zs.getD j zR = xs.getD j zR) : zs = xs := by
 apply List.ext_getElem h
 intro i h1 h2
 have := hj i h2
 simpa [h1, h2] using this
theorem getD_setR (l : List RatD) (i j : Nat) (x : RatD) : (l.set i x).getD j zR = if i = j ∧ j < l.length then x else l.getD j zR := by
 simp only [List.getD_eq_getElem?_getD, List.getElem?_set]
 split
 ·rename_i h
  subst h
  split
  ·rename_i h; simp [h]
  ·rename_i h; simp [h]
 ·rename_i h
  rw [if_neg (fun h' => h h'.1)]
def EA (w : World) (lo hi g off : Nat) (p : Value × Value) (r : RatD) : Prop :=
 w.cell? ⟨g, off, none⟩ = some (.bool r.neg) ∧ w.cell? ⟨g, off + 1, none⟩ = some p.1 ∧ w.cell? ⟨g, off + 2, none⟩ = some p.2 ∧ PO w lo hi p.1 r.mag ∧ PO w lo hi p.2 r.den
def zP : Value × Value := (.slice none 0 0, .slice none 0 0)
def VS (w : World) (lo hi : Nat) (v : Value) (ps : List (Value × Value)) (rs : List RatD) : Prop :=
 ps.length = rs.length ∧ ∃ A c, v = .slice A rs.length c ∧ rs.length ≤ c ∧ c ≤ maxLen ∧
  (rs ≠ [] → ∃ g, A = some ⟨g, 0, none⟩ ∧ lo ≤ g ∧ g < hi ∧ g < w.heap.size ∧ (∀ i, w.frozen? ⟨g, i, none⟩ = false) ∧ ∀ j, j < rs.length → EA w lo hi g (j * 3) (ps.getD j zP) (rs.getD j zR))
def Foot (v : Value) (ps : List (Value × Value)) (b : Nat) : Prop := blk v = some b ∨ ∃ j, j < ps.length ∧ (blk (ps.getD j zP).1 = some b ∨ blk (ps.getD j zP).2 = some b)
def Aps (ps : List (Value × Value)) : Prop :=
 (∀ j, j < ps.length → Apart (ps.getD j zP).1 (ps.getD j zP).2) ∧
 ∀ i j, i < ps.length → j < ps.length → i ≠ j → Apart (ps.getD i zP).1 (ps.getD j zP).1 ∧ Apart (ps.getD i zP).1 (ps.getD j zP).2 ∧ Apart (ps.getD i zP).2 (ps.getD j zP).1 ∧ Apart (ps.getD i zP).2 (ps.getD j zP).2
theorem EA.turn {w w' : World} {lo hi g off : Nat} {p : Value × Value} {r : RatD} (h : EA w lo hi g off p r) (ht : Turn w w') : ∃ r', shp r' = shp r ∧ EA w' lo hi g off p r' := by
 obtain ⟨h0, h1, h2, h3, h4⟩ := h
 obtain ⟨s', hs⟩ := ht.sign _ _ _ h0
 obtain ⟨x, hx, h3'⟩ := h3.turn ht
 obtain ⟨y, hy, h4'⟩ := h4.turn ht
 obtain ⟨A, c, e1, _⟩ := h3.form
 obtain ⟨B, d, e2, _⟩ := h4.form
 rw [e1] at h1
 rw [e2] at h2
 exact ⟨⟨s', x, y⟩, by simp [shp, hx, hy], hs, by rw [e1]; exact ht.sl _ _ _ _ _ h1, by rw [e2]; exact ht.sl _ _ _ _ _ h2, h3', h4'⟩
theorem EA.frame {S : Nat → Prop} {w w' : World} {lo hi g off : Nat} {p : Value × Value} {r : RatD} (h : EA w lo hi g off p r) (hf : Frame S w w') (hg : g < w.heap.size) (hs : ¬ S g) (h1 : ∀ b, blk p.1 = some b → ¬ S b) (h2 : ∀ b, blk p.2 = some b → ¬ S b) : EA w' lo hi g off p r :=
 ⟨(hf.cell hg hs).trans h.1, (hf.cell hg hs).trans h.2.1, (hf.cell hg hs).trans h.2.2.1, h.2.2.2.1.frame hf h1, h.2.2.2.2.frame hf h2⟩
theorem VS.form {w : World} {lo hi : Nat} {v : Value} {ps : List (Value × Value)} {rs : List RatD} (h : VS w lo hi v ps rs) : ∃ A c, v = .slice A rs.length c ∧ rs.length ≤ c ∧ c ≤ maxLen := by
 obtain ⟨_, A, c, h1, h2, h3, _⟩ := h
 exact ⟨A, c, h1, h2, h3⟩
theorem VS.turn {w w' : World} {lo hi : Nat} {v : Value} {ps : List (Value × Value)} {rs : List RatD} (h : VS w lo hi v ps rs) (ht : Turn w w') : ∃ rs', rs'.length = rs.length ∧ (∀ j, j < rs.length → shp (rs'.getD j zR) = shp (rs.getD j zR)) ∧ VS w' lo hi v ps rs' := by
 obtain ⟨hp, A, c, rfl, h1, h2, h3⟩ := h
 by_cases hx : rs = []
 ·subst hx
  exact ⟨[], rfl, fun j hj => by simp at hj, hp, A, c, rfl, h1, h2, fun hh => absurd rfl hh⟩
 ·obtain ⟨g, rfl, hg, hgh, hgs, hfz, he⟩ := h3 hx
  have each : ∀ j, j < rs.length → ∃ z : Option RatD, ∃ y, z = some y ∧ shp y = shp (rs.getD j zR) ∧ EA w' lo hi g (j * 3) (ps.getD j zP) y := fun j hj => by
   obtain ⟨r', q1, q2⟩ := (he j hj).turn ht
   exact ⟨some r', r', rfl, q1, q2⟩
  obtain ⟨f, hf⟩ := choose_lt each
  have hl : ((List.range rs.length).map fun i => (f i).getD zR).length = rs.length := by simp
  have hget : ∀ j, j < rs.length → ((List.range rs.length).map fun i => (f i).getD zR).getD j zR = (f j).getD zR := fun j hj => by
   rw [List.getD_eq_getElem?_getD, List.getElem?_map, List.getElem?_range hj]; rfl
  refine ⟨(List.range rs.length).map fun i => (f i).getD zR, hl, fun j hj => ?_, by rw [hl]; exact hp, some ⟨g, 0, none⟩, c, by rw [hl], by rw [hl]; exact h1, h2, fun _ => ⟨g, rfl, hg, hgh, Nat.lt_of_lt_of_le hgs ht.size, fun i => (ht.froz g i hgs).trans (hfz i), fun j hj => ?_⟩⟩
  ·obtain ⟨y, e, q1, _⟩ := hf j hj
   rw [hget j hj, e]; exact q1
  ·rw [hl] at hj
   obtain ⟨y, e, _, q2⟩ := hf j hj
   rw [hget j hj, e]; exact q2
theorem VS.at_blk {w : World} {lo hi : Nat} {v : Value} {ps : List (Value × Value)} {rs : List RatD} (h : VS w lo hi v ps rs) {b : Nat} (hb : blk v = some b) :
 rs ≠ [] ∧ (∃ c, v = .slice (some ⟨b, 0, none⟩) rs.length c) ∧ lo ≤ b ∧ b < hi ∧ b < w.heap.size ∧ (∀ i, w.frozen? ⟨b, i, none⟩ = false) ∧ ∀ j, j < rs.length → EA w lo hi b (j * 3) (ps.getD j zP) (rs.getD j zR) := by
 obtain ⟨_, A, c, rfl, h1, h2, h3⟩ := h
 have hx : rs ≠ [] := by
  rintro rfl
  rw [List.length_nil, blk_nil] at hb
  cases hb
 obtain ⟨g, rfl, hg⟩ := h3 hx
 rw [blk_slice (n := rs.length) (by simpa using hx)] at hb
 injection hb with hb
 simp only at hb
 subst hb
 exact ⟨hx, ⟨c, rfl⟩, hg⟩
theorem EA.head {w : World} {lo hi g off : Nat} {p : Value × Value} {r : RatD} (h0 : ∃ s, w.cell? ⟨g, 0, none⟩ = some (.bool s)) (h : EA w lo hi g off p r) : blk p.1 ≠ some g ∧ blk p.2 ≠ some g := by
 obtain ⟨s, h0⟩ := h0
 constructor
 ·intro hb
  obtain ⟨hx, _, c, _, ha⟩ := h.2.2.2.1.1.at_blk hb
  have := ha.cell 0 (List.length_pos_iff.2 hx)
  rw [h0] at this; cases this
 ·intro hb
  obtain ⟨hx, _, c, _, ha⟩ := h.2.2.2.2.1.at_blk hb
  have := ha.cell 0 (List.length_pos_iff.2 hx)
  rw [h0] at this; cases this
theorem VS.frame {S : Nat → Prop} {w w' : World} {lo hi : Nat} {v : Value} {ps : List (Value × Value)} {rs : List RatD} (h : VS w lo hi v ps rs) (hf : Frame S w w') (hs : ∀ b, Foot v ps b → ¬ S b) : VS w' lo hi v ps rs := by
 obtain ⟨hp, A, c, rfl, h1, h2, h3⟩ := h
 refine ⟨hp, A, c, rfl, h1, h2, fun hx => ?_⟩
 obtain ⟨g, rfl, hg, hgh, hgs, hfz, he⟩ := h3 hx
 have hgS : ¬ S g := hs g (.inl (blk_slice (by simpa using hx)))
 exact ⟨g, rfl, hg, hgh, Nat.lt_of_lt_of_le hgs hf.size, fun i => (hf.frozen hgs hgS).trans (hfz i), fun j hj => (he j hj).frame hf hgs hgS (fun b hb => hs b (.inr ⟨j, by omega, .inl hb⟩)) (fun b hb => hs b (.inr ⟨j, by omega, .inr hb⟩))⟩
theorem VS.foot {w : World} {lo hi : Nat} {v : Value} {ps : List (Value × Value)} {rs : List RatD} (h : VS w lo hi v ps rs) {b : Nat} (hb : Foot v ps b) : lo ≤ b ∧ b < hi := by
 obtain ⟨hp, A, c, rfl, h1, h2, h3⟩ := id h
 rcases hb with hb | ⟨j, hj, hb⟩
 ·obtain ⟨_, _, k1, k2, _⟩ := h.at_blk hb
  exact ⟨k1, k2⟩
 ·have hx : rs ≠ [] := by rintro rfl; simp at hp; subst hp; simp at hj
  obtain ⟨g, rfl, _, _, _, _, he⟩ := h3 hx
  have := he j (by omega)
  rcases hb with hb | hb
  ·exact this.2.2.2.1.2 b hb
  ·exact this.2.2.2.2.2 b hb
theorem VS.reads {w : World} {lo hi n c : Nat} {A : Option Addr} {ps : List (Value × Value)} {rs : List RatD} (h : VS w lo hi (.slice A n c) ps rs) : VI w A rs := by
 intro hx
 obtain ⟨_, A', c', he, _, _, h⟩ := h
 injection he with e1 e2 e3
 subst e1
 obtain ⟨g, rfl, _, _, hlt, _, h⟩ := h hx
 refine ⟨g, 0, rfl, hlt, fun j hj => ?_⟩
 obtain ⟨h0, h1, h2, h3, h4⟩ := h j hj
 obtain ⟨A1, c1, e1, k1, k2⟩ := h3.form
 obtain ⟨B1, d1, e2, k3, k4⟩ := h4.form
 rw [e1] at h1 h3
 rw [e2] at h2 h4
 rw [Nat.zero_add]
 exact ⟨A1, c1, B1, d1, h0, h1, h2, ⟨k1, k2, k3, k4⟩, h3.reads, h4.reads⟩
theorem VO.parts {w : World} {lo : Nat} {v : Value} {rs : List RatD} (h : VO w lo v rs) : ∃ ps, VS w lo w.heap.size v ps rs := by
 obtain ⟨A, c, rfl, h1, h2, h3⟩ := h
 by_cases hx : rs = []
 ·subst hx
  exact ⟨[], rfl, A, c, rfl, h1, h2, fun hh => absurd rfl hh⟩
 ·obtain ⟨g, rfl, hg, hgs, hfz, he⟩ := h3 hx
  have each : ∀ j, j < rs.length → ∃ z : Option (Value × Value), ∃ y, z = some y ∧ EA w lo w.heap.size g (j * 3) y (rs.getD j zR) := fun j hj => by
   obtain ⟨va, vb, q0, q1, q2, q3, q4⟩ := he j hj
   have l1 := q3.io
   have l2 := q4.io
   exact ⟨some (va, vb), (va, vb), rfl, q0, q1, q2, l1.wide (by omega) (Nat.le_refl _), l2.wide (by omega) (Nat.le_refl _)⟩
  obtain ⟨f, hf⟩ := choose_lt each
  have hl : ((List.range rs.length).map fun i => (f i).getD zP).length = rs.length := by simp
  refine ⟨(List.range rs.length).map fun i => (f i).getD zP, hl, some ⟨g, 0, none⟩, c, rfl, h1, h2, fun _ => ⟨g, rfl, hg, hgs, hgs, hfz, fun j hj => ?_⟩⟩
  obtain ⟨y, e, q⟩ := hf j hj
  rw [List.getD_eq_getElem?_getD, List.getElem?_map, List.getElem?_range hj]
  simp only [Option.map_some, Option.getD_some, e]
  exact q
theorem VS.wide {w : World} {lo hi lo' hi' : Nat} {v : Value} {ps : List (Value × Value)} {rs : List RatD} (h : VS w lo hi v ps rs) (k1 : lo' ≤ lo) (k2 : hi ≤ hi') : VS w lo' hi' v ps rs := by
 obtain ⟨hp, A, c, rfl, h1, h2, h3⟩ := h
 refine ⟨hp, A, c, rfl, h1, h2, fun hx => ?_⟩
 obtain ⟨g, rfl, hg, hgh, hgs, hfz, he⟩ := h3 hx
 exact ⟨g, rfl, by omega, by omega, hgs, hfz, fun j hj => ⟨(he j hj).1, (he j hj).2.1, (he j hj).2.2.1, (he j hj).2.2.2.1.wide k1 k2, (he j hj).2.2.2.2.wide k1 k2⟩⟩
theorem VS.put {S : Nat → Prop} {w w' : World} {lo hi g n c : Nat} {ps : List (Value × Value)} {rs : List RatD} {i : Nat} {x : RatD} (h : VS w lo hi (.slice (some ⟨g, 0, none⟩) n c) ps rs) (hi1 : i < rs.length) (hap : Aps ps)
 (hf : Frame S w w') (hS : ∀ b, S b → b = g ∨ blk (ps.getD i zP).1 = some b ∨ blk (ps.getD i zP).2 = some b)
 (hfz : ∀ o, w'.frozen? ⟨g, o, none⟩ = w.frozen? ⟨g, o, none⟩) (hc : ∀ o, o ≠ i * 3 → w'.cell? ⟨g, o, none⟩ = w.cell? ⟨g, o, none⟩)
 (h0 : w'.cell? ⟨g, i * 3, none⟩ = some (.bool x.neg)) (h1 : PO w' lo hi (ps.getD i zP).1 x.mag) (h2 : PO w' lo hi (ps.getD i zP).2 x.den) :
 VS w' lo hi (.slice (some ⟨g, 0, none⟩) n c) ps (rs.set i x) := by
 have hnn : n = rs.length := by
  obtain ⟨_, A, c', e, _⟩ := h
  injection e
 subst hnn
 have hx : rs ≠ [] := by rintro rfl; simp at hi1
 have hbv : blk (.slice (some ⟨g, 0, none⟩) rs.length c) = some g := blk_slice (by simpa using hx)
 obtain ⟨_, _, k1, k2, k3, k4, ke⟩ := h.at_blk hbv
 obtain ⟨hp, A, c', e, q1, q2, _⟩ := h
 injection e with _ _ e
 subst e
 have hz : ∃ s, w.cell? ⟨g, 0, none⟩ = some (.bool s) := ⟨_, by have := (ke 0 (List.length_pos_iff.2 hx)).1; rwa [Nat.zero_mul] at this⟩
 refine ⟨by simpa using hp, some ⟨g, 0, none⟩, c, by simp, by simpa using q1, q2, fun _ => ⟨g, rfl, k1, k2, Nat.lt_of_lt_of_le k3 hf.size, fun o => (hfz o).trans (k4 o), fun j hj => ?_⟩⟩
 rw [List.length_set] at hj
 rw [getD_setR]
 by_cases e : i = j
 ·subst e
  rw [if_pos ⟨rfl, hj⟩]
  exact ⟨h0, (hc _ (by omega)).trans (ke i hj).2.1, (hc _ (by omega)).trans (ke i hj).2.2.1, h1, h2⟩
 ·rw [if_neg (fun h' => e h'.1)]
  obtain ⟨m1, m2⟩ := (ke j hj).head hz
  obtain ⟨a1, a2, a3, a4⟩ := hap.2 j i (by omega) (by omega) (fun h' => e h'.symm)
  refine ⟨(hc _ (by omega)).trans (ke j hj).1, (hc _ (by omega)).trans (ke j hj).2.1, (hc _ (by omega)).trans (ke j hj).2.2.1, (ke j hj).2.2.2.1.frame hf (fun b hb hSb => ?_), (ke j hj).2.2.2.2.frame hf (fun b hb hSb => ?_)⟩
  ·rcases hS b hSb with hh | hh | hh
   ·subst hh; exact m1 hb
   ·exact a1.ne_blk hb hh rfl
   ·exact a2.ne_blk hb hh rfl
  ·rcases hS b hSb with hh | hh | hh
   ·subst hh; exact m2 hb
   ·exact a3.ne_blk hb hh rfl
   ·exact a4.ne_blk hb hh rfl
open Go.RowKit Go.Joins
theorem land_le (x : Int) (m j : Nat) (hm : m < 2 ^ j) (hj : j ≤ 62) : 0 ≤ bits .and .i64 x (m : Int) ∧ bits .and .i64 x (m : Int) ≤ (m : Int) := by
 have h1 : (BitVec.ofInt 64 (m : Int)).toNat = m := by
  rw [BitVec.ofInt_natCast, BitVec.toNat_ofNat]
  exact Nat.mod_eq_of_lt (Nat.lt_trans hm (Nat.pow_lt_pow_right (by decide) (by omega)))
 have h2 : (2 : Nat) ^ j ≤ 2 ^ 62 := Nat.pow_le_pow_right (by decide) hj
 have e : bits .and .i64 x (m : Int) = IntKind.i64.wrap ((BitVec.ofInt 64 x &&& BitVec.ofInt 64 (m : Int)).toNat : Int) := rfl
 have h3 : (BitVec.ofInt 64 x &&& BitVec.ofInt 64 (m : Int)).toNat ≤ m := by
  rw [BitVec.toNat_and, h1]; exact Nat.and_le_right
 rw [e, IntKind.wrap_i64]
 omega
def BI (w : World) (A : Option Addr) (n : Nat) : Prop := n ≠ 0 → ∃ b o, A = some ⟨b, o, none⟩ ∧ b < w.heap.size ∧ ∀ j, j < n → ∃ x : Int, (0 ≤ x ∧ x < 256) ∧ w.cell? ⟨b, o + j, none⟩ = some (.int .u8 x)
structure Cu (w : World) (g : Nat) (A : Option Addr) (n c : Nat) : Prop where
 lt : g < w.heap.size
 few : n ≤ 1048576
 off : n ≠ 0 → ∀ a, A = some a → a.block ≠ g
 bytes : BI w A n
 sl : w.cell? ⟨g, 0, none⟩ = some (.slice A n c)
 at_ : ∃ i : Nat, i ≤ n ∧ w.cell? ⟨g, 1, none⟩ = some (.int .i64 i)
 hash : ∃ h : Int, w.cell? ⟨g, 2, none⟩ = some (.int .i64 h)
 froz : ∀ o, w.frozen? ⟨g, o, none⟩ = false
theorem BI.frame {S : Nat → Prop} {w w' : World} {A : Option Addr} {n : Nat} (h : BI w A n) (hf : Frame S w w') (hs : n ≠ 0 → ∀ a, A = some a → ¬ S a.block) : BI w' A n := by
 intro hn
 obtain ⟨b, o, rfl, hb, hc⟩ := h hn
 refine ⟨b, o, rfl, Nat.lt_of_lt_of_le hb hf.size, fun j hj => ?_⟩
 obtain ⟨x, hx, hy⟩ := hc j hj
 exact ⟨x, hx, (hf.cell hb (hs hn _ rfl)).trans hy⟩
theorem Cu.frame {S : Nat → Prop} {w w' : World} {g : Nat} {A : Option Addr} {n c : Nat} (h : Cu w g A n c) (hf : Frame S w w') (hg : ¬ S g) (hs : n ≠ 0 → ∀ a, A = some a → ¬ S a.block) : Cu w' g A n c := by
 obtain ⟨i, hi, h1⟩ := h.at_
 obtain ⟨k, h2⟩ := h.hash
 exact ⟨Nat.lt_of_lt_of_le h.lt hf.size, h.few, h.off, h.bytes.frame hf hs, (hf.cell h.lt hg).trans h.sl, ⟨i, hi, (hf.cell h.lt hg).trans h1⟩, ⟨k, (hf.cell h.lt hg).trans h2⟩, fun o => (hf.frozen h.lt hg).trans (h.froz o)⟩
theorem Cu.later {w w' : World} {g : Nat} {A : Option Addr} {n c : Nat} (h : Cu w g A n c) (hb : Below w.heap.size w w') : Cu w' g A n c :=
 h.frame (S := fun _ => False) (Frame.of_below hb) (fun h => h) (fun _ _ _ h => h)
theorem Cu.turn {w : World} {g : Nat} {A : Option Addr} {n c : Nat} (h : Cu w g A n c) (x : Int) : Cu (w.setCell ⟨g, 2, none⟩ (.int .i64 x)) g A n c := by
 have hf : Frame (fun b => b = g) w (w.setCell ⟨g, 2, none⟩ (.int .i64 x)) := Frame.setCell (S := fun b => b = g) (p := ⟨g, _, none⟩) (Frame.refl _ w) rfl _
 obtain ⟨i, hi, h1⟩ := h.at_
 obtain ⟨k, h2⟩ := h.hash
 refine ⟨by simpa [World.setCell] using h.lt, h.few, h.off, h.bytes.frame hf (fun hn a ha => h.off hn a ha), ?_, ⟨i, hi, ?_⟩, ⟨x, ?_⟩, fun o => by simpa using h.froz o⟩
 ·rw [World.cell?_setCell_other _ _ _ _ (by intro e; injection e with _ e; omega)]; exact h.sl
 ·rw [World.cell?_setCell_other _ _ _ _ (by intro e; injection e with _ e; omega)]; exact h1
 ·exact World.cell?_setCell_same (u := .int .i64 k) _ _ _ h2
theorem Cu.step {w : World} {g : Nat} {A : Option Addr} {n c i : Nat} (h : Cu w g A n c) (hi : i ≤ n) : Cu (w.setCell ⟨g, 1, none⟩ (.int .i64 i)) g A n c := by
 have hf : Frame (fun b => b = g) w (w.setCell ⟨g, 1, none⟩ (.int .i64 i)) := Frame.setCell (S := fun b => b = g) (p := ⟨g, _, none⟩) (Frame.refl _ w) rfl _
 obtain ⟨i', hi', h1⟩ := h.at_
 obtain ⟨k, h2⟩ := h.hash
 refine ⟨by simpa [World.setCell] using h.lt, h.few, h.off, h.bytes.frame hf (fun hn a ha => h.off hn a ha), ?_, ⟨i, hi, ?_⟩, ⟨k, ?_⟩, fun o => by simpa using h.froz o⟩
 ·rw [World.cell?_setCell_other _ _ _ _ (by intro e; injection e with _ e; omega)]; exact h.sl
 ·exact World.cell?_setCell_same (u := .int .i64 i') _ _ _ h1
 ·rw [World.cell?_setCell_other _ _ _ _ (by intro e; injection e with _ e; omega)]; exact h2
def CF (g : Nat) (w w' : World) : Prop := Frame (fun b => b = g) w w'
set_option maxRecDepth 100000 in
set_option maxHeartbeats 1600000 in
theorem sByte (g n c : Nat) (A : Option Addr) (w : World) (h : Cu w g A n c) :
 Calls Tryz.prog 174 #[.pointer (some ⟨g, 0, none⟩)] w fun e w' => ∃ x : Int, (0 ≤ x ∧ x < 256) ∧ e = .returned (.int .i64 x) ∧ Cu w' g A n c ∧ CF g w w' := by
 obtain ⟨i, hi, h1⟩ := h.at_
 obtain ⟨k, h2⟩ := h.hash
 have h0 := h.sl
 have z2 := h.froz 2
 have z1 := h.froz 1
 have HC := Lib.hid h
 clear h
 go_enter Tryz.func174, Tryz.ntmps174
 go_wp2
 generalize wrap64 (wrap64 (k * 6364136223846793005) + 1442695040888963407) = k1 at *
 have HC1 := Lib.hid (HC.out.turn k1)
 have hf1 : CF g w (w.setCell ⟨g, 2, none⟩ (.int .i64 k1)) := Frame.setCell (S := fun b => b = g) (p := ⟨g, 2, none⟩) (Frame.refl _ w) rfl _
 clear h0 h1 h2 z1 z2 HC
 generalize w.setCell ⟨g, 2, none⟩ (.int .i64 k1) = w1 at *
 obtain ⟨i, hi, h1⟩ := HC1.out.at_
 obtain ⟨k, h2⟩ := HC1.out.hash
 have h0 := HC1.out.sl
 have z1 := HC1.out.froz 1
 go_quiet (fail)
 have hx := land_le (bits .xor .i64 (k / 8589934592) (k / 35184372088832)) 255 8 (by decide) (by decide)
 rw [show ((255 : Nat) : Int) = 255 from rfl] at hx
 generalize bits .and .i64 (bits .xor .i64 (k / 8589934592) (k / 35184372088832)) 255 = x at *
 go_wp2
 go_quiet (fail)
 by_cases hin : i < n
 ·have hint : (i : Int) < (n : Int) := by omega
  obtain ⟨b, o, rfl, hb, hby⟩ := HC1.out.bytes (by omega)
  obtain ⟨y, hy, hyc⟩ := hby i hin
  have hn1 := HC1.out.few
  clear hby
  go_wp2
  go_quiet (fail)
  have hx2 := land_le (x + y) 255 8 (by decide) (by decide)
  rw [show ((255 : Nat) : Int) = 255 from rfl] at hx2
  generalize bits .and .i64 (x + y) 255 = z at *
  go_wp2
  go_ret
  exact ⟨z, by omega, rfl, Cu.step (i := i + 1) (HC1.out.later ⟨rfl, rfl, rfl, Nat.le_refl _, fun _ _ => rfl⟩) (by omega), Frame.setCell (S := fun b => b = g) (p := ⟨g, 1, none⟩) (hf1.drewN _) rfl _⟩
 ·have hint : ¬ (i : Int) < (n : Int) := by omega
  go_wp2
  go_ret
  exact ⟨x, by omega, rfl, HC1.out.later ⟨rfl, rfl, rfl, Nat.le_refl _, fun _ _ => rfl⟩, hf1.drewN _⟩
theorem CF.trans {g : Nat} {a b c : World} (h : CF g a b) (k : CF g b c) : CF g a c := Frame.trans h k
theorem CF.later {g : Nat} {a b : World} (h : Below a.heap.size a b) : CF g a b := Frame.of_below h
theorem CF.below {g B : Nat} {a b : World} (h : CF g a b) (hB : B ≤ a.heap.size) (hg : B ≤ g) : Below B a b := Frame.to_below h hB (fun b hb e => by omega)
set_option maxRecDepth 100000 in
set_option maxHeartbeats 1600000 in
theorem sBelow (g n c : Nat) (A : Option Addr) (m : Int) (hm : 1 ≤ m) (hm2 : m ≤ 256) (w : World) (h : Cu w g A n c) :
 Calls Tryz.prog 172 #[.pointer (some ⟨g, 0, none⟩), .int .i64 m] w fun e w' => ∃ x : Int, (0 ≤ x ∧ x < m) ∧ e = .returned (.int .i64 x) ∧ Cu w' g A n c ∧ CF g w w' := by
 have HC := Lib.hid (fun W (hW : Below w.heap.size w W) => sByte g n c A W (h.later hW))
 clear h
 have h1 : ¬ m ≤ 0 := by omega
 have h2 : m ≠ 0 := by omega
 go_enter Tryz.func172, Tryz.ntmps172
 go_wp2_with fail
 refine (HC.out _ (Below.refl _ _)).mono ?_
 rintro e w1 ⟨x, hx, rfl, hc, hf⟩
 have h3 : x.tmod m = x % m := Int.tmod_eq_emod_of_nonneg hx.1
 have h4 := Int.emod_nonneg x h2
 have h5 := Int.emod_lt_of_pos x (show 0 < m by omega)
 have hc' := Lib.hid hc
 have hf' := Lib.hid hf
 clear hc hf
 go_wp2
 go_ret
 exact ⟨x % m, ⟨h4, h5⟩, rfl, hc'.out, hf'.out⟩
set_option maxRecDepth 100000 in
set_option maxHeartbeats 1600000 in
theorem sPick (g n c : Nat) (A : Option Addr) (xs : List Int) (k d : Nat) (B : Option Addr) (hk : xs.length = k) (h1 : 1 ≤ k) (h2 : k ≤ 256) (w : World) (h : Cu w g A n c) (hB : RI w B xs) (hne : ∀ a, B = some a → a.block ≠ g) :
 Calls Tryz.prog 176 #[.pointer (some ⟨g, 0, none⟩), .slice B k d] w fun e w' => ∃ j : Nat, j < k ∧ e = .returned (.int .i64 (xs.getD j 0)) ∧ Cu w' g A n c ∧ CF g w w' := by
 have HC := Lib.hid (fun W (hW : Below w.heap.size w W) => sBelow g n c A k (by omega) (by omega) W (h.later hW))
 obtain ⟨b, o, rfl, hb, hc⟩ := hB (by intro e; rw [e] at hk; simp at hk; omega)
 have hbg : b ≠ g := hne _ rfl
 have HR := Lib.hid hc
 clear h hB hc hne
 go_enter Tryz.func176, Tryz.ntmps176
 go_wp2_with fail
 refine (HC.out _ (by exact Below.refl _ _)).mono ?_
 rintro e w1 ⟨x, ⟨hx0, hx1⟩, rfl, hc, hf⟩
 obtain ⟨j, rfl⟩ : ∃ j : Nat, x = (j : Int) := ⟨x.toNat, by omega⟩
 have hj : j < k := by omega
 have hr : w1.cell? ⟨b, o + j, none⟩ = some (.int .i64 (xs.getD j 0)) := (hf.cell hb hbg).trans (HR.out j (by omega))
 have hc' := Lib.hid hc
 have hf' := Lib.hid hf
 clear hc hf
 obtain ⟨y, hy⟩ : ∃ y, xs.getD j 0 = y := ⟨_, rfl⟩
 rw [hy] at hr
 replace hy := Lib.hid hy
 go_wp2
 go_ret
 exact ⟨j, hj, by rw [hy.out]; rfl, hc'.out, hf'.out⟩
set_option maxRecDepth 100000 in
set_option maxHeartbeats 1600000 in
theorem sNew (n c : Nat) (A : Option Addr) (hn : n ≤ 1048576) (w : World) (h : BI w A n) :
 Calls Tryz.prog 105 #[.slice A n c] w fun e w' => ∃ g, e = .returned (.pointer (some ⟨g, 0, none⟩)) ∧ w.heap.size ≤ g ∧ Cu w' g A n c ∧ Below w.heap.size w w' := by
 have HB := Lib.hid h
 clear h
 go_enter Tryz.func105, Tryz.ntmps105
 go_wp2
 go_loopw [3, 4] (fun y z wr => ∃ (h : Int) (i : Nat), i ≤ n ∧ y = .int .i64 h ∧ z = .int .i64 i ∧ Below w.heap.size w wr) (fun _ z _ => n - (intOf z).toNat)
 case atStart => exact ⟨_, 0, Nat.zero_le _, rfl, rfl, Below.refl _ _⟩
 case round =>
  obtain ⟨h, i, hi, rfl, rfl, hb⟩ := hrel
  by_cases h1 : i < n
  ·obtain ⟨b, o, eA, hb1, hby⟩ := HB.out (by omega)
   obtain ⟨y, hy, hyc⟩ := hby i h1
   have hyc' := (World.cell?_of_block (w := w) (hb.block b hb1) : wr.cell? ⟨b, o + i, none⟩ = w.cell? ⟨b, o + i, none⟩).trans hyc
   clear hby hyc
   subst eA
   by_cases h2 : i < 4000
   ·have h3 : (i : Int) < 4000 := by omega
    go_wp2
    go_roundw
    case rel => exact ⟨_, i + 1, by omega, rfl, rfl, hb⟩
    case measure => simp [intOf]; omega
   ·have h3 : ¬ ((i : Int) < 4000) := by omega
    go_wp2
    go_ret
    have hf := fun C => below_trans hb (below_alloc1 wr (.cells C 161))
    have hs := hb.size
    refine ⟨wr.heap.size, rfl, hs, ⟨by simp, hn, fun h0 a ha => ?_, (HB.out).frame (S := fun _ => False) (Frame.of_below (hf _)) (fun _ _ _ h => h), by simp, ⟨0, Nat.zero_le _, by simp⟩, ⟨h, by simp⟩, fun o => by simp⟩, hf _⟩
    obtain ⟨b, o, e, hb2, _⟩ := HB.out h0
    have ha2 := e.symm.trans ha
    injection ha2 with ha2
    subst ha2
    show b ≠ wr.heap.size
    omega
  ·have h3 : True := trivial
   ·go_wp2
    go_ret
    have hf := fun C => below_trans hb (below_alloc1 wr (.cells C 161))
    have hs := hb.size
    refine ⟨wr.heap.size, rfl, hs, ⟨by simp, hn, fun h0 a ha => ?_, (HB.out).frame (S := fun _ => False) (Frame.of_below (hf _)) (fun _ _ _ h => h), by simp, ⟨0, Nat.zero_le _, by simp⟩, ⟨h, by simp⟩, fun o => by simp⟩, hf _⟩
    obtain ⟨b, o, e, hb2, _⟩ := HB.out h0
    have ha2 := e.symm.trans ha
    injection ha2 with ha2
    subst ha2
    show b ≠ wr.heap.size
    omega
set_option maxRecDepth 100000 in
set_option maxHeartbeats 1600000 in
theorem sNew31 (n c k : Nat) (A : Option Addr) (hn : n ≤ 1048576) (hk : k ≤ 1048576) (w : World) (h : BI w A n) :
 Calls Tryz.prog 106 #[.slice A n c, .int .i64 k] w fun e w' => ∃ g, e = .returned (.pointer (some ⟨g, 0, none⟩)) ∧ w.heap.size ≤ g ∧ Cu w' g A n c ∧ Below w.heap.size w w' := by
 have HN := Lib.hid (sNew n c A hn w h)
 have HY := Lib.hid (fun g W hc => sByte g n c A W hc)
 clear h
 go_enter Tryz.func106, Tryz.ntmps106
 go_wp2_with fail
 refine HN.out.mono ?_
 rintro e w1 ⟨g, rfl, hg, hc, hb⟩
 have HC := Lib.hid hc
 clear hc
 go_wp2_with fail
 go_loopw [6] (fun z wr => ∃ (i : Nat), i ≤ k ∧ z = .int .i64 i ∧ Cu wr g A n c ∧ CF g w1 wr) (fun z _ => k - (intOf z).toNat)
 case atStart => exact ⟨0, Nat.zero_le _, rfl, HC.out, Frame.refl _ _⟩
 case round =>
  obtain ⟨i, hi, rfl, hc, hf⟩ := hrel
  have HC := Lib.hid hc
  have HF := Lib.hid hf
  clear hc hf
  by_cases h1 : i < k
  ·have h2 : (i : Int) < (k : Int) := by omega
   go_wp2_with fail
   refine (HY.out g wr HC.out).mono ?_
   rintro e w2 ⟨x, hx, rfl, hc2, hf2⟩
   have hf3 := Lib.hid (HF.out.trans hf2)
   have HC2 := Lib.hid hc2
   clear hc2 hf2
   go_wp2
   go_roundw
   case rel => exact ⟨i + 1, by omega, rfl, HC2.out, hf3.out⟩
   case measure => simp [intOf]; omega
  ·have h2 : ¬ (i : Int) < (k : Int) := by omega
   go_wp2
   go_ret
   exact ⟨g, rfl, hg, HC.out, hb.trans (HF.out.below hb.size hg)⟩
open Go.RowKit Go.Joins
set_option maxRecDepth 100000 in
set_option maxHeartbeats 1600000 in
theorem sBigIntOf_m2 (w : World) :
 Calls Tryz.prog 204 #[.int .i64 (-2)] w fun e w' => ∃ v, e = .returned v ∧ BigO w' w.heap.size v true (FE.toL 2) ∧ Below w.heap.size w w' := by
 have eqB : (true && decide (2 ≠ 0)) = true := by decide
 have H1 := Lib.hid (fun W => sNatOf_any 2 (by decide) W)
 have H2 := Lib.hid (fun (n c : Nat) (hn : (FE.toL 2).length = n) (hn1 : n ≤ 60) (hnc : n ≤ c) A W (ha : RI W A (FE.toL 2)) => (show _ from eqB ▸ sMake true 2 n c hn hn1 hnc A W ha : Calls Tryz.prog 200 #[.bool true, .slice A n c] W fun e w' => ∃ v, e = .returned v ∧ BigO w' W.heap.size v true (FE.toL 2) ∧ Below W.heap.size W w'))
 have HL := Lib.hid (toL_small3 (k := 2) (by decide))
 clear eqB
 generalize FE.toL 2 = L at *
 go_enter Tryz.func204, Tryz.ntmps204
 go_wp2_with fail
 refine (H1.out _).mono ?_
 rintro e w3 ⟨v3, rfl, hro3, hb3⟩
 have S1 := Slots.new hb3 (g := w.heap.size) rfl
 replace hb3 := below_step hb3
 replace hro3 := hro3.mono (base' := w.heap.size + 1) (by simp)
 obtain ⟨A3, c3, rfl, hl3, hm3, _⟩ := id hro3
 go_wp2_with fail
 refine (H2.out _ _ rfl (Nat.le_trans HL.out (by decide)) hl3 _ _ hro3.reads).mono ?_
 rintro e w4 ⟨v4, rfl, ho4, hb4⟩
 have hsz : w.heap.size < w3.heap.size := S1.1
 replace S1 := S1.later hb4
 replace hb3 := below_trans hb3 hb4
 obtain ⟨va4, rfl, hr4⟩ := ho4
 obtain ⟨b0, b1, z0, z1⟩ := S1.k2
 have hb := (hb3.setCell (p := ⟨w.heap.size, 0, none⟩) (Nat.le_refl _) (.bool true)).setCell (p := ⟨w.heap.size, 1, none⟩) (Nat.le_refl _) va4
 have f4 := (hr4.far (p := ⟨w.heap.size, 0, none⟩) hsz (.bool true)).far (p := ⟨w.heap.size, 1, none⟩) hsz va4
 obtain ⟨A4, c4, rfl, _⟩ := id hr4
 go_wp2
 refine bodyPost_ret (v := .agg #[.bool true, .slice A4 L.length c4]) (by simp [results, Tryz.results204, go_sem, b0, b1]) rfl ⟨_, rfl, ⟨_, rfl, f4.mono (Nat.le_of_lt hsz)⟩, hb⟩
set_option maxRecDepth 100000 in
set_option maxHeartbeats 1600000 in
theorem sBigIntOf_m3 (w : World) :
 Calls Tryz.prog 204 #[.int .i64 (-3)] w fun e w' => ∃ v, e = .returned v ∧ BigO w' w.heap.size v true (FE.toL 3) ∧ Below w.heap.size w w' := by
 have eqB : (true && decide (3 ≠ 0)) = true := by decide
 have H1 := Lib.hid (fun W => sNatOf_any 3 (by decide) W)
 have H2 := Lib.hid (fun (n c : Nat) (hn : (FE.toL 3).length = n) (hn1 : n ≤ 60) (hnc : n ≤ c) A W (ha : RI W A (FE.toL 3)) => (show _ from eqB ▸ sMake true 3 n c hn hn1 hnc A W ha : Calls Tryz.prog 200 #[.bool true, .slice A n c] W fun e w' => ∃ v, e = .returned v ∧ BigO w' W.heap.size v true (FE.toL 3) ∧ Below W.heap.size W w'))
 have HL := Lib.hid (toL_small3 (k := 3) (by decide))
 clear eqB
 generalize FE.toL 3 = L at *
 go_enter Tryz.func204, Tryz.ntmps204
 go_wp2_with fail
 refine (H1.out _).mono ?_
 rintro e w3 ⟨v3, rfl, hro3, hb3⟩
 have S1 := Slots.new hb3 (g := w.heap.size) rfl
 replace hb3 := below_step hb3
 replace hro3 := hro3.mono (base' := w.heap.size + 1) (by simp)
 obtain ⟨A3, c3, rfl, hl3, hm3, _⟩ := id hro3
 go_wp2_with fail
 refine (H2.out _ _ rfl (Nat.le_trans HL.out (by decide)) hl3 _ _ hro3.reads).mono ?_
 rintro e w4 ⟨v4, rfl, ho4, hb4⟩
 have hsz : w.heap.size < w3.heap.size := S1.1
 replace S1 := S1.later hb4
 replace hb3 := below_trans hb3 hb4
 obtain ⟨va4, rfl, hr4⟩ := ho4
 obtain ⟨b0, b1, z0, z1⟩ := S1.k2
 have hb := (hb3.setCell (p := ⟨w.heap.size, 0, none⟩) (Nat.le_refl _) (.bool true)).setCell (p := ⟨w.heap.size, 1, none⟩) (Nat.le_refl _) va4
 have f4 := (hr4.far (p := ⟨w.heap.size, 0, none⟩) hsz (.bool true)).far (p := ⟨w.heap.size, 1, none⟩) hsz va4
 obtain ⟨A4, c4, rfl, _⟩ := id hr4
 go_wp2
 refine bodyPost_ret (v := .agg #[.bool true, .slice A4 L.length c4]) (by simp [results, Tryz.results204, go_sem, b0, b1]) rfl ⟨_, rfl, ⟨_, rfl, f4.mono (Nat.le_of_lt hsz)⟩, hb⟩
set_option maxRecDepth 100000 in
set_option maxHeartbeats 1600000 in
theorem sBigIntOf_m4 (w : World) :
 Calls Tryz.prog 204 #[.int .i64 (-4)] w fun e w' => ∃ v, e = .returned v ∧ BigO w' w.heap.size v true (FE.toL 4) ∧ Below w.heap.size w w' := by
 have eqB : (true && decide (4 ≠ 0)) = true := by decide
 have H1 := Lib.hid (fun W => sNatOf_any 4 (by decide) W)
 have H2 := Lib.hid (fun (n c : Nat) (hn : (FE.toL 4).length = n) (hn1 : n ≤ 60) (hnc : n ≤ c) A W (ha : RI W A (FE.toL 4)) => (show _ from eqB ▸ sMake true 4 n c hn hn1 hnc A W ha : Calls Tryz.prog 200 #[.bool true, .slice A n c] W fun e w' => ∃ v, e = .returned v ∧ BigO w' W.heap.size v true (FE.toL 4) ∧ Below W.heap.size W w'))
 have HL := Lib.hid (toL_small3 (k := 4) (by decide))
 clear eqB
 generalize FE.toL 4 = L at *
 go_enter Tryz.func204, Tryz.ntmps204
 go_wp2_with fail
 refine (H1.out _).mono ?_
 rintro e w3 ⟨v3, rfl, hro3, hb3⟩
 have S1 := Slots.new hb3 (g := w.heap.size) rfl
 replace hb3 := below_step hb3
 replace hro3 := hro3.mono (base' := w.heap.size + 1) (by simp)
 obtain ⟨A3, c3, rfl, hl3, hm3, _⟩ := id hro3
 go_wp2_with fail
 refine (H2.out _ _ rfl (Nat.le_trans HL.out (by decide)) hl3 _ _ hro3.reads).mono ?_
 rintro e w4 ⟨v4, rfl, ho4, hb4⟩
 have hsz : w.heap.size < w3.heap.size := S1.1
 replace S1 := S1.later hb4
 replace hb3 := below_trans hb3 hb4
 obtain ⟨va4, rfl, hr4⟩ := ho4
 obtain ⟨b0, b1, z0, z1⟩ := S1.k2
 have hb := (hb3.setCell (p := ⟨w.heap.size, 0, none⟩) (Nat.le_refl _) (.bool true)).setCell (p := ⟨w.heap.size, 1, none⟩) (Nat.le_refl _) va4
 have f4 := (hr4.far (p := ⟨w.heap.size, 0, none⟩) hsz (.bool true)).far (p := ⟨w.heap.size, 1, none⟩) hsz va4
 obtain ⟨A4, c4, rfl, _⟩ := id hr4
 go_wp2
 refine bodyPost_ret (v := .agg #[.bool true, .slice A4 L.length c4]) (by simp [results, Tryz.results204, go_sem, b0, b1]) rfl ⟨_, rfl, ⟨_, rfl, f4.mono (Nat.le_of_lt hsz)⟩, hb⟩
set_option maxRecDepth 100000 in
set_option maxHeartbeats 1600000 in
theorem sBigIntOf_m5 (w : World) :
 Calls Tryz.prog 204 #[.int .i64 (-5)] w fun e w' => ∃ v, e = .returned v ∧ BigO w' w.heap.size v true (FE.toL 5) ∧ Below w.heap.size w w' := by
 have eqB : (true && decide (5 ≠ 0)) = true := by decide
 have H1 := Lib.hid (fun W => sNatOf_any 5 (by decide) W)
 have H2 := Lib.hid (fun (n c : Nat) (hn : (FE.toL 5).length = n) (hn1 : n ≤ 60) (hnc : n ≤ c) A W (ha : RI W A (FE.toL 5)) => (show _ from eqB ▸ sMake true 5 n c hn hn1 hnc A W ha : Calls Tryz.prog 200 #[.bool true, .slice A n c] W fun e w' => ∃ v, e = .returned v ∧ BigO w' W.heap.size v true (FE.toL 5) ∧ Below W.heap.size W w'))
 have HL := Lib.hid (toL_small3 (k := 5) (by decide))
 clear eqB
 generalize FE.toL 5 = L at *
 go_enter Tryz.func204, Tryz.ntmps204
 go_wp2_with fail
 refine (H1.out _).mono ?_
 rintro e w3 ⟨v3, rfl, hro3, hb3⟩
 have S1 := Slots.new hb3 (g := w.heap.size) rfl
 replace hb3 := below_step hb3
 replace hro3 := hro3.mono (base' := w.heap.size + 1) (by simp)
 obtain ⟨A3, c3, rfl, hl3, hm3, _⟩ := id hro3
 go_wp2_with fail
 refine (H2.out _ _ rfl (Nat.le_trans HL.out (by decide)) hl3 _ _ hro3.reads).mono ?_
 rintro e w4 ⟨v4, rfl, ho4, hb4⟩
 have hsz : w.heap.size < w3.heap.size := S1.1
 replace S1 := S1.later hb4
 replace hb3 := below_trans hb3 hb4
 obtain ⟨va4, rfl, hr4⟩ := ho4
 obtain ⟨b0, b1, z0, z1⟩ := S1.k2
 have hb := (hb3.setCell (p := ⟨w.heap.size, 0, none⟩) (Nat.le_refl _) (.bool true)).setCell (p := ⟨w.heap.size, 1, none⟩) (Nat.le_refl _) va4
 have f4 := (hr4.far (p := ⟨w.heap.size, 0, none⟩) hsz (.bool true)).far (p := ⟨w.heap.size, 1, none⟩) hsz va4
 obtain ⟨A4, c4, rfl, _⟩ := id hr4
 go_wp2
 refine bodyPost_ret (v := .agg #[.bool true, .slice A4 L.length c4]) (by simp [results, Tryz.results204, go_sem, b0, b1]) rfl ⟨_, rfl, ⟨_, rfl, f4.mono (Nat.le_of_lt hsz)⟩, hb⟩
set_option maxRecDepth 100000 in
set_option maxHeartbeats 1600000 in
theorem sBigIntOf_m6 (w : World) :
 Calls Tryz.prog 204 #[.int .i64 (-6)] w fun e w' => ∃ v, e = .returned v ∧ BigO w' w.heap.size v true (FE.toL 6) ∧ Below w.heap.size w w' := by
 have eqB : (true && decide (6 ≠ 0)) = true := by decide
 have H1 := Lib.hid (fun W => sNatOf_any 6 (by decide) W)
 have H2 := Lib.hid (fun (n c : Nat) (hn : (FE.toL 6).length = n) (hn1 : n ≤ 60) (hnc : n ≤ c) A W (ha : RI W A (FE.toL 6)) => (show _ from eqB ▸ sMake true 6 n c hn hn1 hnc A W ha : Calls Tryz.prog 200 #[.bool true, .slice A n c] W fun e w' => ∃ v, e = .returned v ∧ BigO w' W.heap.size v true (FE.toL 6) ∧ Below W.heap.size W w'))
 have HL := Lib.hid (toL_small3 (k := 6) (by decide))
 clear eqB
 generalize FE.toL 6 = L at *
 go_enter Tryz.func204, Tryz.ntmps204
 go_wp2_with fail
 refine (H1.out _).mono ?_
 rintro e w3 ⟨v3, rfl, hro3, hb3⟩
 have S1 := Slots.new hb3 (g := w.heap.size) rfl
 replace hb3 := below_step hb3
 replace hro3 := hro3.mono (base' := w.heap.size + 1) (by simp)
 obtain ⟨A3, c3, rfl, hl3, hm3, _⟩ := id hro3
 go_wp2_with fail
 refine (H2.out _ _ rfl (Nat.le_trans HL.out (by decide)) hl3 _ _ hro3.reads).mono ?_
 rintro e w4 ⟨v4, rfl, ho4, hb4⟩
 have hsz : w.heap.size < w3.heap.size := S1.1
 replace S1 := S1.later hb4
 replace hb3 := below_trans hb3 hb4
 obtain ⟨va4, rfl, hr4⟩ := ho4
 obtain ⟨b0, b1, z0, z1⟩ := S1.k2
 have hb := (hb3.setCell (p := ⟨w.heap.size, 0, none⟩) (Nat.le_refl _) (.bool true)).setCell (p := ⟨w.heap.size, 1, none⟩) (Nat.le_refl _) va4
 have f4 := (hr4.far (p := ⟨w.heap.size, 0, none⟩) hsz (.bool true)).far (p := ⟨w.heap.size, 1, none⟩) hsz va4
 obtain ⟨A4, c4, rfl, _⟩ := id hr4
 go_wp2
 refine bodyPost_ret (v := .agg #[.bool true, .slice A4 L.length c4]) (by simp [results, Tryz.results204, go_sem, b0, b1]) rfl ⟨_, rfl, ⟨_, rfl, f4.mono (Nat.le_of_lt hsz)⟩, hb⟩
set_option maxRecDepth 100000 in
set_option maxHeartbeats 1600000 in
theorem sBigIntOf_m7 (w : World) :
 Calls Tryz.prog 204 #[.int .i64 (-7)] w fun e w' => ∃ v, e = .returned v ∧ BigO w' w.heap.size v true (FE.toL 7) ∧ Below w.heap.size w w' := by
 have eqB : (true && decide (7 ≠ 0)) = true := by decide
 have H1 := Lib.hid (fun W => sNatOf_any 7 (by decide) W)
 have H2 := Lib.hid (fun (n c : Nat) (hn : (FE.toL 7).length = n) (hn1 : n ≤ 60) (hnc : n ≤ c) A W (ha : RI W A (FE.toL 7)) => (show _ from eqB ▸ sMake true 7 n c hn hn1 hnc A W ha : Calls Tryz.prog 200 #[.bool true, .slice A n c] W fun e w' => ∃ v, e = .returned v ∧ BigO w' W.heap.size v true (FE.toL 7) ∧ Below W.heap.size W w'))
 have HL := Lib.hid (toL_small3 (k := 7) (by decide))
 clear eqB
 generalize FE.toL 7 = L at *
 go_enter Tryz.func204, Tryz.ntmps204
 go_wp2_with fail
 refine (H1.out _).mono ?_
 rintro e w3 ⟨v3, rfl, hro3, hb3⟩
 have S1 := Slots.new hb3 (g := w.heap.size) rfl
 replace hb3 := below_step hb3
 replace hro3 := hro3.mono (base' := w.heap.size + 1) (by simp)
 obtain ⟨A3, c3, rfl, hl3, hm3, _⟩ := id hro3
 go_wp2_with fail
 refine (H2.out _ _ rfl (Nat.le_trans HL.out (by decide)) hl3 _ _ hro3.reads).mono ?_
 rintro e w4 ⟨v4, rfl, ho4, hb4⟩
 have hsz : w.heap.size < w3.heap.size := S1.1
 replace S1 := S1.later hb4
 replace hb3 := below_trans hb3 hb4
 obtain ⟨va4, rfl, hr4⟩ := ho4
 obtain ⟨b0, b1, z0, z1⟩ := S1.k2
 have hb := (hb3.setCell (p := ⟨w.heap.size, 0, none⟩) (Nat.le_refl _) (.bool true)).setCell (p := ⟨w.heap.size, 1, none⟩) (Nat.le_refl _) va4
 have f4 := (hr4.far (p := ⟨w.heap.size, 0, none⟩) hsz (.bool true)).far (p := ⟨w.heap.size, 1, none⟩) hsz va4
 obtain ⟨A4, c4, rfl, _⟩ := id hr4
 go_wp2
 refine bodyPost_ret (v := .agg #[.bool true, .slice A4 L.length c4]) (by simp [results, Tryz.results204, go_sem, b0, b1]) rfl ⟨_, rfl, ⟨_, rfl, f4.mono (Nat.le_of_lt hsz)⟩, hb⟩
set_option maxRecDepth 100000 in
set_option maxHeartbeats 1600000 in
theorem sBigIntOf_m8 (w : World) :
 Calls Tryz.prog 204 #[.int .i64 (-8)] w fun e w' => ∃ v, e = .returned v ∧ BigO w' w.heap.size v true (FE.toL 8) ∧ Below w.heap.size w w' := by
 have eqB : (true && decide (8 ≠ 0)) = true := by decide
 have H1 := Lib.hid (fun W => sNatOf_any 8 (by decide) W)
 have H2 := Lib.hid (fun (n c : Nat) (hn : (FE.toL 8).length = n) (hn1 : n ≤ 60) (hnc : n ≤ c) A W (ha : RI W A (FE.toL 8)) => (show _ from eqB ▸ sMake true 8 n c hn hn1 hnc A W ha : Calls Tryz.prog 200 #[.bool true, .slice A n c] W fun e w' => ∃ v, e = .returned v ∧ BigO w' W.heap.size v true (FE.toL 8) ∧ Below W.heap.size W w'))
 have HL := Lib.hid (toL_small3 (k := 8) (by decide))
 clear eqB
 generalize FE.toL 8 = L at *
 go_enter Tryz.func204, Tryz.ntmps204
 go_wp2_with fail
 refine (H1.out _).mono ?_
 rintro e w3 ⟨v3, rfl, hro3, hb3⟩
 have S1 := Slots.new hb3 (g := w.heap.size) rfl
 replace hb3 := below_step hb3
 replace hro3 := hro3.mono (base' := w.heap.size + 1) (by simp)
 obtain ⟨A3, c3, rfl, hl3, hm3, _⟩ := id hro3
 go_wp2_with fail
 refine (H2.out _ _ rfl (Nat.le_trans HL.out (by decide)) hl3 _ _ hro3.reads).mono ?_
 rintro e w4 ⟨v4, rfl, ho4, hb4⟩
 have hsz : w.heap.size < w3.heap.size := S1.1
 replace S1 := S1.later hb4
 replace hb3 := below_trans hb3 hb4
 obtain ⟨va4, rfl, hr4⟩ := ho4
 obtain ⟨b0, b1, z0, z1⟩ := S1.k2
 have hb := (hb3.setCell (p := ⟨w.heap.size, 0, none⟩) (Nat.le_refl _) (.bool true)).setCell (p := ⟨w.heap.size, 1, none⟩) (Nat.le_refl _) va4
 have f4 := (hr4.far (p := ⟨w.heap.size, 0, none⟩) hsz (.bool true)).far (p := ⟨w.heap.size, 1, none⟩) hsz va4
 obtain ⟨A4, c4, rfl, _⟩ := id hr4
 go_wp2
 refine bodyPost_ret (v := .agg #[.bool true, .slice A4 L.length c4]) (by simp [results, Tryz.results204, go_sem, b0, b1]) rfl ⟨_, rfl, ⟨_, rfl, f4.mono (Nat.le_of_lt hsz)⟩, hb⟩
set_option maxRecDepth 100000 in
set_option maxHeartbeats 1600000 in
theorem sBigIntOf_m9 (w : World) :
 Calls Tryz.prog 204 #[.int .i64 (-9)] w fun e w' => ∃ v, e = .returned v ∧ BigO w' w.heap.size v true (FE.toL 9) ∧ Below w.heap.size w w' := by
 have eqB : (true && decide (9 ≠ 0)) = true := by decide
 have H1 := Lib.hid (fun W => sNatOf_any 9 (by decide) W)
 have H2 := Lib.hid (fun (n c : Nat) (hn : (FE.toL 9).length = n) (hn1 : n ≤ 60) (hnc : n ≤ c) A W (ha : RI W A (FE.toL 9)) => (show _ from eqB ▸ sMake true 9 n c hn hn1 hnc A W ha : Calls Tryz.prog 200 #[.bool true, .slice A n c] W fun e w' => ∃ v, e = .returned v ∧ BigO w' W.heap.size v true (FE.toL 9) ∧ Below W.heap.size W w'))
 have HL := Lib.hid (toL_small3 (k := 9) (by decide))
 clear eqB
 generalize FE.toL 9 = L at *
 go_enter Tryz.func204, Tryz.ntmps204
 go_wp2_with fail
 refine (H1.out _).mono ?_
 rintro e w3 ⟨v3, rfl, hro3, hb3⟩
 have S1 := Slots.new hb3 (g := w.heap.size) rfl
 replace hb3 := below_step hb3
 replace hro3 := hro3.mono (base' := w.heap.size + 1) (by simp)
 obtain ⟨A3, c3, rfl, hl3, hm3, _⟩ := id hro3
 go_wp2_with fail
 refine (H2.out _ _ rfl (Nat.le_trans HL.out (by decide)) hl3 _ _ hro3.reads).mono ?_
 rintro e w4 ⟨v4, rfl, ho4, hb4⟩
 have hsz : w.heap.size < w3.heap.size := S1.1
 replace S1 := S1.later hb4
 replace hb3 := below_trans hb3 hb4
 obtain ⟨va4, rfl, hr4⟩ := ho4
 obtain ⟨b0, b1, z0, z1⟩ := S1.k2
 have hb := (hb3.setCell (p := ⟨w.heap.size, 0, none⟩) (Nat.le_refl _) (.bool true)).setCell (p := ⟨w.heap.size, 1, none⟩) (Nat.le_refl _) va4
 have f4 := (hr4.far (p := ⟨w.heap.size, 0, none⟩) hsz (.bool true)).far (p := ⟨w.heap.size, 1, none⟩) hsz va4
 obtain ⟨A4, c4, rfl, _⟩ := id hr4
 go_wp2
 refine bodyPost_ret (v := .agg #[.bool true, .slice A4 L.length c4]) (by simp [results, Tryz.results204, go_sem, b0, b1]) rfl ⟨_, rfl, ⟨_, rfl, f4.mono (Nat.le_of_lt hsz)⟩, hb⟩
set_option maxRecDepth 100000 in
set_option maxHeartbeats 1600000 in
theorem sBigIntOf_m10 (w : World) :
 Calls Tryz.prog 204 #[.int .i64 (-10)] w fun e w' => ∃ v, e = .returned v ∧ BigO w' w.heap.size v true (FE.toL 10) ∧ Below w.heap.size w w' := by
 have eqB : (true && decide (10 ≠ 0)) = true := by decide
 have H1 := Lib.hid (fun W => sNatOf_any 10 (by decide) W)
 have H2 := Lib.hid (fun (n c : Nat) (hn : (FE.toL 10).length = n) (hn1 : n ≤ 60) (hnc : n ≤ c) A W (ha : RI W A (FE.toL 10)) => (show _ from eqB ▸ sMake true 10 n c hn hn1 hnc A W ha : Calls Tryz.prog 200 #[.bool true, .slice A n c] W fun e w' => ∃ v, e = .returned v ∧ BigO w' W.heap.size v true (FE.toL 10) ∧ Below W.heap.size W w'))
 have HL := Lib.hid (toL_small3 (k := 10) (by decide))
 clear eqB
 generalize FE.toL 10 = L at *
 go_enter Tryz.func204, Tryz.ntmps204
 go_wp2_with fail
 refine (H1.out _).mono ?_
 rintro e w3 ⟨v3, rfl, hro3, hb3⟩
 have S1 := Slots.new hb3 (g := w.heap.size) rfl
 replace hb3 := below_step hb3
 replace hro3 := hro3.mono (base' := w.heap.size + 1) (by simp)
 obtain ⟨A3, c3, rfl, hl3, hm3, _⟩ := id hro3
 go_wp2_with fail
 refine (H2.out _ _ rfl (Nat.le_trans HL.out (by decide)) hl3 _ _ hro3.reads).mono ?_
 rintro e w4 ⟨v4, rfl, ho4, hb4⟩
 have hsz : w.heap.size < w3.heap.size := S1.1
 replace S1 := S1.later hb4
 replace hb3 := below_trans hb3 hb4
 obtain ⟨va4, rfl, hr4⟩ := ho4
 obtain ⟨b0, b1, z0, z1⟩ := S1.k2
 have hb := (hb3.setCell (p := ⟨w.heap.size, 0, none⟩) (Nat.le_refl _) (.bool true)).setCell (p := ⟨w.heap.size, 1, none⟩) (Nat.le_refl _) va4
 have f4 := (hr4.far (p := ⟨w.heap.size, 0, none⟩) hsz (.bool true)).far (p := ⟨w.heap.size, 1, none⟩) hsz va4
 obtain ⟨A4, c4, rfl, _⟩ := id hr4
 go_wp2
 refine bodyPost_ret (v := .agg #[.bool true, .slice A4 L.length c4]) (by simp [results, Tryz.results204, go_sem, b0, b1]) rfl ⟨_, rfl, ⟨_, rfl, f4.mono (Nat.le_of_lt hsz)⟩, hb⟩
theorem sBigIntOf_small (n : Int) (h : -10 ≤ n) (h2 : n ≤ 1000) (w : World) :
 Calls Tryz.prog 204 #[.int .i64 n] w fun e w' => ∃ v, e = .returned v ∧ BigO w' w.heap.size v (decide (n < 0)) (FE.toL n.natAbs) ∧ Below w.heap.size w w' := by
 by_cases hn : 0 ≤ n
 ·have h3 := sBigIntOf_pos n.natAbs (by omega) w
  rw [show ((n.natAbs : Nat) : Int) = n by omega] at h3
  rw [show decide (n < 0) = false by simp; omega]
  exact h3
 ·have h4 : n = -1 ∨ n = -2 ∨ n = -3 ∨ n = -4 ∨ n = -5 ∨ n = -6 ∨ n = -7 ∨ n = -8 ∨ n = -9 ∨ n = -10 := by omega
  rcases h4 with rfl | rfl | rfl | rfl | rfl | rfl | rfl | rfl | rfl | rfl
  ·exact sBigIntOf_m1 w
  ·exact sBigIntOf_m2 w
  ·exact sBigIntOf_m3 w
  ·exact sBigIntOf_m4 w
  ·exact sBigIntOf_m5 w
  ·exact sBigIntOf_m6 w
  ·exact sBigIntOf_m7 w
  ·exact sBigIntOf_m8 w
  ·exact sBigIntOf_m9 w
  ·exact sBigIntOf_m10 w
theorem sRatFromInt_small (n : Int) (h : -10 ≤ n) (h2 : n ≤ 1000) (w : World) :
 Calls Tryz.prog 173 #[.int .i64 n] w fun e w' => ∃ v, e = .returned v ∧ RatP w' w.heap.size v (FE.rint n) ∧ Below w.heap.size w w' :=
 sRatFromInt_at n (decide (n < 0)) (FE.toL n.natAbs) (fun W => sBigIntOf_small n h h2 W) w
open Go.RowKit Go.Joins
open Go.RowKit Go.Joins
theorem PO.later {w w' : World} {lo hi : Nat} {va : Value} {xs : List Int} (h : PO w lo hi va xs) (hb : Below w.heap.size w w') : PO w' lo hi va xs :=
 h.frame (S := fun _ => False) (Frame.of_below hb) (fun _ _ h => h)
theorem PO.lt {w : World} {lo hi : Nat} {va : Value} {xs : List Int} (h : PO w lo hi va xs) {b : Nat} (hb : blk va = some b) : b < w.heap.size := by
 obtain ⟨_, _, _, _, ha⟩ := h.1.at_blk hb
 exact ha.lt
theorem VS.cells {w : World} {lo hi n c j : Nat} {A : Option Addr} {ps : List (Value × Value)} {rs : List RatD} (h : VS w lo hi (.slice A n c) ps rs) (hj : j < rs.length) :
 rs.length = n ∧ ∃ g, A = some ⟨g, 0, none⟩ ∧ g < w.heap.size ∧ (∀ i, w.frozen? ⟨g, i, none⟩ = false) ∧ (∃ s, w.cell? ⟨g, 0, none⟩ = some (.bool s)) ∧ EA w lo hi g (j * 3) (ps.getD j zP) (rs.getD j zR) := by
 obtain ⟨_, A', c', e, _, _, h3⟩ := h
 injection e with e1 e2 e3
 subst e1
 obtain ⟨g, rfl, _, _, k1, k2, ke⟩ := h3 (by rintro rfl; simp at hj)
 exact ⟨e2.symm, g, rfl, k1, k2, ⟨_, by have := (ke 0 (by omega)).1; rwa [Nat.zero_mul] at this⟩, ke j hj⟩
theorem VS.few {w : World} {lo hi : Nat} {v : Value} {ps : List (Value × Value)} {rs : List RatD} (h : VS w lo hi v ps rs) : ps.length = rs.length := h.1
open Go.RowKit Go.Joins
structure RowD where
 cols : List Int
 vals : List RatD
def zRow : RowD := ⟨[], []⟩
def RowD.size (x : RowD) : Nat := x.cols.length + vsz x.vals
def RowD.same (x y : RowD) : Bool := x.cols == y.cols && vsame x.vals y.vals
def RowD.few (x : RowD) : Prop := x.cols.length ≤ 1048576 ∧ Few x.vals
theorem RowD.same_refl (x : RowD) : x.same x = true := by simp [RowD.same, vsame_refl]
def RowAt (w : World) (b off : Nat) (x : RowD) : Prop :=
 ∃ A c B d, w.cell? ⟨b, off, none⟩ = some (.slice A x.cols.length c) ∧ w.cell? ⟨b, off + 1, none⟩ = some (.slice B x.vals.length d) ∧
  (x.cols.length ≤ c ∧ c ≤ maxLen ∧ x.vals.length ≤ d ∧ d ≤ maxLen) ∧ RI w A x.cols ∧ VI w B x.vals
def RowV (w : World) (v : Value) (x : RowD) : Prop :=
 ∃ A c B d, v = .agg #[.slice A x.cols.length c, .slice B x.vals.length d] ∧
  (x.cols.length ≤ c ∧ c ≤ maxLen ∧ x.vals.length ≤ d ∧ d ≤ maxLen) ∧ RI w A x.cols ∧ VI w B x.vals
theorem RowV.later {w w' : World} {v : Value} {x : RowD} (h : RowV w v x) (hb : Below w.heap.size w w') : RowV w' v x := by
 obtain ⟨A, c, B, d, rfl, hl, h1, h2⟩ := h
 exact ⟨A, c, B, d, rfl, hl, h1.later hb, h2.later hb⟩
theorem RowAt.stays : Stays RowAt := by
 intro w w' b o x hlt h hb
 obtain ⟨A, c, B, d, h0, h1, hl, h3, h4⟩ := h
 exact ⟨A, c, B, d, cell_later hlt h0 hb, cell_later hlt h1 hb, hl, h3.later hb, h4.later hb⟩
def RowO (w : World) (base : Nat) (v : Value) (x : RowD) : Prop := ∃ va vb, v = .agg #[va, vb] ∧ RO w base va x.cols ∧ VO w base vb x.vals
def RowOAt (w : World) (base b off : Nat) (x : RowD) : Prop :=
 ∃ va vb, w.cell? ⟨b, off, none⟩ = some va ∧ w.cell? ⟨b, off + 1, none⟩ = some vb ∧ RO w base va x.cols ∧ VO w base vb x.vals
theorem RowO.reads {w : World} {base : Nat} {v : Value} {x : RowD} (h : RowO w base v x) : RowV w v x := by
 obtain ⟨va, vb, rfl, h1, h2⟩ := h
 obtain ⟨A, c, rfl, hl, hc, _⟩ := id h1
 obtain ⟨B, d, rfl, hm, hd⟩ := h2.form
 exact ⟨A, c, B, d, rfl, ⟨hl, hc, hm, hd⟩, h1.reads, h2.reads⟩
theorem RowOAt.reads {w : World} {base b off : Nat} {x : RowD} (h : RowOAt w base b off x) : RowAt w b off x := by
 obtain ⟨va, vb, h0, h1, h2, h3⟩ := h
 obtain ⟨A, c, rfl, hl, hc, _⟩ := id h2
 obtain ⟨B, d, rfl, hm, hd⟩ := h3.form
 exact ⟨A, c, B, d, h0, h1, ⟨hl, hc, hm, hd⟩, h2.reads, h3.reads⟩
theorem RowOAt.later {w w' : World} {base b off : Nat} {x : RowD} (h : RowOAt w base b off x) (hlt : b < w.heap.size) (hb : Below w.heap.size w w') : RowOAt w' base b off x := by
 obtain ⟨va, vb, h0, h1, h2, h3⟩ := h
 exact ⟨va, vb, cell_later hlt h0 hb, cell_later hlt h1 hb, h2.later hb, h3.later hb⟩
theorem Slots.c2 {w : World} {g : Nat} {a b : Value} (h : Slots w g [a, b]) : w.cell? ⟨g, 0, none⟩ = some a ∧ w.cell? ⟨g, 1, none⟩ = some b ∧ w.frozen? ⟨g, 0, none⟩ = false ∧ w.frozen? ⟨g, 1, none⟩ = false :=
 ⟨h.2.1 0 (by simp), h.2.1 1 (by simp), h.2.2 0, h.2.2 1⟩
open Go.RowKit Go.Joins
open Go.RowKit Go.Joins
def MI (w : World) (A : Option Addr) (rs : List RowD) : Prop := SI RowAt 2 zRow w A rs
theorem MI.later {w w' : World} {A : Option Addr} {rs : List RowD} (h : MI w A rs) (hb : Below w.heap.size w w') : MI w' A rs := SI.later RowAt.stays h hb
def MFew (rs : List RowD) : Prop := rs.length ≤ 1048576 ∧ ∀ k, k < rs.length → (rs.getD k zRow).few
theorem MI.cells {w : World} {A : Option Addr} {rs : List RowD} (h : MI w A rs) (k : Nat) (hk : k < rs.length) : ∃ b off, A = some ⟨b, off, none⟩ ∧ b < w.heap.size ∧ RowAt w b (off + k * 2) (rs.getD k zRow) := by
 obtain ⟨b, off, rfl, hb, hc⟩ := h (by intro h; subst h; simp at hk)
 exact ⟨b, off, rfl, hb, hc k hk⟩
def MO (w : World) (base : Nat) (v : Value) (rs : List RowD) : Prop :=
 ∃ A c, v = .slice A rs.length c ∧ rs.length ≤ c ∧ c ≤ maxLen ∧ (rs ≠ [] → ∃ g, A = some ⟨g, 0, none⟩ ∧ base ≤ g ∧ g < w.heap.size ∧ (∀ i, w.frozen? ⟨g, i, none⟩ = false) ∧ ∀ j, j < rs.length → RowOAt w (g + 1) g (j * 2) (rs.getD j zRow))
theorem MO.form {w : World} {base : Nat} {v : Value} {rs : List RowD} (h : MO w base v rs) : ∃ A c, v = .slice A rs.length c ∧ rs.length ≤ c ∧ c ≤ maxLen := by
 obtain ⟨A, c, h1, h2, h3, _⟩ := h; exact ⟨A, c, h1, h2, h3⟩
theorem MO.reads {w : World} {base n c : Nat} {A : Option Addr} {rs : List RowD} (h : MO w base (.slice A n c) rs) : MI w A rs := by
 intro hx
 obtain ⟨A', c', he, _, _, h⟩ := h
 injection he with e1 e2 e3
 subst e1
 obtain ⟨g, rfl, _, hlt, _, h⟩ := h hx
 exact ⟨g, 0, rfl, hlt, fun j hj => by rw [Nat.zero_add]; exact (h j hj).reads⟩
open Go.RowKit Go.Joins
def MatV (w : World) (v : Value) (rs : List RowD) : Prop := ∃ A c, v = .agg #[.slice A rs.length c] ∧ (rs.length ≤ c ∧ c ≤ maxLen) ∧ MI w A rs
theorem MatV.later {w w' : World} {v : Value} {rs : List RowD} (h : MatV w v rs) (hb : Below w.heap.size w w') : MatV w' v rs := by
 obtain ⟨A, c, rfl, hl, h1⟩ := h
 exact ⟨A, c, rfl, hl, h1.later hb⟩
def MatO (w : World) (base : Nat) (v : Value) (rs : List RowD) : Prop := ∃ va, v = .agg #[va] ∧ MO w base va rs
theorem MO.far {w : World} {base : Nat} {v : Value} {rs : List RowD} (h : MO w base v rs) {p : Addr} (hp : p.block < base) (u : Value) : MO (w.setCell p u) base v rs := by
 obtain ⟨A, c, rfl, hl, hc, h⟩ := h
 refine ⟨A, c, rfl, hl, hc, fun hx => ?_⟩
 obtain ⟨g, rfl, hg, hs, hf, h⟩ := h hx
 refine ⟨g, rfl, hg, by simpa using hs, fun i => by simpa using hf i, fun j hj => ?_⟩
 obtain ⟨va, vb, h0, h1, h2, h3⟩ := h j hj
 have hcc : ∀ i, (w.setCell p u).cell? ⟨g, i, none⟩ = w.cell? ⟨g, i, none⟩ := fun i => World.cell?_setCell_other _ _ _ _ (by intro e; subst e; simp at hp; omega)
 exact ⟨va, vb, by rw [hcc]; exact h0, by rw [hcc]; exact h1, h2.far (by omega) u, h3.far (by omega) u⟩
theorem MO.later {w w' : World} {base : Nat} {v : Value} {rs : List RowD} (h : MO w base v rs) (hb : Below w.heap.size w w') : MO w' base v rs := by
 obtain ⟨A, c, rfl, hl, hc, h⟩ := h
 refine ⟨A, c, rfl, hl, hc, fun hx => ?_⟩
 obtain ⟨g, rfl, hg, hs, hf, h⟩ := h hx
 exact ⟨g, rfl, hg, Nat.lt_of_lt_of_le hs hb.size, fun i => by rw [hb.frozen (p := ⟨g, i, none⟩) hs]; exact hf i, fun j hj => (h j hj).later hs hb⟩
theorem MO.mono {w : World} {base base' : Nat} {v : Value} {rs : List RowD} (h : MO w base v rs) (hb : base' ≤ base) : MO w base' v rs := by
 obtain ⟨A, c, rfl, hl, hc, h⟩ := h
 refine ⟨A, c, rfl, hl, hc, fun hx => ?_⟩
 obtain ⟨g, rfl, hg, hs⟩ := h hx
 exact ⟨g, rfl, by omega, hs⟩
theorem MatO.reads {w : World} {base : Nat} {v : Value} {rs : List RowD} (h : MatO w base v rs) : MatV w v rs := by
 obtain ⟨va, rfl, h1⟩ := h
 obtain ⟨A, c, rfl, hl, hc⟩ := h1.form
 exact ⟨A, c, rfl, ⟨hl, hc⟩, h1.reads⟩
theorem Slots.c1 {w : World} {g : Nat} {a : Value} (h : Slots w g [a]) : w.cell? ⟨g, 0, none⟩ = some a ∧ w.frozen? ⟨g, 0, none⟩ = false := ⟨h.2.1 0 (by simp), h.2.2 0⟩
open Go.RowKit Go.Joins Go.Deep
theorem list_each {α : Type} (d : α) (n : Nat) (P : Nat → α → Prop) (h : ∀ j, j < n → ∃ y, P j y) : ∃ l : List α, l.length = n ∧ ∀ j, j < n → P j (l.getD j d) := by
 have each : ∀ j, j < n → ∃ z : Option α, ∃ y, z = some y ∧ P j y := fun j hj => by
  obtain ⟨y, hy⟩ := h j hj
  exact ⟨some y, y, rfl, hy⟩
 obtain ⟨f, hf⟩ := choose_lt each
 refine ⟨(List.range n).map fun i => (f i).getD d, by simp, fun j hj => ?_⟩
 obtain ⟨y, e, q⟩ := hf j hj
 rw [List.getD_eq_getElem?_getD, List.getElem?_map, List.getElem?_range hj]
 simp only [Option.map_some, Option.getD_some, e]
 exact q
theorem list_eqD {α : Type} {d : α} {xs zs : List α} (h : zs.length = xs.length) (hj : ∀ j, j < xs.length → zs.getD j d = xs.getD j d) : zs = xs := by
 apply List.ext_getElem h
 intro i h1 h2
 have := hj i h2
 simpa [h1, h2] using this
theorem getD_setG {α : Type} {d : α} (l : List α) (i j : Nat) (x : α) : (l.set i x).getD j d = if i = j ∧ j < l.length then x else l.getD j d := by
 simp only [List.getD_eq_getElem?_getD, List.getElem?_set]
 split
 ·rename_i h
  subst h
  split
  ·rename_i h; simp [h]
  ·rename_i h; simp [h]
 ·rename_i h
  rw [if_neg (fun h' => h h'.1)]
def ShV (a b : List RatD) : Prop := a.length = b.length ∧ ∀ j, j < b.length → shp (a.getD j zR) = shp (b.getD j zR)
theorem ShV.map {a b : List RatD} (h : ShV a b) : a.map shp = b.map shp := by
 apply List.ext_getElem (by simp [h.1])
 intro i h1 h2
 simp only [List.length_map] at h1 h2
 have := h.2 i h2
 simpa [h1, h2] using this
theorem cntV_shp (rs : List RatD) : cntV rs = ((rs.map shp).map fun p => 1 + p.1 + p.2).sum := by
 simp only [cntV, List.map_map]; rfl
theorem ShV.cnt {a b : List RatD} (h : ShV a b) : cntV a = cntV b := by rw [cntV_shp, cntV_shp, h.map]
theorem ShV.cnt_take {a b : List RatD} (h : ShV a b) (j : Nat) : cntV (a.take j) = cntV (b.take j) := by simp only [cntV_shp, List.map_take, h.map]
theorem ShV.few {a b : List RatD} (h : ShV a b) (hb : Few b) : Few a := by
 refine ⟨by rw [h.1]; exact hb.1, fun k hk => ?_⟩
 rw [h.1] at hk
 have h1 := h.2 k hk
 have h2 := hb.2 k hk
 simp only [shp, Prod.mk.injEq] at h1
 omega
theorem mkRat_shp {a b : RatD} (h : shp a = shp b) (k : Int) : mkRat a k = mkRat b k := by
 simp only [shp, Prod.mk.injEq] at h
 simp only [mkRat, h.1, h.2]
theorem ShV.mkV {a b : List RatD} (h : ShV a b) (k : Int) : mkV a k = mkV b k := by
 refine vec_same (by rw [Go.Proofs.YtlpomcihkjiokaaGreat.mkV, mixV_len, Go.Proofs.YtlpomcihkjiokaaGreat.mkV, mixV_len]; exact h.1) (fun j hj => ?_)
 rw [Go.Proofs.YtlpomcihkjiokaaGreat.mkV, mixV_len] at hj
 rw [Go.Proofs.YtlpomcihkjiokaaGreat.mkV, mixV_get (h.1 ▸ hj), if_pos (h.1 ▸ hj), Go.Proofs.YtlpomcihkjiokaaGreat.mkV, mixV_get hj, if_pos hj, mkRat_shp (h.2 j hj), h.cnt_take]
theorem VS.turns {w w' : World} {lo hi : Nat} {v : Value} {ps : List (Value × Value)} {rs : List RatD} (h : VS w lo hi v ps rs) (ht : Turn w w') : ∃ rs', ShV rs' rs ∧ VS w' lo hi v ps rs' := by
 obtain ⟨rs', h1, h2, h3⟩ := h.turn ht
 exact ⟨rs', ⟨h1, h2⟩, h3⟩
theorem VS.later {w w' : World} {lo hi : Nat} {v : Value} {ps : List (Value × Value)} {rs : List RatD} (h : VS w lo hi v ps rs) (hb : Below w.heap.size w w') : VS w' lo hi v ps rs :=
 h.frame (S := fun _ => False) (Frame.of_below hb) (fun _ _ h => h)
theorem VS.not_slice {w : World} {lo hi : Nat} {v : Value} {ps : List (Value × Value)} {rs : List RatD} (h : VS w lo hi v ps rs) {g : Nat} {A : Option Addr} {n c : Nat} (hg : w.cell? ⟨g, 0, none⟩ = some (.slice A n c)) : ¬ Foot v ps g := by
 rintro (hb | ⟨j, hj, hb⟩)
 ·obtain ⟨hx, _, _, _, _, _, ke⟩ := h.at_blk hb
  have := (ke 0 (List.length_pos_iff.2 hx)).1
  rw [Nat.zero_mul, hg] at this
  cases this
 ·obtain ⟨hp, A', c', rfl, _, _, h3⟩ := h
  obtain ⟨g', rfl, _, _, _, _, he⟩ := h3 (by rintro rfl; simp at hp; subst hp; simp at hj)
  have := he j (by omega)
  rcases hb with hb | hb
  ·obtain ⟨hx, _, _, _, ha⟩ := this.2.2.2.1.1.at_blk hb
   have := ha.cell 0 (List.length_pos_iff.2 hx)
   rw [hg] at this; cases this
  ·obtain ⟨hx, _, _, _, ha⟩ := this.2.2.2.2.1.at_blk hb
   have := ha.cell 0 (List.length_pos_iff.2 hx)
   rw [hg] at this; cases this
theorem PO.not_slice {w : World} {lo hi : Nat} {v : Value} {xs : List Int} (h : PO w lo hi v xs) {g : Nat} {A : Option Addr} {n c : Nat} (hg : w.cell? ⟨g, 0, none⟩ = some (.slice A n c)) : blk v ≠ some g := by
 intro hb
 obtain ⟨hx, _, _, _, ha⟩ := h.1.at_blk hb
 have := ha.cell 0 (List.length_pos_iff.2 hx)
 rw [hg] at this; cases this
structure RowP where
 ca : Value
 va : Value
 ps : List (Value × Value)
def zRP : RowP := ⟨.slice none 0 0, .slice none 0 0, []⟩
def FootR (q : RowP) (b : Nat) : Prop := blk q.ca = some b ∨ Foot q.va q.ps b
def FootM (qs : List RowP) (b : Nat) : Prop := ∃ j, j < qs.length ∧ FootR (qs.getD j zRP) b
def ApR (q : RowP) : Prop := Aps q.ps ∧ ∀ b, blk q.ca = some b → ¬ Foot q.va q.ps b
def ApM (qs : List RowP) : Prop := (∀ j, j < qs.length → ApR (qs.getD j zRP)) ∧ ∀ i j, i < qs.length → j < qs.length → i ≠ j → ∀ b, FootR (qs.getD i zRP) b → ¬ FootR (qs.getD j zRP) b
def RE (w : World) (lo hi g off : Nat) (q : RowP) (x : RowD) : Prop :=
 w.cell? ⟨g, off, none⟩ = some q.ca ∧ w.cell? ⟨g, off + 1, none⟩ = some q.va ∧ PO w lo hi q.ca x.cols ∧ VS w lo hi q.va q.ps x.vals
def MS (w : World) (lo hi : Nat) (v : Value) (qs : List RowP) (rs : List RowD) : Prop :=
 qs.length = rs.length ∧ ∃ A c, v = .slice A rs.length c ∧ rs.length ≤ c ∧ c ≤ maxLen ∧
  (rs ≠ [] → ∃ g, A = some ⟨g, 0, none⟩ ∧ lo ≤ g ∧ g < hi ∧ g < w.heap.size ∧ ∀ j, j < rs.length → RE w lo hi g (j * 2) (qs.getD j zRP) (rs.getD j zRow))
def ShR (a b : RowD) : Prop := a.cols.length = b.cols.length ∧ ShV a.vals b.vals
theorem RE.turn {w w' : World} {lo hi g off : Nat} {q : RowP} {x : RowD} (h : RE w lo hi g off q x) (ht : Turn w w') : ∃ x', ShR x' x ∧ RE w' lo hi g off q x' := by
 obtain ⟨h0, h1, h2, h3⟩ := h
 obtain ⟨y, hy, h2'⟩ := h2.turn ht
 obtain ⟨z, hz, h3'⟩ := h3.turns ht
 obtain ⟨A, c, e1, _⟩ := h2.form
 obtain ⟨B, d, e2, _⟩ := h3.form
 rw [e1] at h0
 rw [e2] at h1
 exact ⟨⟨y, z⟩, ⟨hy, hz⟩, by rw [e1]; exact ht.sl _ _ _ _ _ h0, by rw [e2]; exact ht.sl _ _ _ _ _ h1, h2', h3'⟩
theorem MS.form {w : World} {lo hi : Nat} {v : Value} {qs : List RowP} {rs : List RowD} (h : MS w lo hi v qs rs) : ∃ A c, v = .slice A rs.length c ∧ rs.length ≤ c ∧ c ≤ maxLen := by
 obtain ⟨_, A, c, h1, h2, h3, _⟩ := h
 exact ⟨A, c, h1, h2, h3⟩
theorem MS.turn {w w' : World} {lo hi : Nat} {v : Value} {qs : List RowP} {rs : List RowD} (h : MS w lo hi v qs rs) (ht : Turn w w') : ∃ rs', rs'.length = rs.length ∧ (∀ j, j < rs.length → ShR (rs'.getD j zRow) (rs.getD j zRow)) ∧ MS w' lo hi v qs rs' := by
 obtain ⟨hp, A, c, rfl, h1, h2, h3⟩ := h
 by_cases hx : rs = []
 ·subst hx
  exact ⟨[], rfl, fun j hj => by simp at hj, hp, A, c, rfl, h1, h2, fun hh => absurd rfl hh⟩
 ·obtain ⟨g, rfl, hg, hgh, hgs, he⟩ := h3 hx
  obtain ⟨l, hl, hq⟩ := list_each zRow rs.length (fun j y => ShR y (rs.getD j zRow) ∧ RE w' lo hi g (j * 2) (qs.getD j zRP) y) (fun j hj => (he j hj).turn ht)
  exact ⟨l, hl, fun j hj => (hq j hj).1, by rw [hl]; exact hp, some ⟨g, 0, none⟩, c, by rw [hl], by rw [hl]; exact h1, h2, fun _ => ⟨g, rfl, hg, hgh, Nat.lt_of_lt_of_le hgs ht.size, fun j hj => (hq j (hl ▸ hj)).2⟩⟩
theorem MS.cells {w : World} {lo hi n c j : Nat} {A : Option Addr} {qs : List RowP} {rs : List RowD} (h : MS w lo hi (.slice A n c) qs rs) (hj : j < rs.length) :
 rs.length = n ∧ ∃ g, A = some ⟨g, 0, none⟩ ∧ g < w.heap.size ∧ (∃ A n c, w.cell? ⟨g, 0, none⟩ = some (.slice A n c)) ∧ RE w lo hi g (j * 2) (qs.getD j zRP) (rs.getD j zRow) := by
 obtain ⟨_, A', c', e, _, _, h3⟩ := h
 injection e with e1 e2 e3
 subst e1
 obtain ⟨g, rfl, _, _, k1, ke⟩ := h3 (by rintro rfl; simp at hj)
 have k0 := ke 0 (by omega)
 obtain ⟨B, d, e4, _⟩ := k0.2.2.1.form
 have k00 := k0.1
 rw [e4, Nat.zero_mul] at k00
 exact ⟨e2.symm, g, rfl, k1, ⟨_, _, _, k00⟩, ke j hj⟩
theorem RE.frame {S : Nat → Prop} {w w' : World} {lo hi g off : Nat} {q : RowP} {x : RowD} (h : RE w lo hi g off q x) (hf : Frame S w w') (hg : g < w.heap.size) (hs : ¬ S g) (hq : ∀ b, FootR q b → ¬ S b) : RE w' lo hi g off q x :=
 ⟨(hf.cell hg hs).trans h.1, (hf.cell hg hs).trans h.2.1, h.2.2.1.frame hf (fun b hb => hq b (.inl hb)), h.2.2.2.frame hf (fun b hb => hq b (.inr hb))⟩
theorem RE.not_slice {w : World} {lo hi g off g' : Nat} {q : RowP} {x : RowD} (h : RE w lo hi g off q x) {A : Option Addr} {n c : Nat} (hg : w.cell? ⟨g', 0, none⟩ = some (.slice A n c)) : ¬ FootR q g' := by
 rintro (hb | hb)
 ·exact h.2.2.1.not_slice hg hb
 ·exact h.2.2.2.not_slice hg hb
theorem MS.put {S : Nat → Prop} {w w' : World} {lo hi g n c : Nat} {qs : List RowP} {rs : List RowD} {i : Nat} {x : RowD} (h : MS w lo hi (.slice (some ⟨g, 0, none⟩) n c) qs rs) (hi1 : i < rs.length) (hap : ApM qs)
 (hf : Frame S w w') (hS : ∀ b, S b → FootR (qs.getD i zRP) b) (h1 : PO w' lo hi (qs.getD i zRP).ca x.cols) (h2 : VS w' lo hi (qs.getD i zRP).va (qs.getD i zRP).ps x.vals) :
 MS w' lo hi (.slice (some ⟨g, 0, none⟩) n c) qs (rs.set i x) := by
 have hpl := h.1
 obtain ⟨hn, g', e, hgs, ⟨A0, n0, c0, hs0⟩, _⟩ := h.cells hi1
 injection e with e
 injection e with e
 subst e
 obtain ⟨hp, A', c', e, q1, q2, h3⟩ := h
 injection e with e1 e2 e3
 subst e2 e3
 obtain ⟨g', e, k1, k2, k3, ke⟩ := h3 (by rintro rfl; simp at hi1)
 rw [← e1] at e
 injection e with e
 injection e with e
 subst e
 have hgS : ¬ S g := fun h' => (ke i hi1).not_slice hs0 (hS g h')
 refine ⟨by simpa using hp, some ⟨g, 0, none⟩, c, by simp, by simpa using q1, q2, fun _ => ⟨g, rfl, k1, k2, Nat.lt_of_lt_of_le k3 hf.size, fun j hj => ?_⟩⟩
 rw [List.length_set] at hj
 rw [getD_setG]
 by_cases e : i = j
 ·subst e
  rw [if_pos ⟨rfl, hj⟩]
  exact ⟨(hf.cell hgs hgS).trans (ke i hj).1, (hf.cell hgs hgS).trans (ke i hj).2.1, h1, h2⟩
 ·rw [if_neg (fun h' => e h'.1)]
  exact (ke j hj).frame hf hgs hgS (fun b hb hb' => hap.2 j i (by omega) (by omega) (fun h' => e h'.symm) b hb (hS b hb'))
theorem MS.later {w w' : World} {lo hi : Nat} {v : Value} {qs : List RowP} {rs : List RowD} (h : MS w lo hi v qs rs) (hb : Below w.heap.size w w') : MS w' lo hi v qs rs := by
 obtain ⟨hp, A, c, rfl, h1, h2, h3⟩ := h
 refine ⟨hp, A, c, rfl, h1, h2, fun hx => ?_⟩
 obtain ⟨g, rfl, hg, hgh, hgs, he⟩ := h3 hx
 exact ⟨g, rfl, hg, hgh, Nat.lt_of_lt_of_le hgs hb.size, fun j hj => (he j hj).frame (S := fun _ => False) (Frame.of_below hb) hgs (fun h => h) (fun _ _ h => h)⟩
theorem MS.reads {w : World} {lo hi n c : Nat} {A : Option Addr} {qs : List RowP} {rs : List RowD} (h : MS w lo hi (.slice A n c) qs rs) : MI w A rs := by
 intro hx
 obtain ⟨_, A', c', he, _, _, h⟩ := h
 injection he with e1 e2 e3
 subst e1
 obtain ⟨g, rfl, _, _, hlt, h⟩ := h hx
 refine ⟨g, 0, rfl, hlt, fun j hj => ?_⟩
 obtain ⟨h0, h1, h2, h3⟩ := h j hj
 obtain ⟨A1, c1, e1, k1, k2⟩ := h2.form
 obtain ⟨B1, d1, e2, k3, k4⟩ := h3.form
 rw [e1] at h0 h2
 rw [e2] at h1 h3
 rw [Nat.zero_add]
 exact ⟨A1, c1, B1, d1, h0, h1, ⟨k1, k2, k3, k4⟩, h2.reads, h3.reads⟩
theorem MO.parts {w : World} {lo : Nat} {v : Value} {rs : List RowD} (h : MO w lo v rs) : ∃ qs, MS w lo w.heap.size v qs rs := by
 obtain ⟨A, c, rfl, h1, h2, h3⟩ := h
 by_cases hx : rs = []
 ·subst hx
  exact ⟨[], rfl, A, c, rfl, h1, h2, fun hh => absurd rfl hh⟩
 ·obtain ⟨g, rfl, hg, hgs, hfz, he⟩ := h3 hx
  obtain ⟨l, hl, hq⟩ := list_each zRP rs.length (fun j y => RE w lo w.heap.size g (j * 2) y (rs.getD j zRow)) (fun j hj => by
   obtain ⟨va, vb, q0, q1, q2, q3⟩ := he j hj
   obtain ⟨ps, q3'⟩ := q3.parts
   exact ⟨⟨va, vb, ps⟩, q0, q1, q2.io.wide (by omega) (Nat.le_refl _), q3'.wide (by omega) (Nat.le_refl _)⟩)
  exact ⟨l, hl, some ⟨g, 0, none⟩, c, rfl, h1, h2, fun _ => ⟨g, rfl, hg, hgs, hgs, hq⟩⟩
theorem MS.foot {w : World} {lo hi : Nat} {v : Value} {qs : List RowP} {rs : List RowD} (h : MS w lo hi v qs rs) {b : Nat} (hb : FootM qs b) : lo ≤ b ∧ b < hi := by
 obtain ⟨j, hj, hb⟩ := hb
 obtain ⟨hp, A, c, rfl, h1, h2, h3⟩ := h
 obtain ⟨g, rfl, _, _, _, he⟩ := h3 (by rintro rfl; simp at hp; subst hp; simp at hj)
 have := he j (by omega)
 rcases hb with hb | hb
 ·exact this.2.2.1.2 b hb
 ·exact this.2.2.2.foot hb
open Go.RowKit Go.Joins
open Go.RowKit Go.Joins
open Go.RowKit Go.Joins
theorem Slots.frame {S : Nat → Prop} {w w' : World} {g : Nat} {cs : List Value} (h : Slots w g cs) (hf : Frame S w w') (hs : ¬ S g) : Slots w' g cs :=
 ⟨Nat.lt_of_lt_of_le h.1 hf.size, fun i hi => by rw [hf.cell h.1 hs]; exact h.2.1 i hi, fun i => by rw [hf.frozen h.1 hs]; exact h.2.2 i⟩
def RS (w : World) (lo hi : Nat) (v : Value) (r : RatD) : Prop := ∃ va vb, v = .agg #[.bool r.neg, va, vb] ∧ PO w lo hi va r.mag ∧ PO w lo hi vb r.den ∧ Apart va vb
theorem RatP.rs {w : World} {base : Nat} {v : Value} {r : RatD} (h : RatP w base v r) : RS w base w.heap.size v r := by
 obtain ⟨va, vb, rfl, h1, h2, h3⟩ := h
 exact ⟨va, vb, rfl, h1.io, h2.io, h3⟩
theorem RS.frame {S : Nat → Prop} {w w' : World} {lo hi : Nat} {v : Value} {r : RatD} (h : RS w lo hi v r) (hf : Frame S w w') (hs : ∀ b, lo ≤ b → b < hi → ¬ S b) : RS w' lo hi v r := by
 obtain ⟨va, vb, rfl, h1, h2, h3⟩ := h
 exact ⟨va, vb, rfl, h1.frame hf (fun b hb => hs b (h1.2 b hb).1 (h1.2 b hb).2), h2.frame hf (fun b hb => hs b (h2.2 b hb).1 (h2.2 b hb).2), h3⟩
theorem RS.later {w w' : World} {lo hi : Nat} {v : Value} {r : RatD} (h : RS w lo hi v r) (hb : Below w.heap.size w w') : RS w' lo hi v r :=
 h.frame (S := fun _ => False) (Frame.of_below hb) (fun _ _ _ h => h)
theorem RS.reads {w : World} {lo hi : Nat} {v : Value} {r : RatD} (h : RS w lo hi v r) : RatV w v r := by
 obtain ⟨va, vb, rfl, h1, h2, h3⟩ := h
 exact RatP.reads ⟨va, vb, rfl, h1.1, h2.1, h3⟩
theorem RS.form {w : World} {lo hi : Nat} {v : Value} {r : RatD} (h : RS w lo hi v r) : ∃ A n c B m d, v = .agg #[.bool r.neg, .slice A n c, .slice B m d] := by
 obtain ⟨va, vb, rfl, h1, h2, _⟩ := h
 obtain ⟨A, c, rfl, _⟩ := h1.form
 obtain ⟨B, d, rfl, _⟩ := h2.form
 exact ⟨A, _, c, B, _, d, rfl⟩
def mkR (r : RatD) (k : Int) : RatD := ⟨r.neg, mkI r.mag.length k, mkI r.den.length (k + r.mag.length)⟩
theorem mem_getD {α : Type} {d : α} {l : List α} {x : α} (h : x ∈ l) : ∃ k, k < l.length ∧ l.getD k d = x := by
 obtain ⟨k, hk, e⟩ := List.mem_iff_getElem.1 h
 exact ⟨k, hk, by simpa [hk] using e⟩
def MX (w : World) (lo hi : Nat) (v : Value) (rs : List RowD) : Prop := ∃ qs, MS w lo hi v qs rs
theorem MX.later {w w' : World} {lo hi : Nat} {v : Value} {rs : List RowD} (h : MX w lo hi v rs) (hb : Below w.heap.size w w') : MX w' lo hi v rs := by
 obtain ⟨qs, h⟩ := h
 exact ⟨qs, h.later hb⟩
theorem MX.reads {w : World} {lo hi : Nat} {v : Value} {rs : List RowD} (h : MX w lo hi v rs) : MatV w (.agg #[v]) rs := by
 obtain ⟨qs, h⟩ := h
 obtain ⟨A, c, rfl, h1, h2⟩ := h.form
 exact ⟨A, c, rfl, ⟨h1, h2⟩, h.reads⟩
theorem MatO.mx {w : World} {base : Nat} {v : Value} {rs : List RowD} (h : MatO w base v rs) : ∃ A c, v = .agg #[.slice A rs.length c] ∧ MX w base w.heap.size (.slice A rs.length c) rs := by
 obtain ⟨va, rfl, h⟩ := h
 obtain ⟨A, c, rfl, _⟩ := h.form
 exact ⟨A, c, rfl, h.parts⟩
def VX (w : World) (lo hi : Nat) (v : Value) (rs : List RatD) : Prop := ∃ ps, VS w lo hi v ps rs
def VZ (w : World) (lo hi : Nat) (v : Value) (rs : List RatD) : Prop := ∃ ps, VS w lo hi v ps rs ∧ Aps ps
theorem VX.later {w w' : World} {lo hi : Nat} {v : Value} {rs : List RatD} (h : VX w lo hi v rs) (hb : Below w.heap.size w w') : VX w' lo hi v rs := by
 obtain ⟨ps, h⟩ := h
 exact ⟨ps, h.later hb⟩
theorem VZ.later {w w' : World} {lo hi : Nat} {v : Value} {rs : List RatD} (h : VZ w lo hi v rs) (hb : Below w.heap.size w w') : VZ w' lo hi v rs := by
 obtain ⟨ps, h, ha⟩ := h
 exact ⟨ps, h.later hb, ha⟩
theorem VX.frame {S : Nat → Prop} {w w' : World} {lo hi : Nat} {v : Value} {rs : List RatD} (h : VX w lo hi v rs) (hf : Frame S w w') (hs : ∀ b, lo ≤ b → b < hi → ¬ S b) : VX w' lo hi v rs := by
 obtain ⟨ps, h⟩ := h
 exact ⟨ps, h.frame hf (fun b hb => hs b (h.foot hb).1 (h.foot hb).2)⟩
theorem VZ.frame {S : Nat → Prop} {w w' : World} {lo hi : Nat} {v : Value} {rs : List RatD} (h : VZ w lo hi v rs) (hf : Frame S w w') (hs : ∀ b, lo ≤ b → b < hi → ¬ S b) : VZ w' lo hi v rs := by
 obtain ⟨ps, h, ha⟩ := h
 exact ⟨ps, h.frame hf (fun b hb => hs b (h.foot hb).1 (h.foot hb).2), ha⟩
theorem VX.reads {w : World} {lo hi n c : Nat} {A : Option Addr} {rs : List RatD} (h : VX w lo hi (.slice A n c) rs) : VI w A rs := by
 obtain ⟨ps, h⟩ := h
 exact h.reads
theorem VZ.reads {w : World} {lo hi n c : Nat} {A : Option Addr} {rs : List RatD} (h : VZ w lo hi (.slice A n c) rs) : VI w A rs := by
 obtain ⟨ps, h, _⟩ := h
 exact h.reads
theorem VO.vx {w : World} {lo : Nat} {v : Value} {rs : List RatD} (h : VO w lo v rs) : ∃ A c, v = .slice A rs.length c ∧ VX w lo w.heap.size (.slice A rs.length c) rs := by
 obtain ⟨ps, h⟩ := h.parts
 obtain ⟨A, c, rfl, _⟩ := h.form
 exact ⟨A, c, rfl, ps, h⟩
theorem VZ.mk' {w : World} {lo hi : Nat} {v : Value} {ps : List (Value × Value)} {rs : List RatD} (h : VS w lo hi v ps rs) (ha : Aps ps) : ∃ A c, v = .slice A rs.length c ∧ VZ w lo hi (.slice A rs.length c) rs := by
 obtain ⟨A, c, rfl, _⟩ := h.form
 exact ⟨A, c, rfl, ps, h, ha⟩
open Go.RowKit Go.Joins
set_option maxRecDepth 100000 in
set_option maxHeartbeats 1600000 in
theorem sRatMake (s t : Bool) (p q : Nat) (hs : s = true → p ≠ 0) (ht : t = true → q ≠ 0) (u v : Value) (w : World) (hu : BigV w u s (FE.toL p)) (hv : BigV w v t (FE.toL q)) (l1 : (FE.toL p).length ≤ 60) (l2 : (FE.toL q).length ≤ 60) :
 Calls Tryz.prog 205 #[u, v] w fun e w' => ∃ v', e = .returned v' ∧ RatP w' w.heap.size v' (FE.low (s != t) p q) ∧ Below w.heap.size w w' := by
 obtain ⟨A, c, rfl, hc, _, ra⟩ := hu
 obtain ⟨B, d, rfl, hd, _, rb⟩ := hv
 have K1 := fun W (hW : Below w.heap.size w W) => sBigIntOk s (FE.toL p) _ c rfl (by omega) A W (ra.later hW)
 have K2 := fun W (hW : Below w.heap.size w W) => sBigIntOk t (FE.toL q) _ d rfl (by omega) B W (rb.later hW)
 rw [bigOk_of hs l1] at K1
 rw [bigOk_of ht l2] at K2
 replace K1 := Lib.hid K1
 replace K2 := Lib.hid K2
 have H3 := fun (b : Bool) (hb : (s != t) = b) W (hW : Below w.heap.size w W) => sLow b p q _ _ c d rfl rfl (by omega) (by omega) hc hd A B W (ra.later hW) (rb.later hW)
 have hne : (s != t) = !(s == t) := by cases s <;> cases t <;> rfl
 replace H3 := H3 _ hne
 rw [hne]
 replace H3 := Lib.hid H3
 clear ra rb l1 l2 hs ht hne
 generalize FE.low (!(s == t)) p q = R at *
 generalize FE.toL p = xs at *
 generalize FE.toL q = ys at *
 go_enter Tryz.func205, Tryz.ntmps205
 go_wp2_with fail
 refine (K1.out _ (below_alloc3 _ _ _ _)).mono ?_
 rintro e w1 ⟨rfl, hb1⟩
 have R0 := Slots.new hb1 (g := w.heap.size + 1 + 1) (by simp)
 have S1 := Slots.new (below_step hb1) (g := w.heap.size + 1) (by simp)
 have S0 := Slots.new (below_step (below_step hb1)) (g := w.heap.size) rfl
 have hS := below_trans (below_alloc3 _ _ _ _) hb1
 clear hb1
 obtain ⟨a0, a1, _, _⟩ := S1.k2
 go_wp2_with fail
 refine (K2.out _ hS).mono ?_
 rintro e w2 ⟨rfl, hb2⟩
 replace R0 := R0.later hb2
 replace S1 := S1.later hb2
 replace S0 := S0.later hb2
 replace hS := below_trans hS hb2
 clear hb2 a0 a1
 obtain ⟨a0_0, a0_1, _, _⟩ := S0.k2
 obtain ⟨a1_0, a1_1, _, _⟩ := S1.k2
 go_wp2_with fail
 refine (H3.out _ hS).mono ?_
 rintro e w5 ⟨v5, rfl, hrp, hb5⟩
 have hz := R0.1
 replace R0 := R0.later hb5
 replace hb3 := below_trans hS hb5
 replace hrp := hrp.mono (base' := w.heap.size + 1 + 1 + 1) (by omega)
 obtain ⟨A6, n6, c6, B6, m6, d6, rfl⟩ := hrp.shape
 obtain ⟨b0, b1, b2, z0, z1, z2⟩ := R0.c3
 have hb := below3 hb3 (show w.heap.size ≤ w.heap.size + 1 + 1 by omega) (.bool R.neg) (.slice A6 n6 c6) (.slice B6 m6 d6)
 have f6 := hrp.far3 (g := w.heap.size + 1 + 1) (Nat.lt_succ_self _) (.bool R.neg) (.slice A6 n6 c6) (.slice B6 m6 d6)
 clear R0 hrp a0_0 a0_1 a1_0 a1_1
 go_wp2
 exact bodyPost_ret (v := .agg #[.bool R.neg, .slice A6 n6 c6, .slice B6 m6 d6]) (by simp [results, Tryz.results205, go_sem, b0, b1, b2]) rfl ⟨_, rfl, f6.mono (by omega), hb⟩
set_option maxRecDepth 100000 in
set_option maxHeartbeats 1600000 in
theorem sRatOf (n d : Int) (hn : -10 ≤ n) (hn2 : n ≤ 1000) (hd : 1 ≤ d) (hd2 : d ≤ 1000) (w : World) :
 Calls Tryz.prog 175 #[.int .i64 n, .int .i64 d] w fun e w' => ∃ v, e = .returned v ∧ RatP w' w.heap.size v (FE.lowI n d.natAbs) ∧ Below w.heap.size w w' := by
 have h0 : d ≠ 0 := by omega
 have e0 : FE.lowI n d.natAbs = FE.low (decide (n < 0) != decide (d < 0)) n.natAbs d.natAbs := by
  have : decide (d < 0) = false := by simp; omega
  unfold FE.lowI
  rw [this]
  congr 1
  cases decide (n < 0) <;> rfl
 rw [e0]
 clear e0
 have H1 := Lib.hid (fun W => sBigIntOf_small n hn hn2 W)
 have H2 := Lib.hid (fun W => sBigIntOf_small d (by omega) hd2 W)
 have H3 := Lib.hid (fun (u v : Value) W (hu : BigV W u (decide (n < 0)) (FE.toL n.natAbs)) (hv : BigV W v (decide (d < 0)) (FE.toL d.natAbs)) => sRatMake (decide (n < 0)) (decide (d < 0)) n.natAbs d.natAbs (by intro h; simp at h; omega) (by intro h; omega) u v W hu hv (by have := toL_small3 (k := n.natAbs) (by omega); omega) (by have := toL_small3 (k := d.natAbs) (by omega); omega))
 clear h0 hn hd hn2 hd2
 generalize FE.low (decide (n < 0) != decide (d < 0)) n.natAbs d.natAbs = R at *
 generalize decide (n < 0) = sn at *
 generalize decide (d < 0) = sd at *
 generalize FE.toL n.natAbs = xs at *
 generalize FE.toL d.natAbs = ys at *
 go_enter Tryz.func175, Tryz.ntmps175
 go_wp2_with fail
 refine (H1.out _).mono ?_
 rintro e w3 ⟨v3, rfl, ho3, hb3⟩
 have R0 := Slots.new hb3 (g := w.heap.size) rfl
 replace hb3 := below_step hb3
 go_wp2_with fail
 refine (H2.out _).mono ?_
 rintro e w4 ⟨v4, rfl, ho4, hb4⟩
 replace R0 := R0.later hb4
 replace hb3 := below_trans hb3 hb4
 have hu := (ho3.later hb4).reads
 have hv := ho4.reads
 clear hb4 ho3 ho4
 go_wp2_with fail
 refine (H3.out v3 v4 _ hu hv).mono ?_
 rintro e w5 ⟨v5, rfl, hrp, hb5⟩
 have hz := R0.1
 replace R0 := R0.later hb5
 replace hb3 := below_trans hb3 hb5
 replace hrp := hrp.mono (base' := w.heap.size + 1) (by omega)
 obtain ⟨A6, n6, c6, B6, m6, d6, rfl⟩ := hrp.shape
 obtain ⟨b0, b1, b2, z0, z1, z2⟩ := R0.c3
 have hb := below3 hb3 (Nat.le_refl w.heap.size) (.bool R.neg) (.slice A6 n6 c6) (.slice B6 m6 d6)
 have f6 := hrp.far3 (g := w.heap.size) (Nat.lt_succ_self _) (.bool R.neg) (.slice A6 n6 c6) (.slice B6 m6 d6)
 clear R0 hrp hu hv
 go_wp2
 exact bodyPost_ret (v := .agg #[.bool R.neg, .slice A6 n6 c6, .slice B6 m6 d6]) (by simp [results, Tryz.results175, go_sem, b0, b1, b2]) rfl ⟨_, rfl, f6.mono (Nat.le_succ _), hb⟩
theorem Cu.mem {w : World} {g n c : Nat} {A : Option Addr} (h : Cu w g A n c) : n ≠ 0 → ∀ a, A = some a → a.block < w.heap.size := by
 intro h0 a ha
 obtain ⟨b, o, e, hb, _⟩ := h.bytes h0
 have ha2 := e.symm.trans ha
 injection ha2 with ha2
 subst ha2
 exact hb
theorem Frame.fresh {S : Nat → Prop} {a w : World} (h : Frame S a w) {p : Addr} (hp : a.heap.size ≤ p.block) (u : Value) : Frame S a (w.setCell p u) :=
 ⟨h.os, h.tape, h.output, by simpa [World.setCell] using h.size, fun k hk hn => (Below.heap_setCell _ _ _ _ (fun e => by omega)).trans (h.block k hk hn)⟩
theorem Frame.fresh3 {S : Nat → Prop} {a w : World} (h : Frame S a w) {g : Nat} (hp : a.heap.size ≤ g) (x y z : Value) : Frame S a (((w.setCell ⟨g, 0, none⟩ x).setCell ⟨g, 1, none⟩ y).setCell ⟨g, 2, none⟩ z) :=
 ((h.fresh (p := ⟨g, 0, none⟩) hp x).fresh (p := ⟨g, 1, none⟩) hp y).fresh (p := ⟨g, 2, none⟩) hp z
theorem Cu.far {w : World} {g n c k o : Nat} {A : Option Addr} (h : Cu w g A n c) (hk : k ≠ g) (hm : n ≠ 0 → ∀ a, A = some a → a.block ≠ k) (x : Value) : Cu (w.setCell ⟨k, o, none⟩ x) g A n c :=
 h.frame (Frame.setCell (S := fun b => b = k) (p := ⟨k, o, none⟩) (Frame.refl _ w) rfl x) (fun e => hk e.symm) (fun h0 a ha e => hm h0 a ha e)
def FewR (r : RatD) : Prop := ∃ (n : Int) (d : Nat), -10 ≤ n ∧ n ≤ 10 ∧ 1 ≤ d ∧ d ≤ 3 ∧ r = FE.lowI n d
set_option maxRecDepth 100000 in
set_option maxHeartbeats 1600000 in
theorem sFew4 (g n c : Nat) (A : Option Addr) (w : World) (h : Cu w g A n c) :
 Calls Tryz.prog 107 #[.pointer (some ⟨g, 0, none⟩)] w fun e w' => ∃ v r, e = .returned v ∧ FewR r ∧ RatP w' w.heap.size v r ∧ Cu w' g A n c ∧ CF g w w' := by
 have HB := Lib.hid (fun W (hW : Cu W g A n c) => sBelow g n c A 21 (by decide) (by decide) W hW)
 have hg := h.lt
 have HM := Lib.hid h.mem
 have HC := Lib.hid h
 clear h
 go_enter Tryz.func107, Tryz.ntmps107
 go_wp2_with fail
 have al := below_alloc1 w (.cells #[.bool false, .slice none 0 0, .slice none 0 0] 57)
 have R0 := Slots.new (Below.refl _ (w.alloc (.cells #[.bool false, .slice none 0 0, .slice none 0 0] 57))) (g := w.heap.size) rfl
 refine (HB.out _ (HC.out.later al)).mono ?_
 rintro e w1 ⟨x, ⟨hx0, hx1⟩, rfl, hc1, hf1⟩
 have hcf := (CF.later al).trans hf1
 replace R0 := R0.frame hf1 (by omega)
 have hz1 := hf1.size
 simp only [World.size_alloc] at hz1
 have HC1 := Lib.hid hc1
 have HCF := Lib.hid hcf
 clear hc1 hf1 hcf al HC
 go_wp2_with fail
 have hA : Arr (w1.alloc (.cells #[.int .i64 1, .int .i64 1, .int .i64 1, .int .i64 2, .int .i64 3] 3)) w1.heap.size 5 [1, 1, 1, 2, 3] := ⟨[], rfl, by decide, heap_alloc_new _ _⟩
 have hR := RI.of_own (OI.of_arr hA (Nat.le_refl _))
 have al := below_alloc1 w1 (.cells #[.int .i64 1, .int .i64 1, .int .i64 1, .int .i64 2, .int .i64 3] 3)
 refine (sPick g n c A [1, 1, 1, 2, 3] 5 5 _ rfl (by decide) (by decide) _ (HC1.out.later al) hR (fun a ha => by injection ha with ha; subst ha; show w1.heap.size ≠ g; have := HC1.out.lt; omega)).mono ?_
 rintro e w2 ⟨j, hj, rfl, hc2, hf2⟩
 have hcf := (HCF.out.trans (CF.later al)).trans hf2
 replace R0 := (R0.later al).frame hf2 (by omega)
 have hz2 := hf2.size
 simp only [World.size_alloc] at hz2
 have HC2 := Lib.hid hc2
 have HCF := Lib.hid hcf
 clear hc2 hf2 hcf al HC1 hA hR
 obtain ⟨y, hy⟩ : ∃ y, ([1, 1, 1, 2, 3] : List Int).getD j 0 = y := ⟨_, rfl⟩
 have hy1 : 1 ≤ y ∧ y ≤ 3 := by
  subst hy
  have h5 : j = 0 ∨ j = 1 ∨ j = 2 ∨ j = 3 ∨ j = 4 := by omega
  rcases h5 with rfl | rfl | rfl | rfl | rfl <;> decide
 rw [hy]
 clear hy
 go_wp2_with fail
 refine (sRatOf (x - 10) y (by omega) (by omega) hy1.1 (by omega) _).mono ?_
 rintro e w5 ⟨v5, rfl, hrp, hb5⟩
 have HF : FewR (FE.lowI (x - 10) y.natAbs) := ⟨x - 10, y.natAbs, by omega, by omega, by omega, by omega, rfl⟩
 generalize FE.lowI (x - 10) y.natAbs = R at *
 have hcf := HCF.out.trans (CF.later hb5)
 have hc5 := HC2.out.later hb5
 replace R0 := R0.later hb5
 replace hrp := hrp.mono (base' := w.heap.size + 1) (by omega)
 obtain ⟨A6, n6, c6, B6, m6, d6, rfl⟩ := hrp.shape
 obtain ⟨b0, b1, b2, z0, z1, z2⟩ := R0.c3
 have f6 := hrp.far3 (g := w.heap.size) (Nat.lt_succ_self _) (.bool R.neg) (.slice A6 n6 c6) (.slice B6 m6 d6)
 have hm : n ≠ 0 → ∀ a, A = some a → a.block ≠ w.heap.size := fun h0 a ha => by have := HM.out h0 a ha; omega
 have hkg : w.heap.size ≠ g := by omega
 have hcG := ((hc5.far (o := 0) hkg hm (.bool R.neg)).far (o := 1) hkg hm (.slice A6 n6 c6)).far (o := 2) hkg hm (.slice B6 m6 d6)
 have hfG := Frame.fresh3 hcf (Nat.le_refl w.heap.size) (.bool R.neg) (.slice A6 n6 c6) (.slice B6 m6 d6)
 replace hcG := Lib.hid hcG
 replace hfG := Lib.hid hfG
 clear R0 hrp hcf hc5 HC2 HCF hm hkg
 go_wp2
 exact bodyPost_ret (v := .agg #[.bool R.neg, .slice A6 n6 c6, .slice B6 m6 d6]) (by simp [results, Tryz.results107, go_sem, b0, b1, b2]) rfl ⟨_, R, rfl, HF, f6.mono (by omega), hcG.out, hfG.out⟩
open Go.RowKit Go.Joins
def HeldT (T : World → Prop) : List (Nat × Nat × Value) → World → Prop
 | [], W => T W
 | (b, o, v) :: l, W => W.cell? ⟨b, o, none⟩ = some v ∧ HeldT T l W
theorem HeldT.tail {T : World → Prop} : ∀ {F : List (Nat × Nat × Value)} {W : World}, HeldT T F W → T W
 | [], _, h => h
 | _ :: _, _, h => HeldT.tail h.2
theorem HeldT.map {T T' : World → Prop} {W W' : World} : ∀ {F : List (Nat × Nat × Value)}, (∀ b o v, (b, o, v) ∈ F → W.cell? ⟨b, o, none⟩ = some v → W'.cell? ⟨b, o, none⟩ = some v) → (T W → T' W') → HeldT T F W → HeldT T' F W'
 | [], _, ht, h => ht h
 | (b, o, v) :: l, hc, ht, h => ⟨hc b o v (by simp) h.1, HeldT.map (fun b o v hm => hc b o v (by simp [hm])) ht h.2⟩
def Bears (T : World → Prop) : Prop := ∀ W w3, T W → Below W.heap.size W w3 → T w3
theorem hD {T : World → Prop} {w W : World} {B M : Nat} (F : List (Nat × Nat × Value)) (hd : T W → T W.drew) (h : (Below B w W ∧ M ≤ W.heap.size) ∧ HeldT T F W) : (Below B w W.drew ∧ M ≤ W.drew.heap.size) ∧ HeldT T F W.drew :=
 ⟨⟨⟨h.1.1.os, h.1.1.tape, h.1.1.output, h.1.1.size, h.1.1.block⟩, h.1.2⟩, HeldT.map (W := W) (W' := W.drew) (fun _ _ _ _ e => e) hd h.2⟩
theorem hC {T : World → Prop} {w W w3 : World} {B M : Nat} (F : List (Nat × Nat × Value)) (hB : B ≤ M) (hF : ∀ p ∈ F, p.1 < M) (hT : Bears T) (h : (Below B w W ∧ M ≤ W.heap.size) ∧ HeldT T F W) (hb : Below W.heap.size W w3) : (Below B w w3 ∧ M ≤ w3.heap.size) ∧ HeldT T F w3 :=
 ⟨⟨h.1.1.trans (below_le hb (Nat.le_trans hB h.1.2)), Nat.le_trans h.1.2 hb.size⟩, h.2.map (fun _b _o _v hm e => cell_later (Nat.lt_of_lt_of_le (hF _ hm) h.1.2) e hb) (fun ht => hT _ _ ht hb)⟩
end Go.Proofs.YtlpomcihkjiokaaGreat
