/-
  Shared texts (F11).
-/
import Derived.Test.YtlpomcihkjiokaaGreatF10
import Derived.Test.YtlpomcihkjiokaaGreatF6
import Derived.Test.YtlpomcihkjiokaaGreatF9
namespace Go.Proofs.YtlpomcihkjiokaaGreat
open Go.RowKit Go.Joins

theorem own_kept {S : Nat → Prop} {w w' : World} {base size n : Nat} {e : TypeId} {v : Value} {xs : List Value} (h : w.ownsRow base e size v n xs) (hf : Frame S w w') (hs : ∀ b, v.ownBlock = some b → ¬ S b) : w'.ownsRow base e size v n xs := by
  refine ⟨h.1, ?_⟩
  rcases h.2 with hn | ⟨g, cap, cur, rfl, hbs, hgg, rest⟩
  · exact .inl hn
  · exact .inr ⟨g, cap, cur, rfl, hbs, (hf.block g (Array.getElem?_eq_some_iff.1 hgg).1 (hs g rfl)).trans hgg, rest⟩
/-- Rows of different types lie in different blocks. -/
theorem own_ne {w : World} {b1 b2 s1 s2 n1 n2 : Nat} {e1 e2 : TypeId} {u v : Value} {xs ys : List Value} (h : w.ownsRow b1 e1 s1 u n1 xs) (k : w.ownsRow b2 e2 s2 v n2 ys) (he : e1 ≠ e2) {b : Nat} (hb : u.ownBlock = some b) : v.ownBlock ≠ some b := by
  intro h'
  rcases h.2 with ⟨rfl, _⟩ | ⟨g, cap, cur, rfl, _, hg, _⟩
  · cases hb
  · rcases k.2 with ⟨rfl, _⟩ | ⟨g', cap', cur', rfl, _, hg', _⟩
    · cases h'
    · injection hb with hb
      injection h' with h'
      simp only at hb h'
      subst hb h'
      rw [hg] at hg'
      injection hg' with hg'
      injection hg' with _ e
      exact he e
theorem blk_own {w : World} {base size n : Nat} {e : TypeId} {v : Value} {xs : List Value} (h : w.ownsRow base e size v n xs) {b : Nat} (hb : blk v = some b) : v.ownBlock = some b := by
  rcases h.2 with ⟨rfl, _⟩ | ⟨g, cap, cur, rfl, _, hg, _⟩
  · cases hb
  · by_cases hn : n = 0
    · subst hn
      rw [blk_nil] at hb
      cases hb
    · rw [blk_slice hn] at hb
      injection hb with hb
      simp only at hb
      subst hb
      rfl
/-- A row under way: its columns, its values; the columns' block is none of the fractions'. -/
def CV (w : World) (lo : Nat) (vc vv : Value) (ps : List (Value × Value)) (cols : List Int) (vals : List RatD) : Prop :=
  OI w lo vc cols ∧ VW w lo w.heap.size vv ps vals ∧ ∀ b, vc.ownBlock = some b → ∀ j, j < ps.length → blk (ps.getD j zP).1 ≠ some b ∧ blk (ps.getD j zP).2 ≠ some b
theorem CV.nil (w : World) (lo : Nat) : CV w lo (.slice none 0 0) (.slice none 0 0) [] [] [] :=
  ⟨OI.nil w lo, VW.nil _ _ _ (World.ownsRow_nil w lo 57 3), (fun b hb => by cases hb)⟩
theorem CV.later {w w' : World} {lo : Nat} {vc vv : Value} {ps : List (Value × Value)} {cols : List Int} {vals : List RatD} (h : CV w lo vc vv ps cols vals) (hb : Below w.heap.size w w') : CV w' lo vc vv ps cols vals :=
  ⟨h.1.later hb, (h.2.1.later hb).wide hb.size, h.2.2⟩
theorem CV.frame {S : Nat → Prop} {w w' : World} {lo : Nat} {vc vv : Value} {ps : List (Value × Value)} {cols : List Int} {vals : List RatD} (h : CV w lo vc vv ps cols vals) (hf : Frame S w w') (hs : ∀ b, lo ≤ b → b < w.heap.size → ¬ S b) : CV w' lo vc vv ps cols vals := by
  obtain ⟨h1, ⟨k0, k1, k2, k3⟩, h3⟩ := h
  refine ⟨own_kept h1 hf (fun b hb => hs b (own_lt h1 hb).1 (own_lt h1 hb).2), ⟨k0, own_kept k1 hf (fun b hb => hs b (own_lt k1 hb).1 (own_lt k1 hb).2), fun j hj => ?_, k3⟩, h3⟩
  have := k2 j hj
  exact ⟨(this.1.frame hf (fun b hb => hs b (this.1.2 b hb).1 (this.1.2 b hb).2)).wide (Nat.le_refl _) hf.size, (this.2.frame hf (fun b hb => hs b (this.2.2 b hb).1 (this.2.2 b hb).2)).wide (Nat.le_refl _) hf.size⟩
theorem CV.forms {w : World} {lo : Nat} {vc vv : Value} {ps : List (Value × Value)} {cols : List Int} {vals : List RatD} (h : CV w lo vc vv ps cols vals) : ∃ A c B d, vc = .slice A cols.length c ∧ vv = .slice B vals.length d := by
  obtain ⟨A, c, e1, _⟩ := own_slice h.1
  obtain ⟨B, d, e2, _⟩ := h.2.1.form
  exact ⟨A, c, B, d, e1, e2⟩
/-- One column more. -/
theorem CV.col {w w' : World} {lo : Nat} {vc vc' vv : Value} {ps : List (Value × Value)} {cols : List Int} {vals : List RatD} {x : Int} (h : CV w lo vc vv ps cols vals)
    (hown : w'.ownsRow lo 3 1 vc' (cols.length + 1) (cols.map (Value.int .i64) ++ [.int .i64 x])) (hf : Frame (fun b => vc.ownBlock = some b) w w') (hob : vc'.ownBlock = vc.ownBlock ∨ vc'.ownBlock = some w.heap.size) : CV w' lo vc' vv ps (cols ++ [x]) vals := by
  obtain ⟨h1, ⟨k0, k1, k2, k3⟩, h3⟩ := h
  have hs := hf.size
  refine ⟨by simpa [OI] using hown, ⟨k0, own_kept k1 hf (fun b hb hc => own_ne h1 k1 (by decide) hc hb), fun j hj => ?_, k3⟩, fun b hb j hj => ?_⟩
  · have := k2 j hj
    exact ⟨(this.1.frame hf (fun b hb hc => (h3 b hc j (by omega)).1 hb)).wide (Nat.le_refl _) hs, (this.2.frame hf (fun b hb hc => (h3 b hc j (by omega)).2 hb)).wide (Nat.le_refl _) hs⟩
  · rcases hob with e | e
    · rw [e] at hb
      exact h3 b hb j hj
    · rw [e] at hb
      injection hb with hb
      have := k2 j (by omega)
      exact ⟨fun hc => by have := (this.1.2 b hc).2; omega, fun hc => by have := (this.2.2 b hc).2; omega⟩
/-- One value more. -/
theorem CV.val {w w' : World} {lo hi2 : Nat} {vc vv vv' : Value} {ps : List (Value × Value)} {cols : List Int} {vals : List RatD} {va vb : Value} {r : RatD} {k : Nat} (h : CV w lo vc vv ps cols vals)
    (hk : ∀ b, vc.ownBlock = some b → b < k) (ha : ∀ b, blk va = some b → k ≤ b) (hb' : ∀ b, blk vb = some b → k ≤ b)
    (hv : VW w' lo hi2 vv' (ps ++ [(va, vb)]) (vals ++ [r])) (hh : hi2 ≤ w'.heap.size) (hf : Frame (fun b => vv.ownBlock = some b) w w') : CV w' lo vc vv' (ps ++ [(va, vb)]) cols (vals ++ [r]) := by
  obtain ⟨h1, ⟨k0, k1, k2, k3⟩, h3⟩ := h
  refine ⟨own_kept h1 hf (fun b hb hc => own_ne k1 h1 (by decide) hc hb), hv.wide hh, fun b hb j hj => ?_⟩
  rw [List.length_append, List.length_cons, List.length_nil] at hj
  by_cases e : j < ps.length
  · rw [ls_getl e]
    exact h3 b hb j e
  · rw [show j = ps.length by omega, ls_getr]
    have := hk b hb
    exact ⟨fun hc => by have := ha b hc; omega, fun hc => by have := hb' b hc; omega⟩

def cellsM (qs : List RowP) : List Value := qs.flatMap fun q => [q.ca, q.va]
theorem cellsM_snoc (qs : List RowP) (q : RowP) : cellsM (qs ++ [q]) = cellsM qs ++ [q.ca, q.va] := by simp [cellsM]
theorem cellsM_get : ∀ (qs : List RowP) (j : Nat), j < qs.length → (cellsM qs)[j * 2]? = some (qs.getD j zRP).ca ∧ (cellsM qs)[j * 2 + 1]? = some (qs.getD j zRP).va
  | q :: qs, 0, _ => by simp [cellsM]
  | q :: qs, j + 1, h => by
    have := cellsM_get qs j (by simpa using h)
    have e : cellsM (q :: qs) = q.ca :: q.va :: cellsM qs := rfl
    rw [e, show (j + 1) * 2 = j * 2 + 1 + 1 by omega, show j * 2 + 1 + 1 + 1 = (j * 2 + 1) + 1 + 1 by omega]
    simpa using this
/-- The rows of a matrix that the call builds. -/
def MW (w : World) (base hi : Nat) (v : Value) (qs : List RowP) (rs : List RowD) : Prop :=
  qs.length = rs.length ∧ ApM qs ∧ w.ownsRow base 130 2 v rs.length (cellsM qs) ∧ (∀ b, v.ownBlock = some b → b < hi) ∧ hi ≤ w.heap.size ∧
    ∀ j, j < rs.length → PO w base hi (qs.getD j zRP).ca (rs.getD j zRow).cols ∧ VS w base hi (qs.getD j zRP).va (qs.getD j zRP).ps (rs.getD j zRow).vals
theorem MW.nil (w : World) (base hi : Nat) (h : hi ≤ w.heap.size) : MW w base hi (.slice none 0 0) [] [] :=
  ⟨rfl, ⟨fun j hj => by simp at hj, fun i j hi => by simp at hi⟩, World.ownsRow_nil w base 130 2, (fun b hb => by cases hb), h, fun j hj => by simp at hj⟩
theorem MW.form {w : World} {base hi : Nat} {v : Value} {qs : List RowP} {rs : List RowD} (h : MW w base hi v qs rs) : ∃ A c, v = .slice A rs.length c := by
  obtain ⟨A, c, e, _⟩ := own_slice h.2.2.1
  exact ⟨A, c, e⟩
theorem MW.belowLo {w w' : World} {base hi : Nat} {v : Value} {qs : List RowP} {rs : List RowD} (h : MW w base hi v qs rs) (hb : Below hi w w') : MW w' base hi v qs rs := by
  obtain ⟨h0, ha, ho, hob, hsz, hr⟩ := h
  have hf : Frame (fun b => hi ≤ b) w w' := ⟨hb.os, hb.tape, hb.output, hb.size, fun b _ hn => hb.block b (by omega)⟩
  refine ⟨h0, ha, own_kept ho hf (fun b hb' h' => by have := hob b hb'; omega), hob, Nat.le_trans hsz hb.size, fun j hj => ?_⟩
  obtain ⟨k1, k2⟩ := hr j hj
  exact ⟨k1.frame hf (fun b hb' h' => by have := (k1.2 b hb').2; omega), k2.frame hf (fun b hb' h' => by have := (k2.foot hb').2; omega)⟩
theorem MW.far {w w' : World} {base hi g : Nat} {v : Value} {qs : List RowP} {rs : List RowD} (h : MW w base hi v qs rs) (hf : Frame (fun b => b = g) w w') (hg : g < base) : MW w' base hi v qs rs := by
  obtain ⟨h0, ha, ho, hob, hsz, hr⟩ := h
  refine ⟨h0, ha, own_kept ho hf (fun b hb' h' => by have := (own_lt ho hb').1; omega), hob, Nat.le_trans hsz hf.size, fun j hj => ?_⟩
  obtain ⟨k1, k2⟩ := hr j hj
  exact ⟨k1.frame hf (fun b hb' h' => by have := (k1.2 b hb').1; omega), k2.frame hf (fun b hb' h' => by have := (k2.foot hb').1; omega)⟩
/-- A row done goes to the rows. -/
theorem MW.snoc {w w' : World} {base lo hi : Nat} {v v' vc vv : Value} {qs : List RowP} {rs : List RowD} {ps : List (Value × Value)} {x : RowD} (h : MW w base hi v qs rs) (hx : CV w lo vc vv ps x.cols x.vals) (hh : hi ≤ lo) (hbase : base ≤ hi)
    (hown : w'.ownsRow base 130 2 v' (rs.length + 1) (cellsM qs ++ [vc, vv])) (hf : Frame (fun b => v.ownBlock = some b) w w') : MW w' base w'.heap.size v' (qs ++ [⟨vc, vv, ps⟩]) (rs ++ [x]) := by
  obtain ⟨h0, ha, ho, hob, hsz, hr⟩ := h
  obtain ⟨c1, c2, c3⟩ := hx
  have hs := hf.size
  have po : PO w lo w.heap.size vc x.cols := (RO.of_own c1).io
  have vs : VS w lo w.heap.size vv ps x.vals := by have := c2.parts; rwa [Nat.max_self] at this
  have footR : ∀ j, j < rs.length → ∀ b, FootR (qs.getD j zRP) b → b < hi := fun j hj b hb => by
    rcases hb with hb | hb
    · exact ((hr j hj).1.2 b hb).2
    · exact ((hr j hj).2.foot hb).2
  have footN : ∀ b, FootR ⟨vc, vv, ps⟩ b → lo ≤ b := fun b hb => by
    rcases hb with hb | hb
    · exact (po.2 b hb).1
    · exact (vs.foot hb).1
  refine ⟨by simp [h0], ⟨fun j hj => ?_, fun i j hi' hj hij b hb hb' => ?_⟩, ?_, fun b hb => (own_lt hown hb).2, Nat.le_refl _, fun j hj => ?_⟩
  · rw [List.length_append, List.length_cons, List.length_nil] at hj
    by_cases e : j < qs.length
    · rw [ls_getl e]; exact ha.1 j e
    · rw [show j = qs.length by omega, ls_getr]
      refine ⟨c2.2.2.2, fun b hb hb' => ?_⟩
      have hbo := blk_own c1 hb
      rcases hb' with hb' | ⟨p, hp, hb'⟩
      · exact own_ne c1 c2.2.1 (by decide) hbo (blk_own c2.2.1 hb')
      · rcases hb' with hb' | hb'
        · exact (c3 b hbo p hp).1 hb'
        · exact (c3 b hbo p hp).2 hb'
  · rw [List.length_append, List.length_cons, List.length_nil] at hi' hj
    by_cases e1 : i < qs.length <;> by_cases e2 : j < qs.length
    · rw [ls_getl e1] at hb
      rw [ls_getl e2] at hb'
      exact ha.2 i j e1 e2 hij b hb hb'
    · rw [ls_getl e1] at hb
      rw [show j = qs.length by omega, ls_getr] at hb'
      have := footR i (by omega) b hb
      have := footN b hb'
      omega
    · rw [ls_getl e2] at hb'
      rw [show i = qs.length by omega, ls_getr] at hb
      have := footR j (by omega) b hb'
      have := footN b hb
      omega
    · omega
  · rw [cellsM_snoc, List.length_append, List.length_cons, List.length_nil]
    exact hown
  · rw [List.length_append, List.length_cons, List.length_nil] at hj
    by_cases e : j < rs.length
    · rw [ls_getl (h0 ▸ e), ls_getl e]
      obtain ⟨k1, k2⟩ := hr j e
      refine ⟨(k1.frame hf (fun b hb hs' => ne_row k1 ho (by decide) hb hs')).wide (Nat.le_refl _) (by omega), (k2.frame hf (fun b hb hs' => ?_)).wide (Nat.le_refl _) (by omega)⟩
      obtain ⟨u, hu, hc⟩ := own_cell0 ho (by rw [ho.1]; omega) hs'
      have h00 := (cellsM_get qs 0 (by omega)).1
      rw [Nat.zero_mul, hu] at h00
      injection h00 with h00
      obtain ⟨A0, c0, e0, _⟩ := (hr 0 (by omega)).1.form
      rw [h00, e0] at hc
      exact k2.not_slice hc hb
    · rw [show j = rs.length by omega, ls_getr, ← h0, ls_getr]
      exact ⟨(po.frame hf (fun b hb hs' => by have := (po.2 b hb).1; have := hob b hs'; omega)).wide (by omega) hs, (vs.frame hf (fun b hb hs' => by have := (vs.foot hb).1; have := hob b hs'; omega)).wide (by omega) hs⟩
theorem MW.ms {w : World} {base hi : Nat} {v : Value} {qs : List RowP} {rs : List RowD} (h : MW w base hi v qs rs) : MS w base w.heap.size v qs rs := by
  obtain ⟨h0, ha, ho, hob, hsz, hr⟩ := h
  obtain ⟨A, c, e, h1, h2, h3⟩ := own_slice ho
  refine ⟨h0, A, c, e, h1, h2, fun hx => ?_⟩
  obtain ⟨g, eA, hg⟩ := h3 (List.length_pos_iff.2 hx)
  have hl := own_lt ho hg
  refine ⟨g, eA, hl.1, hl.2, hl.2, fun j hj => ?_⟩
  subst e eA
  obtain ⟨k1, k2⟩ := hr j hj
  obtain ⟨c0, c1⟩ := cellsM_get qs j (by omega)
  exact ⟨(ho.cellAt (g := g) (j * 2) (by omega)).trans c0, (ho.cellAt (g := g) (j * 2 + 1) (by omega)).trans c1, k1.wide (Nat.le_refl _) hsz, k2.wide (Nat.le_refl _) hsz⟩

/-- A matrix of the call's own whose parts lie apart. -/
def MZ (w : World) (lo hi : Nat) (v : Value) (rs : List RowD) : Prop := ∃ u qs, v = .agg #[u] ∧ MS w lo hi u qs rs ∧ ApM qs
theorem MZ.form {w : World} {lo hi : Nat} {v : Value} {rs : List RowD} (h : MZ w lo hi v rs) : ∃ A c, v = .agg #[.slice A rs.length c] := by
  obtain ⟨u, qs, rfl, h, _⟩ := h
  obtain ⟨A, c, rfl, _⟩ := h.form
  exact ⟨A, c, rfl⟩
theorem MS.frame {S : Nat → Prop} {w w' : World} {lo hi : Nat} {v : Value} {qs : List RowP} {rs : List RowD} (h : MS w lo hi v qs rs) (hf : Frame S w w') (hs : ∀ b, lo ≤ b → b < hi → ¬ S b) : MS w' lo hi v qs rs := by
  obtain ⟨hp, A, c, rfl, h1, h2, h3⟩ := id h
  refine ⟨hp, A, c, rfl, h1, h2, fun hx => ?_⟩
  obtain ⟨g, rfl, k1, k2, k3, ke⟩ := h3 hx
  exact ⟨g, rfl, k1, k2, Nat.lt_of_lt_of_le k3 hf.size, fun j hj => (ke j hj).frame hf k3 (hs g k1 k2) (fun b hb => by
    have := h.foot ⟨j, by omega, hb⟩
    exact hs b this.1 this.2)⟩
theorem MZ.frame {S : Nat → Prop} {w w' : World} {lo hi : Nat} {v : Value} {rs : List RowD} (h : MZ w lo hi v rs) (hf : Frame S w w') (hs : ∀ b, lo ≤ b → b < hi → ¬ S b) : MZ w' lo hi v rs := by
  obtain ⟨u, qs, rfl, h, ha⟩ := h
  exact ⟨u, qs, rfl, h.frame hf hs, ha⟩
theorem MZ.later {w w' : World} {lo hi : Nat} {v : Value} {rs : List RowD} (h : MZ w lo hi v rs) (hb : Below w.heap.size w w') : MZ w' lo hi v rs := h.frame (Frame.of_below (S := fun _ => False) hb) (fun _ _ _ h => h)
theorem MZ.reads {w : World} {lo hi : Nat} {v : Value} {rs : List RowD} (h : MZ w lo hi v rs) : MatV w v rs := by
  obtain ⟨u, qs, rfl, h, _⟩ := h
  obtain ⟨A, c, rfl, h1, h2⟩ := h.form
  exact ⟨A, c, rfl, ⟨h1, h2⟩, h.reads⟩
theorem MZ.nil (w : World) (lo hi : Nat) : MZ w lo hi (.agg #[.slice none 0 0]) [] :=
  ⟨_, [], rfl, ⟨rfl, none, 0, rfl, Nat.le_refl _, Nat.zero_le _, fun h => absurd rfl h⟩, fun j hj => by simp at hj, fun i j hi => by simp at hi⟩
theorem MS.wide {w : World} {lo hi lo' hi' : Nat} {v : Value} {qs : List RowP} {rs : List RowD} (h : MS w lo hi v qs rs) (j1 : lo' ≤ lo) (j2 : hi ≤ hi') : MS w lo' hi' v qs rs := by
  obtain ⟨hp, A, c, rfl, h1, h2, h3⟩ := h
  refine ⟨hp, A, c, rfl, h1, h2, fun hx => ?_⟩
  obtain ⟨g, rfl, k1, k2, k3, ke⟩ := h3 hx
  exact ⟨g, rfl, by omega, by omega, k3, fun j hj => ⟨(ke j hj).1, (ke j hj).2.1, (ke j hj).2.2.1.wide j1 j2, (ke j hj).2.2.2.wide j1 j2⟩⟩
/-- What a call that makes a matrix and one more value ends in. -/
def MPost (w : World) (R : List RowD) (x : Value) (e : Ending) (w' : World) : Prop := ∃ v, e = .returned (.tuple #[v, x]) ∧ MZ w' w.heap.size w'.heap.size v R ∧ Below w.heap.size w w'
end Go.Proofs.YtlpomcihkjiokaaGreat

namespace Go.Proofs.YtlpomcihkjiokaaGreat
open Go.RowKit Go.Joins

theorem spOk_yes {rows : List (List RatD)} (h : ∀ i, i < rows.length → vok (rows.getD i []) = true) : spOk rows = true := all_of (d := []) h
theorem spOk_no {rows : List (List RatD)} {i : Nat} (hi : i < rows.length) (h : vok (rows.getD i []) = false) : spOk rows = false := by
  cases hq : spOk rows
  · rfl
  · unfold spOk at hq
    rw [List.all_eq_true] at hq
    have := hq (rows.getD i []) (by simp [hi])
    rw [h] at this
    cases this
theorem vok_of {xs : List RatD} (h : ∀ q, q < xs.length → FE.ratOk (xs.getD q zR) = true) : vok xs = true := all_of (d := zR) h
theorem vok_not {xs : List RatD} {i : Nat} (hi : i < xs.length) (h : FE.ratOk (xs.getD i zR) = false) : vok xs = false := by
  cases hq : vok xs
  · rfl
  · unfold vok at hq
    rw [List.all_eq_true] at hq
    have := hq (xs.getD i zR) (by simp [hi])
    rw [h] at this
    cases this
theorem spM_snoc {rows : List (List RatD)} {i : Nat} (hi : i < rows.length) : spM (rows.take (i + 1)) = spM (rows.take i) ++ [spRow (rows.getD i [])] := by
  unfold spM
  rw [List.take_succ_eq_append_getElem hi, List.map_append]
  simp [hi]
theorem Tryz.rowInfo : (Tryz.prog.info? 130).map (fun i => (i.zero, i.size, i.bytes)) = some (some (.agg #[.slice none 0 0, .slice none 0 0]), 2, 48) := by kernel_rfl
theorem cell_new2s (w : World) (u v : Value) (T : TypeId) : ∀ j x, ([u, v] : List Value)[j]? = some x → (w.alloc (.cells #[u, v] T)).cell? ((⟨w.heap.size, 0, none⟩ : Addr).add j) = some x := by
  intro j x hj
  match j, hj with
  | 0, hj => simp at hj; subst hj; simp [Addr.add]
  | 1, hj => simp at hj; subst hj; simp [Addr.add]
theorem Slots.set2 {w : World} {g : Nat} {a b : Value} (h : Slots w g [a, b]) (x : Value) : Slots (w.setCell ⟨g, 0, none⟩ x) g [x, b] := h.set 0 (by show 0 < 2; decide) x
theorem Slots.set2b {w : World} {g : Nat} {a b : Value} (h : Slots w g [a, b]) (x : Value) : Slots (w.setCell ⟨g, 1, none⟩ x) g [a, x] := h.set 1 (by show 1 < 2; decide) x
theorem R3.far1 {w : World} {g o g' q : Nat} {a b c x : Value} (h : R3 w g o a b c) (hne : g ≠ g') : R3 (w.setCell ⟨g', q, none⟩ x) g o a b c := by
  refine ⟨?_, ?_, ?_⟩
  all_goals rw [World.cell?_setCell_other _ _ _ _ (by intro e; injection e with e1 e2; omega)]
  · exact h.1
  · exact h.2.1
  · exact h.2.2
theorem R3.frame {S : Nat → Prop} {w w' : World} {g o : Nat} {a b c : Value} (h : R3 w g o a b c) (hf : Frame S w w') (hg : g < w.heap.size) (hs : ¬ S g) : R3 w' g o a b c :=
  ⟨(hf.cell hg hs).trans h.1, (hf.cell hg hs).trans h.2.1, (hf.cell hg hs).trans h.2.2⟩
theorem frame1 {w : World} {g o : Nat} (x : Value) : Frame (fun b => b = g) w (w.setCell ⟨g, o, none⟩ x) := (Frame.refl (fun b => b = g) w).setCell (p := ⟨g, o, none⟩) rfl x

set_option maxRecDepth 100000 in
set_option maxHeartbeats 6400000 in
theorem iSparse (rows : List (List RatD)) (n c : Nat) (A : Option Addr) (w : World) (hn : rows.length = n) (ha : FI w A rows) (hf : FFew rows) (hres : ∀ i, i < rows.length → AllRes (rows.getD i [])) :
    Calls Tryz.prog 92 #[.slice A n c] w (MPost w (spR rows) (.bool (spOk rows))) := by
  have hn1 : n ≤ 1048576 := hn ▸ hf.1
  have HF := Lib.hid hf.2
  have HRES := Lib.hid hres
  have HA := Lib.hid ha
  have HN := Lib.hid hn
  have R0 := Slots.new (below_step (Below.refl _ ((w.alloc (.cells #[.slice none 0 0] 52)).alloc (.cells #[.slice none 0 0] 52)))) (g := w.heap.size) rfl
  have S4 := Slots.new (Below.refl _ ((w.alloc (.cells #[.slice none 0 0] 52)).alloc (.cells #[.slice none 0 0] 52))) (g := w.heap.size + 1) (by simp)
  have hb0 := below_alloc2 w (.cells #[.slice none 0 0] 52) (.cells #[.slice none 0 0] 52)
  have hz0 : w.heap.size + 2 ≤ ((w.alloc (.cells #[.slice none 0 0] 52)).alloc (.cells #[.slice none 0 0] 52)).heap.size := by simp
  clear hf hres ha hn
  go_enter Tryz.func92, Tryz.ntmps92
  go_wp2_with fail
  generalize (w.alloc (.cells #[.slice none 0 0] 52)).alloc (.cells #[.slice none 0 0] 52) = w2 at *
  go_loopw [13] (fun z wr => ∃ (i : Nat) (vr : Value) (qs : List RowP), i ≤ n ∧ z = .int .i64 i ∧ Below (w.heap.size + 1) w2 wr ∧ w2.heap.size ≤ wr.heap.size ∧ Slots wr (w.heap.size + 1) [vr] ∧ MW wr (w.heap.size + 2) wr.heap.size vr qs (spM (rows.take i)) ∧ Hid (∀ q, q < i → vok (rows.getD q []) = true)) (fun z _ => n - (intOf z).toNat)
  case atStart => exact ⟨0, _, [], Nat.zero_le _, rfl, Below.refl _ _, Nat.le_refl _, S4, MW.nil _ _ _ (Nat.le_refl _), Lib.hid (fun q hq => by omega)⟩
  case round =>
    clear S4
    obtain ⟨i, vr, qs, hi, rfl, hb, hzb, S4, hmw, HOK⟩ := hrel
    have hbw := hb0.trans (hb.mono (by omega))
    have R1 := R0.below hb (show w.heap.size < w.heap.size + 1 by omega)
    by_cases hin : i = n
    · have hlf : ¬ (i < n) := by omega
      have HE := Lib.hid (spOk_yes (rows := rows) (fun q hq => HOK.out q (by rw [HN.out] at hq; omega)))
      obtain ⟨Ar, cr, rfl⟩ := hmw.form
      have hms := hmw.ms
      have hrl : (spM (rows.take i)).length = n := by rw [hin, ← HN.out]; simp [spM]
      have hre : spM (rows.take i) = spM rows := by rw [hin, ← HN.out, List.take_length]
      rw [hrl] at S4 hms
      rw [hre] at hms
      obtain ⟨q0, z0⟩ := R1.c1
      obtain ⟨s0, _⟩ := S4.c1
      have hfin : MPost w (spR rows) (.bool (spOk rows)) (.returned (.tuple #[.agg #[.slice Ar n cr], .bool true])) (wr.setCell ⟨w.heap.size, 0, none⟩ (.slice Ar n cr)) := by
        unfold spR
        rw [HE.out]
        simp only [if_true]
        refine ⟨_, rfl, ⟨_, qs, rfl, (hms.frame (frame1 _) (fun b h1 _ e => by omega)).wide (by omega) (by simp), hmw.2.1⟩, ?_⟩
        exact hbw.setCell (p := ⟨w.heap.size, 0, none⟩) (Nat.le_refl _) _
      replace hfin := Lib.hid hfin
      clear hmw hms hrl hre HOK R1 S4 hb hbw
      go_wp2
      exact bodyPost_ret (v := .tuple #[.agg #[.slice Ar n cr], .bool true]) (by simp [results, Tryz.results92, go_sem, q0]) rfl hfin.out
    · have hltn : (i : Int) < (n : Int) := by omega
      have hil : i < rows.length := by rw [HN.out]; omega
      obtain ⟨bF, oF, C, eC, rfl, hbF, l0, hvi⟩ := HA.out.row i hil
      replace l0 := cell_later hbF l0 hbw
      have HFI := Lib.hid (HF.out i hil)
      have HRI := Lib.hid (HRES.out i hil)
      have HSN := Lib.hid (spM_snoc hil)
      have HNO := Lib.hid (fun h => spOk_no hil h)
      have HOKI := Lib.hid (fun (h : vok (rows.getD i []) = true) q (hq : q < i + 1) => (show vok (rows.getD q []) = true by
        by_cases e : q = i
        · rw [e]; exact h
        · exact HOK.out q (by omega)))
      obtain ⟨xs, hxs⟩ : ∃ xs, rows.getD i [] = xs := ⟨_, rfl⟩
      rw [hxs] at l0 hvi HFI HRI HSN HNO HOKI
      obtain ⟨m, hm⟩ : ∃ m, xs.length = m := ⟨_, rfl⟩
      rw [hm] at l0
      have HM := Lib.hid hm
      have HVI := Lib.hid hvi
      have hm1 : m ≤ 1048576 := hm ▸ HFI.out.1
      have HMW := Lib.hid hmw
      obtain ⟨Ar, cr, rfl⟩ := hmw.form
      have hrl : (spM (rows.take i)).length = i := by simp [spM]; omega
      rw [hrl] at S4 HMW
      have HRL := Lib.hid hrl
      have al := below_alloc1 wr (.cells #[.slice none 0 0, .slice none 0 0] 130)
      have S7 := Slots.new (Below.refl _ (wr.alloc (.cells #[.slice none 0 0, .slice none 0 0] 130))) (g := wr.heap.size) rfl
      have S4' := S4.later al
      have R2 := R1.later al
      have HMW' := Lib.hid (HMW.out.belowLo al)
      have hbw7 := below_trans hbw al
      have hb7 := hb.trans (al.mono (by omega))
      have hz7 : (wr.alloc (.cells #[.slice none 0 0, .slice none 0 0] 130)).heap.size = wr.heap.size + 1 := by simp
      clear hxs hm hvi hmw hrl HOK S4 R1 HMW al hil
      go_wp2_with fail
      clear l0
      generalize wr.alloc (.cells #[.slice none 0 0, .slice none 0 0] 130) = wq at *
      clear hbw hb
      generalize wr.heap.size = g7 at *
      go_loopw [20] (fun z wp => ∃ (k : Nat) (vc vv : Value) (ps : List (Value × Value)), k ≤ m ∧ z = .int .i64 k ∧ Below g7 wq wp ∧ wq.heap.size ≤ wp.heap.size ∧ Slots wp g7 [vc, vv] ∧ CV wp wq.heap.size vc vv ps (spC xs k) (spV xs k) ∧ Hid (∀ q, q < k → FE.ratOk (xs.getD q zR) = true)) (fun z _ => m - (intOf z).toNat)
      case atStart => exact ⟨0, _, _, [], Nat.zero_le _, rfl, Below.refl _ _, Nat.le_refl _, S7, CV.nil _ _, Lib.hid (fun q hq => by omega)⟩
      case round =>
        clear S7
        obtain ⟨k, vc, vv, ps, hk, rfl, hbk, hzk, S7, hcv, HOKQ⟩ := hrel
        obtain ⟨Ac, cc, Av, cv, rfl, rfl⟩ := hcv.forms
        have hlc := spC_le xs k
        have hlv := spV_le xs k
        by_cases hkm : k = m
        · have hlf : ¬ (k < m) := by omega
          have HVOK := Lib.hid (vok_of (xs := xs) (fun q hq => HOKQ.out q (by rw [HM.out] at hq; omega)))
          have hsr : (⟨spC xs k, spV xs k⟩ : RowD) = spRow xs := by unfold spRow; rw [HM.out, hkm]
          have S4k := S4'.below hbk (show w.heap.size + 1 < g7 by omega)
          obtain ⟨s0, _⟩ := S4k.c1
          obtain ⟨t0, t1, _, _⟩ := S7.p2
          have HCV := Lib.hid (show CV wr wq.heap.size (.slice Ac (spC xs k).length cc) (.slice Av (spV xs k).length cv) ps (⟨spC xs k, spV xs k⟩ : RowD).cols (⟨spC xs k, spV xs k⟩ : RowD).vals from hcv)
          rw [hsr] at HCV
          generalize (spC xs k).length = nc at *
          generalize (spV xs k).length = nv at *
          have al8 := below_alloc1 wr (.cells #[.slice Ac nc cc, .slice Av nv cv] 130)
          have hz8 : (wr.alloc (.cells #[.slice Ac nc cc, .slice Av nv cv] 130)).heap.size = wr.heap.size + 1 := by simp
          have HMW8 := Lib.hid ((HMW'.out.belowLo hbk).belowLo (al8.mono (by omega)))
          have HCV8 := Lib.hid (HCV.out.later al8)
          have S48 := S4k.later al8
          have HO8 := Lib.hid (show (wr.alloc (.cells #[.slice Ac nc cc, .slice Av nv cv] 130)).ownsRow (w.heap.size + 2) 130 2 (.slice Ar i cr) i (cellsM qs) from by have := HMW8.out.2.2.1; rwa [HRL.out] at this)
          have hb8 := hb7.trans ((hbk.trans (al8.mono (by omega))).mono (by omega))
          have HC8 := Lib.hid (cell_new2s wr (.slice Ac nc cc) (.slice Av nv cv) 130)
          have HN8 := Lib.hid (show ∀ u ∈ ([.slice Ac nc cc, .slice Av nv cv] : List Value), u.oneCell' = true from fun u hu => by
            simp only [List.mem_cons, List.not_mem_nil, or_false] at hu
            rcases hu with h | h <;> rw [h] <;> rfl)
          clear hcv hsr HCV al8 S4k hlc hlv
          go_wp2_with (at_builtin; refine appOwn rfl _ _ 50 130 rfl Tryz.underlying50 (.agg #[.slice none 0 0, .slice none 0 0]) 2 48 Tryz.rowInfo rfl (by decide) (by decide) rfl HO8.out (by omega) (by omega) ⟨wr.heap.size, 0, none⟩ rfl [.slice Ac nc cc, .slice Av nv cv] rfl HC8.out HN8.out ?_; intro v9 w9 ho9 hf9 hob9; obtain ⟨A9, c9, e9, _⟩ := own_slice ho9; subst e9; have S49 := S48.frame hf9 (fun e => by have := (own_lt HO8.out e).1; omega); obtain ⟨s9, z9⟩ := S49.c1)
          have HMW9 := Lib.hid (HMW8.out.snoc HCV8.out (by omega) (by omega) (by rw [HRL.out]; exact ho9) hf9)
          rw [← HSN.out] at HMW9
          have hz9 := hf9.size
          have hb9 := hb8.trans (hf9.to_below (B := w.heap.size + 1) (by omega) (fun b hb hs => by have := (own_lt HO8.out hs).1; omega))
          have hbr := hb9.setCell (p := ⟨w.heap.size + 1, 0, none⟩) (Nat.le_refl _) (.slice A9 (i + 1) c9)
          have S4n := S49.set 0 (by show 0 < 1; decide) (.slice A9 (i + 1) c9)
          clear ho9 hf9 hob9 HC8 HN8 S48 s0 t0 t1
          go_wp2
          go_roundw
          case rel => exact ⟨i + 1, .slice A9 (i + 1) c9, _, by omega, rfl, hbr, by simp; omega, S4n, by have := HMW9.out.far (frame1 (g := w.heap.size + 1) (o := 0) (.slice A9 (i + 1) c9)) (by omega); simpa using this, Lib.hid (HOKI.out HVOK.out)⟩
          case measure => simp [intOf]; omega
        · have hltk : (k : Int) < (m : Int) := by omega
          have hkx : k < xs.length := by rw [HM.out]; omega
          have hwwk := hbw7.trans (hbk.mono (by omega))
          obtain ⟨b5, o5, rfl, hb5, hat⟩ := HVI.out.cells k hkx
          have fr := HFI.out.2 k hkx
          have hres := HRI.out k hkx
          have HC1 := Lib.hid (fun h => spC_hit (xs := xs) (k := k) h)
          have HC0 := Lib.hid (fun h => spC_miss (xs := xs) (k := k) h)
          have HV1 := Lib.hid (fun h => spV_hit (xs := xs) (k := k) h)
          have HV0 := Lib.hid (fun h => spV_miss (xs := xs) (k := k) h)
          have HOKN := Lib.hid (fun (h : FE.ratOk (xs.getD k zR) = true) q (hq : q < k + 1) => (show FE.ratOk (xs.getD q zR) = true by
            by_cases e : q = k
            · rw [e]; exact h
            · exact HOKQ.out q (by omega)))
          have HGV := Lib.hid (fun b (h : (Value.slice Ac (spC xs k).length cc).ownBlock = some b) => (own_lt hcv.1 h).2)
          have HGW := Lib.hid (fun b (h : (Value.slice Av (spV xs k).length cv).ownBlock = some b) => (own_lt hcv.2.1.2.1 h).2)
          have HBAD := Lib.hid (fun (h : FE.ratOk (xs.getD k zR) = false) => HNO.out (vok_not hkx h))
          obtain ⟨xk, hxk⟩ : ∃ y, xs.getD k zR = y := ⟨_, rfl⟩
          rw [hxk] at hat fr hres HC1 HC0 HV1 HV0 HOKN HBAD
          obtain ⟨A5, c5, B5, d5, k0, k1, k2, hl5, q1, q2⟩ := hat
          have HVW := Lib.hid (show RatV w (.agg #[.bool xk.neg, .slice A5 xk.mag.length c5, .slice B5 xk.den.length d5]) xk from ⟨_, _, _, _, rfl, hl5, q1, q2⟩)
          replace k0 := cell_later hb5 k0 hwwk
          replace k1 := cell_later hb5 k1 hwwk
          replace k2 := cell_later hb5 k2 hwwk
          have al := below_alloc1 wr (.cells #[.bool xk.neg, .slice A5 xk.mag.length c5, .slice B5 xk.den.length d5] 57)
          have S9 := Slots.new (Below.refl _ (wr.alloc (.cells #[.bool xk.neg, .slice A5 xk.mag.length c5, .slice B5 xk.den.length d5] 57))) (g := wr.heap.size) rfl
          have HV5 := Lib.hid (HVW.out.later (below_trans hwwk al))
          have HOKC := Lib.hid (fun W v (hv : RatV W v xk) => iIsRat xk (FE.ratOk xk) (hres.den) v W hv)
          have HSGC := Lib.hid (fun W v (hv : RatV W v xk) => iSign xk v W hv)
          have HCPC := Lib.hid (fun W v (hv : RatV W v xk) => iCopyRat xk v W hv fr.1 fr.2)
          have S7b := S7.later al
          have HCVb := Lib.hid (hcv.later al)
          have hbb := hbk.trans (al.mono (by omega))
          have hbwb := below_trans hwwk al
          have hzb9 : (wr.alloc (.cells #[.bool xk.neg, .slice A5 xk.mag.length c5, .slice B5 xk.den.length d5] 57)).heap.size = wr.heap.size + 1 := by simp
          obtain ⟨x0, x1, x2, _, _, _⟩ := S9.c3
          clear hxk hl5 q1 q2 S7 hcv al hkx HOKQ hwwk hbk
          go_wp2_with fail
          clear k0 k1 k2
          generalize wr.alloc (.cells #[.bool xk.neg, .slice A5 xk.mag.length c5, .slice B5 xk.den.length d5] 57) = wb at *
          generalize wr.heap.size = g9 at *
          refine (HOKC.out _ _ HV5.out).mono ?_
          rintro e w10 ⟨rfl, hb10⟩
          replace S7b := S7b.later hb10
          replace S9 := S9.later hb10
          have hv10 := Lib.hid (HV5.out.later hb10)
          have HCV10 := Lib.hid (HCVb.out.later hb10)
          have hbb10 := hbb.trans (hb10.mono (by omega))
          have hbw10 := below_trans hbwb hb10
          have hz10 := hb10.size
          clear x0 x1 x2 hbb hbwb hb10 HCVb HV5 HOKC
          cases hq : FE.ratOk xk
          · have HE := Lib.hid (HBAD.out hq)
            obtain ⟨q0, z0⟩ := (R2.below hbb10 (show w.heap.size < g7 by omega)).c1
            have hfin : MPost w (spR rows) (.bool (spOk rows)) (.returned (.tuple #[.agg #[.slice none 0 0], .bool false])) (w10.setCell ⟨w.heap.size, 0, none⟩ (.slice none 0 0)) := by
              unfold spR
              rw [HE.out]
              simp only [Bool.false_eq_true, if_false]
              exact ⟨_, rfl, MZ.nil _ _ _, hbw10.setCell (p := ⟨w.heap.size, 0, none⟩) (Nat.le_refl _) _⟩
            replace hfin := Lib.hid hfin
            clear S7b S9 hbb10 hbw10
            go_wp2
            exact bodyPost_ret (v := .tuple #[.agg #[.slice none 0 0], .bool false]) (by simp [results, Tryz.results92, go_sem, q0]) rfl hfin.out
          · have HOKK := Lib.hid (HOKN.out hq)
            have HQ := Lib.hid hq
            clear hq HBAD HOKN HNO
            obtain ⟨x0, x1, x2, _, _, _⟩ := S9.c3
            go_wp2_with fail
            refine (HSGC.out _ _ hv10.out).mono ?_
            rintro e w11 ⟨rfl, hb11⟩
            replace S7b := S7b.later hb11
            replace S9 := S9.later hb11
            have hv11 := Lib.hid (hv10.out.later hb11)
            have HCV11 := Lib.hid (HCV10.out.later hb11)
            have hbb11 := hbb10.trans (hb11.mono (by omega))
            have hbw11 := below_trans hbw10 hb11
            have hz11 := hb11.size
            clear x0 x1 x2 hbb10 hbw10 hb11 HCV10 hv10 HSGC
            by_cases hs : rsgn xk = 0
            · rw [hs]
              have hsz : ((0 : Int) != 0) = false := rfl
              have HR0 := Lib.hid (show CV w11 wq.heap.size (.slice Ac (spC xs k).length cc) (.slice Av (spV xs k).length cv) ps (spC xs (k + 1)) (spV xs (k + 1)) from by rw [HC0.out hs, HV0.out hs]; exact HCV11.out)
              clear hs
              go_wp2
              go_roundw
              case rel => exact ⟨k + 1, _, _, ps, by omega, rfl, hbb11, by omega, S7b, HR0.out, HOKK⟩
              case measure => simp [intOf]; omega
            · obtain ⟨sg, hsg⟩ : ∃ s, rsgn xk = s := ⟨_, rfl⟩
              rw [hsg]
              rw [hsg] at hs
              have hs1 : (sg != 0) = true := by simpa using hs
              have HC1' := Lib.hid (HC1.out (by rw [hsg]; exact hs))
              have HV1' := Lib.hid (HV1.out (by rw [hsg]; exact hs))
              obtain ⟨nc, hnc⟩ : ∃ y, (spC xs k).length = y := ⟨_, rfl⟩
              obtain ⟨nv, hnv⟩ : ∃ y, (spV xs k).length = y := ⟨_, rfl⟩
              rw [hnc] at HCV11 S7b hlc hlv HGV
              rw [hnv] at HCV11 S7b hlv HGW
              obtain ⟨t0, t1, y0, y1⟩ := S7b.p2
              have al12 := below_alloc1 w11 (.cells #[.int .i64 k] 3)
              have hz12 : (w11.alloc (.cells #[.int .i64 k] 3)).heap.size = w11.heap.size + 1 := by simp
              have HCV12 := Lib.hid (HCV11.out.later al12)
              have S712 := S7b.later al12
              have HO12 := Lib.hid (show (w11.alloc (.cells #[.int .i64 k] 3)).ownsRow wq.heap.size 3 1 (.slice Ac nc cc) nc ((spC xs k).map (Value.int .i64)) from by have := HCV12.out.1; unfold OI at this; rwa [hnc] at this)
              have HC12 := Lib.hid (cell_new1s w11 (.int .i64 k) 3)
              have HN12 := Lib.hid (show ∀ u ∈ ([.int .i64 k] : List Value), u.oneCell' = true from fun u hu => by simp only [List.mem_cons, List.not_mem_nil, or_false] at hu; rw [hu]; rfl)
              have hbb12 := hbb11.trans (al12.mono (by omega))
              have HNC := Lib.hid hnc
              have HNV := Lib.hid hnv
              have hlv' : nv ≤ nc := by omega
              clear hlv hsg hnc hnv HC1 HV1 HC0 HV0 HCV11 S7b
              go_wp2_with (at_builtin; refine appOwn rfl _ _ 40 3 rfl Tryz.underlying40 (.int .i64 0) 1 8 Tryz.intInfo rfl (by decide) (by decide) rfl HO12.out (by omega) (by omega) ⟨w11.heap.size, 0, none⟩ rfl [.int .i64 k] rfl HC12.out HN12.out ?_; intro v13 w13 ho13 hf13 hob13; obtain ⟨A13, c13, e13, _⟩ := own_slice ho13; subst e13; have S713 := S712.frame hf13 (fun e => by have := (own_lt HO12.out e).1; omega); obtain ⟨t0, t1, y0, y1⟩ := S713.p2)
              have HCV13 := Lib.hid (HCV12.out.col (by rw [HNC.out]; exact ho13) hf13 hob13)
              have hz13 := hf13.size
              have hbb13 := hbb12.trans (hf13.to_below (B := g7) (by omega) (fun b hb hs => by have := (own_lt HO12.out hs).1; omega))
              have S9d := ((S9.later al12).frame hf13 (fun e => by have := (own_lt HO12.out e).1; have := HGV.out _ e; omega)).frame (frame1 (g := g7) (o := 0) (.slice A13 (nc + 1) c13)) (fun e => by omega)
              have S7d := S713.set2 (.slice A13 (nc + 1) c13)
              have HCVd := Lib.hid (HCV13.out.frame (frame1 (g := g7) (o := 0) (.slice A13 (nc + 1) c13)) (fun b h1 _ e => by omega))
              have hbbd := hbb13.setCell (p := ⟨g7, 0, none⟩) (Nat.le_refl _) (.slice A13 (nc + 1) c13)
              have hzd : (w13.setCell ⟨g7, 0, none⟩ (.slice A13 (nc + 1) c13)).heap.size = w13.heap.size := by simp
              clear S713 S9 al12 hbb13 hbb12 t0 t1 y0 y1 hf13 hob13 ho13 HC12 HN12 HCV12 HCV13 S712 hs1 hs
              generalize w13.setCell ⟨g7, 0, none⟩ (.slice A13 (nc + 1) c13) = wd at *
              have hbwd := hbw7.trans (hbbd.mono (by omega))
              have r9 := S9d.r3
              have hbwdr : Below w.heap.size w wd.drew := ⟨hbwd.os, hbwd.tape, hbwd.output, hbwd.size, hbwd.block⟩
              have hzdr : wd.heap.size ≤ wd.drew.heap.size := Nat.le_refl _
              have HOV := Lib.hid (fun b h => (own_lt HCVd.out.2.1.2.1 (b := b) h))
              have HOC := Lib.hid (fun b h => (own_lt HCVd.out.1 (b := b) h))
              clear S9d
              refine wp_region_held_drew (S := fun W => Below g7 wd W ∧ R3 W g9 0 (.bool xk.neg) (.slice A5 xk.mag.length c5) (.slice B5 xk.den.length d5)) (by kernel_rfl) ⟨⟨rfl, rfl, rfl, Nat.le_refl _, fun _ _ => rfl⟩, r9⟩ (fun hHeld => ?_)
              refine qL (i := 0) (v := ?_) rfl (by kernel_rfl) (fun _ _ _ h => h) (by assumption) (by rfl) (fun W _ => ?_) ?_
              rotate_left
              · go_simp
                try with_reducible rfl
              try simp only [Act.put, List.setIfInBounds_toArray]
              refine qL (i := 2) (v := ?_) rfl (by kernel_rfl) (fun _ _ _ h => h) (by assumption) (by rfl) (fun W hSw => ?_) ?_
              rotate_left
              · have bx := (And.right hSw)
                have fbx0 := bx.1
                have fbx1 := bx.2.1
                have fbx2 := bx.2.2
                go_simp
                try with_reducible rfl
              try simp only [Act.put]
              refine qR2 (i := 1) (j := 3) (by kernel_rfl) rfl rfl (fun K hK => ?_) (fun K hK => ?_)
              ·simp only [List.getElem_toArray, List.getElem_cons_succ, List.getElem_cons_zero]
               have u1 := S7d.p2.2.1
               go_simp
               refine hK.out _ _ (hHeld) (fun h2 => ?_)
               clear hK K hHeld
               have hHeld := h2
               clear h2
               try simp only [Act.put, List.setIfInBounds_toArray, List.set_cons_zero, List.set_cons_succ]
               refine qR (i := 3) (by kernel_rfl) rfl (fun K hK => ?_)
               simp only [List.getElem_toArray, List.getElem_cons_succ, List.getElem_cons_zero]
               go_simp
               (go_at_call 123; (with_reducible refine (HCPC.out _ _ (HVW.out.later (by first | exact hbwdr | exact hbwd))).mono ?_); rintro e14 w14 ⟨v14, rfl, hp14, hb14⟩)
               try (go_wp2_with fail)
               have hw14 : Below wd.heap.size wd w14 := ⟨hb14.os, hb14.tape, hb14.output, hb14.size, hb14.block⟩
               have hz14 := hw14.size
               have hB14 := hw14.mono (show g7 ≤ wd.heap.size by omega)
               have S714 := S7d.later hw14
               have bx14 := r9.later hw14
               obtain ⟨A14, n14, c14, B14, m14, d14, rfl⟩ := hp14.shape
               refine hK.out _ _ ⟨hB14, bx14⟩ (fun h2 => ?_)
               clear hK K hHeld
               have hHeld := h2
               clear h2
               try simp only [Act.put, List.setIfInBounds_toArray, List.set_cons_zero, List.set_cons_succ]
               refine qR (i := 4) (by kernel_rfl) rfl (fun K hK => ?_)
               simp only [List.getElem_toArray, List.getElem_cons_succ, List.getElem_cons_zero]
               go_simp
               have al15 := below_alloc1 w14 (.cells #[.bool xk.neg, .slice A14 n14 c14, .slice B14 m14 d14] 57)
               have Z15 := Slots.new (Below.refl _ (w14.alloc (.cells #[.bool xk.neg, .slice A14 n14 c14, .slice B14 m14 d14] 57))) (g := w14.heap.size) rfl
               have c0 := Z15.c3.1
               have c1' := Z15.c3.2.1
               have c2' := Z15.c3.2.2.1
               have hB15 := hB14.trans (al15.mono (by omega))
               have hw15 := below_trans hw14 al15
               have HVY := Lib.hid ((HCVd.out.2.1.later hw15))
               have HCV15 := Lib.hid (HCVd.out.later hw15)
               have hz15 : (w14.alloc (.cells #[.bool xk.neg, .slice A14 n14 c14, .slice B14 m14 d14] 57)).heap.size = w14.heap.size + 1 := by simp
               obtain ⟨va, vb, ev, ra, rb, hap⟩ := hp14
               injection ev with ev
               injection ev with ev
               injection ev with ev0 ev
               injection ev with ev1 ev
               injection ev with ev2 _
               subst ev1 ev2
               clear ev0
               have ia := (ra.io.later al15).wide (lo' := wd.heap.size) (hi' := w14.heap.size + 1) (Nat.le_refl _) (by omega)
               have ib := (rb.io.later al15).wide (lo' := wd.heap.size) (hi' := w14.heap.size + 1) (Nat.le_refl _) (by omega)
               have bx15 := bx14.later al15
               have S715 := S714.later al15
               clear Z15 al15
               refine hK.out _ _ ⟨hB15, bx15⟩ (fun h2 => ?_)
               clear hK K hHeld
               have hHeld := h2
               clear h2
               try simp only [Act.put, List.setIfInBounds_toArray, List.set_cons_zero, List.set_cons_succ]
               refine qR (i := 5) (by kernel_rfl) rfl (fun K hK => ?_)
               simp only [List.getElem_toArray, List.getElem_cons_succ, List.getElem_cons_zero]
               rw [if_pos (by rfl)]
               try simp only [List.setIfInBounds_toArray, List.set_cons_zero, List.set_cons_succ]
               refine wpAppRat _ _ (by rfl) (by rfl) HVY.out (by rw [HNV.out]; omega) (by omega) xk _ _ w14.heap.size (by rfl) c0 c1' c2' ia ib hap (by omega) (by omega) ?_
               intro v16 w16 hv16 hf16
               have hz16 := hf16.size
               have hB16 := hB15.trans (hf16.to_below (B := g7) (by omega) (fun b hb hs => by have := (HOV.out b hs).1; omega))
               have hB16w := hbbd.trans hB16
               have bx16 := bx15.frame hf16 (by omega) (fun e => by have := HGW.out _ e; omega)
               have S716 := S715.frame hf16 (fun e => by have := (HOV.out _ e).1; omega)
               obtain ⟨A16, c16, e16, _⟩ := hv16.form
               rw [show (spV xs k ++ [xk]).length = nv + 1 by rw [List.length_append, HNV.out]; rfl] at e16
               subst e16
               have hz16' : w14.heap.size + 1 ≤ w16.heap.size := by omega
               have hv16w := hv16
               refine hK.out _ _ ⟨hB16, bx16⟩ (fun h2 => ?_)
               clear hK K hHeld
               have hHeld := h2
               clear h2
               try simp only [Act.put, List.setIfInBounds_toArray, List.set_cons_zero, List.set_cons_succ]
               refine qL (i := 6) (v := ?_) rfl (by kernel_rfl) (fun _ _ _ h => h) (by assumption) (by rfl) (fun W _ => ?_) ?_
               rotate_left
               · go_simp
                 try with_reducible rfl
               try simp only [Act.put, List.setIfInBounds_toArray]
               refine qR (i := 7) (by kernel_rfl) rfl (fun K hK => ?_)
               simp only [List.getElem_toArray, List.getElem_cons_succ, List.getElem_cons_zero]
               have t1 := S716.p2.2.1
               have y1 := S716.p2.2.2.2
               go_simp
               refine hK.out _ _ ⟨hB16.setCell (p := ⟨g7, 1, none⟩) (Nat.le_refl _) _, bx16.far1 (by omega)⟩ (fun h2 => ?_)
               clear hK K hHeld
               have hHeld := h2
               clear h2
               try simp only [Act.put, List.setIfInBounds_toArray, List.set_cons_zero, List.set_cons_succ]
               refine wpAnyH_done (by kernel_rfl) ?_ _
               clear hHeld
               have hcvf := HCV15.out.val (k := wd.heap.size) (fun b hb => (HOC.out b hb).2) (fun b hb => (ia.2 b hb).1) (fun b hb => (ib.2 b hb).1) hv16w hz16' hf16
               rw [← HC1'.out, ← HV1'.out] at hcvf
               have hbr := hB16w.setCell (p := ⟨g7, 1, none⟩) (Nat.le_refl _) (.slice A16 (nv + 1) c16)
               have S7f := S716.set2b (.slice A16 (nv + 1) c16)
               have hcvf2 := hcvf.frame (frame1 (g := g7) (o := 1) (.slice A16 (nv + 1) c16)) (fun b h1 _ e => by omega)
               clear hcvf hv16w hf16 ia ib hap HCV15 S716 bx16
               go_wp2
               go_roundw
               case rel => exact ⟨k + 1, _, _, _, by omega, rfl, hbr, by simp; omega, S7f, hcvf2, HOKK⟩
               case measure => simp [intOf]; omega
              ·simp only [List.getElem_toArray, List.getElem_cons_succ, List.getElem_cons_zero]
               go_simp
               (go_at_call 123; (with_reducible refine (HCPC.out _ _ (HVW.out.later (by first | exact hbwdr | exact hbwd))).mono ?_); rintro e14 w14 ⟨v14, rfl, hp14, hb14⟩)
               try (go_wp2_with fail)
               have hw14 : Below wd.heap.size wd w14 := ⟨hb14.os, hb14.tape, hb14.output, hb14.size, hb14.block⟩
               have hz14 := hw14.size
               have hB14 := hw14.mono (show g7 ≤ wd.heap.size by omega)
               have S714 := S7d.later hw14
               have bx14 := r9.later hw14
               obtain ⟨A14, n14, c14, B14, m14, d14, rfl⟩ := hp14.shape
               refine hK.out _ _ ⟨hB14, bx14⟩ (fun h2 => ?_)
               clear hK K hHeld
               have hHeld := h2
               clear h2
               try simp only [Act.put, List.setIfInBounds_toArray, List.set_cons_zero, List.set_cons_succ]
               refine qR2 (i := 1) (j := 4) (by kernel_rfl) rfl rfl (fun K hK => ?_) (fun K hK => ?_)
               ·simp only [List.getElem_toArray, List.getElem_cons_succ, List.getElem_cons_zero]
                have u1 := S714.p2.2.1
                go_simp
                refine hK.out _ _ ⟨hB14, bx14⟩ (fun h2 => ?_)
                clear hK K hHeld
                have hHeld := h2
                clear h2
                try simp only [Act.put, List.setIfInBounds_toArray, List.set_cons_zero, List.set_cons_succ]
                refine qR (i := 4) (by kernel_rfl) rfl (fun K hK => ?_)
                simp only [List.getElem_toArray, List.getElem_cons_succ, List.getElem_cons_zero]
                go_simp
                have al15 := below_alloc1 w14 (.cells #[.bool xk.neg, .slice A14 n14 c14, .slice B14 m14 d14] 57)
                have Z15 := Slots.new (Below.refl _ (w14.alloc (.cells #[.bool xk.neg, .slice A14 n14 c14, .slice B14 m14 d14] 57))) (g := w14.heap.size) rfl
                have c0 := Z15.c3.1
                have c1' := Z15.c3.2.1
                have c2' := Z15.c3.2.2.1
                have hB15 := hB14.trans (al15.mono (by omega))
                have hw15 := below_trans hw14 al15
                have HVY := Lib.hid ((HCVd.out.2.1.later hw15))
                have HCV15 := Lib.hid (HCVd.out.later hw15)
                have hz15 : (w14.alloc (.cells #[.bool xk.neg, .slice A14 n14 c14, .slice B14 m14 d14] 57)).heap.size = w14.heap.size + 1 := by simp
                obtain ⟨va, vb, ev, ra, rb, hap⟩ := hp14
                injection ev with ev
                injection ev with ev
                injection ev with ev0 ev
                injection ev with ev1 ev
                injection ev with ev2 _
                subst ev1 ev2
                clear ev0
                have ia := (ra.io.later al15).wide (lo' := wd.heap.size) (hi' := w14.heap.size + 1) (Nat.le_refl _) (by omega)
                have ib := (rb.io.later al15).wide (lo' := wd.heap.size) (hi' := w14.heap.size + 1) (Nat.le_refl _) (by omega)
                have bx15 := bx14.later al15
                have S715 := S714.later al15
                clear Z15 al15
                refine hK.out _ _ ⟨hB15, bx15⟩ (fun h2 => ?_)
                clear hK K hHeld
                have hHeld := h2
                clear h2
                try simp only [Act.put, List.setIfInBounds_toArray, List.set_cons_zero, List.set_cons_succ]
                refine qR (i := 5) (by kernel_rfl) rfl (fun K hK => ?_)
                simp only [List.getElem_toArray, List.getElem_cons_succ, List.getElem_cons_zero]
                rw [if_pos (by rfl)]
                try simp only [List.setIfInBounds_toArray, List.set_cons_zero, List.set_cons_succ]
                refine wpAppRat _ _ (by rfl) (by rfl) HVY.out (by rw [HNV.out]; omega) (by omega) xk _ _ w14.heap.size (by rfl) c0 c1' c2' ia ib hap (by omega) (by omega) ?_
                intro v16 w16 hv16 hf16
                have hz16 := hf16.size
                have hB16 := hB15.trans (hf16.to_below (B := g7) (by omega) (fun b hb hs => by have := (HOV.out b hs).1; omega))
                have hB16w := hbbd.trans hB16
                have bx16 := bx15.frame hf16 (by omega) (fun e => by have := HGW.out _ e; omega)
                have S716 := S715.frame hf16 (fun e => by have := (HOV.out _ e).1; omega)
                obtain ⟨A16, c16, e16, _⟩ := hv16.form
                rw [show (spV xs k ++ [xk]).length = nv + 1 by rw [List.length_append, HNV.out]; rfl] at e16
                subst e16
                have hz16' : w14.heap.size + 1 ≤ w16.heap.size := by omega
                have hv16w := hv16
                refine hK.out _ _ ⟨hB16, bx16⟩ (fun h2 => ?_)
                clear hK K hHeld
                have hHeld := h2
                clear h2
                try simp only [Act.put, List.setIfInBounds_toArray, List.set_cons_zero, List.set_cons_succ]
                refine qL (i := 6) (v := ?_) rfl (by kernel_rfl) (fun _ _ _ h => h) (by assumption) (by rfl) (fun W _ => ?_) ?_
                rotate_left
                · go_simp
                  try with_reducible rfl
                try simp only [Act.put, List.setIfInBounds_toArray]
                refine qR (i := 7) (by kernel_rfl) rfl (fun K hK => ?_)
                simp only [List.getElem_toArray, List.getElem_cons_succ, List.getElem_cons_zero]
                have t1 := S716.p2.2.1
                have y1 := S716.p2.2.2.2
                go_simp
                refine hK.out _ _ ⟨hB16.setCell (p := ⟨g7, 1, none⟩) (Nat.le_refl _) _, bx16.far1 (by omega)⟩ (fun h2 => ?_)
                clear hK K hHeld
                have hHeld := h2
                clear h2
                try simp only [Act.put, List.setIfInBounds_toArray, List.set_cons_zero, List.set_cons_succ]
                refine wpAnyH_done (by kernel_rfl) ?_ _
                clear hHeld
                have hcvf := HCV15.out.val (k := wd.heap.size) (fun b hb => (HOC.out b hb).2) (fun b hb => (ia.2 b hb).1) (fun b hb => (ib.2 b hb).1) hv16w hz16' hf16
                rw [← HC1'.out, ← HV1'.out] at hcvf
                have hbr := hB16w.setCell (p := ⟨g7, 1, none⟩) (Nat.le_refl _) (.slice A16 (nv + 1) c16)
                have S7f := S716.set2b (.slice A16 (nv + 1) c16)
                have hcvf2 := hcvf.frame (frame1 (g := g7) (o := 1) (.slice A16 (nv + 1) c16)) (fun b h1 _ e => by omega)
                clear hcvf hv16w hf16 ia ib hap HCV15 S716 bx16
                go_wp2
                go_roundw
                case rel => exact ⟨k + 1, _, _, _, by omega, rfl, hbr, by simp; omega, S7f, hcvf2, HOKK⟩
                case measure => simp [intOf]; omega
               ·simp only [List.getElem_toArray, List.getElem_cons_succ, List.getElem_cons_zero]
                go_simp
                have al15 := below_alloc1 w14 (.cells #[.bool xk.neg, .slice A14 n14 c14, .slice B14 m14 d14] 57)
                have Z15 := Slots.new (Below.refl _ (w14.alloc (.cells #[.bool xk.neg, .slice A14 n14 c14, .slice B14 m14 d14] 57))) (g := w14.heap.size) rfl
                have c0 := Z15.c3.1
                have c1' := Z15.c3.2.1
                have c2' := Z15.c3.2.2.1
                have hB15 := hB14.trans (al15.mono (by omega))
                have hw15 := below_trans hw14 al15
                have HVY := Lib.hid ((HCVd.out.2.1.later hw15))
                have HCV15 := Lib.hid (HCVd.out.later hw15)
                have hz15 : (w14.alloc (.cells #[.bool xk.neg, .slice A14 n14 c14, .slice B14 m14 d14] 57)).heap.size = w14.heap.size + 1 := by simp
                obtain ⟨va, vb, ev, ra, rb, hap⟩ := hp14
                injection ev with ev
                injection ev with ev
                injection ev with ev0 ev
                injection ev with ev1 ev
                injection ev with ev2 _
                subst ev1 ev2
                clear ev0
                have ia := (ra.io.later al15).wide (lo' := wd.heap.size) (hi' := w14.heap.size + 1) (Nat.le_refl _) (by omega)
                have ib := (rb.io.later al15).wide (lo' := wd.heap.size) (hi' := w14.heap.size + 1) (Nat.le_refl _) (by omega)
                have bx15 := bx14.later al15
                have S715 := S714.later al15
                clear Z15 al15
                refine hK.out _ _ ⟨hB15, bx15⟩ (fun h2 => ?_)
                clear hK K hHeld
                have hHeld := h2
                clear h2
                try simp only [Act.put, List.setIfInBounds_toArray, List.set_cons_zero, List.set_cons_succ]
                refine qR (i := 1) (by kernel_rfl) rfl (fun K hK => ?_)
                simp only [List.getElem_toArray, List.getElem_cons_succ, List.getElem_cons_zero]
                have u1 := S715.p2.2.1
                go_simp
                refine hK.out _ _ ⟨hB15, bx15⟩ (fun h2 => ?_)
                clear hK K hHeld
                have hHeld := h2
                clear h2
                try simp only [Act.put, List.setIfInBounds_toArray, List.set_cons_zero, List.set_cons_succ]
                refine qR (i := 5) (by kernel_rfl) rfl (fun K hK => ?_)
                simp only [List.getElem_toArray, List.getElem_cons_succ, List.getElem_cons_zero]
                rw [if_pos (by rfl)]
                try simp only [List.setIfInBounds_toArray, List.set_cons_zero, List.set_cons_succ]
                refine wpAppRat _ _ (by rfl) (by rfl) HVY.out (by rw [HNV.out]; omega) (by omega) xk _ _ w14.heap.size (by rfl) c0 c1' c2' ia ib hap (by omega) (by omega) ?_
                intro v16 w16 hv16 hf16
                have hz16 := hf16.size
                have hB16 := hB15.trans (hf16.to_below (B := g7) (by omega) (fun b hb hs => by have := (HOV.out b hs).1; omega))
                have hB16w := hbbd.trans hB16
                have bx16 := bx15.frame hf16 (by omega) (fun e => by have := HGW.out _ e; omega)
                have S716 := S715.frame hf16 (fun e => by have := (HOV.out _ e).1; omega)
                obtain ⟨A16, c16, e16, _⟩ := hv16.form
                rw [show (spV xs k ++ [xk]).length = nv + 1 by rw [List.length_append, HNV.out]; rfl] at e16
                subst e16
                have hz16' : w14.heap.size + 1 ≤ w16.heap.size := by omega
                have hv16w := hv16
                refine hK.out _ _ ⟨hB16, bx16⟩ (fun h2 => ?_)
                clear hK K hHeld
                have hHeld := h2
                clear h2
                try simp only [Act.put, List.setIfInBounds_toArray, List.set_cons_zero, List.set_cons_succ]
                refine qL (i := 6) (v := ?_) rfl (by kernel_rfl) (fun _ _ _ h => h) (by assumption) (by rfl) (fun W _ => ?_) ?_
                rotate_left
                · go_simp
                  try with_reducible rfl
                try simp only [Act.put, List.setIfInBounds_toArray]
                refine qR (i := 7) (by kernel_rfl) rfl (fun K hK => ?_)
                simp only [List.getElem_toArray, List.getElem_cons_succ, List.getElem_cons_zero]
                have t1 := S716.p2.2.1
                have y1 := S716.p2.2.2.2
                go_simp
                refine hK.out _ _ ⟨hB16.setCell (p := ⟨g7, 1, none⟩) (Nat.le_refl _) _, bx16.far1 (by omega)⟩ (fun h2 => ?_)
                clear hK K hHeld
                have hHeld := h2
                clear h2
                try simp only [Act.put, List.setIfInBounds_toArray, List.set_cons_zero, List.set_cons_succ]
                refine wpAnyH_done (by kernel_rfl) ?_ _
                clear hHeld
                have hcvf := HCV15.out.val (k := wd.heap.size) (fun b hb => (HOC.out b hb).2) (fun b hb => (ia.2 b hb).1) (fun b hb => (ib.2 b hb).1) hv16w hz16' hf16
                rw [← HC1'.out, ← HV1'.out] at hcvf
                have hbr := hB16w.setCell (p := ⟨g7, 1, none⟩) (Nat.le_refl _) (.slice A16 (nv + 1) c16)
                have S7f := S716.set2b (.slice A16 (nv + 1) c16)
                have hcvf2 := hcvf.frame (frame1 (g := g7) (o := 1) (.slice A16 (nv + 1) c16)) (fun b h1 _ e => by omega)
                clear hcvf hv16w hf16 ia ib hap HCV15 S716 bx16
                go_wp2
                go_roundw
                case rel => exact ⟨k + 1, _, _, _, by omega, rfl, hbr, by simp; omega, S7f, hcvf2, HOKK⟩
                case measure => simp [intOf]; omega
set_option maxRecDepth 100000 in
set_option maxHeartbeats 6400000 in
theorem sSparse (rows : List (List RatD)) (n c : Nat) (A : Option Addr) (w : World) (hn : rows.length = n) (ha : FI w A rows) (hf : FFew rows) (hres : ∀ i, i < rows.length → AllRes (rows.getD i [])) :
    Calls Tryz.prog 85 #[.slice A n c] w (MPost w (spR rows) (.bool (spOk rows))) := by
  have hn1 : n ≤ 1048576 := hn ▸ hf.1
  have HF := Lib.hid hf.2
  have HRES := Lib.hid hres
  have HA := Lib.hid ha
  have HN := Lib.hid hn
  have R0 := Slots.new (below_step (Below.refl _ ((w.alloc (.cells #[.slice none 0 0] 52)).alloc (.cells #[.slice none 0 0] 52)))) (g := w.heap.size) rfl
  have S4 := Slots.new (Below.refl _ ((w.alloc (.cells #[.slice none 0 0] 52)).alloc (.cells #[.slice none 0 0] 52))) (g := w.heap.size + 1) (by simp)
  have hb0 := below_alloc2 w (.cells #[.slice none 0 0] 52) (.cells #[.slice none 0 0] 52)
  have hz0 : w.heap.size + 2 ≤ ((w.alloc (.cells #[.slice none 0 0] 52)).alloc (.cells #[.slice none 0 0] 52)).heap.size := by simp
  clear hf hres ha hn
  go_enter Tryz.func85, Tryz.ntmps85
  go_wp2_with fail
  generalize (w.alloc (.cells #[.slice none 0 0] 52)).alloc (.cells #[.slice none 0 0] 52) = w2 at *
  go_loopw [13] (fun z wr => ∃ (i : Nat) (vr : Value) (qs : List RowP), i ≤ n ∧ z = .int .i64 i ∧ Below (w.heap.size + 1) w2 wr ∧ w2.heap.size ≤ wr.heap.size ∧ Slots wr (w.heap.size + 1) [vr] ∧ MW wr (w.heap.size + 2) wr.heap.size vr qs (spM (rows.take i)) ∧ Hid (∀ q, q < i → vok (rows.getD q []) = true)) (fun z _ => n - (intOf z).toNat)
  case atStart => exact ⟨0, _, [], Nat.zero_le _, rfl, Below.refl _ _, Nat.le_refl _, S4, MW.nil _ _ _ (Nat.le_refl _), Lib.hid (fun q hq => by omega)⟩
  case round =>
    clear S4
    obtain ⟨i, vr, qs, hi, rfl, hb, hzb, S4, hmw, HOK⟩ := hrel
    have hbw := hb0.trans (hb.mono (by omega))
    have R1 := R0.below hb (show w.heap.size < w.heap.size + 1 by omega)
    by_cases hin : i = n
    · have hlf : ¬ (i < n) := by omega
      have HE := Lib.hid (spOk_yes (rows := rows) (fun q hq => HOK.out q (by rw [HN.out] at hq; omega)))
      obtain ⟨Ar, cr, rfl⟩ := hmw.form
      have hms := hmw.ms
      have hrl : (spM (rows.take i)).length = n := by rw [hin, ← HN.out]; simp [spM]
      have hre : spM (rows.take i) = spM rows := by rw [hin, ← HN.out, List.take_length]
      rw [hrl] at S4 hms
      rw [hre] at hms
      obtain ⟨q0, z0⟩ := R1.c1
      obtain ⟨s0, _⟩ := S4.c1
      have hfin : MPost w (spR rows) (.bool (spOk rows)) (.returned (.tuple #[.agg #[.slice Ar n cr], .bool true])) (wr.setCell ⟨w.heap.size, 0, none⟩ (.slice Ar n cr)) := by
        unfold spR
        rw [HE.out]
        simp only [if_true]
        refine ⟨_, rfl, ⟨_, qs, rfl, (hms.frame (frame1 _) (fun b h1 _ e => by omega)).wide (by omega) (by simp), hmw.2.1⟩, ?_⟩
        exact hbw.setCell (p := ⟨w.heap.size, 0, none⟩) (Nat.le_refl _) _
      replace hfin := Lib.hid hfin
      clear hmw hms hrl hre HOK R1 S4 hb hbw
      go_wp2
      exact bodyPost_ret (v := .tuple #[.agg #[.slice Ar n cr], .bool true]) (by simp [results, Tryz.results85, go_sem, q0]) rfl hfin.out
    · have hltn : (i : Int) < (n : Int) := by omega
      have hil : i < rows.length := by rw [HN.out]; omega
      obtain ⟨bF, oF, C, eC, rfl, hbF, l0, hvi⟩ := HA.out.row i hil
      replace l0 := cell_later hbF l0 hbw
      have HFI := Lib.hid (HF.out i hil)
      have HRI := Lib.hid (HRES.out i hil)
      have HSN := Lib.hid (spM_snoc hil)
      have HNO := Lib.hid (fun h => spOk_no hil h)
      have HOKI := Lib.hid (fun (h : vok (rows.getD i []) = true) q (hq : q < i + 1) => (show vok (rows.getD q []) = true by
        by_cases e : q = i
        · rw [e]; exact h
        · exact HOK.out q (by omega)))
      obtain ⟨xs, hxs⟩ : ∃ xs, rows.getD i [] = xs := ⟨_, rfl⟩
      rw [hxs] at l0 hvi HFI HRI HSN HNO HOKI
      obtain ⟨m, hm⟩ : ∃ m, xs.length = m := ⟨_, rfl⟩
      rw [hm] at l0
      have HM := Lib.hid hm
      have HVI := Lib.hid hvi
      have hm1 : m ≤ 1048576 := hm ▸ HFI.out.1
      have HMW := Lib.hid hmw
      obtain ⟨Ar, cr, rfl⟩ := hmw.form
      have hrl : (spM (rows.take i)).length = i := by simp [spM]; omega
      rw [hrl] at S4 HMW
      have HRL := Lib.hid hrl
      have al := below_alloc1 wr (.cells #[.slice none 0 0, .slice none 0 0] 130)
      have S7 := Slots.new (Below.refl _ (wr.alloc (.cells #[.slice none 0 0, .slice none 0 0] 130))) (g := wr.heap.size) rfl
      have S4' := S4.later al
      have R2 := R1.later al
      have HMW' := Lib.hid (HMW.out.belowLo al)
      have hbw7 := below_trans hbw al
      have hb7 := hb.trans (al.mono (by omega))
      have hz7 : (wr.alloc (.cells #[.slice none 0 0, .slice none 0 0] 130)).heap.size = wr.heap.size + 1 := by simp
      clear hxs hm hvi hmw hrl HOK S4 R1 HMW al hil
      go_wp2_with fail
      clear l0
      generalize wr.alloc (.cells #[.slice none 0 0, .slice none 0 0] 130) = wq at *
      clear hbw hb
      generalize wr.heap.size = g7 at *
      go_loopw [20] (fun z wp => ∃ (k : Nat) (vc vv : Value) (ps : List (Value × Value)), k ≤ m ∧ z = .int .i64 k ∧ Below g7 wq wp ∧ wq.heap.size ≤ wp.heap.size ∧ Slots wp g7 [vc, vv] ∧ CV wp wq.heap.size vc vv ps (spC xs k) (spV xs k) ∧ Hid (∀ q, q < k → FE.ratOk (xs.getD q zR) = true)) (fun z _ => m - (intOf z).toNat)
      case atStart => exact ⟨0, _, _, [], Nat.zero_le _, rfl, Below.refl _ _, Nat.le_refl _, S7, CV.nil _ _, Lib.hid (fun q hq => by omega)⟩
      case round =>
        clear S7
        obtain ⟨k, vc, vv, ps, hk, rfl, hbk, hzk, S7, hcv, HOKQ⟩ := hrel
        obtain ⟨Ac, cc, Av, cv, rfl, rfl⟩ := hcv.forms
        have hlc := spC_le xs k
        have hlv := spV_le xs k
        by_cases hkm : k = m
        · have hlf : ¬ (k < m) := by omega
          have HVOK := Lib.hid (vok_of (xs := xs) (fun q hq => HOKQ.out q (by rw [HM.out] at hq; omega)))
          have hsr : (⟨spC xs k, spV xs k⟩ : RowD) = spRow xs := by unfold spRow; rw [HM.out, hkm]
          have S4k := S4'.below hbk (show w.heap.size + 1 < g7 by omega)
          obtain ⟨s0, _⟩ := S4k.c1
          obtain ⟨t0, t1, _, _⟩ := S7.p2
          have HCV := Lib.hid (show CV wr wq.heap.size (.slice Ac (spC xs k).length cc) (.slice Av (spV xs k).length cv) ps (⟨spC xs k, spV xs k⟩ : RowD).cols (⟨spC xs k, spV xs k⟩ : RowD).vals from hcv)
          rw [hsr] at HCV
          generalize (spC xs k).length = nc at *
          generalize (spV xs k).length = nv at *
          have al8 := below_alloc1 wr (.cells #[.slice Ac nc cc, .slice Av nv cv] 130)
          have hz8 : (wr.alloc (.cells #[.slice Ac nc cc, .slice Av nv cv] 130)).heap.size = wr.heap.size + 1 := by simp
          have HMW8 := Lib.hid ((HMW'.out.belowLo hbk).belowLo (al8.mono (by omega)))
          have HCV8 := Lib.hid (HCV.out.later al8)
          have S48 := S4k.later al8
          have HO8 := Lib.hid (show (wr.alloc (.cells #[.slice Ac nc cc, .slice Av nv cv] 130)).ownsRow (w.heap.size + 2) 130 2 (.slice Ar i cr) i (cellsM qs) from by have := HMW8.out.2.2.1; rwa [HRL.out] at this)
          have hb8 := hb7.trans ((hbk.trans (al8.mono (by omega))).mono (by omega))
          have HC8 := Lib.hid (cell_new2s wr (.slice Ac nc cc) (.slice Av nv cv) 130)
          have HN8 := Lib.hid (show ∀ u ∈ ([.slice Ac nc cc, .slice Av nv cv] : List Value), u.oneCell' = true from fun u hu => by
            simp only [List.mem_cons, List.not_mem_nil, or_false] at hu
            rcases hu with h | h <;> rw [h] <;> rfl)
          clear hcv hsr HCV al8 S4k hlc hlv
          go_wp2_with (at_builtin; refine appOwn rfl _ _ 50 130 rfl Tryz.underlying50 (.agg #[.slice none 0 0, .slice none 0 0]) 2 48 Tryz.rowInfo rfl (by decide) (by decide) rfl HO8.out (by omega) (by omega) ⟨wr.heap.size, 0, none⟩ rfl [.slice Ac nc cc, .slice Av nv cv] rfl HC8.out HN8.out ?_; intro v9 w9 ho9 hf9 hob9; obtain ⟨A9, c9, e9, _⟩ := own_slice ho9; subst e9; have S49 := S48.frame hf9 (fun e => by have := (own_lt HO8.out e).1; omega); obtain ⟨s9, z9⟩ := S49.c1)
          have HMW9 := Lib.hid (HMW8.out.snoc HCV8.out (by omega) (by omega) (by rw [HRL.out]; exact ho9) hf9)
          rw [← HSN.out] at HMW9
          have hz9 := hf9.size
          have hb9 := hb8.trans (hf9.to_below (B := w.heap.size + 1) (by omega) (fun b hb hs => by have := (own_lt HO8.out hs).1; omega))
          have hbr := hb9.setCell (p := ⟨w.heap.size + 1, 0, none⟩) (Nat.le_refl _) (.slice A9 (i + 1) c9)
          have S4n := S49.set 0 (by show 0 < 1; decide) (.slice A9 (i + 1) c9)
          clear ho9 hf9 hob9 HC8 HN8 S48 s0 t0 t1
          go_wp2
          go_roundw
          case rel => exact ⟨i + 1, .slice A9 (i + 1) c9, _, by omega, rfl, hbr, by simp; omega, S4n, by have := HMW9.out.far (frame1 (g := w.heap.size + 1) (o := 0) (.slice A9 (i + 1) c9)) (by omega); simpa using this, Lib.hid (HOKI.out HVOK.out)⟩
          case measure => simp [intOf]; omega
        · have hltk : (k : Int) < (m : Int) := by omega
          have hkx : k < xs.length := by rw [HM.out]; omega
          have hwwk := hbw7.trans (hbk.mono (by omega))
          obtain ⟨b5, o5, rfl, hb5, hat⟩ := HVI.out.cells k hkx
          have fr := HFI.out.2 k hkx
          have hres := HRI.out k hkx
          have HC1 := Lib.hid (fun h => spC_hit (xs := xs) (k := k) h)
          have HC0 := Lib.hid (fun h => spC_miss (xs := xs) (k := k) h)
          have HV1 := Lib.hid (fun h => spV_hit (xs := xs) (k := k) h)
          have HV0 := Lib.hid (fun h => spV_miss (xs := xs) (k := k) h)
          have HOKN := Lib.hid (fun (h : FE.ratOk (xs.getD k zR) = true) q (hq : q < k + 1) => (show FE.ratOk (xs.getD q zR) = true by
            by_cases e : q = k
            · rw [e]; exact h
            · exact HOKQ.out q (by omega)))
          have HGV := Lib.hid (fun b (h : (Value.slice Ac (spC xs k).length cc).ownBlock = some b) => (own_lt hcv.1 h).2)
          have HGW := Lib.hid (fun b (h : (Value.slice Av (spV xs k).length cv).ownBlock = some b) => (own_lt hcv.2.1.2.1 h).2)
          have HBAD := Lib.hid (fun (h : FE.ratOk (xs.getD k zR) = false) => HNO.out (vok_not hkx h))
          obtain ⟨xk, hxk⟩ : ∃ y, xs.getD k zR = y := ⟨_, rfl⟩
          rw [hxk] at hat fr hres HC1 HC0 HV1 HV0 HOKN HBAD
          obtain ⟨A5, c5, B5, d5, k0, k1, k2, hl5, q1, q2⟩ := hat
          have HVW := Lib.hid (show RatV w (.agg #[.bool xk.neg, .slice A5 xk.mag.length c5, .slice B5 xk.den.length d5]) xk from ⟨_, _, _, _, rfl, hl5, q1, q2⟩)
          replace k0 := cell_later hb5 k0 hwwk
          replace k1 := cell_later hb5 k1 hwwk
          replace k2 := cell_later hb5 k2 hwwk
          have al := below_alloc1 wr (.cells #[.bool xk.neg, .slice A5 xk.mag.length c5, .slice B5 xk.den.length d5] 57)
          have S9 := Slots.new (Below.refl _ (wr.alloc (.cells #[.bool xk.neg, .slice A5 xk.mag.length c5, .slice B5 xk.den.length d5] 57))) (g := wr.heap.size) rfl
          have HV5 := Lib.hid (HVW.out.later (below_trans hwwk al))
          have HOKC := Lib.hid (fun W v (hv : RatV W v xk) => sRatOk xk v W hv fr.1 fr.2)
          have HSGC := Lib.hid (fun W v (hv : RatV W v xk) => sRatSign xk v W hv fr.1 fr.2)
          have HCPC := Lib.hid (fun W v (hv : RatV W v xk) => sCopy xk v W hv fr.1 fr.2)
          have S7b := S7.later al
          have HCVb := Lib.hid (hcv.later al)
          have hbb := hbk.trans (al.mono (by omega))
          have hbwb := below_trans hwwk al
          have hzb9 : (wr.alloc (.cells #[.bool xk.neg, .slice A5 xk.mag.length c5, .slice B5 xk.den.length d5] 57)).heap.size = wr.heap.size + 1 := by simp
          obtain ⟨x0, x1, x2, _, _, _⟩ := S9.c3
          clear hxk hl5 q1 q2 S7 hcv al hkx HOKQ hwwk hbk
          go_wp2_with fail
          clear k0 k1 k2
          generalize wr.alloc (.cells #[.bool xk.neg, .slice A5 xk.mag.length c5, .slice B5 xk.den.length d5] 57) = wb at *
          generalize wr.heap.size = g9 at *
          refine (HOKC.out _ _ HV5.out).mono ?_
          rintro e w10 ⟨rfl, hb10⟩
          replace S7b := S7b.later hb10
          replace S9 := S9.later hb10
          have hv10 := Lib.hid (HV5.out.later hb10)
          have HCV10 := Lib.hid (HCVb.out.later hb10)
          have hbb10 := hbb.trans (hb10.mono (by omega))
          have hbw10 := below_trans hbwb hb10
          have hz10 := hb10.size
          clear x0 x1 x2 hbb hbwb hb10 HCVb HV5 HOKC
          cases hq : FE.ratOk xk
          · have HE := Lib.hid (HBAD.out hq)
            obtain ⟨q0, z0⟩ := (R2.below hbb10 (show w.heap.size < g7 by omega)).c1
            have hfin : MPost w (spR rows) (.bool (spOk rows)) (.returned (.tuple #[.agg #[.slice none 0 0], .bool false])) (w10.setCell ⟨w.heap.size, 0, none⟩ (.slice none 0 0)) := by
              unfold spR
              rw [HE.out]
              simp only [Bool.false_eq_true, if_false]
              exact ⟨_, rfl, MZ.nil _ _ _, hbw10.setCell (p := ⟨w.heap.size, 0, none⟩) (Nat.le_refl _) _⟩
            replace hfin := Lib.hid hfin
            clear S7b S9 hbb10 hbw10
            go_wp2
            exact bodyPost_ret (v := .tuple #[.agg #[.slice none 0 0], .bool false]) (by simp [results, Tryz.results85, go_sem, q0]) rfl hfin.out
          · have HOKK := Lib.hid (HOKN.out hq)
            have HQ := Lib.hid hq
            clear hq HBAD HOKN HNO
            obtain ⟨x0, x1, x2, _, _, _⟩ := S9.c3
            go_wp2_with fail
            refine (HSGC.out _ _ hv10.out).mono ?_
            rintro e w11 ⟨rfl, hb11⟩
            replace S7b := S7b.later hb11
            replace S9 := S9.later hb11
            have hv11 := Lib.hid (hv10.out.later hb11)
            have HCV11 := Lib.hid (HCV10.out.later hb11)
            have hbb11 := hbb10.trans (hb11.mono (by omega))
            have hbw11 := below_trans hbw10 hb11
            have hz11 := hb11.size
            clear x0 x1 x2 hbb10 hbw10 hb11 HCV10 hv10 HSGC
            rw [rsig_ok HQ.out]
            by_cases hs : rsgn xk = 0
            · rw [hs]
              have hsz : ((0 : Int) != 0) = false := rfl
              have HR0 := Lib.hid (show CV w11 wq.heap.size (.slice Ac (spC xs k).length cc) (.slice Av (spV xs k).length cv) ps (spC xs (k + 1)) (spV xs (k + 1)) from by rw [HC0.out hs, HV0.out hs]; exact HCV11.out)
              clear hs
              go_wp2
              go_roundw
              case rel => exact ⟨k + 1, _, _, ps, by omega, rfl, hbb11, by omega, S7b, HR0.out, HOKK⟩
              case measure => simp [intOf]; omega
            · obtain ⟨sg, hsg⟩ : ∃ s, rsgn xk = s := ⟨_, rfl⟩
              rw [hsg]
              rw [hsg] at hs
              have hs1 : (sg != 0) = true := by simpa using hs
              have HC1' := Lib.hid (HC1.out (by rw [hsg]; exact hs))
              have HV1' := Lib.hid (HV1.out (by rw [hsg]; exact hs))
              obtain ⟨nc, hnc⟩ : ∃ y, (spC xs k).length = y := ⟨_, rfl⟩
              obtain ⟨nv, hnv⟩ : ∃ y, (spV xs k).length = y := ⟨_, rfl⟩
              rw [hnc] at HCV11 S7b hlc hlv HGV
              rw [hnv] at HCV11 S7b hlv HGW
              obtain ⟨t0, t1, y0, y1⟩ := S7b.p2
              have al12 := below_alloc1 w11 (.cells #[.int .i64 k] 3)
              have hz12 : (w11.alloc (.cells #[.int .i64 k] 3)).heap.size = w11.heap.size + 1 := by simp
              have HCV12 := Lib.hid (HCV11.out.later al12)
              have S712 := S7b.later al12
              have HO12 := Lib.hid (show (w11.alloc (.cells #[.int .i64 k] 3)).ownsRow wq.heap.size 3 1 (.slice Ac nc cc) nc ((spC xs k).map (Value.int .i64)) from by have := HCV12.out.1; unfold OI at this; rwa [hnc] at this)
              have HC12 := Lib.hid (cell_new1s w11 (.int .i64 k) 3)
              have HN12 := Lib.hid (show ∀ u ∈ ([.int .i64 k] : List Value), u.oneCell' = true from fun u hu => by simp only [List.mem_cons, List.not_mem_nil, or_false] at hu; rw [hu]; rfl)
              have hbb12 := hbb11.trans (al12.mono (by omega))
              have HNC := Lib.hid hnc
              have HNV := Lib.hid hnv
              have hlv' : nv ≤ nc := by omega
              clear hlv hsg hnc hnv HC1 HV1 HC0 HV0 HCV11 S7b
              go_wp2_with (at_builtin; refine appOwn rfl _ _ 40 3 rfl Tryz.underlying40 (.int .i64 0) 1 8 Tryz.intInfo rfl (by decide) (by decide) rfl HO12.out (by omega) (by omega) ⟨w11.heap.size, 0, none⟩ rfl [.int .i64 k] rfl HC12.out HN12.out ?_; intro v13 w13 ho13 hf13 hob13; obtain ⟨A13, c13, e13, _⟩ := own_slice ho13; subst e13; have S713 := S712.frame hf13 (fun e => by have := (own_lt HO12.out e).1; omega); obtain ⟨t0, t1, y0, y1⟩ := S713.p2)
              have HCV13 := Lib.hid (HCV12.out.col (by rw [HNC.out]; exact ho13) hf13 hob13)
              have hz13 := hf13.size
              have hbb13 := hbb12.trans (hf13.to_below (B := g7) (by omega) (fun b hb hs => by have := (own_lt HO12.out hs).1; omega))
              have S9d := ((S9.later al12).frame hf13 (fun e => by have := (own_lt HO12.out e).1; have := HGV.out _ e; omega)).frame (frame1 (g := g7) (o := 0) (.slice A13 (nc + 1) c13)) (fun e => by omega)
              have S7d := S713.set2 (.slice A13 (nc + 1) c13)
              have HCVd := Lib.hid (HCV13.out.frame (frame1 (g := g7) (o := 0) (.slice A13 (nc + 1) c13)) (fun b h1 _ e => by omega))
              have hbbd := hbb13.setCell (p := ⟨g7, 0, none⟩) (Nat.le_refl _) (.slice A13 (nc + 1) c13)
              have hzd : (w13.setCell ⟨g7, 0, none⟩ (.slice A13 (nc + 1) c13)).heap.size = w13.heap.size := by simp
              clear S713 S9 al12 hbb13 hbb12 t0 t1 y0 y1 hf13 hob13 ho13 HC12 HN12 HCV12 HCV13 S712 hs1 hs
              generalize w13.setCell ⟨g7, 0, none⟩ (.slice A13 (nc + 1) c13) = wd at *
              have hbwd := hbw7.trans (hbbd.mono (by omega))
              have r9 := S9d.r3
              have hbwdr : Below w.heap.size w wd.drew := ⟨hbwd.os, hbwd.tape, hbwd.output, hbwd.size, hbwd.block⟩
              have hzdr : wd.heap.size ≤ wd.drew.heap.size := Nat.le_refl _
              have HOV := Lib.hid (fun b h => (own_lt HCVd.out.2.1.2.1 (b := b) h))
              have HOC := Lib.hid (fun b h => (own_lt HCVd.out.1 (b := b) h))
              clear S9d
              refine wp_region_held_drew (S := fun W => Below g7 wd W ∧ R3 W g9 0 (.bool xk.neg) (.slice A5 xk.mag.length c5) (.slice B5 xk.den.length d5)) (by kernel_rfl) ⟨⟨rfl, rfl, rfl, Nat.le_refl _, fun _ _ => rfl⟩, r9⟩ (fun hHeld => ?_)
              refine qL (i := 0) (v := ?_) rfl (by kernel_rfl) (fun _ _ _ h => h) (by assumption) (by rfl) (fun W _ => ?_) ?_
              rotate_left
              · go_simp
                try with_reducible rfl
              try simp only [Act.put, List.setIfInBounds_toArray]
              refine qL (i := 2) (v := ?_) rfl (by kernel_rfl) (fun _ _ _ h => h) (by assumption) (by rfl) (fun W hSw => ?_) ?_
              rotate_left
              · have bx := (And.right hSw)
                have fbx0 := bx.1
                have fbx1 := bx.2.1
                have fbx2 := bx.2.2
                go_simp
                try with_reducible rfl
              try simp only [Act.put]
              refine qR2 (i := 1) (j := 3) (by kernel_rfl) rfl rfl (fun K hK => ?_) (fun K hK => ?_)
              ·simp only [List.getElem_toArray, List.getElem_cons_succ, List.getElem_cons_zero]
               have u1 := S7d.p2.2.1
               go_simp
               refine hK.out _ _ (hHeld) (fun h2 => ?_)
               clear hK K hHeld
               have hHeld := h2
               clear h2
               try simp only [Act.put, List.setIfInBounds_toArray, List.set_cons_zero, List.set_cons_succ]
               refine qR (i := 3) (by kernel_rfl) rfl (fun K hK => ?_)
               simp only [List.getElem_toArray, List.getElem_cons_succ, List.getElem_cons_zero]
               go_simp
               (go_at_call 154; (with_reducible refine (HCPC.out _ _ (HVW.out.later (by first | exact hbwdr | exact hbwd))).mono ?_); rintro e14 w14 ⟨v14, rfl, hp14, hb14⟩)
               try (go_wp2_with fail)
               have hw14 : Below wd.heap.size wd w14 := ⟨hb14.os, hb14.tape, hb14.output, hb14.size, hb14.block⟩
               have hz14 := hw14.size
               have hB14 := hw14.mono (show g7 ≤ wd.heap.size by omega)
               have S714 := S7d.later hw14
               have bx14 := r9.later hw14
               obtain ⟨A14, n14, c14, B14, m14, d14, rfl⟩ := hp14.shape
               refine hK.out _ _ ⟨hB14, bx14⟩ (fun h2 => ?_)
               clear hK K hHeld
               have hHeld := h2
               clear h2
               try simp only [Act.put, List.setIfInBounds_toArray, List.set_cons_zero, List.set_cons_succ]
               refine qR (i := 4) (by kernel_rfl) rfl (fun K hK => ?_)
               simp only [List.getElem_toArray, List.getElem_cons_succ, List.getElem_cons_zero]
               go_simp
               have al15 := below_alloc1 w14 (.cells #[.bool xk.neg, .slice A14 n14 c14, .slice B14 m14 d14] 57)
               have Z15 := Slots.new (Below.refl _ (w14.alloc (.cells #[.bool xk.neg, .slice A14 n14 c14, .slice B14 m14 d14] 57))) (g := w14.heap.size) rfl
               have c0 := Z15.c3.1
               have c1' := Z15.c3.2.1
               have c2' := Z15.c3.2.2.1
               have hB15 := hB14.trans (al15.mono (by omega))
               have hw15 := below_trans hw14 al15
               have HVY := Lib.hid ((HCVd.out.2.1.later hw15))
               have HCV15 := Lib.hid (HCVd.out.later hw15)
               have hz15 : (w14.alloc (.cells #[.bool xk.neg, .slice A14 n14 c14, .slice B14 m14 d14] 57)).heap.size = w14.heap.size + 1 := by simp
               obtain ⟨va, vb, ev, ra, rb, hap⟩ := hp14
               injection ev with ev
               injection ev with ev
               injection ev with ev0 ev
               injection ev with ev1 ev
               injection ev with ev2 _
               subst ev1 ev2
               clear ev0
               have ia := (ra.io.later al15).wide (lo' := wd.heap.size) (hi' := w14.heap.size + 1) (Nat.le_refl _) (by omega)
               have ib := (rb.io.later al15).wide (lo' := wd.heap.size) (hi' := w14.heap.size + 1) (Nat.le_refl _) (by omega)
               have bx15 := bx14.later al15
               have S715 := S714.later al15
               clear Z15 al15
               refine hK.out _ _ ⟨hB15, bx15⟩ (fun h2 => ?_)
               clear hK K hHeld
               have hHeld := h2
               clear h2
               try simp only [Act.put, List.setIfInBounds_toArray, List.set_cons_zero, List.set_cons_succ]
               refine qR (i := 5) (by kernel_rfl) rfl (fun K hK => ?_)
               simp only [List.getElem_toArray, List.getElem_cons_succ, List.getElem_cons_zero]
               rw [if_pos (by rfl)]
               try simp only [List.setIfInBounds_toArray, List.set_cons_zero, List.set_cons_succ]
               refine wpAppRat _ _ (by rfl) (by rfl) HVY.out (by rw [HNV.out]; omega) (by omega) xk _ _ w14.heap.size (by rfl) c0 c1' c2' ia ib hap (by omega) (by omega) ?_
               intro v16 w16 hv16 hf16
               have hz16 := hf16.size
               have hB16 := hB15.trans (hf16.to_below (B := g7) (by omega) (fun b hb hs => by have := (HOV.out b hs).1; omega))
               have hB16w := hbbd.trans hB16
               have bx16 := bx15.frame hf16 (by omega) (fun e => by have := HGW.out _ e; omega)
               have S716 := S715.frame hf16 (fun e => by have := (HOV.out _ e).1; omega)
               obtain ⟨A16, c16, e16, _⟩ := hv16.form
               rw [show (spV xs k ++ [xk]).length = nv + 1 by rw [List.length_append, HNV.out]; rfl] at e16
               subst e16
               have hz16' : w14.heap.size + 1 ≤ w16.heap.size := by omega
               have hv16w := hv16
               refine hK.out _ _ ⟨hB16, bx16⟩ (fun h2 => ?_)
               clear hK K hHeld
               have hHeld := h2
               clear h2
               try simp only [Act.put, List.setIfInBounds_toArray, List.set_cons_zero, List.set_cons_succ]
               refine qL (i := 6) (v := ?_) rfl (by kernel_rfl) (fun _ _ _ h => h) (by assumption) (by rfl) (fun W _ => ?_) ?_
               rotate_left
               · go_simp
                 try with_reducible rfl
               try simp only [Act.put, List.setIfInBounds_toArray]
               refine qR (i := 7) (by kernel_rfl) rfl (fun K hK => ?_)
               simp only [List.getElem_toArray, List.getElem_cons_succ, List.getElem_cons_zero]
               have t1 := S716.p2.2.1
               have y1 := S716.p2.2.2.2
               go_simp
               refine hK.out _ _ ⟨hB16.setCell (p := ⟨g7, 1, none⟩) (Nat.le_refl _) _, bx16.far1 (by omega)⟩ (fun h2 => ?_)
               clear hK K hHeld
               have hHeld := h2
               clear h2
               try simp only [Act.put, List.setIfInBounds_toArray, List.set_cons_zero, List.set_cons_succ]
               refine wpAnyH_done (by kernel_rfl) ?_ _
               clear hHeld
               have hcvf := HCV15.out.val (k := wd.heap.size) (fun b hb => (HOC.out b hb).2) (fun b hb => (ia.2 b hb).1) (fun b hb => (ib.2 b hb).1) hv16w hz16' hf16
               rw [← HC1'.out, ← HV1'.out] at hcvf
               have hbr := hB16w.setCell (p := ⟨g7, 1, none⟩) (Nat.le_refl _) (.slice A16 (nv + 1) c16)
               have S7f := S716.set2b (.slice A16 (nv + 1) c16)
               have hcvf2 := hcvf.frame (frame1 (g := g7) (o := 1) (.slice A16 (nv + 1) c16)) (fun b h1 _ e => by omega)
               clear hcvf hv16w hf16 ia ib hap HCV15 S716 bx16
               go_wp2
               go_roundw
               case rel => exact ⟨k + 1, _, _, _, by omega, rfl, hbr, by simp; omega, S7f, hcvf2, HOKK⟩
               case measure => simp [intOf]; omega
              ·simp only [List.getElem_toArray, List.getElem_cons_succ, List.getElem_cons_zero]
               go_simp
               (go_at_call 154; (with_reducible refine (HCPC.out _ _ (HVW.out.later (by first | exact hbwdr | exact hbwd))).mono ?_); rintro e14 w14 ⟨v14, rfl, hp14, hb14⟩)
               try (go_wp2_with fail)
               have hw14 : Below wd.heap.size wd w14 := ⟨hb14.os, hb14.tape, hb14.output, hb14.size, hb14.block⟩
               have hz14 := hw14.size
               have hB14 := hw14.mono (show g7 ≤ wd.heap.size by omega)
               have S714 := S7d.later hw14
               have bx14 := r9.later hw14
               obtain ⟨A14, n14, c14, B14, m14, d14, rfl⟩ := hp14.shape
               refine hK.out _ _ ⟨hB14, bx14⟩ (fun h2 => ?_)
               clear hK K hHeld
               have hHeld := h2
               clear h2
               try simp only [Act.put, List.setIfInBounds_toArray, List.set_cons_zero, List.set_cons_succ]
               refine qR2 (i := 1) (j := 4) (by kernel_rfl) rfl rfl (fun K hK => ?_) (fun K hK => ?_)
               ·simp only [List.getElem_toArray, List.getElem_cons_succ, List.getElem_cons_zero]
                have u1 := S714.p2.2.1
                go_simp
                refine hK.out _ _ ⟨hB14, bx14⟩ (fun h2 => ?_)
                clear hK K hHeld
                have hHeld := h2
                clear h2
                try simp only [Act.put, List.setIfInBounds_toArray, List.set_cons_zero, List.set_cons_succ]
                refine qR (i := 4) (by kernel_rfl) rfl (fun K hK => ?_)
                simp only [List.getElem_toArray, List.getElem_cons_succ, List.getElem_cons_zero]
                go_simp
                have al15 := below_alloc1 w14 (.cells #[.bool xk.neg, .slice A14 n14 c14, .slice B14 m14 d14] 57)
                have Z15 := Slots.new (Below.refl _ (w14.alloc (.cells #[.bool xk.neg, .slice A14 n14 c14, .slice B14 m14 d14] 57))) (g := w14.heap.size) rfl
                have c0 := Z15.c3.1
                have c1' := Z15.c3.2.1
                have c2' := Z15.c3.2.2.1
                have hB15 := hB14.trans (al15.mono (by omega))
                have hw15 := below_trans hw14 al15
                have HVY := Lib.hid ((HCVd.out.2.1.later hw15))
                have HCV15 := Lib.hid (HCVd.out.later hw15)
                have hz15 : (w14.alloc (.cells #[.bool xk.neg, .slice A14 n14 c14, .slice B14 m14 d14] 57)).heap.size = w14.heap.size + 1 := by simp
                obtain ⟨va, vb, ev, ra, rb, hap⟩ := hp14
                injection ev with ev
                injection ev with ev
                injection ev with ev0 ev
                injection ev with ev1 ev
                injection ev with ev2 _
                subst ev1 ev2
                clear ev0
                have ia := (ra.io.later al15).wide (lo' := wd.heap.size) (hi' := w14.heap.size + 1) (Nat.le_refl _) (by omega)
                have ib := (rb.io.later al15).wide (lo' := wd.heap.size) (hi' := w14.heap.size + 1) (Nat.le_refl _) (by omega)
                have bx15 := bx14.later al15
                have S715 := S714.later al15
                clear Z15 al15
                refine hK.out _ _ ⟨hB15, bx15⟩ (fun h2 => ?_)
                clear hK K hHeld
                have hHeld := h2
                clear h2
                try simp only [Act.put, List.setIfInBounds_toArray, List.set_cons_zero, List.set_cons_succ]
                refine qR (i := 5) (by kernel_rfl) rfl (fun K hK => ?_)
                simp only [List.getElem_toArray, List.getElem_cons_succ, List.getElem_cons_zero]
                rw [if_pos (by rfl)]
                try simp only [List.setIfInBounds_toArray, List.set_cons_zero, List.set_cons_succ]
                refine wpAppRat _ _ (by rfl) (by rfl) HVY.out (by rw [HNV.out]; omega) (by omega) xk _ _ w14.heap.size (by rfl) c0 c1' c2' ia ib hap (by omega) (by omega) ?_
                intro v16 w16 hv16 hf16
                have hz16 := hf16.size
                have hB16 := hB15.trans (hf16.to_below (B := g7) (by omega) (fun b hb hs => by have := (HOV.out b hs).1; omega))
                have hB16w := hbbd.trans hB16
                have bx16 := bx15.frame hf16 (by omega) (fun e => by have := HGW.out _ e; omega)
                have S716 := S715.frame hf16 (fun e => by have := (HOV.out _ e).1; omega)
                obtain ⟨A16, c16, e16, _⟩ := hv16.form
                rw [show (spV xs k ++ [xk]).length = nv + 1 by rw [List.length_append, HNV.out]; rfl] at e16
                subst e16
                have hz16' : w14.heap.size + 1 ≤ w16.heap.size := by omega
                have hv16w := hv16
                refine hK.out _ _ ⟨hB16, bx16⟩ (fun h2 => ?_)
                clear hK K hHeld
                have hHeld := h2
                clear h2
                try simp only [Act.put, List.setIfInBounds_toArray, List.set_cons_zero, List.set_cons_succ]
                refine qL (i := 6) (v := ?_) rfl (by kernel_rfl) (fun _ _ _ h => h) (by assumption) (by rfl) (fun W _ => ?_) ?_
                rotate_left
                · go_simp
                  try with_reducible rfl
                try simp only [Act.put, List.setIfInBounds_toArray]
                refine qR (i := 7) (by kernel_rfl) rfl (fun K hK => ?_)
                simp only [List.getElem_toArray, List.getElem_cons_succ, List.getElem_cons_zero]
                have t1 := S716.p2.2.1
                have y1 := S716.p2.2.2.2
                go_simp
                refine hK.out _ _ ⟨hB16.setCell (p := ⟨g7, 1, none⟩) (Nat.le_refl _) _, bx16.far1 (by omega)⟩ (fun h2 => ?_)
                clear hK K hHeld
                have hHeld := h2
                clear h2
                try simp only [Act.put, List.setIfInBounds_toArray, List.set_cons_zero, List.set_cons_succ]
                refine wpAnyH_done (by kernel_rfl) ?_ _
                clear hHeld
                have hcvf := HCV15.out.val (k := wd.heap.size) (fun b hb => (HOC.out b hb).2) (fun b hb => (ia.2 b hb).1) (fun b hb => (ib.2 b hb).1) hv16w hz16' hf16
                rw [← HC1'.out, ← HV1'.out] at hcvf
                have hbr := hB16w.setCell (p := ⟨g7, 1, none⟩) (Nat.le_refl _) (.slice A16 (nv + 1) c16)
                have S7f := S716.set2b (.slice A16 (nv + 1) c16)
                have hcvf2 := hcvf.frame (frame1 (g := g7) (o := 1) (.slice A16 (nv + 1) c16)) (fun b h1 _ e => by omega)
                clear hcvf hv16w hf16 ia ib hap HCV15 S716 bx16
                go_wp2
                go_roundw
                case rel => exact ⟨k + 1, _, _, _, by omega, rfl, hbr, by simp; omega, S7f, hcvf2, HOKK⟩
                case measure => simp [intOf]; omega
               ·simp only [List.getElem_toArray, List.getElem_cons_succ, List.getElem_cons_zero]
                go_simp
                have al15 := below_alloc1 w14 (.cells #[.bool xk.neg, .slice A14 n14 c14, .slice B14 m14 d14] 57)
                have Z15 := Slots.new (Below.refl _ (w14.alloc (.cells #[.bool xk.neg, .slice A14 n14 c14, .slice B14 m14 d14] 57))) (g := w14.heap.size) rfl
                have c0 := Z15.c3.1
                have c1' := Z15.c3.2.1
                have c2' := Z15.c3.2.2.1
                have hB15 := hB14.trans (al15.mono (by omega))
                have hw15 := below_trans hw14 al15
                have HVY := Lib.hid ((HCVd.out.2.1.later hw15))
                have HCV15 := Lib.hid (HCVd.out.later hw15)
                have hz15 : (w14.alloc (.cells #[.bool xk.neg, .slice A14 n14 c14, .slice B14 m14 d14] 57)).heap.size = w14.heap.size + 1 := by simp
                obtain ⟨va, vb, ev, ra, rb, hap⟩ := hp14
                injection ev with ev
                injection ev with ev
                injection ev with ev0 ev
                injection ev with ev1 ev
                injection ev with ev2 _
                subst ev1 ev2
                clear ev0
                have ia := (ra.io.later al15).wide (lo' := wd.heap.size) (hi' := w14.heap.size + 1) (Nat.le_refl _) (by omega)
                have ib := (rb.io.later al15).wide (lo' := wd.heap.size) (hi' := w14.heap.size + 1) (Nat.le_refl _) (by omega)
                have bx15 := bx14.later al15
                have S715 := S714.later al15
                clear Z15 al15
                refine hK.out _ _ ⟨hB15, bx15⟩ (fun h2 => ?_)
                clear hK K hHeld
                have hHeld := h2
                clear h2
                try simp only [Act.put, List.setIfInBounds_toArray, List.set_cons_zero, List.set_cons_succ]
                refine qR (i := 1) (by kernel_rfl) rfl (fun K hK => ?_)
                simp only [List.getElem_toArray, List.getElem_cons_succ, List.getElem_cons_zero]
                have u1 := S715.p2.2.1
                go_simp
                refine hK.out _ _ ⟨hB15, bx15⟩ (fun h2 => ?_)
                clear hK K hHeld
                have hHeld := h2
                clear h2
                try simp only [Act.put, List.setIfInBounds_toArray, List.set_cons_zero, List.set_cons_succ]
                refine qR (i := 5) (by kernel_rfl) rfl (fun K hK => ?_)
                simp only [List.getElem_toArray, List.getElem_cons_succ, List.getElem_cons_zero]
                rw [if_pos (by rfl)]
                try simp only [List.setIfInBounds_toArray, List.set_cons_zero, List.set_cons_succ]
                refine wpAppRat _ _ (by rfl) (by rfl) HVY.out (by rw [HNV.out]; omega) (by omega) xk _ _ w14.heap.size (by rfl) c0 c1' c2' ia ib hap (by omega) (by omega) ?_
                intro v16 w16 hv16 hf16
                have hz16 := hf16.size
                have hB16 := hB15.trans (hf16.to_below (B := g7) (by omega) (fun b hb hs => by have := (HOV.out b hs).1; omega))
                have hB16w := hbbd.trans hB16
                have bx16 := bx15.frame hf16 (by omega) (fun e => by have := HGW.out _ e; omega)
                have S716 := S715.frame hf16 (fun e => by have := (HOV.out _ e).1; omega)
                obtain ⟨A16, c16, e16, _⟩ := hv16.form
                rw [show (spV xs k ++ [xk]).length = nv + 1 by rw [List.length_append, HNV.out]; rfl] at e16
                subst e16
                have hz16' : w14.heap.size + 1 ≤ w16.heap.size := by omega
                have hv16w := hv16
                refine hK.out _ _ ⟨hB16, bx16⟩ (fun h2 => ?_)
                clear hK K hHeld
                have hHeld := h2
                clear h2
                try simp only [Act.put, List.setIfInBounds_toArray, List.set_cons_zero, List.set_cons_succ]
                refine qL (i := 6) (v := ?_) rfl (by kernel_rfl) (fun _ _ _ h => h) (by assumption) (by rfl) (fun W _ => ?_) ?_
                rotate_left
                · go_simp
                  try with_reducible rfl
                try simp only [Act.put, List.setIfInBounds_toArray]
                refine qR (i := 7) (by kernel_rfl) rfl (fun K hK => ?_)
                simp only [List.getElem_toArray, List.getElem_cons_succ, List.getElem_cons_zero]
                have t1 := S716.p2.2.1
                have y1 := S716.p2.2.2.2
                go_simp
                refine hK.out _ _ ⟨hB16.setCell (p := ⟨g7, 1, none⟩) (Nat.le_refl _) _, bx16.far1 (by omega)⟩ (fun h2 => ?_)
                clear hK K hHeld
                have hHeld := h2
                clear h2
                try simp only [Act.put, List.setIfInBounds_toArray, List.set_cons_zero, List.set_cons_succ]
                refine wpAnyH_done (by kernel_rfl) ?_ _
                clear hHeld
                have hcvf := HCV15.out.val (k := wd.heap.size) (fun b hb => (HOC.out b hb).2) (fun b hb => (ia.2 b hb).1) (fun b hb => (ib.2 b hb).1) hv16w hz16' hf16
                rw [← HC1'.out, ← HV1'.out] at hcvf
                have hbr := hB16w.setCell (p := ⟨g7, 1, none⟩) (Nat.le_refl _) (.slice A16 (nv + 1) c16)
                have S7f := S716.set2b (.slice A16 (nv + 1) c16)
                have hcvf2 := hcvf.frame (frame1 (g := g7) (o := 1) (.slice A16 (nv + 1) c16)) (fun b h1 _ e => by omega)
                clear hcvf hv16w hf16 ia ib hap HCV15 S716 bx16
                go_wp2
                go_roundw
                case rel => exact ⟨k + 1, _, _, _, by omega, rfl, hbr, by simp; omega, S7f, hcvf2, HOKK⟩
                case measure => simp [intOf]; omega
end Go.Proofs.YtlpomcihkjiokaaGreat

namespace Go.Proofs.YtlpomcihkjiokaaGreat
open Go.RowKit Go.Joins

def RFew (x : RatD) : Prop := x.mag.length ≤ 1048576 ∧ x.den.length ≤ 1048576
theorem LS.frame {S : Nat → Prop} {w w' : World} {lo hi : Nat} {v : Value} {vs : List Value} {rows : List (List RatD)} (h : LS w lo hi v vs rows) (hf : Frame S w w') (hs : ∀ b, lo ≤ b → b < hi → ¬ S b) : LS w' lo hi v vs rows := by
  obtain ⟨h0, hd, A, c, h1, h2, h3, h4⟩ := h
  refine ⟨h0, hd, A, c, h1, h2, h3, fun hx => ?_⟩
  obtain ⟨g, e, k1, k2, k3, k4⟩ := h4 hx
  exact ⟨g, e, k1, k2, Nat.lt_of_lt_of_le k3 hf.size, fun i hi => ⟨(hf.cell k3 (hs g k1 k2)).trans (k4 i hi).1, (k4 i hi).2.frame hf hs⟩⟩
/-- Where a row lies, and the entry in it. -/
theorem LS.pick {w : World} {lo hi n c : Nat} {A : Option Addr} {vs : List Value} {rows : List (List RatD)} (h : LS w lo hi (.slice A n c) vs rows) (i : Nat) (hi1 : i < rows.length) (j : Nat) (hj : j < (rows.getD i []).length) :
    ∃ g gi ci, A = some ⟨g, 0, none⟩ ∧ lo ≤ g ∧ g < w.heap.size ∧ w.cell? ⟨g, i, none⟩ = some (.slice (some ⟨gi, 0, none⟩) (rows.getD i []).length ci) ∧ vs.getD i zV = .slice (some ⟨gi, 0, none⟩) (rows.getD i []).length ci ∧ lo ≤ gi ∧ gi < w.heap.size ∧ g ≠ gi ∧ (∀ o, w.frozen? ⟨gi, o, none⟩ = false) ∧ VX w lo hi (.slice (some ⟨gi, 0, none⟩) (rows.getD i []).length ci) (rows.getD i []) := by
  obtain ⟨g, e, h1, h2, h3, h4⟩ := h.row i hi1
  obtain ⟨Ai, ci, ei, _⟩ := h4.formF
  rw [ei] at h3 h4
  cases Ai with
  | none =>
    obtain ⟨ps, _, A', c', e', _, _, h5⟩ := h4
    injection e' with e1 _ _
    obtain ⟨g', e2, _⟩ := h5 (by intro h; rw [h] at hj; simp at hj)
    rw [e2] at e1
    cases e1
  | some a =>
    have hb : blk (.slice (some a) (rows.getD i []).length ci) = some a.block := blk_slice (by omega)
    obtain ⟨_, ⟨c2, e2⟩, k1, k2, k3, k4, s, hs⟩ := h4.blk hb
    injection e2 with e2 _ _
    injection e2 with e2
    rw [e2] at h3 h4 ei
    refine ⟨g, a.block, ci, e, h1, h2, h3, ei, k1, k3, ?_, k4, h4⟩
    intro hg
    obtain ⟨g0, e0, _, _, h30, h40⟩ := h.row 0 (by omega)
    rw [e] at e0
    injection e0 with e0
    injection e0 with e0
    subst e0
    rw [hg, hs] at h30
    injection h30 with h30
    obtain ⟨_, _, e9, _⟩ := h40.formF
    rw [e9] at h30
    cases h30
theorem rep_full (n : Nat) (x : RatD) : List.replicate n (List.replicate n x) = fullL n (fun _ _ => x) := by
  refine eq_fullL (by simp) (fun q hq => by simp [hq]) (fun q t hq ht => by simp [hq, ht])
theorem full_res {n : Nat} {E : Nat → Nat → RatD} (h : ∀ q t, q < n → t < n → FE.Res (E q t)) : ∀ i, i < (fullL n E).length → AllRes ((fullL n E).getD i []) := by
  intro i hi j hj
  rw [fullL_len] at hi
  rw [fullL_row_len hi] at hj
  rw [fullL_get hi hj]
  exact h i j hi hj
theorem MZ.wide {w : World} {lo hi lo' hi' : Nat} {v : Value} {rs : List RowD} (h : MZ w lo hi v rs) (j1 : lo' ≤ lo) (j2 : hi ≤ hi') : MZ w lo' hi' v rs := by
  obtain ⟨u, qs, rfl, h, ha⟩ := h
  exact ⟨u, qs, rfl, h.wide j1 j2, ha⟩
end Go.Proofs.YtlpomcihkjiokaaGreat
