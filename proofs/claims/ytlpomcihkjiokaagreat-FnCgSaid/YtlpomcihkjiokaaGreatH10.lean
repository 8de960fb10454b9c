/-
 Shared texts (H10).
-/
import Derived.Test.YtlpomcihkjiokaaGreatH9
import Derived.Deep.RegionHeld
import Derived.Test.YtlpomcihkjiokaaGreatH8
import Derived.Test.YtlpomcihkjiokaaGreatH6
import Derived.Laws.Bits64b
import Derived.Laws.CopyOwn
import Derived.Test.YtlpomcihkjiokaaGreatH2
import Derived.Deep.RegionHeld3
import Derived.Test.YtlpomcihkjiokaaGreatH5
import Derived.Test.YtlpomcihkjiokaaGreatH7
namespace Go.Proofs.YtlpomcihkjiokaaGreat
section
variable {P : Program} {ops : Array Oper} {Q : Exit → Act → World → Prop} {md : Region.Mode} {S : World → Prop}
theorem qL {i : Nat} {oi : Oper} {v : Value} {fuel : Nat} {listed : Array Bool} {a : Act} {w : World} (hi : ops[i]? = some oi)
 (hb : (Region.noSelect ops && (Region.free md ops listed i && (Region.ready md ops listed).contains i)) = true) (hQ : ∀ c a w, Q (.panic c) (a.put oi.dst v) w → Q (.panic c) a w) (hS : S w)
 (hw : Region.wanted oi (yielded ops a.tmps) = true) (hv : ∀ w, S w → (execOp a.eval oi).run P w = .ok (.value v) w)
 (h : wpAnyH P md ops Q S fuel (listed.setIfInBounds i true) (a.put oi.dst v) w) : wpAnyH P md ops Q S (fuel + 1) listed a w := by
 simp only [Bool.and_eq_true] at hb
 exact wpAnyH_take hi hb.1 hb.2.1 hb.2.2 hQ (Or.inl ⟨hw, hv⟩) hS h
theorem qP {i : Nat} {oi : Oper} {fuel : Nat} {listed : Array Bool} {a : Act} {w : World} (hi : ops[i]? = some oi)
 (hb : (Region.noSelect ops && (Region.free md ops listed i && (Region.ready md ops listed).contains i)) = true) (hQ : ∀ c a w, Q (.panic c) (a.put oi.dst undef) w → Q (.panic c) a w) (hS : S w)
 (hw : Region.wanted oi (yielded ops a.tmps) = false)
 (h : wpAnyH P md ops Q S fuel (listed.setIfInBounds i true) (a.put oi.dst undef) w) : wpAnyH P md ops Q S (fuel + 1) listed a w := by
 simp only [Bool.and_eq_true] at hb
 exact wpAnyH_take hi hb.1 hb.2.1 hb.2.2 hQ (Or.inr ⟨hw, rfl⟩) hS h
theorem qR {i : Nat} {o : Oper} {fuel : Nat} {listed : Array Bool} {a : Act} {w : World} (hr : Region.ready md ops listed = [i]) (ho : ops[i]? = some o)
 (h : ∀ K' : Act → World → Prop, Shut (∀ a w, S w → (S w → wpAnyH P md ops Q S fuel (listed.setIfInBounds i true) a w) → K' a w) → if Region.wanted o (yielded ops a.tmps) = true then Oper.wp P o a w K' Q else K' (a.put o.dst undef) w) :
 wpAnyH P md ops Q S (fuel + 1) listed a w := wpAnyH_ready hr (by simp) (AllReadyH.cons ho h AllReadyH.nil)
theorem qR2 {i j : Nat} {o p : Oper} {fuel : Nat} {listed : Array Bool} {a : Act} {w : World} (hr : Region.ready md ops listed = [i, j]) (ho : ops[i]? = some o) (hp : ops[j]? = some p)
 (h : ∀ K' : Act → World → Prop, Shut (∀ a w, S w → (S w → wpAnyH P md ops Q S fuel (listed.setIfInBounds i true) a w) → K' a w) → if Region.wanted o (yielded ops a.tmps) = true then Oper.wp P o a w K' Q else K' (a.put o.dst undef) w)
 (k : ∀ K' : Act → World → Prop, Shut (∀ a w, S w → (S w → wpAnyH P md ops Q S fuel (listed.setIfInBounds j true) a w) → K' a w) → if Region.wanted p (yielded ops a.tmps) = true then Oper.wp P p a w K' Q else K' (a.put p.dst undef) w) :
 wpAnyH P md ops Q S (fuel + 1) listed a w := wpAnyH_ready hr (by simp) (AllReadyH.cons ho h (AllReadyH.cons hp k AllReadyH.nil))
end
theorem inner_bad2 {us ys : List RatD} (hl : us.length = ys.length) (h : vok ys = false) : inner us ys = zR := by
 obtain ⟨j, hj, hn⟩ := vok_ex h
 unfold inner
 rw [if_pos hl]
 exact dotK_bad hn _ (by omega)
def cgA (rs : List RowD) (s : ItD) : List RatD := vApply rs s.p
def cgRR (s : ItD) : RatD := inner s.r s.r
def cgPP (rs : List RowD) (s : ItD) : RatD := inner s.p (cgA rs s)
def cgT (rs : List RowD) (s : ItD) : RatD := FE.rdiv (cgRR s) (cgPP rs s)
def cgX (rs : List RowD) (s : ItD) : List RatD := comb s.x (cgT rs s) s.p rs.length
def cgR (rs : List RowD) (s : ItD) : List RatD := comb s.r (FE.rneg (cgT rs s)) (cgA rs s) rs.length
def cgB (rs : List RowD) (s : ItD) : RatD := FE.rdiv (inner (cgR rs s) (cgR rs s)) (cgRR s)
def cgP (rs : List RowD) (s : ItD) : List RatD := comb (cgR rs s) (cgB rs s) s.p rs.length
def cgNext (rs : List RowD) (s : ItD) : ItD := ⟨cgX rs s, cgR rs s, cgP rs s⟩
def cgGo (rs : List RowD) (s : ItD) : Bool := decide (0 < rsig (cgRR s)) && decide (0 < rsig (cgPP rs s))
def cgOk (rs : List RowD) (s : ItD) : Bool := vok (cgX rs s) && (vok (cgR rs s) && vok (cgP rs s))
def fit3 (rs : List RowD) (s : ItD) : Bool := fitsB rs [s.x, s.r, s.p]
def stepOk (rs : List RowD) (s : ItD) : Bool := fit3 rs s && (cgGo rs s && cgOk rs s)
def stepIt (rs : List RowD) (s : ItD) : ItD := if stepOk rs s then cgNext rs s else s
theorem rsig_zR : rsig zR = 0 := by decide
theorem cgGo_vok {rs : List RowD} {s : ItD} (hl : s.p.length = rs.length) (h : cgGo rs s = true) : vok (cgA rs s) = true := by
 cases hv : vok (cgA rs s)
 ·have := inner_bad2 (us := s.p) (ys := cgA rs s) (by rw [hl]; exact (vApply_len rs s.p).symm) hv
  unfold cgGo cgPP at h
  rw [this, rsig_zR] at h
  simp at h
 ·rfl
theorem fit3_of {rs : List RowD} {s : ItD} (h : fit3 rs s = true) : mOk rs = true ∧ s.x.length = rs.length ∧ s.r.length = rs.length ∧ s.p.length = rs.length := by
 simp only [fit3, fitsB, List.all_cons, List.all_nil, fitB, Bool.and_eq_true, decide_eq_true_eq, Bool.and_true] at h
 obtain ⟨⟨⟨a, _⟩, ⟨b, _⟩, c, _⟩, e⟩ := h
 exact ⟨e, by omega, by omega, by omega⟩
theorem fit3_mk {rs : List RowD} {s : ItD} (h0 : mOk rs = true) (h1 : s.x.length = rs.length) (h2 : s.r.length = rs.length) (h3 : s.p.length = rs.length) (v1 : vok s.x = true) (v2 : vok s.r = true) (v3 : vok s.p = true) : fit3 rs s = true := by
 simp only [fit3, fitsB, List.all_cons, List.all_nil, fitB, h0, h1, h2, h3, v1, v2, v3]
 simp
theorem cgNext_fit {rs : List RowD} {s : ItD} (h0 : mOk rs = true) (h : cgOk rs s = true) : fit3 rs (cgNext rs s) = true := by
 simp only [cgOk, Bool.and_eq_true] at h
 exact fit3_mk h0 (comb_len _ _ _ _) (comb_len _ _ _ _) (comb_len _ _ _ _) h.1 h.2.1 h.2.2
theorem cgNext_few {rs : List RowD} {s : ItD} (h : MFew rs) : (cgNext rs s).few := ⟨comb_few _ _ _ h.1, comb_few _ _ _ h.1, comb_few _ _ _ h.1⟩
theorem stepIt_few {rs : List RowD} {s : ItD} (h : MFew rs) (hs : s.few) : (stepIt rs s).few := by
 unfold stepIt
 split
 ·exact cgNext_few h
 ·exact hs
open Go.RowKit Go.Joins
def lowB (x : List RatD) (i : Nat) : Bool := decide (x.length = i) && vok x
def FacD.ok (x : FacD) : Bool := (decide (x.lower.length = x.pivots.length) && decide (x.pivots.length ≤ 40)) && ((vok x.pivots && !(x.pivots.any fun y => decide (rsgn y ≤ 0))) && (List.range x.lower.length).all fun i => lowB (x.lower.getD i []) i)
open Go.RowKit Go.Joins
def R3 (w : World) (g o : Nat) (a b c : Value) : Prop := w.cell? ⟨g, o, none⟩ = some a ∧ w.cell? ⟨g, o + 1, none⟩ = some b ∧ w.cell? ⟨g, o + 2, none⟩ = some c
theorem R3.below {w w' : World} {g o B : Nat} {a b c : Value} (h : R3 w g o a b c) (hb : Below B w w') (hg : g < B) : R3 w' g o a b c :=
 ⟨(hb.cell (p := ⟨g, o, none⟩) hg).trans h.1, (hb.cell (p := ⟨g, o + 1, none⟩) hg).trans h.2.1, (hb.cell (p := ⟨g, o + 2, none⟩) hg).trans h.2.2⟩
theorem R3.lt {w : World} {g o : Nat} {a b c : Value} (h : R3 w g o a b c) : g < w.heap.size := (lt_of_cell' h.1).1
theorem R3.later {w w' : World} {g o : Nat} {a b c : Value} (h : R3 w g o a b c) (hb : Below w.heap.size w w') : R3 w' g o a b c := h.below hb h.lt
theorem R3.off {w : World} {g o g' q : Nat} {a b c x y z : Value} (h : R3 w g o a b c) (hne : g ≠ g' ∨ o + 2 < q ∨ q + 2 < o) : R3 (set3 w g' q x y z) g o a b c := by
 unfold R3 set3
 refine ⟨?_, ?_, ?_⟩
 all_goals
  rw [World.cell?_setCell_other _ _ _ _ (by intro e; injection e with e1 e2; omega), World.cell?_setCell_other _ _ _ _ (by intro e; injection e with e1 e2; omega), World.cell?_setCell_other _ _ _ _ (by intro e; injection e with e1 e2; omega)]
 ·exact h.1
 ·exact h.2.1
 ·exact h.2.2
theorem Slots.r3 {w : World} {g : Nat} {a b c : Value} (h : Slots w g [a, b, c]) : R3 w g 0 a b c := h.v3
theorem below_set3 {w W : World} {B g o : Nat} (h : Below B w W) (hg : B ≤ g) (x y z : Value) : Below B w (set3 W g o x y z) :=
 ((h.setCell (p := ⟨g, o, none⟩) hg x).setCell (p := ⟨g, o + 1, none⟩) hg y).setCell (p := ⟨g, o + 2, none⟩) hg z
theorem VZ.len {w : World} {lo hi n c : Nat} {A : Option Addr} {rs : List RatD} (h : VZ w lo hi (.slice A n c) rs) : n = rs.length := by
 obtain ⟨ps, h, _⟩ := h
 obtain ⟨_, A', c', e, _⟩ := h
 injection e
theorem VZ.base {w : World} {lo hi n c : Nat} {A : Option Addr} {rs : List RatD} (h : VZ w lo hi (.slice A n c) rs) (hn : 0 < n) : ∃ g, A = some ⟨g, 0, none⟩ ∧ lo ≤ g ∧ g < hi ∧ g < w.heap.size := by
 obtain ⟨ps, h, _⟩ := h
 obtain ⟨_, A', c', e, _, _, h3⟩ := h
 injection e with e1 e2 e3
 obtain ⟨g, e4, k1, k2, k3, _⟩ := h3 (by rintro rfl; simp at e2; omega)
 exact ⟨g, e1.trans e4, k1, k2, k3⟩
theorem VZ.frz {w : World} {lo hi g n c : Nat} {rs : List RatD} (h : VZ w lo hi (.slice (some ⟨g, 0, none⟩) n c) rs) (hn : 0 < n) (o : Nat) : w.frozen? ⟨g, o, none⟩ = false := by
 obtain ⟨ps, h, _⟩ := h
 obtain ⟨_, A', c', e, _, _, h3⟩ := h
 injection e with e1 e2 e3
 obtain ⟨g', e4, _, _, _, hf, _⟩ := h3 (by rintro rfl; simp at e2; omega)
 rw [← e1] at e4
 injection e4 with e4
 injection e4 with e4
 subst e4
 exact hf o
theorem VZ.at {w : World} {lo hi g n c : Nat} {rs : List RatD} (h : VZ w lo hi (.slice (some ⟨g, 0, none⟩) n c) rs) (j : Nat) (hj : j < rs.length) :
 ∃ A k B d, R3 w g (j * 3) (.bool (rs.getD j zR).neg) (.slice A (rs.getD j zR).mag.length k) (.slice B (rs.getD j zR).den.length d) ∧ RatV w (.agg #[.bool (rs.getD j zR).neg, .slice A (rs.getD j zR).mag.length k, .slice B (rs.getD j zR).den.length d]) (rs.getD j zR) := by
 obtain ⟨b, off, e, _, A, k, B, d, h0, h1, h2, hl, h3, h4⟩ := h.reads.cells j hj
 injection e with e
 injection e with e1 e2
 subst e1 e2
 rw [Nat.zero_add] at h0 h1 h2
 exact ⟨A, k, B, d, ⟨h0, h1, h2⟩, A, k, B, d, rfl, hl, h3, h4⟩
theorem VZ.swap {w : World} {lo hi base g n c i : Nat} {rs : List RatD} {y : RatD} {va vb : Value} (h : VZ w lo hi (.slice (some ⟨g, 0, none⟩) n c) rs) (hi1 : i < rs.length) (hv : RatP w base (.agg #[.bool y.neg, va, vb]) y) (hl : hi ≤ base) (hll : lo ≤ base) (hh : hi ≤ w.heap.size) :
 VZ (set3 w g (i * 3) (.bool y.neg) va vb) lo w.heap.size (.slice (some ⟨g, 0, none⟩) n c) (rs.set i y) := by
 obtain ⟨ps, h, hap⟩ := h
 obtain ⟨va', vb', e, ra, rb, hab⟩ := hv
 injection e with e
 injection e with e
 injection e with _ e
 injection e with e1 e
 injection e with e2 _
 subst e1 e2
 obtain ⟨k1, k2⟩ := h.swap hi1 hap ra.io rb.io hab hl hll hh
 exact ⟨_, k1, k2⟩
theorem VZ.up {w : World} {lo hi hi' : Nat} {v : Value} {rs : List RatD} (h : VZ w lo hi v rs) (hh : hi ≤ hi') : VZ w lo hi' v rs := by
 obtain ⟨ps, h, hap⟩ := h
 exact ⟨ps, h.wide (Nat.le_refl _) hh, hap⟩
theorem VZ.res {w w' : World} {lo hi : Nat} {v : Value} {rs : List RatD} (h : VZ w' lo hi v rs) (h1 : w.heap.size ≤ lo) (h2 : hi ≤ w'.heap.size) (hb : Below w.heap.size w w') : VRes w rs (.returned v) w' := by
 obtain ⟨ps, h, hap⟩ := h
 exact ⟨v, ps, rfl, h.wide h1 h2, hap, hb⟩
theorem ok_rows {x : FacD} (h : x.ok = true) : x.lower.length = x.pivots.length ∧ x.pivots.length ≤ 40 ∧ ∀ i, i < x.lower.length → (x.lower.getD i []).length = i := by
 simp only [FacD.ok, Bool.and_eq_true, decide_eq_true_eq, List.all_eq_true, List.mem_range] at h
 refine ⟨h.1.1, h.1.2, fun i hi => ?_⟩
 have := h.2.2 i hi
 simp only [lowB, Bool.and_eq_true, decide_eq_true_eq] at this
 exact this.1
theorem FI.row {w : World} {A : Option Addr} {xs : List (List RatD)} (h : FI w A xs) (k : Nat) (hk : k < xs.length) : ∃ b off C e, A = some ⟨b, off, none⟩ ∧ b < w.heap.size ∧ w.cell? ⟨b, off + k, none⟩ = some (.slice C (xs.getD k []).length e) ∧ VI w C (xs.getD k []) := by
 obtain ⟨b, off, e, hb, C, d, h0, _, h1⟩ := h.cells k hk
 exact ⟨b, off, C, d, e, hb, h0, h1⟩
open Go.RowKit Go.Joins
def FS (w : World) (lo hi : Nat) (v : Value) (rs : List (List RatD)) : Prop :=
 ∃ A c, v = .slice A rs.length c ∧ rs.length ≤ c ∧ c ≤ maxLen ∧ (rs ≠ [] → ∃ g, A = some ⟨g, 0, none⟩ ∧ lo ≤ g ∧ g < hi ∧ g < w.heap.size ∧ ∀ j, j < rs.length → ∃ va, w.cell? ⟨g, j, none⟩ = some va ∧ VX w lo hi va (rs.getD j []))
theorem FS.form {w : World} {lo hi : Nat} {v : Value} {rs : List (List RatD)} (h : FS w lo hi v rs) : ∃ A c, v = .slice A rs.length c ∧ rs.length ≤ c ∧ c ≤ maxLen := by
 obtain ⟨A, c, h1, h2, h3, _⟩ := h
 exact ⟨A, c, h1, h2, h3⟩
theorem VX.formF {w : World} {lo hi : Nat} {v : Value} {rs : List RatD} (h : VX w lo hi v rs) : ∃ A c, v = .slice A rs.length c ∧ rs.length ≤ c ∧ c ≤ maxLen := by
 obtain ⟨ps, h⟩ := h
 exact h.form
theorem FS.frame {S : Nat → Prop} {w w' : World} {lo hi : Nat} {v : Value} {rs : List (List RatD)} (h : FS w lo hi v rs) (hf : Frame S w w') (hs : ∀ b, lo ≤ b → b < hi → ¬ S b) : FS w' lo hi v rs := by
 obtain ⟨A, c, h1, h2, h3, h4⟩ := h
 refine ⟨A, c, h1, h2, h3, fun hx => ?_⟩
 obtain ⟨g, e, k1, k2, k3, ke⟩ := h4 hx
 refine ⟨g, e, k1, k2, Nat.lt_of_lt_of_le k3 hf.size, fun j hj => ?_⟩
 obtain ⟨va, q1, q2⟩ := ke j hj
 exact ⟨va, (hf.cell k3 (hs g k1 k2)).trans q1, q2.frame hf hs⟩
theorem FS.later {w w' : World} {lo hi : Nat} {v : Value} {rs : List (List RatD)} (h : FS w lo hi v rs) (hb : Below w.heap.size w w') : FS w' lo hi v rs :=
 h.frame (S := fun _ => False) (Frame.of_below hb) (fun _ _ _ h => h)
theorem FS.far {w : World} {lo hi : Nat} {v : Value} {rs : List (List RatD)} (h : FS w lo hi v rs) {p : Addr} (hp : p.block < lo) (u : Value) : FS (w.setCell p u) lo hi v rs :=
 h.frame ((Frame.refl (fun b => b = p.block) w).setCell rfl u) (fun b h1 _ e => by omega)
theorem FS.wide {w : World} {lo hi lo' hi' : Nat} {v : Value} {rs : List (List RatD)} (h : FS w lo hi v rs) (h1 : lo' ≤ lo) (h2 : hi ≤ hi') : FS w lo' hi' v rs := by
 obtain ⟨A, c, e, k1, k2, h⟩ := h
 refine ⟨A, c, e, k1, k2, fun hx => ?_⟩
 obtain ⟨g, e, q1, q2, q3, h⟩ := h hx
 refine ⟨g, e, by omega, by omega, q3, fun j hj => ?_⟩
 obtain ⟨va, r1, ps, r2⟩ := h j hj
 exact ⟨va, r1, ps, r2.wide h1 h2⟩
theorem FS.reads {w : World} {lo hi n c : Nat} {A : Option Addr} {rs : List (List RatD)} (h : FS w lo hi (.slice A n c) rs) : FI w A rs := by
 intro hx
 obtain ⟨A', c', he, _, _, h⟩ := h
 injection he with e1 e2 e3
 subst e1
 obtain ⟨g, rfl, _, _, hlt, h⟩ := h hx
 refine ⟨g, 0, rfl, hlt, fun j hj => ?_⟩
 obtain ⟨va, h0, h1⟩ := h j hj
 obtain ⟨A2, c2, rfl, hl, hc⟩ := h1.formF
 exact ⟨A2, c2, by rw [Nat.zero_add, Nat.mul_one]; exact h0, ⟨hl, hc⟩, h1.reads⟩
theorem FS.turn {w w' : World} {lo hi : Nat} {v : Value} {rs : List (List RatD)} (h : FS w lo hi v rs) (ht : Turn w w') : ∃ rs', rs'.length = rs.length ∧ (∀ j, j < rs.length → ShV (rs'.getD j []) (rs.getD j [])) ∧ FS w' lo hi v rs' := by
 obtain ⟨A, c, rfl, h1, h2, h3⟩ := h
 by_cases hx : rs = []
 ·subst hx
  exact ⟨[], rfl, fun j hj => by simp at hj, A, c, rfl, h1, h2, fun hh => absurd rfl hh⟩
 ·obtain ⟨g, rfl, hg, hgh, hgs, he⟩ := h3 hx
  obtain ⟨l, hl, hq⟩ := list_each [] rs.length (fun j y => ShV y (rs.getD j []) ∧ ∃ va, w'.cell? ⟨g, j, none⟩ = some va ∧ VX w' lo hi va y) (fun j hj => by
   obtain ⟨va, q1, ps, q2⟩ := he j hj
   obtain ⟨rs', s1, s2⟩ := q2.turns ht
   obtain ⟨A2, c2, rfl, _⟩ := q2.form
   exact ⟨rs', s1, _, ht.sl _ _ _ _ _ q1, ps, s2⟩)
  exact ⟨l, hl, fun j hj => (hq j hj).1, some ⟨g, 0, none⟩, c, by rw [hl], by rw [hl]; exact h1, h2, fun _ => ⟨g, rfl, hg, hgh, Nat.lt_of_lt_of_le hgs ht.size, fun j hj => (hq j (hl ▸ hj)).2⟩⟩
def cntF (rs : List (List RatD)) : Nat := (rs.map cntV).sum
def FacX (w : World) (lo hi : Nat) (v : Value) (x : FacD) : Prop :=
 ∃ A c B d mid, v = .agg #[.slice A x.lower.length c, .slice B x.pivots.length d] ∧ (x.lower.length ≤ c ∧ c ≤ maxLen ∧ x.pivots.length ≤ d ∧ d ≤ maxLen) ∧ FS w lo mid (.slice A x.lower.length c) x.lower ∧ VX w mid hi (.slice B x.pivots.length d) x.pivots ∧ lo ≤ mid ∧ mid ≤ hi ∧ hi ≤ w.heap.size
theorem FacX.frame {S : Nat → Prop} {w w' : World} {lo hi : Nat} {v : Value} {x : FacD} (h : FacX w lo hi v x) (hf : Frame S w w') (hs : ∀ b, lo ≤ b → b < hi → ¬ S b) : FacX w' lo hi v x := by
 obtain ⟨A, c, B, d, mid, e, hl, h1, h2, h3, h4, h5⟩ := h
 exact ⟨A, c, B, d, mid, e, hl, h1.frame hf (fun b i j => hs b i (by omega)), h2.frame hf (fun b i j => hs b (by omega) j), h3, h4, Nat.le_trans h5 hf.size⟩
theorem FacX.later {w w' : World} {lo hi : Nat} {v : Value} {x : FacD} (h : FacX w lo hi v x) (hb : Below w.heap.size w w') : FacX w' lo hi v x :=
 h.frame (S := fun _ => False) (Frame.of_below hb) (fun _ _ _ h => h)
theorem FacX.reads {w : World} {lo hi : Nat} {v : Value} {x : FacD} (h : FacX w lo hi v x) : FacV w v x := by
 obtain ⟨A, c, B, d, mid, e, hl, h1, h2, _⟩ := h
 exact ⟨A, c, B, d, e, hl, h1.reads, h2.reads⟩
theorem FacX.form {w : World} {lo hi : Nat} {v : Value} {x : FacD} (h : FacX w lo hi v x) : ∃ A c B d, v = .agg #[.slice A x.lower.length c, .slice B x.pivots.length d] := by
 obtain ⟨A, c, B, d, mid, e, _⟩ := h
 exact ⟨A, c, B, d, e⟩
def FacD.cnt (x : FacD) : Nat := cntF x.lower + cntV x.pivots
open Go.RowKit Go.Joins
def zV : Value := .slice none 0 0
def Dj (vs : List Value) : Prop := ∀ i j, i < vs.length → j < vs.length → i ≠ j → ∀ b, blk (vs.getD i zV) = some b → blk (vs.getD j zV) ≠ some b
theorem PO.not_bool {w : World} {lo hi : Nat} {v : Value} {xs : List Int} (h : PO w lo hi v xs) {g : Nat} {s : Bool} (hg : w.cell? ⟨g, 0, none⟩ = some (.bool s)) : blk v ≠ some g := by
 intro hb
 obtain ⟨hx, _, _, _, ha⟩ := h.1.at_blk hb
 have := ha.cell 0 (List.length_pos_iff.2 hx)
 rw [hg] at this; cases this
theorem VS.other {w w' : World} {lo hi : Nat} {v : Value} {ps : List (Value × Value)} {rs : List RatD} (h : VS w lo hi v ps rs) {g : Nat} {s : Bool} (hg : w.cell? ⟨g, 0, none⟩ = some (.bool s)) (hb : blk v ≠ some g) (hf : Frame (fun b => b = g) w w') : VS w' lo hi v ps rs := by
 refine h.frame hf (fun b hb' e => ?_)
 subst e
 rcases hb' with hb' | ⟨j, hj, hb'⟩
 ·exact hb hb'
 ·obtain ⟨hp, A', c', rfl, _, _, h3⟩ := h
  obtain ⟨g', rfl, _, _, _, _, he⟩ := h3 (by rintro rfl; simp at hp; subst hp; simp at hj)
  have := he j (by omega)
  rcases hb' with hb' | hb'
  ·exact this.2.2.2.1.not_bool hg hb'
  ·exact this.2.2.2.2.not_bool hg hb'
theorem VX.other {w w' : World} {lo hi : Nat} {v : Value} {rs : List RatD} (h : VX w lo hi v rs) {g : Nat} {s : Bool} (hg : w.cell? ⟨g, 0, none⟩ = some (.bool s)) (hb : blk v ≠ some g) (hf : Frame (fun b => b = g) w w') : VX w' lo hi v rs := by
 obtain ⟨ps, h⟩ := h
 exact ⟨ps, h.other hg hb hf⟩
theorem VX.blk {w : World} {lo hi : Nat} {v : Value} {rs : List RatD} (h : VX w lo hi v rs) {b : Nat} (hb : blk v = some b) : rs ≠ [] ∧ (∃ c, v = .slice (some ⟨b, 0, none⟩) rs.length c) ∧ lo ≤ b ∧ b < hi ∧ b < w.heap.size ∧ (∀ i, w.frozen? ⟨b, i, none⟩ = false) ∧ ∃ s, w.cell? ⟨b, 0, none⟩ = some (.bool s) := by
 obtain ⟨ps, h⟩ := h
 obtain ⟨k0, k1, k2, k3, k4, k5, ke⟩ := h.at_blk hb
 exact ⟨k0, k1, k2, k3, k4, k5, _, by have := (ke 0 (List.length_pos_iff.2 k0)).1; rwa [Nat.zero_mul] at this⟩
theorem VX.at {w : World} {lo hi g n c : Nat} {rs : List RatD} (h : VX w lo hi (.slice (some ⟨g, 0, none⟩) n c) rs) (j : Nat) (hj : j < rs.length) :
 ∃ A k B d, R3 w g (j * 3) (.bool (rs.getD j zR).neg) (.slice A (rs.getD j zR).mag.length k) (.slice B (rs.getD j zR).den.length d) ∧ RatV w (.agg #[.bool (rs.getD j zR).neg, .slice A (rs.getD j zR).mag.length k, .slice B (rs.getD j zR).den.length d]) (rs.getD j zR) := by
 obtain ⟨b, off, e, _, A, k, B, d, h0, h1, h2, hl, h3, h4⟩ := h.reads.cells j hj
 injection e with e
 injection e with e1 e2
 subst e1 e2
 rw [Nat.zero_add] at h0 h1 h2
 exact ⟨A, k, B, d, ⟨h0, h1, h2⟩, A, k, B, d, rfl, hl, h3, h4⟩
theorem VS.put3 {w : World} {lo hi lo2 hi2 g n c i : Nat} {ps : List (Value × Value)} {rs : List RatD} {y : RatD} {va vb : Value} (h : VS w lo hi (.slice (some ⟨g, 0, none⟩) n c) ps rs) (hi1 : i < rs.length)
 (ha : PO w lo2 hi2 va y.mag) (hb : PO w lo2 hi2 vb y.den) (hl : hi ≤ lo2) (hll : lo ≤ lo2) (hh : hi ≤ hi2) :
 VS (set3 w g (i * 3) (.bool y.neg) va vb) lo hi2 (.slice (some ⟨g, 0, none⟩) n c) (ps.set i (va, vb)) (rs.set i y) := by
 have hnn : n = rs.length := by
  obtain ⟨_, A, c', e, _⟩ := h
  injection e
 subst hnn
 have hx : rs ≠ [] := by rintro rfl; simp at hi1
 have hbv : Go.Proofs.YtlpomcihkjiokaaGreat.blk (.slice (some ⟨g, 0, none⟩) rs.length c) = some g := blk_slice (by simpa using hx)
 obtain ⟨_, _, k1, k2, k3, k4, ke⟩ := h.at_blk hbv
 obtain ⟨hp, A, c', e, q1, q2, _⟩ := h
 injection e with _ _ e
 subst e
 have hz : ∃ s, w.cell? ⟨g, 0, none⟩ = some (.bool s) := ⟨_, by have := (ke 0 (List.length_pos_iff.2 hx)).1; rwa [Nat.zero_mul] at this⟩
 have hf := set3_frame w g (i * 3) (.bool y.neg) va vb
 have hfz : ∀ o, (set3 w g (i * 3) (.bool y.neg) va vb).frozen? ⟨g, o, none⟩ = w.frozen? ⟨g, o, none⟩ := fun o => by simp [set3]
 obtain ⟨c0, c1, c2⟩ := set3_at (a := .bool y.neg) (b := va) (c := vb) (ke i hi1).1 (ke i hi1).2.1 (ke i hi1).2.2.1
 refine ⟨by simpa using hp, some ⟨g, 0, none⟩, c, by simp, by simpa using q1, q2, fun _ => ⟨g, rfl, k1, by omega, Nat.lt_of_lt_of_le k3 hf.size, fun o => (hfz o).trans (k4 o), fun j hj => ?_⟩⟩
 rw [List.length_set] at hj
 rw [getD_setR, getD_setP]
 by_cases e : i = j
 ·subst e
  rw [if_pos ⟨rfl, by omega⟩, if_pos ⟨rfl, by omega⟩]
  exact ⟨c0, c1, c2, (ha.frame hf (fun b hb e => by have := (ha.2 b hb).1; omega)).wide hll (Nat.le_refl _), (hb.frame hf (fun b hb' e => by have := (hb.2 b hb').1; omega)).wide hll (Nat.le_refl _)⟩
 ·rw [if_neg (fun h' => e h'.1), if_neg (fun h' => e h'.1)]
  obtain ⟨m1, m2⟩ := (ke j hj).head hz
  refine ⟨(set3_far (by omega) (by omega) (by omega)).trans (ke j hj).1, (set3_far (by omega) (by omega) (by omega)).trans (ke j hj).2.1, (set3_far (by omega) (by omega) (by omega)).trans (ke j hj).2.2.1, ((ke j hj).2.2.2.1.frame hf (fun b hb e => ?_)).wide (Nat.le_refl _) hh, ((ke j hj).2.2.2.2.frame hf (fun b hb e => ?_)).wide (Nat.le_refl _) hh⟩
  ·exact m1 (by rw [hb, show b = g from e])
  ·exact m2 (by rw [hb, show b = g from e])
theorem VX.put3 {w : World} {lo hi base g n c i : Nat} {rs : List RatD} {y : RatD} {va vb : Value} (h : VX w lo hi (.slice (some ⟨g, 0, none⟩) n c) rs) (hi1 : i < rs.length) (hv : RatP w base (.agg #[.bool y.neg, va, vb]) y) (hl : hi ≤ base) (hll : lo ≤ base) (hh : hi ≤ w.heap.size) :
 VX (set3 w g (i * 3) (.bool y.neg) va vb) lo w.heap.size (.slice (some ⟨g, 0, none⟩) n c) (rs.set i y) := by
 obtain ⟨ps, h⟩ := h
 obtain ⟨va', vb', e, ra, rb, hab⟩ := hv
 injection e with e
 injection e with e
 injection e with _ e
 injection e with e1 e
 injection e with e2 _
 subst e1 e2
 exact ⟨_, h.put3 hi1 ra.io rb.io hl hll hh⟩
def LS (w : World) (lo hi : Nat) (v : Value) (vs : List Value) (rows : List (List RatD)) : Prop :=
 vs.length = rows.length ∧ Dj vs ∧ ∃ A c, v = .slice A rows.length c ∧ rows.length ≤ c ∧ c ≤ maxLen ∧
  (rows ≠ [] → ∃ g, A = some ⟨g, 0, none⟩ ∧ lo ≤ g ∧ g < hi ∧ g < w.heap.size ∧ ∀ i, i < rows.length → w.cell? ⟨g, i, none⟩ = some (vs.getD i zV) ∧ VX w lo hi (vs.getD i zV) (rows.getD i []))
theorem LS.form {w : World} {lo hi : Nat} {v : Value} {vs : List Value} {rows : List (List RatD)} (h : LS w lo hi v vs rows) : ∃ A c, v = .slice A rows.length c ∧ rows.length ≤ c ∧ c ≤ maxLen := by
 obtain ⟨_, _, A, c, h1, h2, h3, _⟩ := h
 exact ⟨A, c, h1, h2, h3⟩
theorem LS.later {w w' : World} {lo hi : Nat} {v : Value} {vs : List Value} {rows : List (List RatD)} (h : LS w lo hi v vs rows) (hb : Below w.heap.size w w') : LS w' lo hi v vs rows := by
 obtain ⟨h0, hd, A, c, h1, h2, h3, h4⟩ := h
 refine ⟨h0, hd, A, c, h1, h2, h3, fun hx => ?_⟩
 obtain ⟨g, e, k1, k2, k3, k4⟩ := h4 hx
 exact ⟨g, e, k1, k2, Nat.lt_of_lt_of_le k3 hb.size, fun i hi => ⟨cell_later k3 (k4 i hi).1 hb, (k4 i hi).2.later hb⟩⟩
theorem LS.wide {w : World} {lo hi lo' hi' : Nat} {v : Value} {vs : List Value} {rows : List (List RatD)} (h : LS w lo hi v vs rows) (j1 : lo' ≤ lo) (j2 : hi ≤ hi') : LS w lo' hi' v vs rows := by
 obtain ⟨h0, hd, A, c, h1, h2, h3, h4⟩ := h
 refine ⟨h0, hd, A, c, h1, h2, h3, fun hx => ?_⟩
 obtain ⟨g, e, k1, k2, k3, k4⟩ := h4 hx
 exact ⟨g, e, by omega, by omega, k3, fun i hi => ⟨(k4 i hi).1, (k4 i hi).2.wide j1 j2⟩⟩
theorem LS.row {w : World} {lo hi n c : Nat} {A : Option Addr} {vs : List Value} {rows : List (List RatD)} (h : LS w lo hi (.slice A n c) vs rows) (i : Nat) (hi1 : i < rows.length) :
 ∃ g, A = some ⟨g, 0, none⟩ ∧ lo ≤ g ∧ g < w.heap.size ∧ w.cell? ⟨g, i, none⟩ = some (vs.getD i zV) ∧ VX w lo hi (vs.getD i zV) (rows.getD i []) := by
 obtain ⟨h0, hd, A', c', h1, h2, h3, h4⟩ := h
 injection h1 with e1 e2 e3
 obtain ⟨g, e, k1, k2, k3, k4⟩ := h4 (by rintro rfl; simp at hi1)
 exact ⟨g, e1.trans e, k1, k3, (k4 i hi1).1, (k4 i hi1).2⟩
theorem LS.reads {w : World} {lo hi n c : Nat} {A : Option Addr} {vs : List Value} {rows : List (List RatD)} (h : LS w lo hi (.slice A n c) vs rows) : FI w A rows := by
 intro hx
 obtain ⟨h0, hd, A', c', h1, h2, h3, h4⟩ := h
 injection h1 with e1 e2 e3
 obtain ⟨g, e, k1, k2, k3, k4⟩ := h4 hx
 refine ⟨g, 0, e1.trans e, k3, fun i hi => ?_⟩
 obtain ⟨q1, q2⟩ := k4 i hi
 obtain ⟨A2, c2, e4, l1, l2⟩ := q2.formF
 rw [e4] at q1 q2
 rw [Nat.mul_one, Nat.zero_add]
 exact ⟨A2, c2, q1, ⟨l1, l2⟩, q2.reads⟩
theorem getD_setL (l : List (List RatD)) (i j : Nat) (x : List RatD) : (l.set i x).getD j [] = if i = j ∧ j < l.length then x else l.getD j [] := getD_setG l i j x
theorem LS.put {w : World} {lo hi base n c i j gi ci mi : Nat} {A : Option Addr} {vs : List Value} {rows : List (List RatD)} {y : RatD} {va vb : Value} (h : LS w lo hi (.slice A n c) vs rows) (hi1 : i < rows.length) (hvi : vs.getD i zV = .slice (some ⟨gi, 0, none⟩) mi ci) (hj : j < (rows.getD i []).length)
 (hv : RatP w base (.agg #[.bool y.neg, va, vb]) y) (hl : hi ≤ base) (hll : lo ≤ base) (hh : hi ≤ w.heap.size) :
 LS (set3 w gi (j * 3) (.bool y.neg) va vb) lo w.heap.size (.slice A n c) vs (rows.set i ((rows.getD i []).set j y)) := by
 obtain ⟨h0, hd, A', c', h1, h2, h3, h4⟩ := h
 injection h1 with e1 e2 e3
 subst e1 e2 e3
 obtain ⟨g, e, k1, k2, k3, k4⟩ := h4 (by rintro rfl; simp at hi1)
 refine ⟨by simpa using h0, hd, A, c, by simp, by simpa using h2, h3, fun _ => ⟨g, e, k1, by omega, by simpa [set3] using k3, fun p hp => ?_⟩⟩
 rw [List.length_set] at hp
 obtain ⟨_, qi⟩ := k4 i hi1
 obtain ⟨q1, q2⟩ := k4 p hp
 rw [hvi] at qi
 have hmi : mi = (rows.getD i []).length := by obtain ⟨_, _, e, _⟩ := qi.formF; injection e
 have hb : Go.Proofs.YtlpomcihkjiokaaGreat.blk (.slice (some ⟨gi, 0, none⟩) mi ci) = some gi := blk_slice (by omega)
 obtain ⟨_, _, b1, b2, b3, _, s, hs⟩ := qi.blk hb
 have hgg : g ≠ gi := by
  rintro rfl
  have := (k4 0 (by omega)).1
  rw [hs] at this
  injection this with this
  obtain ⟨_, _, e', _⟩ := (k4 0 (by omega)).2.formF
  rw [e'] at this
  cases this
 have hf := set3_frame w gi (j * 3) (.bool y.neg) va vb
 refine ⟨(hf.cell k3 (fun e => hgg e)).trans q1, ?_⟩
 rw [getD_setL]
 by_cases e : i = p
 ·subst e
  rw [if_pos ⟨rfl, hp⟩, hvi]
  exact qi.put3 hj hv hl hll hh
 ·rw [if_neg (fun h' => e h'.1)]
  refine (q2.other hs (fun hb' => ?_) hf).wide (Nat.le_refl _) hh
  exact hd i p (by omega) (by omega) e gi (by rw [hvi]; exact hb) hb'
def LW (w : World) (base hi : Nat) (v : Value) (vs : List Value) (rows : List (List RatD)) : Prop :=
 vs.length = rows.length ∧ Dj vs ∧ w.ownsRow base 28 1 v rows.length vs ∧ (∀ b, v.ownBlock = some b → b < hi) ∧ hi ≤ w.heap.size ∧ ∀ i, i < rows.length → VX w base hi (vs.getD i zV) (rows.getD i [])
theorem LW.nil {w : World} {base : Nat} {v : Value} (h : w.ownsRow base 28 1 v 0 []) : LW w base w.heap.size v [] [] :=
 ⟨rfl, fun i j hi => by simp at hi, h, fun b hb => (own_lt h hb).2, Nat.le_refl _, fun i hi => by simp at hi⟩
theorem LW.later {w w' : World} {base hi : Nat} {v : Value} {vs : List Value} {rows : List (List RatD)} (h : LW w base hi v vs rows) (hb : Below w.heap.size w w') : LW w' base hi v vs rows :=
 ⟨h.1, h.2.1, World.ownsRow.kept (row := none) h.2.2.1 ⟨hb.os, hb.tape, hb.output, hb.size, fun k hk _ => hb.block k hk⟩ (by cases v.ownBlock <;> simp), h.2.2.2.1, Nat.le_trans h.2.2.2.2.1 hb.size, fun i hi => (h.2.2.2.2.2 i hi).later hb⟩
theorem LW.belowLo {w w' : World} {base hi : Nat} {v : Value} {vs : List Value} {rows : List (List RatD)} (h : LW w base hi v vs rows) (hb : Below hi w w') : LW w' base hi v vs rows := by
 obtain ⟨h0, hd, ho, hob, hsz, hr⟩ := h
 refine ⟨h0, hd, ⟨ho.1, ?_⟩, hob, Nat.le_trans hsz hb.size, fun i hi' => (hr i hi').frame (S := fun b => hi ≤ b) ⟨hb.os, hb.tape, hb.output, hb.size, fun b _ hn => hb.block b (by omega)⟩ (fun b _ h2 h3 => by omega)⟩
 rcases ho.2 with hn | ⟨g, cap, cur, rfl, hbs, hgg, rest⟩
 ·exact .inl hn
 ·exact .inr ⟨g, cap, cur, rfl, hbs, (hb.block g (hob g rfl)).trans hgg, rest⟩
theorem LW.up {w : World} {base hi hi' : Nat} {v : Value} {vs : List Value} {rows : List (List RatD)} (h : LW w base hi v vs rows) (h1 : hi ≤ hi') (h2 : hi' ≤ w.heap.size) : LW w base hi' v vs rows :=
 ⟨h.1, h.2.1, h.2.2.1, fun b hb => Nat.lt_of_lt_of_le (h.2.2.2.1 b hb) h1, h2, fun i hi => (h.2.2.2.2.2 i hi).wide (Nat.le_refl _) h1⟩
theorem LW.form {w : World} {base hi : Nat} {v : Value} {vs : List Value} {rows : List (List RatD)} (h : LW w base hi v vs rows) : ∃ A c, v = .slice A rows.length c ∧ rows.length ≤ c ∧ c ≤ maxLen := by
 obtain ⟨A, c, e, h1, h2, _⟩ := own_slice h.2.2.1
 exact ⟨A, c, e, h1, h2⟩
theorem dj_snoc {vs : List Value} {x : Value} {hi : Nat} (h : Dj vs) (h1 : ∀ i, i < vs.length → ∀ b, blk (vs.getD i zV) = some b → b < hi) (h2 : ∀ b, blk x = some b → hi ≤ b) : Dj (vs ++ [x]) := by
 have gl : ∀ j, j < vs.length → (vs ++ [x]).getD j zV = vs.getD j zV := fun j hj => by simp [List.getElem?_append_left, hj]
 have gr : (vs ++ [x]).getD vs.length zV = x := by simp
 intro i j hi' hj hij b hb hb'
 rw [List.length_append, List.length_cons, List.length_nil] at hi' hj
 by_cases e1 : i < vs.length <;> by_cases e2 : j < vs.length
 ·rw [gl i e1] at hb
  rw [gl j e2] at hb'
  exact h i j e1 e2 hij b hb hb'
 ·rw [gl i e1] at hb
  rw [show j = vs.length by omega, gr] at hb'
  have := h1 i e1 b hb
  have := h2 b hb'
  omega
 ·rw [gl j e2] at hb'
  rw [show i = vs.length by omega, gr] at hb
  have := h1 j e2 b hb'
  have := h2 b hb
  omega
 ·omega
theorem ls_getl {α : Type} {d : α} {vs : List α} {x : α} {j : Nat} (hj : j < vs.length) : (vs ++ [x]).getD j d = vs.getD j d := by simp [List.getElem?_append_left, hj]
theorem ls_getr {α : Type} {d : α} {vs : List α} {x : α} : (vs ++ [x]).getD vs.length d = x := by simp
theorem LW.snoc {w w' : World} {base hi hi2 : Nat} {v v' x : Value} {vs : List Value} {rows : List (List RatD)} {row : List RatD} (h : LW w base hi v vs rows) (hx : VX w hi hi2 x row) (_hh : hi ≤ hi2) (hh2 : hi2 ≤ w.heap.size) (hbase : base ≤ hi)
 (hown : w'.ownsRow base 28 1 v' (rows.length + 1) (vs ++ [x])) (hf : Frame (fun b => v.ownBlock = some b) w w') (_hob : v'.ownBlock = v.ownBlock ∨ v'.ownBlock = some w.heap.size) : LW w' base w'.heap.size v' (vs ++ [x]) (rows ++ [row]) := by
 obtain ⟨h0, hd, ho, hob0, hsz, hr⟩ := h
 refine ⟨by simp [h0], dj_snoc (hi := hi) hd (fun i hi' b hb => (VX.blk (hr i (h0 ▸ hi')) hb).2.2.2.1) (fun b hb => (hx.blk hb).2.2.1), by simpa using hown, fun b hb => (own_lt hown hb).2, Nat.le_refl _, fun i hi' => ?_⟩
 rw [List.length_append, List.length_cons, List.length_nil] at hi'
 by_cases e : i < rows.length
 ·rw [ls_getl (h0 ▸ e), ls_getl e]
  obtain ⟨ps, hv⟩ := hr i e
  refine VX.wide ⟨ps, hv.frame hf (fun b hb hs => ?_)⟩ (Nat.le_refl _) (Nat.le_trans hsz hf.size)
  obtain ⟨u, hu, hc⟩ := own_cell0 ho (by rw [h0]; omega) hs
  have h00 : vs.getD 0 zV = u := by simp [List.getD_eq_getElem?_getD, hu]
  obtain ⟨_, _, e0, _⟩ := VX.formF (hr 0 (by omega))
  rw [h00] at e0
  rw [e0] at hc
  exact hv.not_slice hc hb
 ·rw [show i = vs.length by omega, ls_getr, h0, ls_getr]
  refine (hx.frame hf (fun b k1 k2 hs => ?_)).wide hbase (Nat.le_trans hh2 hf.size)
  have := hob0 b hs
  omega
theorem LW.ls {w : World} {base hi : Nat} {v : Value} {vs : List Value} {rows : List (List RatD)} (h : LW w base hi v vs rows) : LS w base w.heap.size v vs rows := by
 obtain ⟨h0, hd, ho, hob0, hsz, hr⟩ := h
 obtain ⟨A, c, e, h1, h2, h3⟩ := own_slice ho
 refine ⟨h0, hd, A, c, e, h1, h2, fun hx => ?_⟩
 obtain ⟨g, eA, hg⟩ := h3 (List.length_pos_iff.2 hx)
 have hl := own_lt ho hg
 refine ⟨g, eA, hl.1, hl.2, hl.2, fun i hi => ⟨?_, (hr i hi).wide (Nat.le_refl _) hsz⟩⟩
 subst e eA
 refine (ho.cellAt (g := g) i (by omega)).trans ?_
 rw [List.getD_eq_getElem?_getD, List.getElem?_eq_getElem (by omega)]
 rfl
open Go.RowKit Go.Joins
def Rp (w : World) (g n k : Nat) (a b c : Value) : Prop :=
 ∃ cur : List Value, w.heap[g]? = some (.cells cur.toArray 57 (0, 0)) ∧ cur.length = n * 3 ∧ ∀ j, j < k → cur[j * 3]? = some a ∧ cur[j * 3 + 1]? = some b ∧ cur[j * 3 + 2]? = some c
theorem Rp.frame {S : Nat → Prop} {w w' : World} {g n k : Nat} {a b c : Value} (h : Rp w g n k a b c) (hf : Frame S w w') (hs : ¬ S g) : Rp w' g n k a b c := by
 obtain ⟨cur, hg, hl, hh⟩ := h
 exact ⟨cur, (hf.block g (Array.getElem?_eq_some_iff.1 hg).1 hs).trans hg, hl, hh⟩
theorem Rp.made {w : World} {C : Array Value} {n : Nat} {a b c : Value} (hC : C.size = n * 3) : Rp (w.alloc (.cells C 57)) w.heap.size n 0 a b c :=
 ⟨C.toList, by rw [heap_alloc_new], by simpa using hC, fun j hj => by omega⟩
theorem Rp.cells {w : World} {g n k : Nat} {a b c : Value} (h : Rp w g n k a b c) (j : Nat) (hj : j < k) : R3 w g (j * 3) a b c := by
 obtain ⟨cur, hg, hl, hh⟩ := h
 obtain ⟨q0, q1, q2⟩ := hh j hj
 refine ⟨?_, ?_, ?_⟩ <;> rw [cell_of_row w g _ _ _ (0, 0) hg] <;> simpa
theorem Rp.frozen {w : World} {g n k : Nat} {a b c : Value} (h : Rp w g n k a b c) (i : Nat) : w.frozen? ⟨g, i, none⟩ = false := by
 obtain ⟨cur, hg, _⟩ := h
 simp [World.frozen?, hg]
theorem Rp.lt {w : World} {g n k : Nat} {a b c : Value} (h : Rp w g n k a b c) : g < w.heap.size := by
 obtain ⟨cur, hg, _⟩ := h
 exact (Array.getElem?_eq_some_iff.1 hg).1
open Go.RowKit Go.Joins
theorem rowAt_few {x : RowD} (h : x.few) (j : Int) : (rowAt x j).mag.length ≤ 1048576 ∧ (rowAt x j).den.length ≤ 1048576 := by
 unfold rowAt
 split
 ·by_cases hk : x.cols.findIdx (· == j) < x.vals.length
  ·exact h.2.2 _ hk
  ·rw [List.getD_eq_getElem?_getD, List.getElem?_eq_none (by omega)]
   exact ⟨by decide, by decide⟩
 ·have : FE.toL 0 = [] := FE.toL_zero
  simp [FE.rint, this]
def symAt (rs : List RowD) (i k : Nat) : Bool := ((rs.getD i zRow).vals.getD k zR).same (rowAt (rs.getD ((rs.getD i zRow).cols.getD k 0).toNat zRow) i)
def symRow (rs : List RowD) (i : Nat) : Bool := (List.range (rs.getD i zRow).cols.length).all (symAt rs i)
def mSym (rs : List RowD) : Bool := mOk rs && (List.range rs.length).all (symRow rs)
theorem mSym_yes {rs : List RowD} (h : mOk rs = true) (h2 : ∀ i, i < rs.length → symRow rs i = true) : mSym rs = true := by
 simp only [mSym, h, Bool.true_and, List.all_eq_true, List.mem_range]
 exact h2
theorem mSym_bad {rs : List RowD} (h : mOk rs = false) : mSym rs = false := by simp only [mSym, h, Bool.false_and]
theorem symRow_yes {rs : List RowD} {i : Nat} (h : ∀ k, k < (rs.getD i zRow).cols.length → symAt rs i k = true) : symRow rs i = true := by
 simp only [symRow, List.all_eq_true, List.mem_range]
 exact h
theorem mSym_no {rs : List RowD} {i k : Nat} (hi : i < rs.length) (hk : k < (rs.getD i zRow).cols.length) (h : symAt rs i k = false) : mSym rs = false := by
 cases hm : mSym rs
 ·rfl
 ·simp only [mSym, symRow, Bool.and_eq_true, List.all_eq_true, List.mem_range] at hm
  have := hm.2 i hi k hk
  rw [h] at this
  cases this
theorem symKeep {w2 W w3 : World} {g0 g1 g2 o2 : Nat} {u0 u1 u2 v0 v1 v2 : Value} (h0 : g0 < w2.heap.size) (h1 : g1 < w2.heap.size) (h2 : g2 < w2.heap.size)
 (hS : Below w2.heap.size w2 W ∧ W.cell? ⟨g0, 0, none⟩ = some u0 ∧ W.cell? ⟨g1, 0, none⟩ = some u1 ∧ W.cell? ⟨g1, 1, none⟩ = some u2 ∧ W.cell? ⟨g2, o2, none⟩ = some v0 ∧ W.cell? ⟨g2, o2 + 1, none⟩ = some v1 ∧ W.cell? ⟨g2, o2 + 2, none⟩ = some v2) (hb : Below W.heap.size W w3) :
 Below w2.heap.size w2 w3 ∧ w3.cell? ⟨g0, 0, none⟩ = some u0 ∧ w3.cell? ⟨g1, 0, none⟩ = some u1 ∧ w3.cell? ⟨g1, 1, none⟩ = some u2 ∧ w3.cell? ⟨g2, o2, none⟩ = some v0 ∧ w3.cell? ⟨g2, o2 + 1, none⟩ = some v1 ∧ w3.cell? ⟨g2, o2 + 2, none⟩ = some v2 := by
 obtain ⟨hS, e0, e1, e2, e3, e4, e5⟩ := hS
 have l0 := Nat.lt_of_lt_of_le h0 hS.size
 have l1 := Nat.lt_of_lt_of_le h1 hS.size
 have l2 := Nat.lt_of_lt_of_le h2 hS.size
 exact ⟨below_trans hS hb, cell_later l0 e0 hb, cell_later l1 e1 hb, cell_later l1 e2 hb, cell_later l2 e3 hb, cell_later l2 e4 hb, cell_later l2 e5 hb⟩
set_option maxRecDepth 100000 in
set_option maxHeartbeats 3200000 in
theorem iIsSymmetric (rs : List RowD) (u : Value) (w : World) (hu : MatV w u rs) (hf : MFew rs) :
 Calls Tryz.prog 43 #[u] w fun e w' => e = .returned (.bool (mSym rs)) ∧ Below w.heap.size w w' := by
 have HU0 := Lib.hid (fun W (hW : Below w.heap.size w W) => hu.later hW)
 obtain ⟨A, c, rfl, _, hx⟩ := hu
 have hn1 := hf.1
 have HF := Lib.hid hf
 clear hf
 have HM := fun W hW => iIsMatrix rs _ W (HU0.out W hW) HF.out
 cases hm : mOk rs
 ·rw [hm] at HM
  rw [mSym_bad hm]
  replace HM := Lib.hid HM
  clear hm HU0 hx
  generalize rs.length = n at *
  go_enter Tryz.func43, Tryz.ntmps43
  go_wp2_with fail
  refine (HM.out _ (below_alloc1 _ _)).mono ?_
  rintro e w1 ⟨rfl, hb1⟩
  replace hb1 := box_below hb1
  go_wp2
  go_ret
  exact ⟨rfl, hb1⟩
 ·rw [hm] at HM
  replace HM := Lib.hid HM
  have HOK := Lib.hid (fun i (hi : i < rs.length) => mOk_row hm hi)
  have HYES := Lib.hid (mSym_yes hm)
  have HNO := Lib.hid (fun i k (hi : i < rs.length) hk (h : symAt rs i k = false) => mSym_no hi hk h)
  clear hm
  generalize mSym rs = res at *
  obtain ⟨n, hn⟩ : ∃ n, rs.length = n := ⟨_, rfl⟩
  rw [hn] at HM HU0 HOK HYES HNO hn1
  have HN := Lib.hid hn
  have hW0 := hn ▸ hn1
  rw [hn]
  clear hn
  go_enter Tryz.func43, Tryz.ntmps43
  go_wp2_with fail
  refine (HM.out _ (below_alloc1 _ _)).mono ?_
  rintro e w1 ⟨rfl, hb1⟩
  have S0 := Slots.new hb1 (g := w.heap.size) rfl
  replace hb1 := box_below hb1
  have hx1 := hx.later hb1
  have HU := Lib.hid (fun W (hW : Below w1.heap.size w1 W) => HU0.out W (below_trans hb1 hW))
  clear hx HU0 HM
  obtain ⟨a0, _⟩ := S0.k1
  go_wp2_with fail
  clear a0
  go_loopw [13] (fun z wr => ∃ k : Nat, k ≤ n ∧ z = .int .i64 k ∧ (∀ j, j < k → symRow rs j = true) ∧ Below w1.heap.size w1 wr) (fun z _ => n - (intOf z).toNat)
  case atStart => exact ⟨0, Nat.zero_le _, rfl, fun j hj => by omega, Below.refl _ _⟩
  case round =>
   obtain ⟨k, hk, rfl, ht, hbel⟩ := hrel
   have HT := Lib.hid ht; clear ht
   by_cases hkn : k = n
   ·subst hkn
    have h0 : decide ((k : Int) < (k : Int)) = false := by simp
    have HR := Lib.hid (HYES.out HT.out)
    have hbf := hb1.trans (below_le hbel hb1.size)
    clear S0 hx1
    go_wp2
    go_ret
    exact ⟨ret_bool HR.out.symm, hbf⟩
   ·have hlt : (k : Int) < (n : Int) := by omega
    have hkl : k < rs.length := by rw [HN.out]; omega
    obtain ⟨b0, o0, rfl, hb0, hat⟩ := hx1.cells k hkl
    have hat1 := RowAt.stays _ _ _ _ _ hb0 hat hbel
    obtain ⟨okA, _, _, okD⟩ := HOK.out k (by omega)
    have f1 := HF.out.2 k hkl
    have HT2 := Lib.hid (show (∀ q, q < (rs.getD k zRow).cols.length → symAt rs k q = true) → ∀ j, j < k + 1 → symRow rs j = true from fun h j hj => (Nat.lt_succ_iff_lt_or_eq.1 hj).elim (HT.out j) (fun e => e ▸ symRow_yes h))
    have HNK := Lib.hid (fun q hq h => HNO.out k q (by omega) hq h)
    have HSY := Lib.hid (fun q => show symAt rs k q = ((rs.getD k zRow).vals.getD q zR).same (rowAt (rs.getD ((rs.getD k zRow).cols.getD q 0).toNat zRow) k) from rfl)
    clear hat hkl HT
    generalize hxx : rs.getD k zRow = x at *
    clear hxx
    obtain ⟨A1, c1, B1, d1, g0', g1', hcd, hr1, hr2⟩ := hat1
    have l1 := f1.1
    have l2 := f1.2.1
    have HFV := Lib.hid f1.2.2
    have OKA := Lib.hid okA
    have OKD := Lib.hid okD
    obtain ⟨p, hp⟩ : ∃ n, x.cols.length = n := ⟨_, rfl⟩
    obtain ⟨p', hp'⟩ : ∃ n, x.vals.length = n := ⟨_, rfl⟩
    have hpp : p' = p := by rw [← hp, ← hp']; exact okA
    rw [hp] at l1 g0' HT2 HNK
    rw [hp', hpp] at g1'
    rw [hp', hpp] at l2
    have HP := Lib.hid hp
    have HP' := Lib.hid (hp'.trans hpp)
    clear okA okD f1 hcd hp hp' hpp
    have hal := below_alloc1 wr (.cells #[.slice A1 p c1, .slice B1 p d1] 130)
    have S1 := Slots.new (Below.refl _ (wr.alloc (.cells #[.slice A1 p c1, .slice B1 p d1] 130))) (g := wr.heap.size) rfl
    have hr1' := hr1.later hal
    have hr2' := hr2.later hal
    have hbel1 := hbel.trans (below_le hal hbel.size)
    replace S0 := S0.later hbel1
    clear hr1 hr2 hbel
    go_wp2_with fail
    clear g0' g1' hal
    generalize wr.alloc (.cells #[.slice A1 p c1, .slice B1 p d1] 130) = wq at *
    generalize wr.heap.size = g1 at *
    go_loopw [21] (fun z wp => ∃ i : Nat, i ≤ p ∧ z = .int .i64 i ∧ (∀ q, q < i → symAt rs k q = true) ∧ Below wq.heap.size wq wp) (fun z _ => p - (intOf z).toNat)
    case atStart => exact ⟨0, Nat.zero_le _, rfl, fun j hj => by omega, Below.refl _ _⟩
    case round =>
     obtain ⟨i, hi, rfl, ht, hbw⟩ := hrel
     have HTI := Lib.hid ht; clear ht
     by_cases hip : i = p
     ·subst hip
      have h0 : decide ((i : Int) < (i : Int)) = false := by simp
      have HT3 := Lib.hid (HT2.out HTI.out)
      have hbf := hbel1.trans (below_le hbw hbel1.size)
      clear S0 S1 hr1' hr2'
      go_wp2
      go_roundw
      case rel => exact ⟨k + 1, by omega, rfl, HT3.out, hbf⟩
      case measure => simp [intOf]; omega
     ·have hlti : (i : Int) < (p : Int) := by omega
      have hil : i < x.cols.length := by rw [HP.out]; omega
      have hil2 : i < x.vals.length := by rw [HP'.out]; omega
      obtain ⟨b3, o3, rfl, hb3, hc3⟩ := hr1' (by intro h; rw [h] at hil; simp at hil)
      have e3 := (hbw.cell (p := ⟨b3, o3 + i, none⟩) hb3).trans (hc3 i hil)
      obtain ⟨b4, o4, rfl, hb4, hat4⟩ := hr2'.cells i hil2
      have hat5 := RatAt.stays _ _ _ _ _ hb4 hat4 hbw
      obtain ⟨ok1, ok2⟩ := OKD.out i hil
      obtain ⟨fv1, fv2⟩ := HFV.out i hil2
      have HSY1 := HSY.out i
      have HTJ := Lib.hid (show symAt rs k i = true → ∀ q, q < i + 1 → symAt rs k q = true from fun h q hq => (Nat.lt_succ_iff_lt_or_eq.1 hq).elim (HTI.out q) (fun e => e ▸ h))
      have HNJ := Lib.hid (HNK.out i (by omega))
      clear hc3 hat4 HTI
      obtain ⟨ct, hct0⟩ : ∃ ct : Nat, x.cols.getD i 0 = (ct : Int) := ⟨(x.cols.getD i 0).toNat, by omega⟩
      rw [hct0] at e3 HSY1 ok2
      rw [Int.toNat_natCast] at HSY1
      have hct : ct < rs.length := by rw [HN.out]; omega
      obtain ⟨okB, _, okC, _⟩ := HOK.out ct (by rw [← HN.out]; exact hct)
      have hct1 : (rs.getD ct zRow).cols.length ≤ (rs.getD ct zRow).vals.length := by rw [okB]; exact Nat.le_refl _
      have hct2 := okC
      obtain ⟨fr1, fr2⟩ := rowAt_few (HF.out.2 ct hct) k
      have hw1p : Below w1.heap.size w1 wr := hbel1.trans (below_le hbw hbel1.size)
      have HE0 := fun W (hW : Below w1.heap.size w1 W) => iEntry rs (.agg #[.slice (some ⟨b0, o0, none⟩) n c]) ct k W (HU.out W hW) HF.out hct hct1 hct2
      have HE := Lib.hid (fun W (hW : Below wr.heap.size wr W) => HE0 W (hw1p.trans (below_le hW hw1p.size)))
      clear HE0
      obtain ⟨R, hR⟩ : ∃ R, rowAt (rs.getD ct zRow) k = R := ⟨_, rfl⟩
      rw [hR] at HE HSY1 fr1 fr2
      clear hR hct okB okC hct1 hct2 hct0 ok1 ok2 hil hil2
      generalize x.vals.getD i zR = y at *
      obtain ⟨A5, c5, B5, d5, k0, k1, k2, hl5, q1, q2⟩ := hat5
      have HQ := fun W (hW : Below wr.heap.size wr W) v (hv : RatV W v R) => iRatEqual y R (.agg #[.bool y.neg, .slice A5 y.mag.length c5, .slice B5 y.den.length d5]) v W ⟨_, _, _, _, rfl, hl5, q1.later hW, q2.later hW⟩ hv fv1 fv2 fr1 fr2
      rw [← HSY1] at HQ
      clear HSY1 q1 q2 hl5 fv1 fv2 fr1 fr2
      have HSW := Lib.hid hw1p
      replace S0 := S0.later hbw
      replace S1 := S1.later hbw
      have hg0 := S0.1
      have hg1 := S1.1
      have hg4 := Nat.lt_of_lt_of_le hb4 hbw.size
      obtain ⟨a0, _⟩ := S0.k1
      obtain ⟨a1, a2, _, _⟩ := S1.k2
      have hS : Below wr.heap.size wr wr.drew := ⟨rfl, rfl, rfl, Nat.le_refl _, fun _ _ => rfl⟩
      generalize symAt rs k i = q at *
      cases q
      ·replace HQ := Lib.hid HQ
       have HFIN := Lib.hid (HNJ.out (by trivial))
       clear HTJ HNJ hw1p
       go_wp2_with fail
       go_region_held3 (fun w' => Below wr.heap.size wr w' ∧ w'.cell? ⟨w.heap.size, 0, none⟩ = some (.slice (some ⟨b0, o0, none⟩) n c) ∧ w'.cell? ⟨g1, 0, none⟩ = some (.slice (some ⟨b3, o3, none⟩) p c1) ∧ w'.cell? ⟨g1, 1, none⟩ = some (.slice (some ⟨b4, o4, none⟩) p d1) ∧ w'.cell? ⟨b4, o4 + i * 3, none⟩ = some (.bool y.neg) ∧ w'.cell? ⟨b4, o4 + i * 3 + 1, none⟩ = some (.slice A5 y.mag.length c5) ∧ w'.cell? ⟨b4, o4 + i * 3 + 2, none⟩ = some (.slice B5 y.den.length d5))
        (first | exact ⟨hS, a0, a1, a2, k0, k1, k2⟩ | exact symKeep hg0 hg1 hg4 (by assumption) (by assumption))
        (first
         | (go_at_call 44; (with_reducible refine (HQ.out _ (And.left (by assumption)) _ hv6).mono ?_); rintro e7 w7 ⟨rfl, hb7⟩)
         | (go_at_call 91; (with_reducible refine (HE.out _ (And.left (by assumption))).mono ?_); rintro e6 w6 ⟨v6, rfl, hv6', hb6⟩; have hv6 := hv6'))
       have hq := ‹Below wr.heap.size wr w7 ∧ _›.1
       have hbf := hb1.trans (below_le (HSW.out.trans (below_le hq HSW.out.size)) hb1.size)
       clear a0 a1 a2 k0 k1 k2 e3 S0 S1 hv6 hv6' hS
       go_wp2
       go_ret
       exact ⟨ret_bool HFIN.out.symm, hbf⟩
      ·replace HQ := Lib.hid HQ
       have HFIN := Lib.hid (HTJ.out (by trivial))
       clear HTJ HNJ hw1p
       go_wp2_with fail
       go_region_held3 (fun w' => Below wr.heap.size wr w' ∧ w'.cell? ⟨w.heap.size, 0, none⟩ = some (.slice (some ⟨b0, o0, none⟩) n c) ∧ w'.cell? ⟨g1, 0, none⟩ = some (.slice (some ⟨b3, o3, none⟩) p c1) ∧ w'.cell? ⟨g1, 1, none⟩ = some (.slice (some ⟨b4, o4, none⟩) p d1) ∧ w'.cell? ⟨b4, o4 + i * 3, none⟩ = some (.bool y.neg) ∧ w'.cell? ⟨b4, o4 + i * 3 + 1, none⟩ = some (.slice A5 y.mag.length c5) ∧ w'.cell? ⟨b4, o4 + i * 3 + 2, none⟩ = some (.slice B5 y.den.length d5))
        (first | exact ⟨hS, a0, a1, a2, k0, k1, k2⟩ | exact symKeep hg0 hg1 hg4 (by assumption) (by assumption))
        (first
         | (go_at_call 44; (with_reducible refine (HQ.out _ (And.left (by assumption)) _ hv6).mono ?_); rintro e7 w7 ⟨rfl, hb7⟩)
         | (go_at_call 91; (with_reducible refine (HE.out _ (And.left (by assumption))).mono ?_); rintro e6 w6 ⟨v6, rfl, hv6', hb6⟩; have hv6 := hv6'))
       have hq := ‹Below wr.heap.size wr w7 ∧ _›.1
       have hbf := hbw.trans (below_le hq hbw.size)
       clear a0 a1 a2 k0 k1 k2 e3 S0 S1 hv6 hv6' hS
       go_wp2
       go_roundw
       case rel => exact ⟨i + 1, by omega, rfl, HFIN.out, hbf⟩
       case measure => simp [intOf]; omega
def fullL (n : Nat) (E : Nat → Nat → RatD) : List (List RatD) := (List.range n).map fun p => (List.range n).map fun q => E p q
theorem fullL_len (n : Nat) (E : Nat → Nat → RatD) : (fullL n E).length = n := by simp [fullL]
theorem fullL_row {n : Nat} {E : Nat → Nat → RatD} {p : Nat} (hp : p < n) : (fullL n E).getD p [] = (List.range n).map fun q => E p q := by
 unfold fullL
 rw [List.getD_eq_getElem?_getD, List.getElem?_map, List.getElem?_range hp]
 rfl
theorem fullL_row_len {n : Nat} {E : Nat → Nat → RatD} {p : Nat} (hp : p < n) : ((fullL n E).getD p []).length = n := by
 rw [fullL_row hp]; simp
theorem fullL_get {n : Nat} {E : Nat → Nat → RatD} {p q : Nat} (hp : p < n) (hq : q < n) : ((fullL n E).getD p []).getD q zR = E p q := by
 rw [fullL_row hp, List.getD_eq_getElem?_getD, List.getElem?_map, List.getElem?_range hq]
 rfl
theorem eq_fullL {n : Nat} {E : Nat → Nat → RatD} {L : List (List RatD)} (h0 : L.length = n) (h1 : ∀ p, p < n → (L.getD p []).length = n) (h2 : ∀ p q, p < n → q < n → (L.getD p []).getD q zR = E p q) : L = fullL n E := by
 refine list_eqD (d := []) (by rw [h0, fullL_len]) (fun p hp => ?_)
 rw [fullL_len] at hp
 refine vec_same (by rw [h1 p hp, fullL_row_len hp]) (fun q hq => ?_)
 rw [fullL_row_len hp] at hq
 rw [h2 p q hp hq, fullL_get hp hq]
def spC (xs : List RatD) : Nat → List Int
 | 0 => []
 | k + 1 => if rsgn (xs.getD k zR) = 0 then spC xs k else spC xs k ++ [(k : Int)]
def spV (xs : List RatD) : Nat → List RatD
 | 0 => []
 | k + 1 => if rsgn (xs.getD k zR) = 0 then spV xs k else spV xs k ++ [xs.getD k zR]
def spRow (xs : List RatD) : RowD := ⟨spC xs xs.length, spV xs xs.length⟩
def spM (rows : List (List RatD)) : List RowD := rows.map spRow
def spOk (rows : List (List RatD)) : Bool := rows.all vok
def spR (rows : List (List RatD)) : List RowD := if spOk rows then spM rows else []
theorem spC_hit {xs : List RatD} {k : Nat} (h : rsgn (xs.getD k zR) ≠ 0) : spC xs (k + 1) = spC xs k ++ [(k : Int)] := by
 show (if rsgn (xs.getD k zR) = 0 then spC xs k else spC xs k ++ [(k : Int)]) = _
 rw [if_neg h]
theorem spV_hit {xs : List RatD} {k : Nat} (h : rsgn (xs.getD k zR) ≠ 0) : spV xs (k + 1) = spV xs k ++ [xs.getD k zR] := by
 show (if rsgn (xs.getD k zR) = 0 then spV xs k else spV xs k ++ [xs.getD k zR]) = _
 rw [if_neg h]
theorem spC_miss {xs : List RatD} {k : Nat} (h : rsgn (xs.getD k zR) = 0) : spC xs (k + 1) = spC xs k := by
 show (if rsgn (xs.getD k zR) = 0 then spC xs k else spC xs k ++ [(k : Int)]) = _
 rw [if_pos h]
theorem spV_miss {xs : List RatD} {k : Nat} (h : rsgn (xs.getD k zR) = 0) : spV xs (k + 1) = spV xs k := by
 show (if rsgn (xs.getD k zR) = 0 then spV xs k else spV xs k ++ [xs.getD k zR]) = _
 rw [if_pos h]
theorem spC_le (xs : List RatD) : ∀ k, (spC xs k).length ≤ k
 | 0 => Nat.le_refl _
 | k + 1 => by
  have := spC_le xs k
  by_cases h : rsgn (xs.getD k zR) = 0
  ·rw [spC_miss h]; omega
  ·rw [spC_hit h, List.length_append, List.length_cons, List.length_nil]; omega
theorem spV_le (xs : List RatD) : ∀ k, (spV xs k).length = (spC xs k).length
 | 0 => rfl
 | k + 1 => by
  have := spV_le xs k
  by_cases h : rsgn (xs.getD k zR) = 0
  ·rw [spC_miss h, spV_miss h]; exact this
  ·rw [spC_hit h, spV_hit h, List.length_append, List.length_append, this]; rfl
theorem spV_mem (xs : List RatD) : ∀ k, k ≤ xs.length → ∀ y ∈ spV xs k, y ∈ xs
 | 0, _ => fun y hy => by simp [spV] at hy
 | k + 1, hk => fun y hy => by
  by_cases h : rsgn (xs.getD k zR) = 0
  ·rw [spV_miss h] at hy
   exact spV_mem xs k (by omega) y hy
  ·rw [spV_hit h, List.mem_append] at hy
   rcases hy with hy | hy
   ·exact spV_mem xs k (by omega) y hy
   ·simp only [List.mem_cons, List.not_mem_nil, or_false] at hy
    rw [hy]
    have : xs[k]? = some (xs.getD k zR) := by rw [List.getD_eq_getElem?_getD, List.getElem?_eq_getElem (by omega)]; rfl
    exact List.mem_of_getElem? this
theorem spV_few {xs : List RatD} (h : Few xs) (k : Nat) (hk : k ≤ xs.length) : Few (spV xs k) := by
 refine ⟨?_, fun j hj => ?_⟩
 ·rw [spV_le]; have := spC_le xs k; have := h.1; omega
 ·have hm : (spV xs k).getD j zR ∈ spV xs k := by
   rw [List.getD_eq_getElem?_getD, List.getElem?_eq_getElem hj]; exact List.getElem_mem hj
  obtain ⟨i, hi, e⟩ := mem_getD (d := zR) (spV_mem xs k hk _ hm)
  rw [← e]
  exact h.2 i hi
theorem spM_few {rows : List (List RatD)} (h : FFew rows) : MFew (spM rows) := by
 refine ⟨by simpa [spM] using h.1, fun j hj => ?_⟩
 have hj' : j < rows.length := by simpa [spM] using hj
 have e : (spM rows).getD j zRow = spRow (rows.getD j []) := by simp [spM, hj']
 rw [e]
 have hf := h.2 j hj'
 exact ⟨by have := spC_le (rows.getD j []) (rows.getD j []).length; have := hf.1; show (spC _ _).length ≤ _; omega, spV_few hf _ (Nat.le_refl _)⟩
theorem few_full {n : Nat} {E : Nat → Nat → RatD} (hn : n ≤ 1048576) (h : ∀ p q, p < n → q < n → FE.Res (E p q)) : FFew (fullL n E) := by
 refine ⟨by rw [fullL_len]; exact hn, fun p hp => ?_⟩
 rw [fullL_len] at hp
 refine ⟨by rw [fullL_row_len hp]; exact hn, fun q hq => ?_⟩
 rw [fullL_row_len hp] at hq
 rw [fullL_get hp hq]
 exact res_few (h p q hp hq)
open Go.RowKit Go.Joins
theorem Rp.vx {w : World} {lo hi g n : Nat} {r : RatD} {va vb : Value} (h : Rp w g n n (.bool r.neg) va vb) (ha : PO w lo hi va r.mag) (hb : PO w lo hi vb r.den) (h1 : lo ≤ g) (h2 : g < hi) (hn : n ≤ maxLen) : VX w lo hi (.slice (some ⟨g, 0, none⟩) n n) (List.replicate n r) := by
 refine ⟨List.replicate n (va, vb), by simp, some ⟨g, 0, none⟩, n, by simp, by simp, hn, fun _ => ⟨g, rfl, h1, h2, h.lt, fun i => h.frozen i, fun j hj => ?_⟩⟩
 rw [List.length_replicate] at hj
 obtain ⟨c0, c1, c2⟩ := h.cells j hj
 have e1 : (List.replicate n (va, vb)).getD j zP = (va, vb) := by simp [hj]
 have e2 : (List.replicate n r).getD j zR = r := by simp [hj]
 rw [e1, e2]
 exact ⟨c0, c1, c2, ha, hb⟩
theorem Tryz.rowsInfo : (Tryz.prog.info? 28).map (fun i => (i.zero, i.size, i.bytes)) = some (some (.slice none 0 0), 1, 24) := by kernel_rfl
theorem cell_new1s (w : World) (u : Value) (T : TypeId) : ∀ j x, ([u] : List Value)[j]? = some x → (w.alloc (.cells #[u] T)).cell? ((⟨w.heap.size, 0, none⟩ : Addr).add j) = some x := by
 intro j x hj
 match j, hj with
 | 0, hj => simp at hj; subst hj; simp [Addr.add]
open Go.RowKit Go.Joins
def lenV : Value → Nat
 | .slice _ n _ => n
 | _ => 0
set_option maxRecDepth 100000 in
set_option maxHeartbeats 1600000 in
theorem sZeros (n : Nat) (hn : n ≤ 1048576) (w : World) :
 Calls Tryz.prog 153 #[.int .i64 n] w fun e w' => ∃ v ps, e = .returned v ∧ VS w' w.heap.size w'.heap.size v ps (List.replicate n (FE.rint 0)) ∧ Below w.heap.size w w' := by
 have HR := Lib.hid (fun W => (show Calls Tryz.prog 173 #[.int .i64 0] W fun e w' => ∃ v, e = .returned v ∧ RatP w' W.heap.size v (FE.rint 0) ∧ Below W.heap.size W w' from sRatFromInt_pos 0 (by decide) W))
 have hl0 := World.ownsRow_lit (base := w.heap.size) (e := 57) (size := 3) w #[] 0 (by simp) (by unfold maxLen; omega) rfl
 have hbel0 := below_alloc1 w (.cells #[] 57)
 go_enter Tryz.func153, Tryz.ntmps153
 go_wp2_with fail
 go_loopw [3] (fun o wr => ∃ i : Nat, i ≤ n ∧ lenV o = i ∧ Below w.heap.size w wr ∧ ∃ ps, VW wr w.heap.size wr.heap.size o ps (List.replicate i (FE.rint 0))) (fun o _ => n - lenV o)
 case atStart => exact ⟨0, Nat.zero_le _, rfl, hbel0, [], VW.nil _ _ _ hl0⟩
 case round =>
  clear hl0 hbel0
  obtain ⟨i, hi, hio, hb, ps, hvw⟩ := hrel
  obtain ⟨Ao, co, rfl, _⟩ := hvw.form
  clear hio
  rw [List.length_replicate]
  rw [List.length_replicate] at hvw
  have HVW := Lib.hid hvw
  clear hvw
  by_cases hin : i = n
  ·have hlf : ¬ (i < n) := by omega
   go_wp2
   go_ret
   have hvs := HVW.out.parts
   rw [Nat.max_self, hin] at hvs
   rw [hin]
   exact ⟨_, ps, rfl, hvs, hb⟩
  ·have hlt : (i : Int) < (n : Int) := by omega
   go_wp2_with fail
   refine (HR.out _).mono ?_
   rintro e w4 ⟨v4, rfl, hp4, hb4⟩
   obtain ⟨va, vb, rfl, ra, rb, hap⟩ := hp4
   obtain ⟨As, cs, ea, _⟩ := id ra
   obtain ⟨Bs, ds, eb, _⟩ := id rb
   have HPA := Lib.hid ra.io
   have HPB := Lib.hid rb.io
   have HAP := Lib.hid hap
   subst ea eb
   have al := below_alloc1 w4 (.cells #[.bool (FE.rint 0).neg, .slice As (FE.rint 0).mag.length cs, .slice Bs (FE.rint 0).den.length ds] 57)
   have S5 := Slots.new (Below.refl _ (w4.alloc (.cells #[.bool (FE.rint 0).neg, .slice As (FE.rint 0).mag.length cs, .slice Bs (FE.rint 0).den.length ds] 57))) (g := w4.heap.size) rfl
   have hb5 := below_trans hb4 al
   have hz4 := S5.1
   have hz3 := hb4.size
   have hzb := hb.size
   have HPA5 := Lib.hid ((HPA.out.later al).wide (lo' := wr.heap.size) (hi' := w4.heap.size + 1) (Nat.le_refl _) (by omega))
   have HPB5 := Lib.hid ((HPB.out.later al).wide (lo' := wr.heap.size) (hi' := w4.heap.size + 1) (Nat.le_refl _) (by omega))
   have hzz : (w4.alloc (.cells #[.bool (FE.rint 0).neg, .slice As (FE.rint 0).mag.length cs, .slice Bs (FE.rint 0).den.length ds] 57)).heap.size = w4.heap.size + 1 := by simp
   have c0 := S5.r3.1
   have c1 := S5.r3.2.1
   have c2 := S5.r3.2.2
   have HV5 := Lib.hid (HVW.out.later hb5)
   have hbb := hb.trans (hb5.mono hzb)
   clear ra rb hap S5 al HPA HPB
   go_wp2_with (at_builtin; refine appRat rfl _ _ rfl rfl HV5.out (by rw [List.length_replicate]; omega) (by omega) (FE.rint 0) _ _ w4.heap.size rfl c0 c1 c2 HPA5.out HPB5.out HAP.out (by omega) (by omega) ?_; intro v8 w8 hv8 hf8)
   have hz8 := hf8.size
   replace hv8 := hv8.wide (hi' := w8.heap.size) (by omega)
   rw [← List.replicate_succ'] at hv8
   have HLS := Lib.hid hv8
   have hb8 := hbb.trans (hf8.to_below (B := w.heap.size) (by omega) (fun b hb hs => by have := (World.ownsRow.lt HV5.out.2.1 b hs).1; omega))
   obtain ⟨A8, c8, e8, _⟩ := hv8.form
   clear hv8 hf8 c0 c1 c2
   subst e8
   go_wp2
   go_roundw
   case rel =>
    exact ⟨i + 1, by omega, by simp [lenV], hb8, _, HLS.out⟩
   case measure => simp [lenV]; omega
open Go.RowKit Go.Joins
theorem VW.cf {w w' : World} {g base hi : Nat} {v : Value} {ps : List (Value × Value)} {rs : List RatD} (h : VW w base hi v ps rs) (hf : CF g w w') (hg : g < base) : VW w' base hi v ps rs := by
 refine ⟨h.1, World.ownsRow.kept (row := some g) h.2.1 ⟨hf.os, hf.tape, hf.output, hf.size, fun k hk hn => hf.block k hk (fun e => hn (by rw [e]))⟩ ?_, fun j hj => ⟨(h.2.2.1 j hj).1.frame hf (fun b hb e => ?_), (h.2.2.1 j hj).2.frame hf (fun b hb e => ?_)⟩, h.2.2.2⟩
 ·right
  intro e
  have := (World.ownsRow.lt h.2.1 g e).1
  omega
 ·have := ((h.2.2.1 j hj).1.2 b hb).1
  omega
 ·have := ((h.2.2.1 j hj).2.2 b hb).1
  omega
theorem BI.mem {w : World} {n : Nat} {A : Option Addr} (h : BI w A n) : n ≠ 0 → ∀ a, A = some a → a.block < w.heap.size := by
 intro h0 a ha
 obtain ⟨b, o, e, hb, _⟩ := h h0
 have ha2 := e.symm.trans ha
 injection ha2 with ha2
 subst ha2
 exact hb
set_option maxRecDepth 100000 in
set_option maxHeartbeats 3200000 in
theorem sMakeVector (n c k m : Nat) (A : Option Addr) (hn : n ≤ 1048576) (hk : k ≤ 100) (hm : m ≤ 1048576) (w : World) (h : BI w A n) :
 Calls Tryz.prog 38 #[.slice A n c, .int .i64 k, .int .i64 m] w fun e w' => ∃ us : List RatD, us.length = m ∧ (∀ r ∈ us, FewR r) ∧ VRes w us e w' := by
 have HN := Lib.hid (fun W (hW : Below w.heap.size w W) => sNew31 n c (7 * k) A hn (by omega) W (h.frame (S := fun _ => False) (Frame.of_below hW) (fun _ _ _ h => h)))
 have HM := Lib.hid h.mem
 clear h
 have e3 : ((7 * k : Nat) : Int) = 7 * (k : Int) := by omega
 rw [e3] at HN
 clear e3
 go_enter Tryz.func38, Tryz.ntmps38
 go_wp2_with fail
 refine (HN.out _ (Below.refl _ _)).mono ?_
 rintro e w1 ⟨g, rfl, hg, hc, hb⟩
 have HC := Lib.hid hc
 have hg1 := hc.lt
 have hl0 := World.ownsRow_lit (base := w1.heap.size) (e := 57) (size := 3) w1 #[] 0 (by simp) (by unfold maxLen; omega) rfl
 have hbel0 := below_alloc1 w1 (.cells #[] 57)
 have hc2 := hc.later hbel0
 have hb2 := below_trans hb hbel0
 have hB := hbel0.size
 clear hc HC hb
 go_wp2_with fail
 generalize w1.alloc (.cells #[] 57) = w2 at *
 generalize w1.heap.size = B at *
 go_loopw [8] (fun o wr => ∃ us ps, us.length ≤ m ∧ (∀ r ∈ us, FewR r) ∧ VW wr B wr.heap.size o ps us ∧ Cu wr g A n c ∧ Below w.heap.size w wr ∧ B ≤ wr.heap.size) (fun o _ => m - lenV o)
 case atStart => exact ⟨[], [], Nat.zero_le _, fun r hr => by simp at hr, VW.nil _ _ _ hl0, hc2, hb2, hB⟩
 case round =>
  clear hl0 hc2 hb2 hB hbel0
  obtain ⟨us, ps, hk2, hF, hvw, hc, hbw, hB⟩ := hrel
  obtain ⟨Ao, co, rfl, _⟩ := hvw.form
  have HF := Lib.hid hF
  have HC := Lib.hid hc
  obtain ⟨q, hq⟩ : ∃ q, us.length = q := ⟨_, rfl⟩
  have HQ := Lib.hid hq
  rw [hq] at hvw hk2 ⊢
  have HVW := Lib.hid hvw
  clear hF hc hvw hq
  by_cases hkn : q = m
  ·have hlf : ¬ (q : Int) < (m : Int) := by omega
   go_wp2
   go_ret
   exact ⟨us, by rw [HQ.out, hkn], HF.out, _, ps, by rw [hkn]; rfl, HVW.out.parts.wide (lo' := w.heap.size) (by omega) (by simp), HVW.out.2.2.2, hbw⟩
  ·have hlt : (q : Int) < (m : Int) := by omega
   go_wp2_with fail
   refine (sFew4 g n c A _ HC.out).mono ?_
   rintro e w5 ⟨v5, y, rfl, hF5, hr5, hc5, hf5⟩
   have hbw5 := hbw.trans (hf5.below hbw.size (by omega))
   have hz5 := hf5.size
   have HV5 := Lib.hid (HVW.out.cf hf5 (by omega))
   have HC5 := Lib.hid hc5
   clear HC HVW hc5 hf5
   obtain ⟨A9, n9, c9, B9, m9, d9, rfl⟩ := hr5.shape
   have al9 := below_alloc1 w5 (.cells #[.bool y.neg, .slice A9 n9 c9, .slice B9 m9 d9] 57)
   have Z9 := Slots.new (Below.refl _ (w5.alloc (.cells #[.bool y.neg, .slice A9 n9 c9, .slice B9 m9 d9] 57))) (g := w5.heap.size) rfl
   obtain ⟨c0, c1', c2', _, _, _⟩ := Z9.c3
   have hbw9 := below_trans hbw5 al9
   have HVX := Lib.hid (HV5.out.later al9)
   have HCX := Lib.hid (HC5.out.later al9)
   obtain ⟨va, vb, ev, ra, rb, hap⟩ := hr5
   injection ev with ev
   injection ev with ev
   injection ev with ev0 ev
   injection ev with ev1 ev
   injection ev with ev2 _
   subst ev1 ev2
   clear ev0
   have ia := (ra.io.later al9).wide (lo' := wr.heap.size) (hi' := w5.heap.size + 1) (by simp) (by omega)
   have ib := (rb.io.later al9).wide (lo' := wr.heap.size) (hi' := w5.heap.size + 1) (by simp) (by omega)
   clear Z9 ra rb al9 HV5 HC5
   go_wp2_with (at_builtin; refine appRat rfl _ _ rfl rfl HVX.out (by rw [HQ.out]; omega) (by simp; omega) y _ _ w5.heap.size rfl c0 c1' c2' ia ib hap (by omega) (by omega) ?_; intro v9 w9 hvw9 hfr9)
   have hown := fun b hs => (World.ownsRow.lt HVX.out.2.1 b hs).1
   have hbel9 := hbw9.trans (hfr9.to_below (B := w.heap.size) (by have := hbw9.size; omega) (fun b hb hs => by have := hown b hs; omega))
   have hcu9 := HCX.out.frame hfr9 (fun hs => by have := hown g hs; omega) (fun h0 a ha hs => by have := hown _ hs; have := HM.out h0 a ha; have := hbw.size; omega)
   have hvw9' := hvw9.wide (hi' := w9.heap.size) (by have := hfr9.size; simp at this; omega)
   have hB9 := hfr9.size
   simp only [World.size_alloc] at hB9
   clear c0 c1' c2' hvw9 hfr9
   obtain ⟨Av, cv, rfl, _⟩ := hvw9'.form
   go_roundw
   case rel => exact ⟨us ++ [y], _, by simp [HQ.out]; omega, fun r hr => (List.mem_append.1 hr).elim (HF.out r) (fun h => by simp at h; rw [h]; exact hF5), hvw9', hcu9, hbel9, by omega⟩
   case measure => simp [lenV, HQ.out]; omega
open Go.RowKit Go.Joins
open Go.RowKit Go.Joins
theorem own_kept {S : Nat → Prop} {w w' : World} {base size n : Nat} {e : TypeId} {v : Value} {xs : List Value} (h : w.ownsRow base e size v n xs) (hf : Frame S w w') (hs : ∀ b, v.ownBlock = some b → ¬ S b) : w'.ownsRow base e size v n xs := by
 refine ⟨h.1, ?_⟩
 rcases h.2 with hn | ⟨g, cap, cur, rfl, hbs, hgg, rest⟩
 ·exact .inl hn
 ·exact .inr ⟨g, cap, cur, rfl, hbs, (hf.block g (Array.getElem?_eq_some_iff.1 hgg).1 (hs g rfl)).trans hgg, rest⟩
theorem own_ne {w : World} {b1 b2 s1 s2 n1 n2 : Nat} {e1 e2 : TypeId} {u v : Value} {xs ys : List Value} (h : w.ownsRow b1 e1 s1 u n1 xs) (k : w.ownsRow b2 e2 s2 v n2 ys) (he : e1 ≠ e2) {b : Nat} (hb : u.ownBlock = some b) : v.ownBlock ≠ some b := by
 intro h'
 rcases h.2 with ⟨rfl, _⟩ | ⟨g, cap, cur, rfl, _, hg, _⟩
 ·cases hb
 ·rcases k.2 with ⟨rfl, _⟩ | ⟨g', cap', cur', rfl, _, hg', _⟩
  ·cases h'
  ·injection hb with hb
   injection h' with h'
   simp only at hb h'
   subst hb h'
   rw [hg] at hg'
   injection hg' with hg'
   injection hg' with _ e
   exact he e
theorem blk_own {w : World} {base size n : Nat} {e : TypeId} {v : Value} {xs : List Value} (h : w.ownsRow base e size v n xs) {b : Nat} (hb : blk v = some b) : v.ownBlock = some b := by
 rcases h.2 with ⟨rfl, _⟩ | ⟨g, cap, cur, rfl, _, hg, _⟩
 ·cases hb
 ·by_cases hn : n = 0
  ·subst hn
   rw [blk_nil] at hb
   cases hb
  ·rw [blk_slice hn] at hb
   injection hb with hb
   simp only at hb
   subst hb
   rfl
def CV (w : World) (lo : Nat) (vc vv : Value) (ps : List (Value × Value)) (cols : List Int) (vals : List RatD) : Prop :=
 OI w lo vc cols ∧ VW w lo w.heap.size vv ps vals ∧ ∀ b, vc.ownBlock = some b → ∀ j, j < ps.length → blk (ps.getD j zP).1 ≠ some b ∧ blk (ps.getD j zP).2 ≠ some b
theorem CV.nil (w : World) (lo : Nat) : CV w lo (.slice none 0 0) (.slice none 0 0) [] [] [] :=
 ⟨OI.nil w lo, VW.nil _ _ _ (World.ownsRow_nil w lo 57 3), (fun b hb => by cases hb)⟩
theorem CV.later {w w' : World} {lo : Nat} {vc vv : Value} {ps : List (Value × Value)} {cols : List Int} {vals : List RatD} (h : CV w lo vc vv ps cols vals) (hb : Below w.heap.size w w') : CV w' lo vc vv ps cols vals :=
 ⟨h.1.later hb, (h.2.1.later hb).wide hb.size, h.2.2⟩
theorem CV.frame {S : Nat → Prop} {w w' : World} {lo : Nat} {vc vv : Value} {ps : List (Value × Value)} {cols : List Int} {vals : List RatD} (h : CV w lo vc vv ps cols vals) (hf : Frame S w w') (hs : ∀ b, lo ≤ b → b < w.heap.size → ¬ S b) : CV w' lo vc vv ps cols vals := by
 obtain ⟨h1, ⟨k0, k1, k2, k3⟩, h3⟩ := h
 refine ⟨own_kept h1 hf (fun b hb => hs b (own_lt h1 hb).1 (own_lt h1 hb).2), ⟨k0, own_kept k1 hf (fun b hb => hs b (own_lt k1 hb).1 (own_lt k1 hb).2), fun j hj => ?_, k3⟩, h3⟩
 have := k2 j hj
 exact ⟨(this.1.frame hf (fun b hb => hs b (this.1.2 b hb).1 (this.1.2 b hb).2)).wide (Nat.le_refl _) hf.size, (this.2.frame hf (fun b hb => hs b (this.2.2 b hb).1 (this.2.2 b hb).2)).wide (Nat.le_refl _) hf.size⟩
theorem CV.forms {w : World} {lo : Nat} {vc vv : Value} {ps : List (Value × Value)} {cols : List Int} {vals : List RatD} (h : CV w lo vc vv ps cols vals) : ∃ A c B d, vc = .slice A cols.length c ∧ vv = .slice B vals.length d := by
 obtain ⟨A, c, e1, _⟩ := own_slice h.1
 obtain ⟨B, d, e2, _⟩ := h.2.1.form
 exact ⟨A, c, B, d, e1, e2⟩
theorem CV.col {w w' : World} {lo : Nat} {vc vc' vv : Value} {ps : List (Value × Value)} {cols : List Int} {vals : List RatD} {x : Int} (h : CV w lo vc vv ps cols vals)
 (hown : w'.ownsRow lo 3 1 vc' (cols.length + 1) (cols.map (Value.int .i64) ++ [.int .i64 x])) (hf : Frame (fun b => vc.ownBlock = some b) w w') (hob : vc'.ownBlock = vc.ownBlock ∨ vc'.ownBlock = some w.heap.size) : CV w' lo vc' vv ps (cols ++ [x]) vals := by
 obtain ⟨h1, ⟨k0, k1, k2, k3⟩, h3⟩ := h
 have hs := hf.size
 refine ⟨by simpa [OI] using hown, ⟨k0, own_kept k1 hf (fun b hb hc => own_ne h1 k1 (by decide) hc hb), fun j hj => ?_, k3⟩, fun b hb j hj => ?_⟩
 ·have := k2 j hj
  exact ⟨(this.1.frame hf (fun b hb hc => (h3 b hc j (by omega)).1 hb)).wide (Nat.le_refl _) hs, (this.2.frame hf (fun b hb hc => (h3 b hc j (by omega)).2 hb)).wide (Nat.le_refl _) hs⟩
 ·rcases hob with e | e
  ·rw [e] at hb
   exact h3 b hb j hj
  ·rw [e] at hb
   injection hb with hb
   have := k2 j (by omega)
   exact ⟨fun hc => by have := (this.1.2 b hc).2; omega, fun hc => by have := (this.2.2 b hc).2; omega⟩
theorem CV.val {w w' : World} {lo hi2 : Nat} {vc vv vv' : Value} {ps : List (Value × Value)} {cols : List Int} {vals : List RatD} {va vb : Value} {r : RatD} {k : Nat} (h : CV w lo vc vv ps cols vals)
 (hk : ∀ b, vc.ownBlock = some b → b < k) (ha : ∀ b, blk va = some b → k ≤ b) (hb' : ∀ b, blk vb = some b → k ≤ b)
 (hv : VW w' lo hi2 vv' (ps ++ [(va, vb)]) (vals ++ [r])) (hh : hi2 ≤ w'.heap.size) (hf : Frame (fun b => vv.ownBlock = some b) w w') : CV w' lo vc vv' (ps ++ [(va, vb)]) cols (vals ++ [r]) := by
 obtain ⟨h1, ⟨k0, k1, k2, k3⟩, h3⟩ := h
 refine ⟨own_kept h1 hf (fun b hb hc => own_ne k1 h1 (by decide) hc hb), hv.wide hh, fun b hb j hj => ?_⟩
 rw [List.length_append, List.length_cons, List.length_nil] at hj
 by_cases e : j < ps.length
 ·rw [ls_getl e]
  exact h3 b hb j e
 ·rw [show j = ps.length by omega, ls_getr]
  have := hk b hb
  exact ⟨fun hc => by have := ha b hc; omega, fun hc => by have := hb' b hc; omega⟩
def cellsM (qs : List RowP) : List Value := qs.flatMap fun q => [q.ca, q.va]
theorem cellsM_snoc (qs : List RowP) (q : RowP) : cellsM (qs ++ [q]) = cellsM qs ++ [q.ca, q.va] := by simp [cellsM]
theorem cellsM_get : ∀ (qs : List RowP) (j : Nat), j < qs.length → (cellsM qs)[j * 2]? = some (qs.getD j zRP).ca ∧ (cellsM qs)[j * 2 + 1]? = some (qs.getD j zRP).va
 | q :: qs, 0, _ => by simp [cellsM]
 | q :: qs, j + 1, h => by
  have := cellsM_get qs j (by simpa using h)
  have e : cellsM (q :: qs) = q.ca :: q.va :: cellsM qs := rfl
  rw [e, show (j + 1) * 2 = j * 2 + 1 + 1 by omega, show j * 2 + 1 + 1 + 1 = (j * 2 + 1) + 1 + 1 by omega]
  simpa using this
def MW (w : World) (base hi : Nat) (v : Value) (qs : List RowP) (rs : List RowD) : Prop :=
 qs.length = rs.length ∧ ApM qs ∧ w.ownsRow base 130 2 v rs.length (cellsM qs) ∧ (∀ b, v.ownBlock = some b → b < hi) ∧ hi ≤ w.heap.size ∧
  ∀ j, j < rs.length → PO w base hi (qs.getD j zRP).ca (rs.getD j zRow).cols ∧ VS w base hi (qs.getD j zRP).va (qs.getD j zRP).ps (rs.getD j zRow).vals
theorem MW.nil (w : World) (base hi : Nat) (h : hi ≤ w.heap.size) : MW w base hi (.slice none 0 0) [] [] :=
 ⟨rfl, ⟨fun j hj => by simp at hj, fun i j hi => by simp at hi⟩, World.ownsRow_nil w base 130 2, (fun b hb => by cases hb), h, fun j hj => by simp at hj⟩
theorem MW.form {w : World} {base hi : Nat} {v : Value} {qs : List RowP} {rs : List RowD} (h : MW w base hi v qs rs) : ∃ A c, v = .slice A rs.length c := by
 obtain ⟨A, c, e, _⟩ := own_slice h.2.2.1
 exact ⟨A, c, e⟩
theorem MW.belowLo {w w' : World} {base hi : Nat} {v : Value} {qs : List RowP} {rs : List RowD} (h : MW w base hi v qs rs) (hb : Below hi w w') : MW w' base hi v qs rs := by
 obtain ⟨h0, ha, ho, hob, hsz, hr⟩ := h
 have hf : Frame (fun b => hi ≤ b) w w' := ⟨hb.os, hb.tape, hb.output, hb.size, fun b _ hn => hb.block b (by omega)⟩
 refine ⟨h0, ha, own_kept ho hf (fun b hb' h' => by have := hob b hb'; omega), hob, Nat.le_trans hsz hb.size, fun j hj => ?_⟩
 obtain ⟨k1, k2⟩ := hr j hj
 exact ⟨k1.frame hf (fun b hb' h' => by have := (k1.2 b hb').2; omega), k2.frame hf (fun b hb' h' => by have := (k2.foot hb').2; omega)⟩
theorem MW.far {w w' : World} {base hi g : Nat} {v : Value} {qs : List RowP} {rs : List RowD} (h : MW w base hi v qs rs) (hf : Frame (fun b => b = g) w w') (hg : g < base) : MW w' base hi v qs rs := by
 obtain ⟨h0, ha, ho, hob, hsz, hr⟩ := h
 refine ⟨h0, ha, own_kept ho hf (fun b hb' h' => by have := (own_lt ho hb').1; omega), hob, Nat.le_trans hsz hf.size, fun j hj => ?_⟩
 obtain ⟨k1, k2⟩ := hr j hj
 exact ⟨k1.frame hf (fun b hb' h' => by have := (k1.2 b hb').1; omega), k2.frame hf (fun b hb' h' => by have := (k2.foot hb').1; omega)⟩
theorem MW.snoc {w w' : World} {base lo hi : Nat} {v v' vc vv : Value} {qs : List RowP} {rs : List RowD} {ps : List (Value × Value)} {x : RowD} (h : MW w base hi v qs rs) (hx : CV w lo vc vv ps x.cols x.vals) (hh : hi ≤ lo) (hbase : base ≤ hi)
 (hown : w'.ownsRow base 130 2 v' (rs.length + 1) (cellsM qs ++ [vc, vv])) (hf : Frame (fun b => v.ownBlock = some b) w w') : MW w' base w'.heap.size v' (qs ++ [⟨vc, vv, ps⟩]) (rs ++ [x]) := by
 obtain ⟨h0, ha, ho, hob, hsz, hr⟩ := h
 obtain ⟨c1, c2, c3⟩ := hx
 have hs := hf.size
 have po : PO w lo w.heap.size vc x.cols := (RO.of_own c1).io
 have vs : VS w lo w.heap.size vv ps x.vals := by have := c2.parts; rwa [Nat.max_self] at this
 have footR : ∀ j, j < rs.length → ∀ b, FootR (qs.getD j zRP) b → b < hi := fun j hj b hb => by
  rcases hb with hb | hb
  ·exact ((hr j hj).1.2 b hb).2
  ·exact ((hr j hj).2.foot hb).2
 have footN : ∀ b, FootR ⟨vc, vv, ps⟩ b → lo ≤ b := fun b hb => by
  rcases hb with hb | hb
  ·exact (po.2 b hb).1
  ·exact (vs.foot hb).1
 refine ⟨by simp [h0], ⟨fun j hj => ?_, fun i j hi' hj hij b hb hb' => ?_⟩, ?_, fun b hb => (own_lt hown hb).2, Nat.le_refl _, fun j hj => ?_⟩
 ·rw [List.length_append, List.length_cons, List.length_nil] at hj
  by_cases e : j < qs.length
  ·rw [ls_getl e]; exact ha.1 j e
  ·rw [show j = qs.length by omega, ls_getr]
   refine ⟨c2.2.2.2, fun b hb hb' => ?_⟩
   have hbo := blk_own c1 hb
   rcases hb' with hb' | ⟨p, hp, hb'⟩
   ·exact own_ne c1 c2.2.1 (by decide) hbo (blk_own c2.2.1 hb')
   ·rcases hb' with hb' | hb'
    ·exact (c3 b hbo p hp).1 hb'
    ·exact (c3 b hbo p hp).2 hb'
 ·rw [List.length_append, List.length_cons, List.length_nil] at hi' hj
  by_cases e1 : i < qs.length <;> by_cases e2 : j < qs.length
  ·rw [ls_getl e1] at hb
   rw [ls_getl e2] at hb'
   exact ha.2 i j e1 e2 hij b hb hb'
  ·rw [ls_getl e1] at hb
   rw [show j = qs.length by omega, ls_getr] at hb'
   have := footR i (by omega) b hb
   have := footN b hb'
   omega
  ·rw [ls_getl e2] at hb'
   rw [show i = qs.length by omega, ls_getr] at hb
   have := footR j (by omega) b hb'
   have := footN b hb
   omega
  ·omega
 ·rw [cellsM_snoc, List.length_append, List.length_cons, List.length_nil]
  exact hown
 ·rw [List.length_append, List.length_cons, List.length_nil] at hj
  by_cases e : j < rs.length
  ·rw [ls_getl (h0 ▸ e), ls_getl e]
   obtain ⟨k1, k2⟩ := hr j e
   refine ⟨(k1.frame hf (fun b hb hs' => ne_row k1 ho (by decide) hb hs')).wide (Nat.le_refl _) (by omega), (k2.frame hf (fun b hb hs' => ?_)).wide (Nat.le_refl _) (by omega)⟩
   obtain ⟨u, hu, hc⟩ := own_cell0 ho (by rw [ho.1]; omega) hs'
   have h00 := (cellsM_get qs 0 (by omega)).1
   rw [Nat.zero_mul, hu] at h00
   injection h00 with h00
   obtain ⟨A0, c0, e0, _⟩ := (hr 0 (by omega)).1.form
   rw [h00, e0] at hc
   exact k2.not_slice hc hb
  ·rw [show j = rs.length by omega, ls_getr, ← h0, ls_getr]
   exact ⟨(po.frame hf (fun b hb hs' => by have := (po.2 b hb).1; have := hob b hs'; omega)).wide (by omega) hs, (vs.frame hf (fun b hb hs' => by have := (vs.foot hb).1; have := hob b hs'; omega)).wide (by omega) hs⟩
theorem MW.ms {w : World} {base hi : Nat} {v : Value} {qs : List RowP} {rs : List RowD} (h : MW w base hi v qs rs) : MS w base w.heap.size v qs rs := by
 obtain ⟨h0, ha, ho, hob, hsz, hr⟩ := h
 obtain ⟨A, c, e, h1, h2, h3⟩ := own_slice ho
 refine ⟨h0, A, c, e, h1, h2, fun hx => ?_⟩
 obtain ⟨g, eA, hg⟩ := h3 (List.length_pos_iff.2 hx)
 have hl := own_lt ho hg
 refine ⟨g, eA, hl.1, hl.2, hl.2, fun j hj => ?_⟩
 subst e eA
 obtain ⟨k1, k2⟩ := hr j hj
 obtain ⟨c0, c1⟩ := cellsM_get qs j (by omega)
 exact ⟨(ho.cellAt (g := g) (j * 2) (by omega)).trans c0, (ho.cellAt (g := g) (j * 2 + 1) (by omega)).trans c1, k1.wide (Nat.le_refl _) hsz, k2.wide (Nat.le_refl _) hsz⟩
def MZ (w : World) (lo hi : Nat) (v : Value) (rs : List RowD) : Prop := ∃ u qs, v = .agg #[u] ∧ MS w lo hi u qs rs ∧ ApM qs
theorem MZ.form {w : World} {lo hi : Nat} {v : Value} {rs : List RowD} (h : MZ w lo hi v rs) : ∃ A c, v = .agg #[.slice A rs.length c] := by
 obtain ⟨u, qs, rfl, h, _⟩ := h
 obtain ⟨A, c, rfl, _⟩ := h.form
 exact ⟨A, c, rfl⟩
theorem MS.frame {S : Nat → Prop} {w w' : World} {lo hi : Nat} {v : Value} {qs : List RowP} {rs : List RowD} (h : MS w lo hi v qs rs) (hf : Frame S w w') (hs : ∀ b, lo ≤ b → b < hi → ¬ S b) : MS w' lo hi v qs rs := by
 obtain ⟨hp, A, c, rfl, h1, h2, h3⟩ := id h
 refine ⟨hp, A, c, rfl, h1, h2, fun hx => ?_⟩
 obtain ⟨g, rfl, k1, k2, k3, ke⟩ := h3 hx
 exact ⟨g, rfl, k1, k2, Nat.lt_of_lt_of_le k3 hf.size, fun j hj => (ke j hj).frame hf k3 (hs g k1 k2) (fun b hb => by
  have := h.foot ⟨j, by omega, hb⟩
  exact hs b this.1 this.2)⟩
theorem MZ.frame {S : Nat → Prop} {w w' : World} {lo hi : Nat} {v : Value} {rs : List RowD} (h : MZ w lo hi v rs) (hf : Frame S w w') (hs : ∀ b, lo ≤ b → b < hi → ¬ S b) : MZ w' lo hi v rs := by
 obtain ⟨u, qs, rfl, h, ha⟩ := h
 exact ⟨u, qs, rfl, h.frame hf hs, ha⟩
theorem MZ.later {w w' : World} {lo hi : Nat} {v : Value} {rs : List RowD} (h : MZ w lo hi v rs) (hb : Below w.heap.size w w') : MZ w' lo hi v rs := h.frame (Frame.of_below (S := fun _ => False) hb) (fun _ _ _ h => h)
theorem MZ.reads {w : World} {lo hi : Nat} {v : Value} {rs : List RowD} (h : MZ w lo hi v rs) : MatV w v rs := by
 obtain ⟨u, qs, rfl, h, _⟩ := h
 obtain ⟨A, c, rfl, h1, h2⟩ := h.form
 exact ⟨A, c, rfl, ⟨h1, h2⟩, h.reads⟩
theorem MZ.nil (w : World) (lo hi : Nat) : MZ w lo hi (.agg #[.slice none 0 0]) [] :=
 ⟨_, [], rfl, ⟨rfl, none, 0, rfl, Nat.le_refl _, Nat.zero_le _, fun h => absurd rfl h⟩, fun j hj => by simp at hj, fun i j hi => by simp at hi⟩
theorem MS.wide {w : World} {lo hi lo' hi' : Nat} {v : Value} {qs : List RowP} {rs : List RowD} (h : MS w lo hi v qs rs) (j1 : lo' ≤ lo) (j2 : hi ≤ hi') : MS w lo' hi' v qs rs := by
 obtain ⟨hp, A, c, rfl, h1, h2, h3⟩ := h
 refine ⟨hp, A, c, rfl, h1, h2, fun hx => ?_⟩
 obtain ⟨g, rfl, k1, k2, k3, ke⟩ := h3 hx
 exact ⟨g, rfl, by omega, by omega, k3, fun j hj => ⟨(ke j hj).1, (ke j hj).2.1, (ke j hj).2.2.1.wide j1 j2, (ke j hj).2.2.2.wide j1 j2⟩⟩
def MPost (w : World) (R : List RowD) (x : Value) (e : Ending) (w' : World) : Prop := ∃ v, e = .returned (.tuple #[v, x]) ∧ MZ w' w.heap.size w'.heap.size v R ∧ Below w.heap.size w w'
end Go.Proofs.YtlpomcihkjiokaaGreat
