/-
 Shared texts (H7).
-/
import Derived.Test.YtlpomcihkjiokaaGreatH6
import Derived.Maps.AppendAt
import Derived.Test.YtlpomcihkjiokaaGreatH5
import Derived.Deep.DeepCutAuto
import Derived.Test.YtlpomcihkjiokaaGreatH1
import Derived.Test.YtlpomcihkjiokaaGreatH4
import Derived.Test.YtlpomcihkjiokaaGreatH3
namespace Go.Proofs.YtlpomcihkjiokaaGreat
open Go.RowKit Go.Joins
def cellsP (r : RatD) (p : Value × Value) : List Value := [.bool r.neg, p.1, p.2]
def cellsV : List (Value × Value) → List RatD → List Value
 | p :: ps, r :: rs => cellsP r p ++ cellsV ps rs
 | _, _ => []
theorem cellsV_snoc : ∀ {ps : List (Value × Value)} {rs : List RatD} (p : Value × Value) (r : RatD), ps.length = rs.length → cellsV (ps ++ [p]) (rs ++ [r]) = cellsV ps rs ++ cellsP r p
 | [], [], p, r, _ => by simp [cellsV]
 | _ :: _, _ :: _, p, r, h => by simp only [List.cons_append, cellsV, cellsV_snoc p r (Nat.succ.inj h), List.append_assoc]
 | [], _ :: _, _, _, h => by cases h
 | _ :: _, [], _, _, h => by cases h
theorem cellsV_get : ∀ {ps : List (Value × Value)} {rs : List RatD} (j : Nat), ps.length = rs.length → j < rs.length →
 (cellsV ps rs)[j * 3]? = some (.bool (rs.getD j zR).neg) ∧ (cellsV ps rs)[j * 3 + 1]? = some (ps.getD j zP).1 ∧ (cellsV ps rs)[j * 3 + 2]? = some (ps.getD j zP).2
 | p :: ps, r :: rs, 0, _, _ => by simp [cellsV, cellsP]
 | p :: ps, r :: rs, j + 1, h, hj => by
  have := cellsV_get (ps := ps) (rs := rs) j (Nat.succ.inj h) (by simpa using hj)
  simp only [cellsV, cellsP, List.cons_append, List.nil_append]
  rw [show (j + 1) * 3 = j * 3 + 1 + 1 + 1 by omega, show j * 3 + 1 + 1 + 1 + 1 = (j * 3 + 1) + 1 + 1 + 1 by omega, show j * 3 + 1 + 1 + 1 + 2 = (j * 3 + 2) + 1 + 1 + 1 by omega]
  simpa using this
 | [], _ :: _, _, h, _ => by cases h
 | _ :: _, [], _, h, _ => by cases h
 | [], [], _, _, hj => by simp at hj
def VW (w : World) (base hi : Nat) (v : Value) (ps : List (Value × Value)) (rs : List RatD) : Prop :=
 ps.length = rs.length ∧ w.ownsRow base 57 3 v rs.length (cellsV ps rs) ∧ (∀ j, j < rs.length → PO w base hi (ps.getD j zP).1 (rs.getD j zR).mag ∧ PO w base hi (ps.getD j zP).2 (rs.getD j zR).den) ∧ Aps ps
theorem VW.later {w w' : World} {base hi : Nat} {v : Value} {ps : List (Value × Value)} {rs : List RatD} (h : VW w base hi v ps rs) (hb : Below w.heap.size w w') : VW w' base hi v ps rs :=
 ⟨h.1, World.ownsRow.kept (row := none) h.2.1 ⟨hb.os, hb.tape, hb.output, hb.size, fun k hk _ => hb.block k hk⟩ (by cases v.ownBlock <;> simp), fun j hj => ⟨(h.2.2.1 j hj).1.later hb, (h.2.2.1 j hj).2.later hb⟩, h.2.2.2⟩
theorem VW.drew {w : World} {base hi : Nat} {v : Value} {ps : List (Value × Value)} {rs : List RatD} (h : VW w base hi v ps rs) : VW w.drew base hi v ps rs := h
theorem VW.wide {w : World} {base hi hi' : Nat} {v : Value} {ps : List (Value × Value)} {rs : List RatD} (h : VW w base hi v ps rs) (hh : hi ≤ hi') : VW w base hi' v ps rs :=
 ⟨h.1, h.2.1, fun j hj => ⟨(h.2.2.1 j hj).1.wide (Nat.le_refl _) hh, (h.2.2.1 j hj).2.wide (Nat.le_refl _) hh⟩, h.2.2.2⟩
theorem aps_nil : Aps [] := ⟨fun j hj => by simp at hj, fun i j hi => by simp at hi⟩
theorem VW.nil (w : World) (base hi : Nat) {v : Value} (h : w.ownsRow base 57 3 v 0 []) : VW w base hi v [] [] := ⟨rfl, h, fun j hj => by simp at hj, aps_nil⟩
theorem VW.form {w : World} {base hi : Nat} {v : Value} {ps : List (Value × Value)} {rs : List RatD} (h : VW w base hi v ps rs) : ∃ A c, v = .slice A rs.length c ∧ rs.length ≤ c ∧ c ≤ maxLen := by
 rcases h.2.1.2 with ⟨rfl, h0⟩ | ⟨g, cap, cur, rfl, _, _, h1, h2, _⟩
 ·exact ⟨none, 0, by rw [h0], by omega, Nat.zero_le _⟩
 ·exact ⟨_, cap, rfl, h1, h2⟩
theorem ne_row {w : World} {lo hi base size n : Nat} {va v : Value} {xs : List Int} {ys : List Value} {e : TypeId} (h : PO w lo hi va xs) (ho : w.ownsRow base e size v n ys) (he : e ≠ 3) {b : Nat} (hb : blk va = some b) : v.ownBlock ≠ some b := by
 intro h'
 obtain ⟨_, _, c, _, rest, _, _, hh⟩ := h.1.at_blk hb
 rcases ho.2 with ⟨rfl, _⟩ | ⟨g, cap, cur, rfl, _, hg, _⟩
 ·cases h'
 ·injection h' with h'
  simp only at h'
  subst h'
  rw [hh] at hg
  injection hg with hg
  injection hg with _ hg
  exact he hg.symm
theorem VW.parts {w : World} {base hi : Nat} {v : Value} {ps : List (Value × Value)} {rs : List RatD} (h : VW w base hi v ps rs) : VS w base (max hi w.heap.size) v ps rs := by
 obtain ⟨A, c, hv, h1, h2⟩ := h.form
 refine ⟨h.1, A, c, hv, h1, h2, fun hx => ?_⟩
 have hl := List.length_pos_iff.2 hx
 rcases h.2.1.2 with ⟨rfl, h0⟩ | ⟨g, cap, cur, rfl, hb, hh, k1, k2, k3, k4⟩
 ·omega
 ·injection hv with e1 e2 e3
  subst e1
  have hlt := (Array.getElem?_eq_some_iff.1 hh).1
  refine ⟨g, rfl, hb, by omega, hlt, fun i => h.2.1.frozenAt i, fun j hj => ?_⟩
  obtain ⟨g0, g1, g2⟩ := cellsV_get j h.1 hj
  exact ⟨(h.2.1.cellAt _ (by omega)).trans g0, (h.2.1.cellAt _ (by omega)).trans g1, (h.2.1.cellAt _ (by omega)).trans g2, (h.2.2.1 j hj).1.wide (Nat.le_refl _) (by omega), (h.2.2.1 j hj).2.wide (Nat.le_refl _) (by omega)⟩
theorem VW.reads {w : World} {base hi n c : Nat} {A : Option Addr} {ps : List (Value × Value)} {rs : List RatD} (h : VW w base hi (.slice A n c) ps rs) : VI w A rs := h.parts.reads
theorem aps_snoc {ps : List (Value × Value)} {p : Value × Value} {_base hi : Nat} (h : Aps ps) (hp : Apart p.1 p.2) (ho : ∀ j, j < ps.length → (∀ b, blk (ps.getD j zP).1 = some b → b < hi) ∧ ∀ b, blk (ps.getD j zP).2 = some b → b < hi)
 (hn : (∀ b, blk p.1 = some b → hi ≤ b) ∧ ∀ b, blk p.2 = some b → hi ≤ b) : Aps (ps ++ [p]) := by
 have ap : ∀ {u v : Value}, (∀ b, blk u = some b → b < hi) → (∀ b, blk v = some b → hi ≤ b) → Apart u v := by
  intro u v h1 h2 a n c b m d e1 e2 hn hm e
  subst e1 e2
  have k1 := h1 _ (blk_slice (c := c) hn)
  have k2 := h2 _ (blk_slice (c := d) hm)
  omega
 have gl : ∀ j, j < ps.length → (ps ++ [p]).getD j zP = ps.getD j zP := fun j hj => by simp [List.getElem?_append_left, hj]
 have gr : (ps ++ [p]).getD ps.length zP = p := by simp
 constructor
 ·intro j hj
  rw [List.length_append, List.length_cons, List.length_nil] at hj
  by_cases e : j < ps.length
  ·rw [gl j e]; exact h.1 j e
  ·rw [show j = ps.length by omega, gr]; exact hp
 ·intro i j hi' hj hij
  rw [List.length_append, List.length_cons, List.length_nil] at hi' hj
  by_cases e1 : i < ps.length <;> by_cases e2 : j < ps.length
  ·rw [gl i e1, gl j e2]; exact h.2 i j e1 e2 hij
  ·rw [gl i e1, show j = ps.length by omega, gr]
   exact ⟨ap (ho i e1).1 hn.1, ap (ho i e1).1 hn.2, ap (ho i e1).2 hn.1, ap (ho i e1).2 hn.2⟩
  ·rw [gl j e2, show i = ps.length by omega, gr]
   exact ⟨(ap (ho j e2).1 hn.1).symm, (ap (ho j e2).2 hn.1).symm, (ap (ho j e2).1 hn.2).symm, (ap (ho j e2).2 hn.2).symm⟩
  ·omega
theorem Tryz.ratInfo : (Tryz.prog.info? 57).map (fun i => (i.zero, i.size, i.bytes)) = some (some (.agg #[.bool false, .slice none 0 0, .slice none 0 0]), 3, 56) := by kernel_rfl
theorem run_app_rat {w : World} {base hi hi2 : Nat} {v : Value} {ps : List (Value × Value)} {rs : List RatD} (h : VW w base hi v ps rs) (hlen : rs.length < 1048576) (hbase : base ≤ w.heap.size)
 (r : RatD) (va vb : Value) (g : Nat) (c0 : w.cell? ⟨g, 0, none⟩ = some (.bool r.neg)) (c1 : w.cell? ⟨g, 1, none⟩ = some va) (c2 : w.cell? ⟨g, 2, none⟩ = some vb)
 (ha : PO w hi hi2 va r.mag) (hb : PO w hi hi2 vb r.den) (hap : Apart va vb) (hbh : base ≤ hi) (hhh : hi ≤ hi2) (ty : TypeId) :
 ∃ v' w', (Builtin.append_ #[28, 28] ty #[v, .slice (some ⟨g, 0, none⟩) 1 1]).run Tryz.prog w = .ok v' w' ∧ VW w' base hi2 v' (ps ++ [(va, vb)]) (rs ++ [r]) ∧ Frame (fun b => v.ownBlock = some b) w w' := by
 have hinfo := Tryz.ratInfo
 cases hi0 : Tryz.prog.info? 57 with
 | none => rw [hi0] at hinfo; simp at hinfo
 | some i =>
  rw [hi0] at hinfo
  simp only [Option.map_some, Option.some.injEq, Prod.mk.injEq] at hinfo
  obtain ⟨hz0, hz1, hz2⟩ := hinfo
  obtain ⟨A, c, e1, _⟩ := ha.form
  obtain ⟨B, d, e2, _⟩ := hb.form
  obtain ⟨v', w', hrun, hown, hg, _, _⟩ := run_append_own_at (P := Tryz.prog) (w := w) base 28 ty 57 i (.agg #[.bool false, .slice none 0 0, .slice none 0 0]) 3 56 Tryz.underlying28 hi0 hz0 hz1 hz2 rfl (by decide)
   v rs.length (cellsV ps rs) h.2.1 ⟨g, 0, none⟩ 1 1 (cellsP r (va, vb)) rfl
   (by
    intro j u hj
    match j, hj with
    | 0, hj => simp [cellsP] at hj; subst hj; simpa [Addr.add] using c0
    | 1, hj => simp [cellsP] at hj; subst hj; simpa [Addr.add] using c1
    | 2, hj => simp [cellsP] at hj; subst hj; simpa [Addr.add] using c2)
   (by
    intro u hu
    simp only [cellsP, List.mem_cons, List.not_mem_nil, or_false] at hu
    rcases hu with rfl | rfl | rfl
    ·rfl
    ·rw [e1]; rfl
    ·rw [e2]; rfl)
   (by unfold maxLen; omega) (by omega) hbase
  have hF : Frame (fun b => v.ownBlock = some b) w w' := ⟨hg.os, hg.tape, hg.output, hg.size, fun b hb hs => hg.block b hb (fun e => hs e.symm)⟩
  have he : (57 : TypeId) ≠ 3 := by decide
  have gl : ∀ j, j < rs.length → (ps ++ [(va, vb)]).getD j zP = ps.getD j zP := fun j hj => by simp [List.getElem?_append_left, h.1 ▸ hj]
  have gl2 : ∀ j, j < rs.length → (rs ++ [r]).getD j zR = rs.getD j zR := fun j hj => by simp [List.getElem?_append_left, hj]
  have gr : (ps ++ [(va, vb)]).getD rs.length zP = (va, vb) := by rw [← h.1]; simp
  have gr2 : (rs ++ [r]).getD rs.length zR = r := by simp
  refine ⟨v', w', hrun, ⟨by simp [h.1], ?_, fun j hj => ?_, ?_⟩, hF⟩
  ·rw [cellsV_snoc _ _ h.1, List.length_append, List.length_cons, List.length_nil]
   exact hown
  ·rw [List.length_append, List.length_cons, List.length_nil] at hj
   by_cases e : j < rs.length
   ·rw [gl j e, gl2 j e]
    have := h.2.2.1 j e
    exact ⟨(this.1.frame hF (fun b hb' => ne_row this.1 h.2.1 he hb')).wide (Nat.le_refl _) hhh, (this.2.frame hF (fun b hb' => ne_row this.2 h.2.1 he hb')).wide (Nat.le_refl _) hhh⟩
   ·rw [show j = rs.length by omega, gr, gr2]
    exact ⟨(ha.frame hF (fun b hb' => ne_row ha h.2.1 he hb')).wide hbh (Nat.le_refl _), (hb.frame hF (fun b hb' => ne_row hb h.2.1 he hb')).wide hbh (Nat.le_refl _)⟩
  ·exact aps_snoc (_base := base) (hi := hi) h.2.2.2 hap (fun j hj => ⟨fun b hb' => ((h.2.2.1 j (h.1 ▸ hj)).1.2 b hb').2, fun b hb' => ((h.2.2.1 j (h.1 ▸ hj)).2.2 b hb').2⟩) ⟨fun b hb' => (ha.2 b hb').1, fun b hb' => (hb.2 b hb').1⟩
theorem wpAppRat {o : Oper} {a : Act} {w : World} {K : Act → World → Prop} {Q : Exit → Act → World → Prop} (s x : Operand)
 (ho : o.op = .call { callee := .builtin .append, args := #[s, x], argTypes := #[28, 28] })
 {base hi hi2 : Nat} {v : Value} {ps : List (Value × Value)} {rs : List RatD} (hs : a.eval s = v) (h : VW w base hi v ps rs) (hlen : rs.length < 1048576) (hbase : base ≤ w.heap.size)
 (r : RatD) (va vb : Value) (g : Nat) (hx : a.eval x = .slice (some ⟨g, 0, none⟩) 1 1) (c0 : w.cell? ⟨g, 0, none⟩ = some (.bool r.neg)) (c1 : w.cell? ⟨g, 1, none⟩ = some va) (c2 : w.cell? ⟨g, 2, none⟩ = some vb)
 (ha : PO w hi hi2 va r.mag) (hb : PO w hi hi2 vb r.den) (hap : Apart va vb) (hbh : base ≤ hi) (hhh : hi ≤ hi2)
 (hK : ∀ v' w', VW w' base hi2 v' (ps ++ [(va, vb)]) (rs ++ [r]) → Frame (fun b => v.ownBlock = some b) w w' → K (a.put o.dst v') w') : Oper.wp Tryz.prog o a w K Q := by
 obtain ⟨v', w', hrun, h1, h2⟩ := run_app_rat h hlen hbase r va vb g c0 c1 c2 ha hb hap hbh hhh o.type
 unfold Oper.wp
 simp [execOp, ho, resolve, invoke, builtin, hs, hx, hrun, Result.andThen]
 exact hK _ _ h1 h2
theorem appRat {ops : Array Oper} {rest : List Oper} {o : Oper} {a : Act} {w : World} {Q : Exit → Act → World → Prop} (hgd : o.guard = none) (s x : Operand)
 (ho : o.op = .call { callee := .builtin .append, args := #[s, x], argTypes := #[28, 28] })
 {base hi hi2 : Nat} {v : Value} {ps : List (Value × Value)} {rs : List RatD} (hs : a.eval s = v) (h : VW w base hi v ps rs) (hlen : rs.length < 1048576) (hbase : base ≤ w.heap.size)
 (r : RatD) (va vb : Value) (g : Nat) (hx : a.eval x = .slice (some ⟨g, 0, none⟩) 1 1) (c0 : w.cell? ⟨g, 0, none⟩ = some (.bool r.neg)) (c1 : w.cell? ⟨g, 1, none⟩ = some va) (c2 : w.cell? ⟨g, 2, none⟩ = some vb)
 (ha : PO w hi hi2 va r.mag) (hb : PO w hi hi2 vb r.den) (hap : Apart va vb) (hbh : base ≤ hi) (hhh : hi ≤ hi2)
 (hK : ∀ v' w', VW w' base hi2 v' (ps ++ [(va, vb)]) (rs ++ [r]) → Frame (fun b => v.ownBlock = some b) w w' → wpList Tryz.prog ops Q rest (a.put o.dst v') w') : wpList Tryz.prog ops Q (o :: rest) a w :=
 wpList_plain hgd fun _ hK' => wpAppRat s x ho hs h hlen hbase r va vb g hx c0 c1 c2 ha hb hap hbh hhh fun v' w' h1 h2 => hK' _ _ (hK v' w' h1 h2)
open Go.RowKit Go.Joins
open Go.RowKit Go.Joins
open Go.RowKit Go.Joins
theorem Slots.newE {w w1 : World} {C : Array Value} {t : TypeId} (h : w.alloc (.cells C t) = w1) {g : Nat} (hg : g = w.heap.size) : Slots w1 g C.toList := by
 subst h
 exact Slots.new (Below.refl _ _) hg
theorem nMeet {w W : World} {g k M h : Nat} {b0 o0 b1 o1 b2 o2 b3 o3 b4 o4 b5 o5 : Nat} {a0 a1 a2 a3 a4 a5 : Value} {A5 : Option Addr} {c5 : Nat} {S : Bool} {sums : List Int}
 (hg : g < h) (c0 : W.cell? ⟨h, 0, none⟩ = some (.bool S)) (c1 : W.cell? ⟨h, 1, none⟩ = some (.slice A5 sums.length c5)) (ro : RO W M (.slice A5 sums.length c5) sums) (hl : h < W.heap.size)
 (hS : (Below w.heap.size w W ∧ M ≤ W.heap.size) ∧ W.cell? ⟨b0, o0, none⟩ = some a0 ∧ W.cell? ⟨b1, o1, none⟩ = some a1 ∧ W.cell? ⟨b2, o2, none⟩ = some a2 ∧ W.cell? ⟨b3, o3, none⟩ = some a3 ∧ W.cell? ⟨b4, o4, none⟩ = some a4 ∧ W.cell? ⟨b5, o5, none⟩ = some a5 ∧ AnyK W g k) :
 ∃ (h' : Nat) (A' : Option Addr) (c' : Nat), Value.pointer (some ⟨h, 0, none⟩) = Value.pointer (some ⟨h', 0, none⟩) ∧ g < h' ∧ W.cell? ⟨h', 0, none⟩ = some (.bool S) ∧ W.cell? ⟨h', 1, none⟩ = some (.slice A' sums.length c') ∧ RO W M (.slice A' sums.length c') sums ∧
  (Below w.heap.size w W ∧ h' + 1 ≤ W.heap.size) ∧ W.cell? ⟨b2, o2, none⟩ = some a2 ∧ W.cell? ⟨b5, o5, none⟩ = some a5 ∧ AnyK W g k := by
 obtain ⟨⟨hS, hM⟩, e0, e1, e2, e3, e4, e5, hA⟩ := hS
 exact ⟨h, A5, c5, rfl, hg, c0, c1, ro, ⟨hS, hl⟩, e2, e5, hA⟩
open Go.RowKit Go.Joins
set_option maxRecDepth 100000 in
set_option maxHeartbeats 1600000 in
theorem iPlus_small (x y : RatD) (p q p' q' : Nat) (hx : FE.OkR x p q) (hy : FE.OkR y p' q') (u v : Value) (w : World) (hu : RatV w u x) (hv : RatV w v y) (h1 : smallB x = true) (h2 : smallB y = true) :
 Calls Tryz.prog 120 #[u, v] w fun e w' => ∃ v', e = .returned v' ∧ RatP w' w.heap.size v' (FE.lowI (sgnI x.neg p * q' + sgnI y.neg p' * q) (q * q')) ∧ Below w.heap.size w w' := by
 obtain ⟨A, c, B, d, rfl, hcd, ra, rb⟩ := hu
 obtain ⟨A', c', B', d', rfl, hcd', ra', rb'⟩ := hv
 have k1 := FE.natOk_of_toL (n := p) (by have := hx.pl; omega)
 have k2 := FE.natOk_of_toL (n := q) (by have := hx.ql; omega)
 have k3 := FE.natOk_of_toL (n := p') (by have := hy.pl; omega)
 have k4 := FE.natOk_of_toL (n := q') (by have := hy.ql; omega)
 have sx := smallR_of (x := x) (by rw [hx.mag]; exact k1) (by rw [hx.den]; exact k2) h1
 have sy := smallR_of (x := y) (by rw [hy.mag]; exact k3) (by rw [hy.den]; exact k4) h2
 rw [hx.nmag, hx.nden] at sx
 rw [hy.nmag, hy.nden] at sy
 clear k1 k2 k3 k4 hx hy
 have C1 := Lib.hid (fun W (hW : Below w.heap.size w W) => iIsSmall x _ W ⟨A, c, B, d, rfl, hcd, ra.later hW, rb.later hW⟩)
 have C2 := Lib.hid (fun W (hW : Below w.heap.size w W) => iIsSmall y _ W ⟨A', c', B', d', rfl, hcd', ra'.later hW, rb'.later hW⟩)
 rw [h1] at C1
 rw [h2] at C2
 have C3 := Lib.hid (fun W (hW : Below w.heap.size w W) => iSmall x p q sx _ W ⟨A, c, B, d, rfl, hcd, ra.later hW, rb.later hW⟩)
 have C4 := Lib.hid (fun W (hW : Below w.heap.size w W) => iSmall y p' q' sy _ W ⟨A', c', B', d', rfl, hcd', ra'.later hW, rb'.later hW⟩)
 have ba : -999999999 ≤ sgnI x.neg p ∧ sgnI x.neg p ≤ 999999999 := by have := sx.p1; rcases sgnI_or x.neg p with h | h <;> rw [h] <;> omega
 have bc : -999999999 ≤ sgnI y.neg p' ∧ sgnI y.neg p' ≤ 999999999 := by have := sy.p1; rcases sgnI_or y.neg p' with h | h <;> rw [h] <;> omega
 have bd := sx.q1
 have be := sy.q1
 have bd0 := sx.q0
 have be0 := sy.q0
 obtain ⟨e1, e2⟩ := small_mul ba be
 obtain ⟨e3, e4⟩ := small_mul bc bd
 have e5 : q * q' ≤ 999999999 * 999999999 := Nat.mul_le_mul (by omega) (by omega)
 have e6 : 0 < q * q' := Nat.mul_pos bd0 be0
 have e7 : (q : Int) * (q' : Int) = ((q * q' : Nat) : Int) := by rw [Int.natCast_mul]
 clear sx sy h1 h2 hcd hcd' ra rb ra' rb'
 generalize sgnI x.neg p = a at *
 generalize sgnI y.neg p' = b at *
 have C5 := fun W => iOfInts (a * (q' : Int) + b * (q : Int)) (q * q') (by omega) e6 (by omega) W
 rw [← e7] at C5
 replace C5 := Lib.hid C5
 have e8 : 0 < (q : Int) * (q' : Int) ∧ (q : Int) * (q' : Int) ≤ 999999998000000001 := by rw [e7]; omega
 obtain ⟨e8, e9⟩ := e8
 generalize FE.lowI (a * (q' : Int) + b * (q : Int)) (q * q') = R at *
 clear e5 e6 e7 ba bc bd be bd0 be0
 generalize x.mag.length = n at *
 generalize x.den.length = m at *
 generalize y.mag.length = n' at *
 generalize y.den.length = m' at *
 generalize x.neg = s at *
 generalize y.neg = t at *
 go_enter Tryz.func120, Tryz.ntmps120
 go_wp2_with fail
 refine (C1.out _ (below_alloc3 _ _ _ _)).mono ?_
 rintro e w1 ⟨rfl, hb1⟩
 have R0 := Slots.new hb1 (g := w.heap.size + 1 + 1) (by simp)
 have S1 := Slots.new (below_step hb1) (g := w.heap.size + 1) (by simp)
 have S0 := Slots.new (below_step (below_step hb1)) (g := w.heap.size) rfl
 replace hb1 := below_trans (below_alloc3 _ _ _ _) hb1
 obtain ⟨a0, a1, a2, _, _, _⟩ := S0.c3
 obtain ⟨b0, b1, b2, _, _, _⟩ := S1.c3
 go_wp2_with fail
 refine (C2.out _ hb1).mono ?_
 rintro e w2 ⟨rfl, hb2⟩
 clear a0 a1 a2 b0 b1 b2
 replace R0 := R0.later hb2
 replace S1 := S1.later hb2
 replace S0 := S0.later hb2
 replace hb1 := below_trans hb1 hb2
 clear hb2
 obtain ⟨a0, a1, a2, _, _, _⟩ := S0.c3
 obtain ⟨b0, b1, b2, _, _, _⟩ := S1.c3
 go_wp2_with fail
 refine (C3.out _ hb1).mono ?_
 rintro e w3 ⟨rfl, hb2⟩
 clear a0 a1 a2 b0 b1 b2
 replace R0 := R0.later hb2
 replace S1 := S1.later hb2
 replace S0 := S0.later hb2
 replace hb1 := below_trans hb1 hb2
 clear hb2
 obtain ⟨a0, a1, a2, _, _, _⟩ := S0.c3
 obtain ⟨b0, b1, b2, _, _, _⟩ := S1.c3
 go_wp2_with fail
 refine (C4.out _ hb1).mono ?_
 rintro e w4 ⟨rfl, hb2⟩
 clear a0 a1 a2 b0 b1 b2
 replace R0 := R0.later hb2
 replace S1 := S1.later hb2
 replace S0 := S0.later hb2
 replace hb1 := below_trans hb1 hb2
 clear hb2
 have hz := R0.1
 go_wp2_with fail
 refine (C5.out _).mono ?_
 rintro e w5 ⟨v5, rfl, hrp, hb2⟩
 replace R0 := R0.later hb2
 replace hb1 := below_trans hb1 hb2
 replace hrp := hrp.mono (base' := w.heap.size + 1 + 1 + 1) (by omega)
 obtain ⟨A6, n6, c6, B6, m6, d6, rfl⟩ := hrp.shape
 obtain ⟨b0, b1, b2, z0, z1, z2⟩ := R0.c3
 have hb := below3 hb1 (show w.heap.size ≤ w.heap.size + 1 + 1 by omega) (.bool R.neg) (.slice A6 n6 c6) (.slice B6 m6 d6)
 have f6 := hrp.far3 (g := w.heap.size + 1 + 1) (Nat.lt_succ_self _) (.bool R.neg) (.slice A6 n6 c6) (.slice B6 m6 d6)
 clear R0 S0 S1 hrp hb2 e1 e2 e3 e4 e8 e9
 go_wp2
 exact bodyPost_ret (v := .agg #[.bool R.neg, .slice A6 n6 c6, .slice B6 m6 d6]) (by simp [results, Tryz.results120, go_sem, b0, b1, b2]) rfl ⟨_, rfl, f6.mono (by omega), hb⟩
open Go.RowKit Go.Joins
set_option maxRecDepth 100000 in
set_option maxHeartbeats 4000000 in
theorem iPlus_large_a (x y : RatD) (p q p' q' : Nat) (hx : FE.OkR x p q) (hy : FE.OkR y p' q') (u v : Value) (w : World) (hu : RatV w u x) (hv : RatV w v y) (h1 : smallB x = false) :
 Calls Tryz.prog 120 #[u, v] w fun e w' => ∃ v', e = .returned v' ∧ RatP w' w.heap.size v' (FE.lowI (sgnI x.neg p * q' + sgnI y.neg p' * q) (q * q')) ∧ Below w.heap.size w w' := by
 obtain ⟨A, c, B, d, rfl, hcd, ra, rb⟩ := hu
 obtain ⟨A', c', B', d', rfl, hcd', ra', rb'⟩ := hv
 have C1 := Lib.hid (fun W (hW : Below w.heap.size w W) => iIsSmall x _ W ⟨A, c, B, d, rfl, hcd, ra.later hW, rb.later hW⟩)
 have C2 := Lib.hid (fun W (hW : Below w.heap.size w W) => iIsSmall y _ W ⟨A', c', B', d', rfl, hcd', ra'.later hW, rb'.later hW⟩)
 rw [h1] at C1
 have mx := hx.mag
 have my := hy.mag
 have dx := hx.den
 have dy := hy.den
 rw [mx] at ra
 rw [dx] at rb
 rw [my] at ra'
 rw [dy] at rb'
 have hcm := hcd.2.1
 have hcm' := hcd'.2.1
 have hdm := hcd.2.2.2
 have hdm' := hcd'.2.2.2
 have hca : (FE.toL p).length ≤ c := by rw [← mx]; exact hcd.1
 have hca' : (FE.toL p').length ≤ c' := by rw [← my]; exact hcd'.1
 have hda : (FE.toL q).length ≤ d := by rw [← dx]; exact hcd.2.2.1
 have hda' : (FE.toL q').length ≤ d' := by rw [← dy]; exact hcd'.2.2.1
 have lp := hx.pl
 have lq := hx.ql
 have lp' := hy.pl
 have lq' := hy.ql
 have H1 := Lib.hid (fun W (hW : Below w.heap.size w W) => iBigMul x.neg false p q' (.agg #[.bool x.neg, .slice A (FE.toL p).length c]) (.agg #[.bool false, .slice B' (FE.toL q').length d']) W ⟨A, c, rfl, hca, hcm, ra.later hW⟩ ⟨B', d', rfl, hda', hdm', rb'.later hW⟩ (by omega) (by omega))
 have H2 := Lib.hid (fun W (hW : Below w.heap.size w W) => iBigMul y.neg false p' q (.agg #[.bool y.neg, .slice A' (FE.toL p').length c']) (.agg #[.bool false, .slice B (FE.toL q).length d]) W ⟨A', c', rfl, hca', hcm', ra'.later hW⟩ ⟨B, d, rfl, hda, hdm, rb.later hW⟩ (by omega) (by omega))
 rw [bne_false] at H1 H2
 have k1 := mul_len24 lp lq'
 have k2 := mul_len24 lp' lq
 have k3 := mul_len24 lq lq'
 have H3 := fun W (u v : Value) hu hv => iBigAdd (x.neg && decide (p * q' ≠ 0)) (y.neg && decide (p' * q ≠ 0)) (p * q') (p' * q) u v W hu hv (by omega) (by omega)
 obtain ⟨i1, i2⟩ := addS_int (x.neg && decide (p * q' ≠ 0)) (y.neg && decide (p' * q ≠ 0)) (p * q') (p' * q)
 rw [i2, i1] at H3
 have k4 := sum_len k1 k2 (x.neg && decide (p * q' ≠ 0)) (y.neg && decide (p' * q ≠ 0))
 rw [sgnI_sg, sgnI_sg] at H3 k4
 have j1 : sgnI x.neg (p * q') = sgnI x.neg p * q' := by cases x.neg <;> simp [sgnI, Int.natCast_mul, Int.neg_mul]
 have j2 : sgnI y.neg (p' * q) = sgnI y.neg p' * q := by cases y.neg <;> simp [sgnI, Int.natCast_mul, Int.neg_mul]
 rw [j1, j2] at H3 k4
 replace H3 := Lib.hid H3
 have H4 := Lib.hid (fun W (hW : Below w.heap.size w W) => natMul_nat q q' _ _ d d' rfl rfl (by omega) (by omega) B B' W (rb.later hW) (rb'.later hW))
 have hqq : q * q' ≠ 0 := Nat.mul_ne_zero hx.q0 hy.q0
 have H5 := Lib.hid (fun W (base : Nat) (ua v : Value) (hb : base ≤ W.heap.size) h1 h2 (h3 : Apart ua v) => iReduced (decide (sgnI x.neg p * q' + sgnI y.neg p' * q < 0)) (sgnI x.neg p * q' + sgnI y.neg p' * q).natAbs (q * q') hqq (by intro h; simp at h; omega) base ua v W hb h1 h2 h3 (by omega) (by omega))
 rw [show FE.low (decide (sgnI x.neg p * q' + sgnI y.neg p' * q < 0)) (sgnI x.neg p * q' + sgnI y.neg p' * q).natAbs (q * q') = FE.lowI (sgnI x.neg p * q' + sgnI y.neg p' * q) (q * q') from rfl] at H5
 rw [mx, dx] at C1 ⊢
 rw [my, dy] at C2 ⊢
 clear hx hy h1 mx my dx dy hcd hcd' ra rb ra' rb' hcm hcm' hdm hdm' hca hca' hda hda' lp lq lp' lq' k1 k2 k3 k4 i1 i2 j1 j2 hqq
 generalize FE.lowI (sgnI x.neg p * q' + sgnI y.neg p' * q) (q * q') = R at *
 generalize decide (sgnI x.neg p * q' + sgnI y.neg p' * q < 0) = S at *
 generalize FE.toL (sgnI x.neg p * q' + sgnI y.neg p' * q).natAbs = sums at *
 generalize (x.neg && decide (p * q' ≠ 0)) = sb1 at *
 generalize (y.neg && decide (p' * q ≠ 0)) = sb2 at *
 generalize FE.toL (p * q') = m1 at *
 generalize FE.toL (p' * q) = m2 at *
 generalize FE.toL (q * q') = m3 at *
 generalize (FE.toL p).length = n at *
 generalize (FE.toL q).length = m at *
 generalize (FE.toL p').length = n' at *
 generalize (FE.toL q').length = m' at *
 generalize x.neg = s at *
 generalize y.neg = t at *
 go_enter Tryz.func120, Tryz.ntmps120
 go_wp2_with fail
 refine (C1.out _ (below_alloc3 _ _ _ _)).mono ?_
 rintro e w1 ⟨rfl, hb1⟩
 have R0 := Slots.new hb1 (g := w.heap.size + 1 + 1) (by simp)
 have S1 := Slots.new (below_step hb1) (g := w.heap.size + 1) (by simp)
 have S0 := Slots.new (below_step (below_step hb1)) (g := w.heap.size) rfl
 replace hb1 := below_trans (below_alloc3 _ _ _ _) hb1
 obtain ⟨a0, a1, a2, _, _, _⟩ := S0.c3
 obtain ⟨b0, b1, b2, _, _, _⟩ := S1.c3
 have RA := AnyK.of R0
 have hM : w.heap.size + 1 + 1 + 1 ≤ w1.heap.size := R0.1
 go_wp2_with fail
 go_cut [9] (fun s9 wx => ∃ (h : Nat) (A5 : Option Addr) (c5 : Nat), s9 = .pointer (some ⟨h, 0, none⟩) ∧ w.heap.size + 1 + 1 < h ∧ wx.cell? ⟨h, 0, none⟩ = some (.bool S) ∧ wx.cell? ⟨h, 1, none⟩ = some (.slice A5 sums.length c5) ∧ RO wx (w.heap.size + 1 + 1 + 1) (.slice A5 sums.length c5) sums ∧
  (Below w.heap.size w wx ∧ h + 1 ≤ wx.heap.size) ∧ wx.cell? ⟨w.heap.size, 2, none⟩ = some (.slice B m d) ∧ wx.cell? ⟨w.heap.size + 1, 2, none⟩ = some (.slice B' m' d') ∧ AnyK wx (w.heap.size + 1 + 1) 3)
 case first =>
  go_region_held3 (fun w' => (Below w.heap.size w w' ∧ w.heap.size + 1 + 1 + 1 ≤ w'.heap.size) ∧ w'.cell? ⟨w.heap.size, 0, none⟩ = some (.bool s) ∧ w'.cell? ⟨w.heap.size, 1, none⟩ = some (.slice A n c) ∧ w'.cell? ⟨w.heap.size, 2, none⟩ = some (.slice B m d) ∧ w'.cell? ⟨w.heap.size + 1, 0, none⟩ = some (.bool t) ∧ w'.cell? ⟨w.heap.size + 1, 1, none⟩ = some (.slice A' n' c') ∧ w'.cell? ⟨w.heap.size + 1, 2, none⟩ = some (.slice B' m' d') ∧ AnyK w' (w.heap.size + 1 + 1) 3)
   (first | exact nD_6 hb1 hM a0 a1 a2 b0 b1 b2 RA | exact nC_6 (by omega) (by omega) (by omega) (by omega) (by omega) (by omega) (by assumption) (by assumption) | exact nC_6 (by omega) (by omega) (by omega) (by omega) (by omega) (by omega) (by assumption) (below_alloc1 _ _) | exact nS_6_3 (by omega) (by omega) (by omega) (by omega) (by omega) (by omega) (by omega) (by assumption) | (have _h5 := hro5; exact nC_6 (W := w5) (by omega) (by omega) (by omega) (by omega) (by omega) (by omega) (nC_6 (by omega) (by omega) (by omega) (by omega) (by omega) (by omega) hSW5 hb5) (below_alloc1 _ _)) | (have _h5 := T5; exact nT_6 (by omega) (by omega) (by omega) (by omega) (by omega) (by omega) (by omega) (by omega) (by assumption)))
   (first
    | (go_at_call 118; (with_reducible refine (H1.out _ (And.left (And.left (by assumption)))).mono ?_); rintro e3 w3 ⟨v3, rfl, ho3, hb3⟩; have hSW3 := (‹(Below w.heap.size w _ ∧ _ ≤ _) ∧ _ ∧ _ ∧ _ ∧ _ ∧ _ ∧ _ ∧ AnyK _ (w.heap.size + 1 + 1) 3›); have hB3 := hSW3.1.1.trans (below_le hb3 hSW3.1.1.size); have hM3 := Nat.le_trans hSW3.1.2 hb3.size; have hA3 := hSW3.2.2.2.2.2.2.2.later hb3; have hlt3 := hSW3.2.2.2.2.2.2.2.lt; (first | have T3 := Slots.new hb3 rfl | have T3 := Slots.newD hb3 rfl | skip))
    | (go_at_call 118; (with_reducible refine (H2.out _ (And.left (And.left (by assumption)))).mono ?_); rintro e4 w4 ⟨v4, rfl, ho4, hb4⟩; have hSW4 := (‹(Below w.heap.size w _ ∧ _ ≤ _) ∧ _ ∧ _ ∧ _ ∧ _ ∧ _ ∧ _ ∧ AnyK _ (w.heap.size + 1 + 1) 3›); have hB4 := hSW4.1.1.trans (below_le hb4 hSW4.1.1.size); have hM4 := Nat.le_trans hSW4.1.2 hb4.size; have hA4 := hSW4.2.2.2.2.2.2.2.later hb4; have hlt4 := hSW4.2.2.2.2.2.2.2.lt; (first | have r3 := ho3.later hb4 | have r3 := ho3.later (below_trans (below_alloc1 _ _) hb4)); (first | have T4 := Slots.new hb4 rfl | have T4 := T3.later hb4 | skip))
    | (go_at_call 184; (first | (with_reducible refine (H3.out _ _ _ r3.reads ho4.reads).mono ?_) | (with_reducible refine (H3.out _ _ _ (r3.later (below_alloc1 _ _)).reads (ho4.later (below_alloc1 _ _)).reads).mono ?_)); rintro e5 w5 ⟨v5, rfl, ⟨va5, rfl, hro5⟩, hb5⟩; have hSW5 := (‹(Below w.heap.size w _ ∧ _ ≤ _) ∧ _ ∧ _ ∧ _ ∧ _ ∧ _ ∧ _ ∧ AnyK _ (w.heap.size + 1 + 1) 3›); have hB5 := hSW5.1.1.trans (below_le hb5 hSW5.1.1.size); have hM5 := Nat.le_trans hSW5.1.2 hb5.size; have hA5 := hSW5.2.2.2.2.2.2.2.later hb5; have hlt5 := hSW5.2.2.2.2.2.2.2.lt; have hro5o := hro5; replace hro5 := hro5.mono (base' := w.heap.size + 1 + 1 + 1) (by omega); obtain ⟨A5, c5, rfl, _⟩ := id hro5; (first | have T5 := Slots.new hb5 rfl | have T5 := T4.later hb5 | skip); (first | obtain ⟨t0, t1, y0, y1⟩ := T5.k2 | skip)))
  all_goals (go_wp2_with fail; go_meet)
  all_goals first
   | (have S9 := Slots.newE (w := w5) (C := #[.bool S, .slice A5 sums.length c5]) (t := 55) rfl rfl; obtain ⟨c0, c1, _, _⟩ := S9.k2; exact nMeet (by omega) c0 c1 (hro5.later (below_alloc1 _ _)) S9.1 (by assumption))
   | (have S9 := (T5.set 0 (by show 0 < 2; decide) (.bool S)).set 1 (by show 1 < 2; decide) (.slice A5 sums.length c5); obtain ⟨c0, c1, _, _⟩ := S9.k2; exact nMeet (by omega) c0 c1 (((hro5o.far (p := ⟨_, 0, none⟩) (by first | exact T4.1 | simp) (.bool S)).far (p := ⟨_, 1, none⟩) (by first | exact T4.1 | simp) (.slice A5 sums.length c5)).mono (by omega)) (by simpa using T5.1) (by assumption))
 case rest =>
  obtain ⟨h, A5, c5, rfl, hgh, k0, k1, hro, ⟨hbx, hhx⟩, k2, k3, kA⟩ := hcut
  clear H1 H2 H3 C1 C2 a0 a1 a2 b0 b1 b2 RA R0 S0 S1 hb1 hM
  go_wp2_with fail
  go_region_held3 (fun w' => (Below w.heap.size w w' ∧ h + 1 ≤ w'.heap.size) ∧ w'.cell? ⟨h, 0, none⟩ = some (.bool S) ∧ w'.cell? ⟨h, 1, none⟩ = some (.slice A5 sums.length c5) ∧ w'.cell? ⟨w.heap.size, 2, none⟩ = some (.slice B m d) ∧ w'.cell? ⟨w.heap.size + 1, 2, none⟩ = some (.slice B' m' d') ∧ AnyK w' (w.heap.size + 1 + 1) 3)
   (first | exact nD_4 hbx hhx k0 k1 k2 k3 kA | exact nC_4 (by omega) (by omega) (by omega) (by omega) (by assumption) (by assumption) | exact nC_4 (by omega) (by omega) (by omega) (by omega) (by assumption) (below_alloc1 _ _) | exact nS_4_3 (by omega) (by omega) (by omega) (by omega) (by omega) (by assumption))
   (first
    | (go_at_call 119; (with_reducible refine (H4.out _ (And.left (And.left (by assumption)))).mono ?_); rintro e3 w3 ⟨v3, rfl, ho3, hb3⟩; have hSW3 := (‹(Below w.heap.size w _ ∧ _ ≤ _) ∧ _ ∧ _ ∧ _ ∧ _ ∧ AnyK _ (w.heap.size + 1 + 1) 3›); have hB3 := hSW3.1.1.trans (below_le hb3 hSW3.1.1.size); have hM3 := Nat.le_trans hSW3.1.2 hb3.size; have hA3 := hSW3.2.2.2.2.2.later hb3; have hlt3 := hSW3.2.2.2.2.2.lt; have hr3 := hro.later (show Below _ _ w3 from ⟨hb3.os, hb3.tape, hb3.output, hb3.size, hb3.block⟩); have hap := apart_of hro ho3 (Nat.le_refl _); replace ho3 := ho3.mono (base' := w.heap.size + 1 + 1 + 1) (by omega))
    | (go_at_call 117; (with_reducible refine (H5.out _ (w.heap.size + 1 + 1 + 1) _ _ (Nat.succ_le_of_lt hA3.lt) hr3 ho3 hap).mono ?_); rintro e6 w6 ⟨v6, rfl, hrp, hb6⟩; have hSW6 := (‹(Below w.heap.size w _ ∧ _ ≤ _) ∧ _ ∧ _ ∧ _ ∧ _ ∧ AnyK _ (w.heap.size + 1 + 1) 3›); have hB6 := hSW6.1.1.trans (below_le hb6 hSW6.1.1.size); have hM6 := Nat.le_trans hSW6.1.2 hb6.size; have hA6 := hSW6.2.2.2.2.2.later hb6; have hlt6 := hSW6.2.2.2.2.2.lt; obtain ⟨A6, n6, c6, B6, m6, d6, rfl⟩ := hrp.shape; obtain ⟨_, _, _, q0, q1, q2, _z0, _z1, _z2⟩ := hA6.c3))
  have hb := below3 hB6 (show w.heap.size ≤ w.heap.size + 1 + 1 by omega) (.bool R.neg) (.slice A6 n6 c6) (.slice B6 m6 d6)
  have f6 := hrp.far3 (g := w.heap.size + 1 + 1) (Nat.lt_succ_self _) (.bool R.neg) (.slice A6 n6 c6) (.slice B6 m6 d6)
  go_wp2
  refine bodyPost_ret (v := .agg #[.bool R.neg, .slice A6 n6 c6, .slice B6 m6 d6]) (by simp [results, Tryz.results120, go_sem, q0, q1, q2]) rfl ⟨_, rfl, f6.mono (by omega), hb⟩
open Go.RowKit Go.Joins
set_option maxRecDepth 100000 in
set_option maxHeartbeats 4000000 in
theorem iPlus_large_b (x y : RatD) (p q p' q' : Nat) (hx : FE.OkR x p q) (hy : FE.OkR y p' q') (u v : Value) (w : World) (hu : RatV w u x) (hv : RatV w v y) (h1 : smallB x = true) (h2 : smallB y = false) :
 Calls Tryz.prog 120 #[u, v] w fun e w' => ∃ v', e = .returned v' ∧ RatP w' w.heap.size v' (FE.lowI (sgnI x.neg p * q' + sgnI y.neg p' * q) (q * q')) ∧ Below w.heap.size w w' := by
 obtain ⟨A, c, B, d, rfl, hcd, ra, rb⟩ := hu
 obtain ⟨A', c', B', d', rfl, hcd', ra', rb'⟩ := hv
 have C1 := Lib.hid (fun W (hW : Below w.heap.size w W) => iIsSmall x _ W ⟨A, c, B, d, rfl, hcd, ra.later hW, rb.later hW⟩)
 have C2 := Lib.hid (fun W (hW : Below w.heap.size w W) => iIsSmall y _ W ⟨A', c', B', d', rfl, hcd', ra'.later hW, rb'.later hW⟩)
 rw [h1] at C1
 rw [h2] at C2
 have mx := hx.mag
 have my := hy.mag
 have dx := hx.den
 have dy := hy.den
 rw [mx] at ra
 rw [dx] at rb
 rw [my] at ra'
 rw [dy] at rb'
 have hcm := hcd.2.1
 have hcm' := hcd'.2.1
 have hdm := hcd.2.2.2
 have hdm' := hcd'.2.2.2
 have hca : (FE.toL p).length ≤ c := by rw [← mx]; exact hcd.1
 have hca' : (FE.toL p').length ≤ c' := by rw [← my]; exact hcd'.1
 have hda : (FE.toL q).length ≤ d := by rw [← dx]; exact hcd.2.2.1
 have hda' : (FE.toL q').length ≤ d' := by rw [← dy]; exact hcd'.2.2.1
 have lp := hx.pl
 have lq := hx.ql
 have lp' := hy.pl
 have lq' := hy.ql
 have H1 := Lib.hid (fun W (hW : Below w.heap.size w W) => iBigMul x.neg false p q' (.agg #[.bool x.neg, .slice A (FE.toL p).length c]) (.agg #[.bool false, .slice B' (FE.toL q').length d']) W ⟨A, c, rfl, hca, hcm, ra.later hW⟩ ⟨B', d', rfl, hda', hdm', rb'.later hW⟩ (by omega) (by omega))
 have H2 := Lib.hid (fun W (hW : Below w.heap.size w W) => iBigMul y.neg false p' q (.agg #[.bool y.neg, .slice A' (FE.toL p').length c']) (.agg #[.bool false, .slice B (FE.toL q).length d]) W ⟨A', c', rfl, hca', hcm', ra'.later hW⟩ ⟨B, d, rfl, hda, hdm, rb.later hW⟩ (by omega) (by omega))
 rw [bne_false] at H1 H2
 have k1 := mul_len24 lp lq'
 have k2 := mul_len24 lp' lq
 have k3 := mul_len24 lq lq'
 have H3 := fun W (u v : Value) hu hv => iBigAdd (x.neg && decide (p * q' ≠ 0)) (y.neg && decide (p' * q ≠ 0)) (p * q') (p' * q) u v W hu hv (by omega) (by omega)
 obtain ⟨i1, i2⟩ := addS_int (x.neg && decide (p * q' ≠ 0)) (y.neg && decide (p' * q ≠ 0)) (p * q') (p' * q)
 rw [i2, i1] at H3
 have k4 := sum_len k1 k2 (x.neg && decide (p * q' ≠ 0)) (y.neg && decide (p' * q ≠ 0))
 rw [sgnI_sg, sgnI_sg] at H3 k4
 have j1 : sgnI x.neg (p * q') = sgnI x.neg p * q' := by cases x.neg <;> simp [sgnI, Int.natCast_mul, Int.neg_mul]
 have j2 : sgnI y.neg (p' * q) = sgnI y.neg p' * q := by cases y.neg <;> simp [sgnI, Int.natCast_mul, Int.neg_mul]
 rw [j1, j2] at H3 k4
 replace H3 := Lib.hid H3
 have H4 := Lib.hid (fun W (hW : Below w.heap.size w W) => natMul_nat q q' _ _ d d' rfl rfl (by omega) (by omega) B B' W (rb.later hW) (rb'.later hW))
 have hqq : q * q' ≠ 0 := Nat.mul_ne_zero hx.q0 hy.q0
 have H5 := Lib.hid (fun W (base : Nat) (ua v : Value) (hb : base ≤ W.heap.size) h1 h2 (h3 : Apart ua v) => iReduced (decide (sgnI x.neg p * q' + sgnI y.neg p' * q < 0)) (sgnI x.neg p * q' + sgnI y.neg p' * q).natAbs (q * q') hqq (by intro h; simp at h; omega) base ua v W hb h1 h2 h3 (by omega) (by omega))
 rw [show FE.low (decide (sgnI x.neg p * q' + sgnI y.neg p' * q < 0)) (sgnI x.neg p * q' + sgnI y.neg p' * q).natAbs (q * q') = FE.lowI (sgnI x.neg p * q' + sgnI y.neg p' * q) (q * q') from rfl] at H5
 rw [mx, dx] at C1 ⊢
 rw [my, dy] at C2 ⊢
 clear hx hy h1 mx my dx dy hcd hcd' ra rb ra' rb' hcm hcm' hdm hdm' hca hca' hda hda' lp lq lp' lq' k1 k2 k3 k4 i1 i2 j1 j2 hqq h2
 generalize FE.lowI (sgnI x.neg p * q' + sgnI y.neg p' * q) (q * q') = R at *
 generalize decide (sgnI x.neg p * q' + sgnI y.neg p' * q < 0) = S at *
 generalize FE.toL (sgnI x.neg p * q' + sgnI y.neg p' * q).natAbs = sums at *
 generalize (x.neg && decide (p * q' ≠ 0)) = sb1 at *
 generalize (y.neg && decide (p' * q ≠ 0)) = sb2 at *
 generalize FE.toL (p * q') = m1 at *
 generalize FE.toL (p' * q) = m2 at *
 generalize FE.toL (q * q') = m3 at *
 generalize (FE.toL p).length = n at *
 generalize (FE.toL q).length = m at *
 generalize (FE.toL p').length = n' at *
 generalize (FE.toL q').length = m' at *
 generalize x.neg = s at *
 generalize y.neg = t at *
 go_enter Tryz.func120, Tryz.ntmps120
 go_wp2_with fail
 refine (C1.out _ (below_alloc3 _ _ _ _)).mono ?_
 rintro e w1 ⟨rfl, hb1⟩
 have R0 := Slots.new hb1 (g := w.heap.size + 1 + 1) (by simp)
 have S1 := Slots.new (below_step hb1) (g := w.heap.size + 1) (by simp)
 have S0 := Slots.new (below_step (below_step hb1)) (g := w.heap.size) rfl
 replace hb1 := below_trans (below_alloc3 _ _ _ _) hb1
 obtain ⟨a0, a1, a2, _, _, _⟩ := S0.c3
 obtain ⟨b0, b1, b2, _, _, _⟩ := S1.c3
 go_wp2_with fail
 refine (C2.out _ hb1).mono ?_
 rintro e w2 ⟨rfl, hb2⟩
 clear a0 a1 a2 b0 b1 b2
 replace R0 := R0.later hb2
 replace S1 := S1.later hb2
 replace S0 := S0.later hb2
 replace hb1 := below_trans hb1 hb2
 clear hb2
 obtain ⟨a0, a1, a2, _, _, _⟩ := S0.c3
 obtain ⟨b0, b1, b2, _, _, _⟩ := S1.c3
 have RA := AnyK.of R0
 have hM : w.heap.size + 1 + 1 + 1 ≤ w2.heap.size := R0.1
 go_wp2_with fail
 go_cut [9] (fun s9 wx => ∃ (h : Nat) (A5 : Option Addr) (c5 : Nat), s9 = .pointer (some ⟨h, 0, none⟩) ∧ w.heap.size + 1 + 1 < h ∧ wx.cell? ⟨h, 0, none⟩ = some (.bool S) ∧ wx.cell? ⟨h, 1, none⟩ = some (.slice A5 sums.length c5) ∧ RO wx (w.heap.size + 1 + 1 + 1) (.slice A5 sums.length c5) sums ∧
  (Below w.heap.size w wx ∧ h + 1 ≤ wx.heap.size) ∧ wx.cell? ⟨w.heap.size, 2, none⟩ = some (.slice B m d) ∧ wx.cell? ⟨w.heap.size + 1, 2, none⟩ = some (.slice B' m' d') ∧ AnyK wx (w.heap.size + 1 + 1) 3)
 case first =>
  go_region_held3 (fun w' => (Below w.heap.size w w' ∧ w.heap.size + 1 + 1 + 1 ≤ w'.heap.size) ∧ w'.cell? ⟨w.heap.size, 0, none⟩ = some (.bool s) ∧ w'.cell? ⟨w.heap.size, 1, none⟩ = some (.slice A n c) ∧ w'.cell? ⟨w.heap.size, 2, none⟩ = some (.slice B m d) ∧ w'.cell? ⟨w.heap.size + 1, 0, none⟩ = some (.bool t) ∧ w'.cell? ⟨w.heap.size + 1, 1, none⟩ = some (.slice A' n' c') ∧ w'.cell? ⟨w.heap.size + 1, 2, none⟩ = some (.slice B' m' d') ∧ AnyK w' (w.heap.size + 1 + 1) 3)
   (first | exact nD_6 hb1 hM a0 a1 a2 b0 b1 b2 RA | exact nC_6 (by omega) (by omega) (by omega) (by omega) (by omega) (by omega) (by assumption) (by assumption) | exact nC_6 (by omega) (by omega) (by omega) (by omega) (by omega) (by omega) (by assumption) (below_alloc1 _ _) | exact nS_6_3 (by omega) (by omega) (by omega) (by omega) (by omega) (by omega) (by omega) (by assumption) | (have _h5 := hro5; exact nC_6 (W := w5) (by omega) (by omega) (by omega) (by omega) (by omega) (by omega) (nC_6 (by omega) (by omega) (by omega) (by omega) (by omega) (by omega) hSW5 hb5) (below_alloc1 _ _)) | (have _h5 := T5; exact nT_6 (by omega) (by omega) (by omega) (by omega) (by omega) (by omega) (by omega) (by omega) (by assumption)))
   (first
    | (go_at_call 118; (with_reducible refine (H1.out _ (And.left (And.left (by assumption)))).mono ?_); rintro e3 w3 ⟨v3, rfl, ho3, hb3⟩; have hSW3 := (‹(Below w.heap.size w _ ∧ _ ≤ _) ∧ _ ∧ _ ∧ _ ∧ _ ∧ _ ∧ _ ∧ AnyK _ (w.heap.size + 1 + 1) 3›); have hB3 := hSW3.1.1.trans (below_le hb3 hSW3.1.1.size); have hM3 := Nat.le_trans hSW3.1.2 hb3.size; have hA3 := hSW3.2.2.2.2.2.2.2.later hb3; have hlt3 := hSW3.2.2.2.2.2.2.2.lt; (first | have T3 := Slots.new hb3 rfl | have T3 := Slots.newD hb3 rfl | skip))
    | (go_at_call 118; (with_reducible refine (H2.out _ (And.left (And.left (by assumption)))).mono ?_); rintro e4 w4 ⟨v4, rfl, ho4, hb4⟩; have hSW4 := (‹(Below w.heap.size w _ ∧ _ ≤ _) ∧ _ ∧ _ ∧ _ ∧ _ ∧ _ ∧ _ ∧ AnyK _ (w.heap.size + 1 + 1) 3›); have hB4 := hSW4.1.1.trans (below_le hb4 hSW4.1.1.size); have hM4 := Nat.le_trans hSW4.1.2 hb4.size; have hA4 := hSW4.2.2.2.2.2.2.2.later hb4; have hlt4 := hSW4.2.2.2.2.2.2.2.lt; (first | have r3 := ho3.later hb4 | have r3 := ho3.later (below_trans (below_alloc1 _ _) hb4)); (first | have T4 := Slots.new hb4 rfl | have T4 := T3.later hb4 | skip))
    | (go_at_call 184; (first | (with_reducible refine (H3.out _ _ _ r3.reads ho4.reads).mono ?_) | (with_reducible refine (H3.out _ _ _ (r3.later (below_alloc1 _ _)).reads (ho4.later (below_alloc1 _ _)).reads).mono ?_)); rintro e5 w5 ⟨v5, rfl, ⟨va5, rfl, hro5⟩, hb5⟩; have hSW5 := (‹(Below w.heap.size w _ ∧ _ ≤ _) ∧ _ ∧ _ ∧ _ ∧ _ ∧ _ ∧ _ ∧ AnyK _ (w.heap.size + 1 + 1) 3›); have hB5 := hSW5.1.1.trans (below_le hb5 hSW5.1.1.size); have hM5 := Nat.le_trans hSW5.1.2 hb5.size; have hA5 := hSW5.2.2.2.2.2.2.2.later hb5; have hlt5 := hSW5.2.2.2.2.2.2.2.lt; have hro5o := hro5; replace hro5 := hro5.mono (base' := w.heap.size + 1 + 1 + 1) (by omega); obtain ⟨A5, c5, rfl, _⟩ := id hro5; (first | have T5 := Slots.new hb5 rfl | have T5 := T4.later hb5 | skip); (first | obtain ⟨t0, t1, y0, y1⟩ := T5.k2 | skip)))
  all_goals (go_wp2_with fail; go_meet)
  all_goals first
   | (have S9 := Slots.newE (w := w5) (C := #[.bool S, .slice A5 sums.length c5]) (t := 55) rfl rfl; obtain ⟨c0, c1, _, _⟩ := S9.k2; exact nMeet (by omega) c0 c1 (hro5.later (below_alloc1 _ _)) S9.1 (by assumption))
   | (have S9 := (T5.set 0 (by show 0 < 2; decide) (.bool S)).set 1 (by show 1 < 2; decide) (.slice A5 sums.length c5); obtain ⟨c0, c1, _, _⟩ := S9.k2; exact nMeet (by omega) c0 c1 (((hro5o.far (p := ⟨_, 0, none⟩) (by first | exact T4.1 | simp) (.bool S)).far (p := ⟨_, 1, none⟩) (by first | exact T4.1 | simp) (.slice A5 sums.length c5)).mono (by omega)) (by simpa using T5.1) (by assumption))
 case rest =>
  obtain ⟨h, A5, c5, rfl, hgh, k0, k1, hro, ⟨hbx, hhx⟩, k2, k3, kA⟩ := hcut
  clear H1 H2 H3 C1 C2 a0 a1 a2 b0 b1 b2 RA R0 S0 S1 hb1 hM
  go_wp2_with fail
  go_region_held3 (fun w' => (Below w.heap.size w w' ∧ h + 1 ≤ w'.heap.size) ∧ w'.cell? ⟨h, 0, none⟩ = some (.bool S) ∧ w'.cell? ⟨h, 1, none⟩ = some (.slice A5 sums.length c5) ∧ w'.cell? ⟨w.heap.size, 2, none⟩ = some (.slice B m d) ∧ w'.cell? ⟨w.heap.size + 1, 2, none⟩ = some (.slice B' m' d') ∧ AnyK w' (w.heap.size + 1 + 1) 3)
   (first | exact nD_4 hbx hhx k0 k1 k2 k3 kA | exact nC_4 (by omega) (by omega) (by omega) (by omega) (by assumption) (by assumption) | exact nC_4 (by omega) (by omega) (by omega) (by omega) (by assumption) (below_alloc1 _ _) | exact nS_4_3 (by omega) (by omega) (by omega) (by omega) (by omega) (by assumption))
   (first
    | (go_at_call 119; (with_reducible refine (H4.out _ (And.left (And.left (by assumption)))).mono ?_); rintro e3 w3 ⟨v3, rfl, ho3, hb3⟩; have hSW3 := (‹(Below w.heap.size w _ ∧ _ ≤ _) ∧ _ ∧ _ ∧ _ ∧ _ ∧ AnyK _ (w.heap.size + 1 + 1) 3›); have hB3 := hSW3.1.1.trans (below_le hb3 hSW3.1.1.size); have hM3 := Nat.le_trans hSW3.1.2 hb3.size; have hA3 := hSW3.2.2.2.2.2.later hb3; have hlt3 := hSW3.2.2.2.2.2.lt; have hr3 := hro.later (show Below _ _ w3 from ⟨hb3.os, hb3.tape, hb3.output, hb3.size, hb3.block⟩); have hap := apart_of hro ho3 (Nat.le_refl _); replace ho3 := ho3.mono (base' := w.heap.size + 1 + 1 + 1) (by omega))
    | (go_at_call 117; (with_reducible refine (H5.out _ (w.heap.size + 1 + 1 + 1) _ _ (Nat.succ_le_of_lt hA3.lt) hr3 ho3 hap).mono ?_); rintro e6 w6 ⟨v6, rfl, hrp, hb6⟩; have hSW6 := (‹(Below w.heap.size w _ ∧ _ ≤ _) ∧ _ ∧ _ ∧ _ ∧ _ ∧ AnyK _ (w.heap.size + 1 + 1) 3›); have hB6 := hSW6.1.1.trans (below_le hb6 hSW6.1.1.size); have hM6 := Nat.le_trans hSW6.1.2 hb6.size; have hA6 := hSW6.2.2.2.2.2.later hb6; have hlt6 := hSW6.2.2.2.2.2.lt; obtain ⟨A6, n6, c6, B6, m6, d6, rfl⟩ := hrp.shape; obtain ⟨_, _, _, q0, q1, q2, _z0, _z1, _z2⟩ := hA6.c3))
  have hb := below3 hB6 (show w.heap.size ≤ w.heap.size + 1 + 1 by omega) (.bool R.neg) (.slice A6 n6 c6) (.slice B6 m6 d6)
  have f6 := hrp.far3 (g := w.heap.size + 1 + 1) (Nat.lt_succ_self _) (.bool R.neg) (.slice A6 n6 c6) (.slice B6 m6 d6)
  go_wp2
  refine bodyPost_ret (v := .agg #[.bool R.neg, .slice A6 n6 c6, .slice B6 m6 d6]) (by simp [results, Tryz.results120, go_sem, q0, q1, q2]) rfl ⟨_, rfl, f6.mono (by omega), hb⟩
open Go.RowKit Go.Joins
theorem iPlus (x y : RatD) (p q p' q' : Nat) (hx : FE.OkR x p q) (hy : FE.OkR y p' q') (u v : Value) (w : World) (hu : RatV w u x) (hv : RatV w v y) :
 Calls Tryz.prog 120 #[u, v] w fun e w' => ∃ v', e = .returned v' ∧ RatP w' w.heap.size v' (FE.lowI (sgnI x.neg p * q' + sgnI y.neg p' * q) (q * q')) ∧ Below w.heap.size w w' := by
 cases h1 : smallB x
 ·exact iPlus_large_a x y p q p' q' hx hy u v w hu hv h1
 ·cases h2 : smallB y
  ·exact iPlus_large_b x y p q p' q' hx hy u v w hu hv h1 h2
  ·exact iPlus_small x y p q p' q' hx hy u v w hu hv h1 h2
open Go.RowKit Go.Joins
set_option maxRecDepth 100000 in
set_option maxHeartbeats 1600000 in
theorem iRatAdd_ok (x y : RatD) (u v : Value) (w : World) (hu : RatV w u x) (hv : RatV w v y) (fx : x.mag.length ≤ 1048576 ∧ x.den.length ≤ 1048576) (fy : y.mag.length ≤ 1048576 ∧ y.den.length ≤ 1048576) (h1 : FE.ratOk x = true) (h2 : FE.ratOk y = true) :
 Calls Tryz.prog 46 #[u, v] w fun e w' => ∃ v', e = .returned v' ∧ RatP w' w.heap.size v' (FE.radd x y) ∧ Below w.heap.size w w' := by
 obtain ⟨A, c, B, d, rfl, hcd, ra, rb⟩ := hu
 obtain ⟨A', c', B', d', rfl, hcd', ra', rb'⟩ := hv
 have H1 := fun (W : World) (g : Nat) (hW : Below w.heap.size w W) hs => iAreRats [x, y] 2 2 rfl (few2 fx fy) (some ⟨g, 0, none⟩) W (vi2 x y A c B d A' c' B' d' hcd hcd' (ra.later hW) (rb.later hW) (ra'.later hW) (rb'.later hW) hs)
 rw [vok2, h1, h2] at H1
 have H2 := fun (W : World) (hW : Below w.heap.size w W) => iPlus x y _ _ _ _ (FE.ratOk_iff.1 h1) (FE.ratOk_iff.1 h2) _ _ W ⟨A, c, B, d, rfl, hcd, ra.later hW, rb.later hW⟩ ⟨A', c', B', d', rfl, hcd', ra'.later hW, rb'.later hW⟩
 rw [show FE.lowI (sgnI x.neg (FE.nv x.mag) * (FE.nv y.den : Int) + sgnI y.neg (FE.nv y.mag) * (FE.nv x.den : Int)) (FE.nv x.den * FE.nv y.den) = FE.radd x y by unfold FE.radd; rw [h1, h2]; rfl] at H2
 replace H1 := Lib.hid H1
 replace H2 := Lib.hid H2
 clear h1 h2 ra rb ra' rb' hcd hcd' fx fy
 generalize FE.radd x y = R at *
 generalize x.mag.length = n at *
 generalize x.den.length = m at *
 generalize y.mag.length = n' at *
 generalize y.den.length = m' at *
 generalize x.neg = s at *
 generalize y.neg = t at *
 go_enter Tryz.func46, Tryz.ntmps46
 go_wp2_with fail
 refine (H1.out _ _ ((below_alloc3 _ _ _ _).alloc (by simp; omega) _) (Slots.newE rfl (by simp))).mono ?_
 rintro e w1 ⟨rfl, hb1⟩
 have R0 := Slots.new (below_step hb1) (g := w.heap.size + 1 + 1) (by simp)
 have S1 := Slots.new (below_step (below_step hb1)) (g := w.heap.size + 1) (by simp)
 have S0 := Slots.new (below_step (below_step (below_step hb1))) (g := w.heap.size) rfl
 replace hb1 := below_trans ((below_alloc3 _ _ _ _).alloc (by simp; omega) _) hb1
 have hlt := R0.1
 obtain ⟨a0, a1, a2, _, _, _⟩ := S0.c3
 obtain ⟨b0, b1, b2, _, _, _⟩ := S1.c3
 go_wp2_with fail
 refine (H2.out _ hb1).mono ?_
 rintro e w2 ⟨v2, rfl, hp, hb2⟩
 obtain ⟨A6, n6, c6, B6, m6, d6, rfl⟩ := hp.shape
 replace R0 := R0.later hb2
 obtain ⟨_, _, _, q0, q1, q2, z0, z1, z2⟩ := (AnyK.of R0).c3
 have hb := below3 (below_trans hb1 hb2) (show w.heap.size ≤ w.heap.size + 1 + 1 by omega) (.bool R.neg) (.slice A6 n6 c6) (.slice B6 m6 d6)
 have f6 := hp.far3 (g := w.heap.size + 1 + 1) hlt (.bool R.neg) (.slice A6 n6 c6) (.slice B6 m6 d6)
 clear a0 a1 a2 b0 b1 b2 S0 S1 R0
 go_wp2
 refine bodyPost_ret (v := .agg #[.bool R.neg, .slice A6 n6 c6, .slice B6 m6 d6]) (by simp [results, Tryz.results46, go_sem, q0, q1, q2]) rfl ⟨_, rfl, f6.mono (by omega), hb⟩
set_option maxRecDepth 100000 in
set_option maxHeartbeats 1600000 in
theorem iRatAdd_bad (x y : RatD) (u v : Value) (w : World) (hu : RatV w u x) (hv : RatV w v y) (fx : x.mag.length ≤ 1048576 ∧ x.den.length ≤ 1048576) (fy : y.mag.length ≤ 1048576 ∧ y.den.length ≤ 1048576) (h1 : (FE.ratOk x && FE.ratOk y) = false) :
 Calls Tryz.prog 46 #[u, v] w fun e w' => ∃ v', e = .returned v' ∧ RatP w' w.heap.size v' (zR) ∧ Below w.heap.size w w' := by
 obtain ⟨A, c, B, d, rfl, hcd, ra, rb⟩ := hu
 obtain ⟨A', c', B', d', rfl, hcd', ra', rb'⟩ := hv
 have H1 := fun (W : World) (g : Nat) (hW : Below w.heap.size w W) hs => iAreRats [x, y] 2 2 rfl (few2 fx fy) (some ⟨g, 0, none⟩) W (vi2 x y A c B d A' c' B' d' hcd hcd' (ra.later hW) (rb.later hW) (ra'.later hW) (rb'.later hW) hs)
 rw [vok2, h1] at H1
 replace H1 := Lib.hid H1
 clear h1 ra rb ra' rb' hcd hcd' fx fy
 generalize x.mag.length = n at *
 generalize x.den.length = m at *
 generalize y.mag.length = n' at *
 generalize y.den.length = m' at *
 generalize x.neg = s at *
 generalize y.neg = t at *
 go_enter Tryz.func46, Tryz.ntmps46
 go_wp2_with fail
 refine (H1.out _ _ ((below_alloc3 _ _ _ _).alloc (by simp; omega) _) (Slots.newE rfl (by simp))).mono ?_
 rintro e w1 ⟨rfl, hb1⟩
 have R0 := Slots.new (below_step hb1) (g := w.heap.size + 1 + 1) (by simp)
 have S1 := Slots.new (below_step (below_step hb1)) (g := w.heap.size + 1) (by simp)
 have S0 := Slots.new (below_step (below_step (below_step hb1))) (g := w.heap.size) rfl
 replace hb1 := below_trans ((below_alloc3 _ _ _ _).alloc (by simp; omega) _) hb1
 have hlt := R0.1
 obtain ⟨a0, a1, a2, _, _, _⟩ := S0.c3
 obtain ⟨b0, b1, b2, _, _, _⟩ := S1.c3
 obtain ⟨_, _, _, q0, q1, q2, z0, z1, z2⟩ := (AnyK.of R0).c3
 have hb := below3 hb1 (show w.heap.size ≤ w.heap.size + 1 + 1 by omega) (.bool false) (.slice none 0 0) (.slice none 0 0)
 have f6 := (RatP.zero w1 w1.heap.size).far3 (g := w.heap.size + 1 + 1) hlt (.bool false) (.slice none 0 0) (.slice none 0 0)
 go_wp2
 refine bodyPost_ret (v := .agg #[.bool false, .slice none 0 0, .slice none 0 0]) (by simp [results, Tryz.results46, go_sem, q0, q1, q2]) rfl ⟨_, rfl, f6.mono (by omega), hb⟩
theorem iRatAdd (x y : RatD) (u v : Value) (w : World) (hu : RatV w u x) (hv : RatV w v y) (fx : x.mag.length ≤ 1048576 ∧ x.den.length ≤ 1048576) (fy : y.mag.length ≤ 1048576 ∧ y.den.length ≤ 1048576) :
 Calls Tryz.prog 46 #[u, v] w fun e w' => ∃ v', e = .returned v' ∧ RatP w' w.heap.size v' (FE.radd x y) ∧ Below w.heap.size w w' := by
 cases h : FE.ratOk x && FE.ratOk y
 ·rw [show FE.radd x y = zR by unfold FE.radd; rw [h]; rfl]
  exact iRatAdd_bad x y u v w hu hv fx fy h
 ·rw [Bool.and_eq_true] at h
  exact iRatAdd_ok x y u v w hu hv fx fy h.1 h.2
open Go.RowKit Go.Joins
theorem sgnI_neg (s : Bool) (p : Nat) : sgnI (!s && decide (p ≠ 0)) p = - sgnI s p := by
 cases s <;> by_cases h : p = 0 <;> simp [sgnI, h]
theorem okR_neg {y : RatD} (h : FE.ratOk y = true) : FE.OkR (negD y) (FE.nv y.mag) (FE.nv y.den) := by
 have k := FE.ratOk_iff.1 h
 refine ⟨k.mag, k.den, fun hs h0 => ?_, k.q0, k.pl, k.ql, k.gcd⟩
 have hm := k.mag
 rw [h0, FE.toL_zero] at hm
 simp [negD, hm] at hs
theorem rsub_eq {x y : RatD} (h1 : FE.ratOk x = true) (h2 : FE.ratOk y = true) :
 FE.lowI (sgnI x.neg (FE.nv x.mag) * (FE.nv y.den : Int) + sgnI (negD y).neg (FE.nv y.mag) * (FE.nv x.den : Int)) (FE.nv x.den * FE.nv y.den) = FE.rsub x y := by
 have hz : decide (y.mag.length ≠ 0) = decide (FE.nv y.mag ≠ 0) := by
  have k := (FE.ratOk_iff.1 h2).mag
  rw [Bool.eq_iff_iff]
  simp only [decide_eq_true_eq, ne_eq, List.length_eq_zero_iff]
  refine not_congr ?_
  constructor
  ·intro h; rw [h]; rfl
  ·intro h; rw [h, FE.toL_zero] at k; exact k
 unfold FE.rsub
 rw [h1, h2]
 simp only [Bool.and_self, if_true, negD, hz, sgnI_neg]
 congr 1
 simp only [FE.num, sgnI, Int.sub_eq_add_neg, Int.neg_mul]
set_option maxRecDepth 100000 in
set_option maxHeartbeats 1600000 in
theorem iRatSub_ok (x y : RatD) (u v : Value) (w : World) (hu : RatV w u x) (hv : RatV w v y) (fx : x.mag.length ≤ 1048576 ∧ x.den.length ≤ 1048576) (fy : y.mag.length ≤ 1048576 ∧ y.den.length ≤ 1048576) (h1 : FE.ratOk x = true) (h2 : FE.ratOk y = true) :
 Calls Tryz.prog 147 #[u, v] w fun e w' => ∃ v', e = .returned v' ∧ RatP w' w.heap.size v' (FE.rsub x y) ∧ Below w.heap.size w w' := by
 obtain ⟨A, c, B, d, rfl, hcd, ra, rb⟩ := hu
 obtain ⟨A', c', B', d', rfl, hcd', ra', rb'⟩ := hv
 have H1 := fun (W : World) (g : Nat) (hW : Below w.heap.size w W) hs => iAreRats [x, y] 2 2 rfl (few2 fx fy) (some ⟨g, 0, none⟩) W (vi2 x y A c B d A' c' B' d' hcd hcd' (ra.later hW) (rb.later hW) (ra'.later hW) (rb'.later hW) hs)
 rw [vok2, h1, h2] at H1
 have HN := Lib.hid (fun (W : World) (hW : Below w.heap.size w W) => iNegative y _ W ⟨A', c', B', d', rfl, hcd', ra'.later hW, rb'.later hW⟩)
 have H2 := fun (W : World) (hW : Below w.heap.size w W) (v : Value) (hv : RatV W v (negD y)) => iPlus x (negD y) _ _ _ _ (FE.ratOk_iff.1 h1) (okR_neg h2) _ v W ⟨A, c, B, d, rfl, hcd, ra.later hW, rb.later hW⟩ hv
 rw [rsub_eq h1 h2] at H2
 replace H1 := Lib.hid H1
 replace H2 := Lib.hid H2
 clear h1 h2 ra rb ra' rb' hcd hcd' fx fy
 generalize FE.rsub x y = R at *
 generalize x.mag.length = n at *
 generalize x.den.length = m at *
 generalize y.mag.length = n' at *
 generalize y.den.length = m' at *
 generalize x.neg = s at *
 generalize y.neg = t at *
 go_enter Tryz.func147, Tryz.ntmps147
 go_wp2_with fail
 refine (H1.out _ _ ((below_alloc3 _ _ _ _).alloc (by simp; omega) _) (Slots.newE rfl (by simp))).mono ?_
 rintro e w1 ⟨rfl, hb1⟩
 have R0 := Slots.new (below_step hb1) (g := w.heap.size + 1 + 1) (by simp)
 have S1 := Slots.new (below_step (below_step hb1)) (g := w.heap.size + 1) (by simp)
 have S0 := Slots.new (below_step (below_step (below_step hb1))) (g := w.heap.size) rfl
 replace hb1 := below_trans ((below_alloc3 _ _ _ _).alloc (by simp; omega) _) hb1
 have hlt := R0.1
 obtain ⟨a0, a1, a2, _, _, _⟩ := S0.c3
 obtain ⟨b0, b1, b2, _, _, _⟩ := S1.c3
 go_wp2_with fail
 go_region_held3 (fun w' => Below w.heap.size w w' ∧ w'.cell? ⟨w.heap.size, 0, none⟩ = some (.bool s) ∧ w'.cell? ⟨w.heap.size, 1, none⟩ = some (.slice A n c) ∧ w'.cell? ⟨w.heap.size, 2, none⟩ = some (.slice B m d) ∧ w'.cell? ⟨w.heap.size + 1, 0, none⟩ = some (.bool t) ∧ w'.cell? ⟨w.heap.size + 1, 1, none⟩ = some (.slice A' n' c') ∧ w'.cell? ⟨w.heap.size + 1, 2, none⟩ = some (.slice B' m' d') ∧ AnyK w' (w.heap.size + 1 + 1) 3)
  (first | exact kD_3_3 hb1 a0 a1 a2 b0 b1 b2 (AnyK.of R0) | exact kC_3_3 (by omega) (by omega) (by assumption) (by assumption) | exact kS_3_3_3 (by omega) (by omega) (by omega) (by assumption))
  (first
   | (go_at_call 195; (with_reducible refine (HN.out _ (And.left (by assumption))).mono ?_); rintro e3 w3 ⟨v3, rfl, hv3, hb3⟩; have hSW3 := (‹Below w.heap.size w _ ∧ _ ∧ _ ∧ _ ∧ _ ∧ _ ∧ _ ∧ AnyK _ (w.heap.size + 1 + 1) 3›); have hB3 := hSW3.1.trans (below_le hb3 hSW3.1.size); have hA3 := hSW3.2.2.2.2.2.2.2.later hb3; have hlt3 := hSW3.2.2.2.2.2.2.2.lt)
   | (go_at_call 120; (with_reducible refine (H2.out _ (And.left (by assumption)) v3 hv3).mono ?_); rintro e4 w4 ⟨v4, rfl, hp4, hb4⟩; have hSW4 := (‹Below w.heap.size w _ ∧ _ ∧ _ ∧ _ ∧ _ ∧ _ ∧ _ ∧ AnyK _ (w.heap.size + 1 + 1) 3›); have hB4 := hSW4.1.trans (below_le hb4 hSW4.1.size); have hA4 := hSW4.2.2.2.2.2.2.2.later hb4; have hlt4 := hSW4.2.2.2.2.2.2.2.lt; obtain ⟨A6, n6, c6, B6, m6, d6, rfl⟩ := hp4.shape; obtain ⟨_, _, _, q0, q1, q2, _z0, _z1, _z2⟩ := hA4.c3))
 have hp := hp4.mono (base' := w.heap.size + 1 + 1 + 1) (by omega)
 have hb := below3 hB4 (show w.heap.size ≤ w.heap.size + 1 + 1 by omega) (.bool R.neg) (.slice A6 n6 c6) (.slice B6 m6 d6)
 have f6 := hp.far3 (g := w.heap.size + 1 + 1) (Nat.lt_succ_self _) (.bool R.neg) (.slice A6 n6 c6) (.slice B6 m6 d6)
 go_wp2
 refine bodyPost_ret (v := .agg #[.bool R.neg, .slice A6 n6 c6, .slice B6 m6 d6]) (by simp [results, Tryz.results147, go_sem, q0, q1, q2]) rfl ⟨_, rfl, f6.mono (by omega), hb⟩
set_option maxRecDepth 100000 in
set_option maxHeartbeats 1600000 in
theorem iRatSub_bad (x y : RatD) (u v : Value) (w : World) (hu : RatV w u x) (hv : RatV w v y) (fx : x.mag.length ≤ 1048576 ∧ x.den.length ≤ 1048576) (fy : y.mag.length ≤ 1048576 ∧ y.den.length ≤ 1048576) (h1 : (FE.ratOk x && FE.ratOk y) = false) :
 Calls Tryz.prog 147 #[u, v] w fun e w' => ∃ v', e = .returned v' ∧ RatP w' w.heap.size v' (zR) ∧ Below w.heap.size w w' := by
 obtain ⟨A, c, B, d, rfl, hcd, ra, rb⟩ := hu
 obtain ⟨A', c', B', d', rfl, hcd', ra', rb'⟩ := hv
 have H1 := fun (W : World) (g : Nat) (hW : Below w.heap.size w W) hs => iAreRats [x, y] 2 2 rfl (few2 fx fy) (some ⟨g, 0, none⟩) W (vi2 x y A c B d A' c' B' d' hcd hcd' (ra.later hW) (rb.later hW) (ra'.later hW) (rb'.later hW) hs)
 rw [vok2, h1] at H1
 replace H1 := Lib.hid H1
 clear h1 ra rb ra' rb' hcd hcd' fx fy
 generalize x.mag.length = n at *
 generalize x.den.length = m at *
 generalize y.mag.length = n' at *
 generalize y.den.length = m' at *
 generalize x.neg = s at *
 generalize y.neg = t at *
 go_enter Tryz.func147, Tryz.ntmps147
 go_wp2_with fail
 refine (H1.out _ _ ((below_alloc3 _ _ _ _).alloc (by simp; omega) _) (Slots.newE rfl (by simp))).mono ?_
 rintro e w1 ⟨rfl, hb1⟩
 have R0 := Slots.new (below_step hb1) (g := w.heap.size + 1 + 1) (by simp)
 have S1 := Slots.new (below_step (below_step hb1)) (g := w.heap.size + 1) (by simp)
 have S0 := Slots.new (below_step (below_step (below_step hb1))) (g := w.heap.size) rfl
 replace hb1 := below_trans ((below_alloc3 _ _ _ _).alloc (by simp; omega) _) hb1
 have hlt := R0.1
 obtain ⟨a0, a1, a2, _, _, _⟩ := S0.c3
 obtain ⟨b0, b1, b2, _, _, _⟩ := S1.c3
 obtain ⟨_, _, _, q0, q1, q2, z0, z1, z2⟩ := (AnyK.of R0).c3
 have hb := below3 hb1 (show w.heap.size ≤ w.heap.size + 1 + 1 by omega) (.bool false) (.slice none 0 0) (.slice none 0 0)
 have f6 := (RatP.zero w1 w1.heap.size).far3 (g := w.heap.size + 1 + 1) hlt (.bool false) (.slice none 0 0) (.slice none 0 0)
 go_wp2
 refine bodyPost_ret (v := .agg #[.bool false, .slice none 0 0, .slice none 0 0]) (by simp [results, Tryz.results147, go_sem, q0, q1, q2]) rfl ⟨_, rfl, f6.mono (by omega), hb⟩
theorem iRatSub (x y : RatD) (u v : Value) (w : World) (hu : RatV w u x) (hv : RatV w v y) (fx : x.mag.length ≤ 1048576 ∧ x.den.length ≤ 1048576) (fy : y.mag.length ≤ 1048576 ∧ y.den.length ≤ 1048576) :
 Calls Tryz.prog 147 #[u, v] w fun e w' => ∃ v', e = .returned v' ∧ RatP w' w.heap.size v' (FE.rsub x y) ∧ Below w.heap.size w w' := by
 cases h : FE.ratOk x && FE.ratOk y
 ·rw [show FE.rsub x y = zR by unfold FE.rsub; rw [h]; rfl]
  exact iRatSub_bad x y u v w hu hv fx fy h
 ·rw [Bool.and_eq_true] at h
  exact iRatSub_ok x y u v w hu hv fx fy h.1 h.2
open Go.RowKit Go.Joins
theorem small_mul2 {a b : Int} (ha : -999999999 ≤ a ∧ a ≤ 999999999) (hb : -999999999 ≤ b ∧ b ≤ 999999999) : -999999998000000001 ≤ a * b ∧ a * b ≤ 999999998000000001 := by
 have h : (a * b).natAbs ≤ 999999999 * 999999999 := by rw [Int.natAbs_mul]; exact Nat.mul_le_mul (by omega) (by omega)
 omega
theorem sgnI_mul (s t : Bool) (p p' : Nat) : sgnI s p * sgnI t p' = sgnI (s != t) (p * p') := by
 cases s <;> cases t <;> simp [sgnI, Int.natCast_mul, Int.neg_mul, Int.mul_neg]
theorem lowI_sgn (s : Bool) (p q : Nat) : FE.lowI (sgnI s p) q = FE.low s p q := by
 unfold FE.lowI
 have h1 : (sgnI s p).natAbs = p := by cases s <;> simp [sgnI]
 rw [h1, ← low_sg s]
 congr 1
 cases s
 ·rw [Bool.eq_iff_iff]; simp [sgnI]
 ·rw [Bool.eq_iff_iff]; simp only [decide_eq_true_eq, sgnI, if_true, Bool.true_and]; omega
theorem rmul_eq {x y : RatD} (h1 : FE.ratOk x = true) (h2 : FE.ratOk y = true) :
 FE.lowI (sgnI x.neg (FE.nv x.mag) * sgnI y.neg (FE.nv y.mag)) (FE.nv x.den * FE.nv y.den) = FE.rmul x y := by
 unfold FE.rmul; rw [h1, h2]; rfl
set_option maxRecDepth 100000 in
set_option maxHeartbeats 1600000 in
theorem iRatMul_small (x y : RatD) (u v : Value) (w : World) (hu : RatV w u x) (hv : RatV w v y) (fx : x.mag.length ≤ 1048576 ∧ x.den.length ≤ 1048576) (fy : y.mag.length ≤ 1048576 ∧ y.den.length ≤ 1048576) (h1 : FE.ratOk x = true) (h2 : FE.ratOk y = true) (s1 : smallB x = true) (s2 : smallB y = true) :
 Calls Tryz.prog 45 #[u, v] w fun e w' => ∃ v', e = .returned v' ∧ RatP w' w.heap.size v' (FE.rmul x y) ∧ Below w.heap.size w w' := by
 obtain ⟨A, c, B, d, rfl, hcd, ra, rb⟩ := hu
 obtain ⟨A', c', B', d', rfl, hcd', ra', rb'⟩ := hv
 have H1 := fun (W : World) (g : Nat) (hW : Below w.heap.size w W) hs => iAreRats [x, y] 2 2 rfl (few2 fx fy) (some ⟨g, 0, none⟩) W (vi2 x y A c B d A' c' B' d' hcd hcd' (ra.later hW) (rb.later hW) (ra'.later hW) (rb'.later hW) hs)
 rw [vok2, h1, h2] at H1
 have C1 := Lib.hid (fun W (hW : Below w.heap.size w W) => iIsSmall x _ W ⟨A, c, B, d, rfl, hcd, ra.later hW, rb.later hW⟩)
 have C2 := Lib.hid (fun W (hW : Below w.heap.size w W) => iIsSmall y _ W ⟨A', c', B', d', rfl, hcd', ra'.later hW, rb'.later hW⟩)
 rw [s1] at C1
 rw [s2] at C2
 have ox := FE.ratOk_iff.1 h1
 have oy := FE.ratOk_iff.1 h2
 have sx := smallR_of (x := x) (by rw [ox.mag]; exact FE.natOk_of_toL (by have := ox.pl; omega)) (by rw [ox.den]; exact FE.natOk_of_toL (by have := ox.ql; omega)) s1
 have sy := smallR_of (x := y) (by rw [oy.mag]; exact FE.natOk_of_toL (by have := oy.pl; omega)) (by rw [oy.den]; exact FE.natOk_of_toL (by have := oy.ql; omega)) s2
 have C3 := fun W (hW : Below w.heap.size w W) => iSmall x _ _ sx _ W ⟨A, c, B, d, rfl, hcd, ra.later hW, rb.later hW⟩
 have C4 := fun W (hW : Below w.heap.size w W) => iSmall y _ _ sy _ W ⟨A', c', B', d', rfl, hcd', ra'.later hW, rb'.later hW⟩
 have ba : -999999999 ≤ sgnI x.neg (FE.nv x.mag) ∧ sgnI x.neg (FE.nv x.mag) ≤ 999999999 := by have := sx.p1; rcases sgnI_or x.neg (FE.nv x.mag) with h | h <;> rw [h] <;> omega
 have bc : -999999999 ≤ sgnI y.neg (FE.nv y.mag) ∧ sgnI y.neg (FE.nv y.mag) ≤ 999999999 := by have := sy.p1; rcases sgnI_or y.neg (FE.nv y.mag) with h | h <;> rw [h] <;> omega
 obtain ⟨e1, e2⟩ := small_mul2 ba bc
 have bd := sx.q1
 have be := sy.q1
 have bd0 := sx.q0
 have be0 := sy.q0
 have hR := rmul_eq h1 h2
 generalize FE.rmul x y = R at *
 generalize FE.nv x.den = q at *
 generalize FE.nv y.den = q' at *
 generalize sgnI x.neg (FE.nv x.mag) = a at *
 generalize sgnI y.neg (FE.nv y.mag) = b at *
 have e5 : q * q' ≤ 999999999 * 999999999 := Nat.mul_le_mul (by omega) (by omega)
 have e6 : 0 < q * q' := Nat.mul_pos bd0 be0
 have e7 : (q : Int) * (q' : Int) = ((q * q' : Nat) : Int) := by rw [Int.natCast_mul]
 have C5 := fun W => iOfInts (a * b) (q * q') (by omega) e6 (by omega) W
 rw [← e7, hR] at C5
 have e8 : 0 < (q : Int) * (q' : Int) ∧ (q : Int) * (q' : Int) ≤ 999999998000000001 := by rw [e7]; omega
 obtain ⟨e8, e9⟩ := e8
 replace H1 := Lib.hid H1
 replace C1 := Lib.hid C1
 replace C2 := Lib.hid C2
 replace C3 := Lib.hid C3
 replace C4 := Lib.hid C4
 replace C5 := Lib.hid C5
 clear sx sy ox oy h1 h2 s1 s2 hcd hcd' ra rb ra' rb' fx fy e5 e6 e7 ba bc bd be bd0 be0 hR
 generalize x.mag.length = n at *
 generalize x.den.length = m at *
 generalize y.mag.length = n' at *
 generalize y.den.length = m' at *
 generalize x.neg = s at *
 generalize y.neg = t at *
 go_enter Tryz.func45, Tryz.ntmps45
 go_wp2_with fail
 refine (H1.out _ _ ((below_alloc3 _ _ _ _).alloc (by simp; omega) _) (Slots.newE rfl (by simp))).mono ?_
 rintro e w1 ⟨rfl, hb1⟩
 have R0 := Slots.new (below_step hb1) (g := w.heap.size + 1 + 1) (by simp)
 have S1 := Slots.new (below_step (below_step hb1)) (g := w.heap.size + 1) (by simp)
 have S0 := Slots.new (below_step (below_step (below_step hb1))) (g := w.heap.size) rfl
 replace hb1 := below_trans ((below_alloc3 _ _ _ _).alloc (by simp; omega) _) hb1
 have hlt := R0.1
 obtain ⟨a0, a1, a2, _, _, _⟩ := S0.c3
 obtain ⟨b0, b1, b2, _, _, _⟩ := S1.c3
 go_wp2_with fail
 refine (C1.out _ hb1).mono ?_
 rintro e v1 ⟨rfl, hb2⟩
 clear a0 a1 a2 b0 b1 b2
 replace R0 := R0.later hb2
 replace S1 := S1.later hb2
 replace S0 := S0.later hb2
 replace hb1 := below_trans hb1 hb2
 clear hb2
 obtain ⟨a0, a1, a2, _, _, _⟩ := S0.c3
 obtain ⟨b0, b1, b2, _, _, _⟩ := S1.c3
 go_wp2_with fail
 refine (C2.out _ hb1).mono ?_
 rintro e v2 ⟨rfl, hb2⟩
 clear a0 a1 a2 b0 b1 b2
 replace R0 := R0.later hb2
 replace S1 := S1.later hb2
 replace S0 := S0.later hb2
 replace hb1 := below_trans hb1 hb2
 clear hb2
 obtain ⟨a0, a1, a2, _, _, _⟩ := S0.c3
 obtain ⟨b0, b1, b2, _, _, _⟩ := S1.c3
 go_wp2_with fail
 refine (C3.out _ hb1).mono ?_
 rintro e v3 ⟨rfl, hb2⟩
 clear a0 a1 a2 b0 b1 b2
 replace R0 := R0.later hb2
 replace S1 := S1.later hb2
 replace S0 := S0.later hb2
 replace hb1 := below_trans hb1 hb2
 clear hb2
 obtain ⟨a0, a1, a2, _, _, _⟩ := S0.c3
 obtain ⟨b0, b1, b2, _, _, _⟩ := S1.c3
 go_wp2_with fail
 refine (C4.out _ hb1).mono ?_
 rintro e v4 ⟨rfl, hb2⟩
 clear a0 a1 a2 b0 b1 b2
 replace R0 := R0.later hb2
 replace S1 := S1.later hb2
 replace S0 := S0.later hb2
 replace hb1 := below_trans hb1 hb2
 clear hb2
 have hz := R0.1
 go_wp2_with fail
 refine (C5.out _).mono ?_
 rintro e w5 ⟨v5, rfl, hrp, hb2⟩
 replace R0 := R0.later hb2
 replace hb1 := below_trans hb1 hb2
 obtain ⟨A6, n6, c6, B6, m6, d6, rfl⟩ := hrp.shape
 obtain ⟨_, _, _, q0, q1, q2, z0, z1, z2⟩ := (AnyK.of R0).c3
 clear R0 S0 S1 hb2 e1 e2 e8 e9
 have hp := hrp.mono (base' := w.heap.size + 1 + 1 + 1) (by omega)
 have hb := below3 hb1 (show w.heap.size ≤ w.heap.size + 1 + 1 by omega) (.bool R.neg) (.slice A6 n6 c6) (.slice B6 m6 d6)
 have f6 := hp.far3 (g := w.heap.size + 1 + 1) (Nat.lt_succ_self _) (.bool R.neg) (.slice A6 n6 c6) (.slice B6 m6 d6)
 go_wp2
 refine bodyPost_ret (v := .agg #[.bool R.neg, .slice A6 n6 c6, .slice B6 m6 d6]) (by simp [results, Tryz.results45, go_sem, q0, q1, q2]) rfl ⟨_, rfl, f6.mono (by omega), hb⟩
theorem mul_len24n {p q : Nat} (h1 : (FE.toL p).length ≤ 24) (h2 : (FE.toL q).length ≤ 24) : (FE.toL (p * q)).length ≤ 48 := mul_len24 h1 h2
set_option maxRecDepth 100000 in
set_option maxHeartbeats 1600000 in
theorem iRatMul_la (x y : RatD) (u v : Value) (w : World) (hu : RatV w u x) (hv : RatV w v y) (fx : x.mag.length ≤ 1048576 ∧ x.den.length ≤ 1048576) (fy : y.mag.length ≤ 1048576 ∧ y.den.length ≤ 1048576) (h1 : FE.ratOk x = true) (h2 : FE.ratOk y = true) (s1 : smallB x = false) :
 Calls Tryz.prog 45 #[u, v] w fun e w' => ∃ v', e = .returned v' ∧ RatP w' w.heap.size v' (FE.rmul x y) ∧ Below w.heap.size w w' := by
 obtain ⟨A, c, B, d, rfl, hcd, ra, rb⟩ := hu
 obtain ⟨A', c', B', d', rfl, hcd', ra', rb'⟩ := hv
 have H1 := fun (W : World) (g : Nat) (hW : Below w.heap.size w W) hs => iAreRats [x, y] 2 2 rfl (few2 fx fy) (some ⟨g, 0, none⟩) W (vi2 x y A c B d A' c' B' d' hcd hcd' (ra.later hW) (rb.later hW) (ra'.later hW) (rb'.later hW) hs)
 rw [vok2, h1, h2] at H1
 have C1 := Lib.hid (fun W (hW : Below w.heap.size w W) => iIsSmall x _ W ⟨A, c, B, d, rfl, hcd, ra.later hW, rb.later hW⟩)
 have C2 := Lib.hid (fun W (hW : Below w.heap.size w W) => iIsSmall y _ W ⟨A', c', B', d', rfl, hcd', ra'.later hW, rb'.later hW⟩)
 rw [s1] at C1
 clear s1
 have hx := FE.ratOk_iff.1 h1
 have hy := FE.ratOk_iff.1 h2
 have hR := rmul_eq h1 h2
 rw [sgnI_mul, lowI_sgn, ← low_sg] at hR
 have mx := hx.mag
 have my := hy.mag
 have dx := hx.den
 have dy := hy.den
 generalize FE.nv x.mag = p at *
 generalize FE.nv y.mag = p' at *
 generalize FE.nv x.den = q at *
 generalize FE.nv y.den = q' at *
 rw [mx] at ra
 rw [dx] at rb
 rw [my] at ra'
 rw [dy] at rb'
 have hcm := hcd.2.1
 have hcm' := hcd'.2.1
 have hca : (FE.toL p).length ≤ c := by rw [← mx]; exact hcd.1
 have hca' : (FE.toL p').length ≤ c' := by rw [← my]; exact hcd'.1
 have lp := hx.pl
 have lq := hx.ql
 have lp' := hy.pl
 have lq' := hy.ql
 have k1 := mul_len24n lp lp'
 have k3 := mul_len24n lq lq'
 have K1 := Lib.hid (fun W (hW : Below w.heap.size w W) => iBigMul x.neg y.neg p p' (.agg #[.bool x.neg, .slice A (FE.toL p).length c]) (.agg #[.bool y.neg, .slice A' (FE.toL p').length c']) W ⟨A, c, rfl, hca, hcm, ra.later hW⟩ ⟨A', c', rfl, hca', hcm', ra'.later hW⟩ (by omega) (by omega))
 have K2 := Lib.hid (fun W (hW : Below w.heap.size w W) => natMul_nat q q' _ _ d d' rfl rfl (by omega) (by omega) B B' W (rb.later hW) (rb'.later hW))
 have hqq : q * q' ≠ 0 := Nat.mul_ne_zero hx.q0 hy.q0
 have K3 := fun W (base : Nat) (ua v : Value) (hb : base ≤ W.heap.size) k1' k2' (k3' : Apart ua v) => iReduced ((x.neg != y.neg) && decide (p * p' ≠ 0)) (p * p') (q * q') hqq (by intro h; simp at h; intro h0; rcases Nat.mul_eq_zero.1 h0 with h0 | h0 <;> simp [h0] at h) base ua v W hb k1' k2' k3' (by omega) (by omega)
 rw [hR] at K3
 replace K3 := Lib.hid K3
 replace H1 := Lib.hid H1
 replace C1 := Lib.hid C1
 replace C2 := Lib.hid C2
 have e1 := congrArg List.length mx
 have e2 := congrArg List.length dx
 have e3 := congrArg List.length my
 have e4 := congrArg List.length dy
 rw [e1, e2] at C1
 rw [e3, e4] at C2
 rw [e1, e2, e3, e4] at H1 ⊢
 clear h1 h2 hx hy mx my dx dy hcd hcd' ra rb ra' rb' hcm hcm' hca hca' lp lq lp' lq' k1 k3 hqq hR fx fy e1 e2 e3 e4
 generalize FE.rmul x y = R at *
 generalize ((x.neg != y.neg) && decide (p * p' ≠ 0)) = sg' at *
 generalize FE.toL (p * p') = xs at *
 generalize FE.toL (q * q') = ys at *
 generalize (FE.toL p).length = n at *
 generalize (FE.toL q).length = m at *
 generalize (FE.toL p').length = n' at *
 generalize (FE.toL q').length = m' at *
 generalize x.neg = s at *
 generalize y.neg = t at *
 go_enter Tryz.func45, Tryz.ntmps45
 go_wp2_with fail
 refine (H1.out _ _ ((below_alloc3 _ _ _ _).alloc (by simp; omega) _) (Slots.newE rfl (by simp))).mono ?_
 rintro e w1 ⟨rfl, hb1⟩
 have R0 := Slots.new (below_step hb1) (g := w.heap.size + 1 + 1) (by simp)
 have S1 := Slots.new (below_step (below_step hb1)) (g := w.heap.size + 1) (by simp)
 have S0 := Slots.new (below_step (below_step (below_step hb1))) (g := w.heap.size) rfl
 replace hb1 := below_trans ((below_alloc3 _ _ _ _).alloc (by simp; omega) _) hb1
 have hlt := R0.1
 obtain ⟨a0, a1, a2, _, _, _⟩ := S0.c3
 obtain ⟨b0, b1, b2, _, _, _⟩ := S1.c3
 go_wp2_with fail
 refine (C1.out _ hb1).mono ?_
 rintro e v1 ⟨rfl, hb2⟩
 clear a0 a1 a2 b0 b1 b2
 replace R0 := R0.later hb2
 replace S1 := S1.later hb2
 replace S0 := S0.later hb2
 replace hb1 := below_trans hb1 hb2
 clear hb2
 obtain ⟨a0, a1, a2, _, _, _⟩ := S0.c3
 obtain ⟨b0, b1, b2, _, _, _⟩ := S1.c3
 go_wp2_with fail
 go_region_held3 (fun w' => Below w.heap.size w w' ∧ w'.cell? ⟨w.heap.size, 0, none⟩ = some (.bool s) ∧ w'.cell? ⟨w.heap.size, 1, none⟩ = some (.slice A n c) ∧ w'.cell? ⟨w.heap.size, 2, none⟩ = some (.slice B m d) ∧ w'.cell? ⟨w.heap.size + 1, 0, none⟩ = some (.bool t) ∧ w'.cell? ⟨w.heap.size + 1, 1, none⟩ = some (.slice A' n' c') ∧ w'.cell? ⟨w.heap.size + 1, 2, none⟩ = some (.slice B' m' d') ∧ AnyK w' (w.heap.size + 1 + 1) 3)
  (first | exact kD_3_3 hb1 a0 a1 a2 b0 b1 b2 (AnyK.of R0) | exact kC_3_3 (by omega) (by omega) (by assumption) (by assumption) | exact kS_3_3_3 (by omega) (by omega) (by omega) (by assumption))
  (first
   | (go_at_call 118; (with_reducible refine (K1.out _ (And.left (by assumption))).mono ?_); rintro e3 w3 ⟨v3, rfl, ⟨va3, rfl, hro3⟩, hb3⟩; have hSW3 := (‹Below w.heap.size w _ ∧ _ ∧ _ ∧ _ ∧ _ ∧ _ ∧ _ ∧ AnyK _ (w.heap.size + 1 + 1) 3›); have hB3 := hSW3.1.trans (below_le hb3 hSW3.1.size); have hA3 := hSW3.2.2.2.2.2.2.2.later hb3; have hlt3 := hSW3.2.2.2.2.2.2.2.lt; replace hro3 := hro3.mono (base' := w.heap.size + 1 + 1 + 1) (by omega))
   | (go_at_call 119; (with_reducible refine (K2.out _ (And.left (by assumption))).mono ?_); rintro e4 w4 ⟨v4, rfl, hro4, hb4⟩; have hSW4 := (‹Below w.heap.size w _ ∧ _ ∧ _ ∧ _ ∧ _ ∧ _ ∧ _ ∧ AnyK _ (w.heap.size + 1 + 1) 3›); have hB4 := hSW4.1.trans (below_le hb4 hSW4.1.size); have hA4 := hSW4.2.2.2.2.2.2.2.later hb4; have hlt4 := hSW4.2.2.2.2.2.2.2.lt; have hap := apart_of hro3 hro4 (Nat.le_refl _); replace hro3 := hro3.later hb4; replace hro4 := hro4.mono (base' := w.heap.size + 1 + 1 + 1) (by omega))
   | (go_at_call 117; (with_reducible refine (K3.out _ (w.heap.size + 1 + 1 + 1) _ _ (Nat.succ_le_of_lt hA4.lt) hro3 hro4 hap).mono ?_); rintro e6 w6 ⟨v6, rfl, hrp, hb6⟩; have hSW6 := (‹Below w.heap.size w _ ∧ _ ∧ _ ∧ _ ∧ _ ∧ _ ∧ _ ∧ AnyK _ (w.heap.size + 1 + 1) 3›); have hB6 := hSW6.1.trans (below_le hb6 hSW6.1.size); have hA6 := hSW6.2.2.2.2.2.2.2.later hb6; have hlt6 := hSW6.2.2.2.2.2.2.2.lt; obtain ⟨A6, n6, c6, B6, m6, d6, rfl⟩ := hrp.shape; obtain ⟨_, _, _, q0, q1, q2, _z0, _z1, _z2⟩ := hA6.c3))
 have hp := hrp.mono (base' := w.heap.size + 1 + 1 + 1) (by omega)
 have hb := below3 hB6 (show w.heap.size ≤ w.heap.size + 1 + 1 by omega) (.bool R.neg) (.slice A6 n6 c6) (.slice B6 m6 d6)
 have f6 := hp.far3 (g := w.heap.size + 1 + 1) (Nat.lt_succ_self _) (.bool R.neg) (.slice A6 n6 c6) (.slice B6 m6 d6)
 go_wp2
 refine bodyPost_ret (v := .agg #[.bool R.neg, .slice A6 n6 c6, .slice B6 m6 d6]) (by simp [results, Tryz.results45, go_sem, q0, q1, q2]) rfl ⟨_, rfl, f6.mono (by omega), hb⟩
set_option maxRecDepth 100000 in
set_option maxHeartbeats 1600000 in
theorem iRatMul_lb (x y : RatD) (u v : Value) (w : World) (hu : RatV w u x) (hv : RatV w v y) (fx : x.mag.length ≤ 1048576 ∧ x.den.length ≤ 1048576) (fy : y.mag.length ≤ 1048576 ∧ y.den.length ≤ 1048576) (h1 : FE.ratOk x = true) (h2 : FE.ratOk y = true) (s1 : smallB x = true) (s2 : smallB y = false) :
 Calls Tryz.prog 45 #[u, v] w fun e w' => ∃ v', e = .returned v' ∧ RatP w' w.heap.size v' (FE.rmul x y) ∧ Below w.heap.size w w' := by
 obtain ⟨A, c, B, d, rfl, hcd, ra, rb⟩ := hu
 obtain ⟨A', c', B', d', rfl, hcd', ra', rb'⟩ := hv
 have H1 := fun (W : World) (g : Nat) (hW : Below w.heap.size w W) hs => iAreRats [x, y] 2 2 rfl (few2 fx fy) (some ⟨g, 0, none⟩) W (vi2 x y A c B d A' c' B' d' hcd hcd' (ra.later hW) (rb.later hW) (ra'.later hW) (rb'.later hW) hs)
 rw [vok2, h1, h2] at H1
 have C1 := Lib.hid (fun W (hW : Below w.heap.size w W) => iIsSmall x _ W ⟨A, c, B, d, rfl, hcd, ra.later hW, rb.later hW⟩)
 have C2 := Lib.hid (fun W (hW : Below w.heap.size w W) => iIsSmall y _ W ⟨A', c', B', d', rfl, hcd', ra'.later hW, rb'.later hW⟩)
 rw [s1] at C1
 rw [s2] at C2
 clear s1 s2
 have hx := FE.ratOk_iff.1 h1
 have hy := FE.ratOk_iff.1 h2
 have hR := rmul_eq h1 h2
 rw [sgnI_mul, lowI_sgn, ← low_sg] at hR
 have mx := hx.mag
 have my := hy.mag
 have dx := hx.den
 have dy := hy.den
 generalize FE.nv x.mag = p at *
 generalize FE.nv y.mag = p' at *
 generalize FE.nv x.den = q at *
 generalize FE.nv y.den = q' at *
 rw [mx] at ra
 rw [dx] at rb
 rw [my] at ra'
 rw [dy] at rb'
 have hcm := hcd.2.1
 have hcm' := hcd'.2.1
 have hca : (FE.toL p).length ≤ c := by rw [← mx]; exact hcd.1
 have hca' : (FE.toL p').length ≤ c' := by rw [← my]; exact hcd'.1
 have lp := hx.pl
 have lq := hx.ql
 have lp' := hy.pl
 have lq' := hy.ql
 have k1 := mul_len24n lp lp'
 have k3 := mul_len24n lq lq'
 have K1 := Lib.hid (fun W (hW : Below w.heap.size w W) => iBigMul x.neg y.neg p p' (.agg #[.bool x.neg, .slice A (FE.toL p).length c]) (.agg #[.bool y.neg, .slice A' (FE.toL p').length c']) W ⟨A, c, rfl, hca, hcm, ra.later hW⟩ ⟨A', c', rfl, hca', hcm', ra'.later hW⟩ (by omega) (by omega))
 have K2 := Lib.hid (fun W (hW : Below w.heap.size w W) => natMul_nat q q' _ _ d d' rfl rfl (by omega) (by omega) B B' W (rb.later hW) (rb'.later hW))
 have hqq : q * q' ≠ 0 := Nat.mul_ne_zero hx.q0 hy.q0
 have K3 := fun W (base : Nat) (ua v : Value) (hb : base ≤ W.heap.size) k1' k2' (k3' : Apart ua v) => iReduced ((x.neg != y.neg) && decide (p * p' ≠ 0)) (p * p') (q * q') hqq (by intro h; simp at h; intro h0; rcases Nat.mul_eq_zero.1 h0 with h0 | h0 <;> simp [h0] at h) base ua v W hb k1' k2' k3' (by omega) (by omega)
 rw [hR] at K3
 replace K3 := Lib.hid K3
 replace H1 := Lib.hid H1
 replace C1 := Lib.hid C1
 replace C2 := Lib.hid C2
 have e1 := congrArg List.length mx
 have e2 := congrArg List.length dx
 have e3 := congrArg List.length my
 have e4 := congrArg List.length dy
 rw [e1, e2] at C1
 rw [e3, e4] at C2
 rw [e1, e2, e3, e4] at H1 ⊢
 clear h1 h2 hx hy mx my dx dy hcd hcd' ra rb ra' rb' hcm hcm' hca hca' lp lq lp' lq' k1 k3 hqq hR fx fy e1 e2 e3 e4
 generalize FE.rmul x y = R at *
 generalize ((x.neg != y.neg) && decide (p * p' ≠ 0)) = sg' at *
 generalize FE.toL (p * p') = xs at *
 generalize FE.toL (q * q') = ys at *
 generalize (FE.toL p).length = n at *
 generalize (FE.toL q).length = m at *
 generalize (FE.toL p').length = n' at *
 generalize (FE.toL q').length = m' at *
 generalize x.neg = s at *
 generalize y.neg = t at *
 go_enter Tryz.func45, Tryz.ntmps45
 go_wp2_with fail
 refine (H1.out _ _ ((below_alloc3 _ _ _ _).alloc (by simp; omega) _) (Slots.newE rfl (by simp))).mono ?_
 rintro e w1 ⟨rfl, hb1⟩
 have R0 := Slots.new (below_step hb1) (g := w.heap.size + 1 + 1) (by simp)
 have S1 := Slots.new (below_step (below_step hb1)) (g := w.heap.size + 1) (by simp)
 have S0 := Slots.new (below_step (below_step (below_step hb1))) (g := w.heap.size) rfl
 replace hb1 := below_trans ((below_alloc3 _ _ _ _).alloc (by simp; omega) _) hb1
 have hlt := R0.1
 obtain ⟨a0, a1, a2, _, _, _⟩ := S0.c3
 obtain ⟨b0, b1, b2, _, _, _⟩ := S1.c3
 go_wp2_with fail
 refine (C1.out _ hb1).mono ?_
 rintro e v1 ⟨rfl, hb2⟩
 clear a0 a1 a2 b0 b1 b2
 replace R0 := R0.later hb2
 replace S1 := S1.later hb2
 replace S0 := S0.later hb2
 replace hb1 := below_trans hb1 hb2
 clear hb2
 obtain ⟨a0, a1, a2, _, _, _⟩ := S0.c3
 obtain ⟨b0, b1, b2, _, _, _⟩ := S1.c3
 go_wp2_with fail
 refine (C2.out _ hb1).mono ?_
 rintro e v2 ⟨rfl, hb2⟩
 clear a0 a1 a2 b0 b1 b2
 replace R0 := R0.later hb2
 replace S1 := S1.later hb2
 replace S0 := S0.later hb2
 replace hb1 := below_trans hb1 hb2
 clear hb2
 obtain ⟨a0, a1, a2, _, _, _⟩ := S0.c3
 obtain ⟨b0, b1, b2, _, _, _⟩ := S1.c3
 go_wp2_with fail
 go_region_held3 (fun w' => Below w.heap.size w w' ∧ w'.cell? ⟨w.heap.size, 0, none⟩ = some (.bool s) ∧ w'.cell? ⟨w.heap.size, 1, none⟩ = some (.slice A n c) ∧ w'.cell? ⟨w.heap.size, 2, none⟩ = some (.slice B m d) ∧ w'.cell? ⟨w.heap.size + 1, 0, none⟩ = some (.bool t) ∧ w'.cell? ⟨w.heap.size + 1, 1, none⟩ = some (.slice A' n' c') ∧ w'.cell? ⟨w.heap.size + 1, 2, none⟩ = some (.slice B' m' d') ∧ AnyK w' (w.heap.size + 1 + 1) 3)
  (first | exact kD_3_3 hb1 a0 a1 a2 b0 b1 b2 (AnyK.of R0) | exact kC_3_3 (by omega) (by omega) (by assumption) (by assumption) | exact kS_3_3_3 (by omega) (by omega) (by omega) (by assumption))
  (first
   | (go_at_call 118; (with_reducible refine (K1.out _ (And.left (by assumption))).mono ?_); rintro e3 w3 ⟨v3, rfl, ⟨va3, rfl, hro3⟩, hb3⟩; have hSW3 := (‹Below w.heap.size w _ ∧ _ ∧ _ ∧ _ ∧ _ ∧ _ ∧ _ ∧ AnyK _ (w.heap.size + 1 + 1) 3›); have hB3 := hSW3.1.trans (below_le hb3 hSW3.1.size); have hA3 := hSW3.2.2.2.2.2.2.2.later hb3; have hlt3 := hSW3.2.2.2.2.2.2.2.lt; replace hro3 := hro3.mono (base' := w.heap.size + 1 + 1 + 1) (by omega))
   | (go_at_call 119; (with_reducible refine (K2.out _ (And.left (by assumption))).mono ?_); rintro e4 w4 ⟨v4, rfl, hro4, hb4⟩; have hSW4 := (‹Below w.heap.size w _ ∧ _ ∧ _ ∧ _ ∧ _ ∧ _ ∧ _ ∧ AnyK _ (w.heap.size + 1 + 1) 3›); have hB4 := hSW4.1.trans (below_le hb4 hSW4.1.size); have hA4 := hSW4.2.2.2.2.2.2.2.later hb4; have hlt4 := hSW4.2.2.2.2.2.2.2.lt; have hap := apart_of hro3 hro4 (Nat.le_refl _); replace hro3 := hro3.later hb4; replace hro4 := hro4.mono (base' := w.heap.size + 1 + 1 + 1) (by omega))
   | (go_at_call 117; (with_reducible refine (K3.out _ (w.heap.size + 1 + 1 + 1) _ _ (Nat.succ_le_of_lt hA4.lt) hro3 hro4 hap).mono ?_); rintro e6 w6 ⟨v6, rfl, hrp, hb6⟩; have hSW6 := (‹Below w.heap.size w _ ∧ _ ∧ _ ∧ _ ∧ _ ∧ _ ∧ _ ∧ AnyK _ (w.heap.size + 1 + 1) 3›); have hB6 := hSW6.1.trans (below_le hb6 hSW6.1.size); have hA6 := hSW6.2.2.2.2.2.2.2.later hb6; have hlt6 := hSW6.2.2.2.2.2.2.2.lt; obtain ⟨A6, n6, c6, B6, m6, d6, rfl⟩ := hrp.shape; obtain ⟨_, _, _, q0, q1, q2, _z0, _z1, _z2⟩ := hA6.c3))
 have hp := hrp.mono (base' := w.heap.size + 1 + 1 + 1) (by omega)
 have hb := below3 hB6 (show w.heap.size ≤ w.heap.size + 1 + 1 by omega) (.bool R.neg) (.slice A6 n6 c6) (.slice B6 m6 d6)
 have f6 := hp.far3 (g := w.heap.size + 1 + 1) (Nat.lt_succ_self _) (.bool R.neg) (.slice A6 n6 c6) (.slice B6 m6 d6)
 go_wp2
 refine bodyPost_ret (v := .agg #[.bool R.neg, .slice A6 n6 c6, .slice B6 m6 d6]) (by simp [results, Tryz.results45, go_sem, q0, q1, q2]) rfl ⟨_, rfl, f6.mono (by omega), hb⟩
set_option maxRecDepth 100000 in
set_option maxHeartbeats 1600000 in
theorem iRatMul_bad (x y : RatD) (u v : Value) (w : World) (hu : RatV w u x) (hv : RatV w v y) (fx : x.mag.length ≤ 1048576 ∧ x.den.length ≤ 1048576) (fy : y.mag.length ≤ 1048576 ∧ y.den.length ≤ 1048576) (h1 : (FE.ratOk x && FE.ratOk y) = false) :
 Calls Tryz.prog 45 #[u, v] w fun e w' => ∃ v', e = .returned v' ∧ RatP w' w.heap.size v' (zR) ∧ Below w.heap.size w w' := by
 obtain ⟨A, c, B, d, rfl, hcd, ra, rb⟩ := hu
 obtain ⟨A', c', B', d', rfl, hcd', ra', rb'⟩ := hv
 have H1 := fun (W : World) (g : Nat) (hW : Below w.heap.size w W) hs => iAreRats [x, y] 2 2 rfl (few2 fx fy) (some ⟨g, 0, none⟩) W (vi2 x y A c B d A' c' B' d' hcd hcd' (ra.later hW) (rb.later hW) (ra'.later hW) (rb'.later hW) hs)
 rw [vok2, h1] at H1
 replace H1 := Lib.hid H1
 clear h1 ra rb ra' rb' hcd hcd' fx fy
 generalize x.mag.length = n at *
 generalize x.den.length = m at *
 generalize y.mag.length = n' at *
 generalize y.den.length = m' at *
 generalize x.neg = s at *
 generalize y.neg = t at *
 go_enter Tryz.func45, Tryz.ntmps45
 go_wp2_with fail
 refine (H1.out _ _ ((below_alloc3 _ _ _ _).alloc (by simp; omega) _) (Slots.newE rfl (by simp))).mono ?_
 rintro e w1 ⟨rfl, hb1⟩
 have R0 := Slots.new (below_step hb1) (g := w.heap.size + 1 + 1) (by simp)
 have S1 := Slots.new (below_step (below_step hb1)) (g := w.heap.size + 1) (by simp)
 have S0 := Slots.new (below_step (below_step (below_step hb1))) (g := w.heap.size) rfl
 replace hb1 := below_trans ((below_alloc3 _ _ _ _).alloc (by simp; omega) _) hb1
 have hlt := R0.1
 obtain ⟨a0, a1, a2, _, _, _⟩ := S0.c3
 obtain ⟨b0, b1, b2, _, _, _⟩ := S1.c3
 obtain ⟨_, _, _, q0, q1, q2, z0, z1, z2⟩ := (AnyK.of R0).c3
 have hb := below3 hb1 (show w.heap.size ≤ w.heap.size + 1 + 1 by omega) (.bool false) (.slice none 0 0) (.slice none 0 0)
 have f6 := (RatP.zero w1 w1.heap.size).far3 (g := w.heap.size + 1 + 1) hlt (.bool false) (.slice none 0 0) (.slice none 0 0)
 go_wp2
 refine bodyPost_ret (v := .agg #[.bool false, .slice none 0 0, .slice none 0 0]) (by simp [results, Tryz.results45, go_sem, q0, q1, q2]) rfl ⟨_, rfl, f6.mono (by omega), hb⟩
theorem iRatMul_ok (x y : RatD) (u v : Value) (w : World) (hu : RatV w u x) (hv : RatV w v y) (fx : x.mag.length ≤ 1048576 ∧ x.den.length ≤ 1048576) (fy : y.mag.length ≤ 1048576 ∧ y.den.length ≤ 1048576) (h1 : FE.ratOk x = true) (h2 : FE.ratOk y = true) :
 Calls Tryz.prog 45 #[u, v] w fun e w' => ∃ v', e = .returned v' ∧ RatP w' w.heap.size v' (FE.rmul x y) ∧ Below w.heap.size w w' := by
 cases s1 : smallB x
 ·exact iRatMul_la x y u v w hu hv fx fy h1 h2 s1
 ·cases s2 : smallB y
  ·exact iRatMul_lb x y u v w hu hv fx fy h1 h2 s1 s2
  ·exact iRatMul_small x y u v w hu hv fx fy h1 h2 s1 s2
theorem iRatMul (x y : RatD) (u v : Value) (w : World) (hu : RatV w u x) (hv : RatV w v y) (fx : x.mag.length ≤ 1048576 ∧ x.den.length ≤ 1048576) (fy : y.mag.length ≤ 1048576 ∧ y.den.length ≤ 1048576) :
 Calls Tryz.prog 45 #[u, v] w fun e w' => ∃ v', e = .returned v' ∧ RatP w' w.heap.size v' (FE.rmul x y) ∧ Below w.heap.size w w' := by
 cases h : FE.ratOk x && FE.ratOk y
 ·rw [show FE.rmul x y = zR by unfold FE.rmul; rw [h]; rfl]
  exact iRatMul_bad x y u v w hu hv fx fy h
 ·rw [Bool.and_eq_true] at h
  exact iRatMul_ok x y u v w hu hv fx fy h.1 h.2
open Go.RowKit Go.Joins
theorem toL_one1 : FE.toL 1 = [1] := by rw [FE.toL_pos (by omega), show (1 / 1000000000 : Nat) = 0 from rfl, FE.toL_zero]; rfl
open Go.RowKit Go.Joins
open Go.RowKit Go.Joins
open Go.RowKit
set_option maxHeartbeats 400000 in
theorem cmpIsNaN (a : Int) (w : World) : Calls Tryz.prog 224 #[.int .i64 a] w fun e w' => e = .returned (.bool false) ∧ w' = w := by
 go_enter Tryz.func224, Tryz.ntmps224
 go_wp2
 go_ret
 exact ⟨ret_bool (by simp), rfl⟩
set_option maxHeartbeats 400000 in
theorem slicesIsNaN (a : Int) (w : World) : Calls Tryz.prog 203 #[.int .i64 a] w fun e w' => e = .returned (.bool false) ∧ w' = w := by
 go_enter Tryz.func203, Tryz.ntmps203
 go_wp2
 go_ret
 exact ⟨ret_bool (by simp), rfl⟩
set_option maxHeartbeats 400000 in
theorem cmpLess (a b : Int) (w : World) : Calls Tryz.prog 202 #[.int .i64 a, .int .i64 b] w fun e w' => e = .returned (.bool (decide (a < b))) ∧ w' = w := by
 go_enter Tryz.func202, Tryz.ntmps202
 go_wp2_with (go_at_call 224; refine (cmpIsNaN _ _).mono ?_; rintro e w' ⟨rfl, rfl⟩)
 go_ret
 exact ⟨ret_bool (by simp), rfl⟩
structure Found (xs : List Int) (x : Int) (k : Nat) (b : Bool) : Prop where
 le : k ≤ xs.length
 low : ∀ i, i < k → xs.getD i 0 < x
 high : ∀ i, k ≤ i → i < xs.length → x ≤ xs.getD i 0
 hit : b = true ↔ k < xs.length ∧ xs.getD k 0 = x
def Asc (xs : List Int) : Prop := ∀ i j, i < j → j < xs.length → xs.getD i 0 < xs.getD j 0
def BinPost (xs : List Int) (x : Int) (w : World) (e : Ending) (w' : World) : Prop := ∃ (k : Nat) (b : Bool), e = .returned (.tuple #[.int .i64 k, .bool b]) ∧ Found xs x k b ∧ w' = w
set_option maxRecDepth 100000 in
set_option maxHeartbeats 1600000 in
theorem binSearch (xs : List Int) (x : Int) (n c : Nat) (hn : xs.length = n) (hn1 : n ≤ 1048576) (hs : Asc xs) (A : Option Addr) (w : World) (ha : RI w A xs) :
 Calls Tryz.prog 160 #[.slice A n c, .int .i64 x] w (BinPost xs x w) := by
 have HN := Lib.hid hn; clear hn
 have HS := Lib.hid hs; clear hs
 go_enter Tryz.func160, Tryz.ntmps160
 go_wp2_with fail
 go_loop [7, 8] (fun u v => ∃ i j : Nat, i ≤ j ∧ j ≤ n ∧ u = .int .i64 i ∧ v = .int .i64 j ∧ (∀ q, q < i → xs.getD q 0 < x) ∧ (∀ q, j ≤ q → q < n → x ≤ xs.getD q 0)) (fun u v => (intOf v - intOf u).toNat)
 case atStart => exact ⟨0, n, Nat.zero_le _, Nat.le_refl _, rfl, rfl, fun q hq => by omega, fun q h1 h2 => by omega⟩
 case round =>
  obtain ⟨i, j, hij, hjn, rfl, rfl, hlo, hhi⟩ := hrel
  have HL := Lib.hid hlo
  have HH := Lib.hid hhi
  clear hlo hhi
  by_cases hlt : i < j
  ·have h1 : (i : Int) < (j : Int) := by omega
   have b1 : (i : Int) + (j : Int) ≤ 2097152 := by omega
   obtain ⟨m, hm⟩ : ∃ m : Nat, ((i : Int) + (j : Int)) / 2 = (m : Int) := ⟨(i + j) / 2, by omega⟩
   have hm1 : i ≤ m := by omega
   have hm2 : m < j := by omega
   have hm3 : (m : Int) < (n : Int) := by omega
   have hm0 : (0 : Int) ≤ (m : Int) := by omega
   obtain ⟨b0, off, rfl, hb1, hc1⟩ := ha (by intro h; have := HN.out; rw [h] at this; simp at this; omega)
   have e1 := hc1 m (by have := HN.out; omega)
   have HC := Lib.hid hc1
   clear hc1
   obtain ⟨y, hy⟩ : ∃ y, xs.getD m 0 = y := ⟨_, rfl⟩
   rw [hy] at e1
   have HY := Lib.hid hy
   clear hy
   by_cases hyx : y < x
   ·have h2 : decide (y < x) = true := decide_eq_true hyx
    go_wp2_with (go_at_call 202; refine (cmpLess _ _ _).mono ?_; rintro e w' ⟨rfl, rfl⟩)
    go_round
    case rel =>
     refine ⟨m + 1, j, by omega, hjn, by go_num, rfl, fun q hq => ?_, HH.out⟩
     by_cases e : q = m
     ·subst e; rw [HY.out]; exact hyx
     ·have := HS.out q m (by omega) (by have := HN.out; omega)
      rw [HY.out] at this
      omega
    case measure => simp [intOf]; omega
   ·have h2 : decide (y < x) = false := decide_eq_false hyx
    go_wp2_with (go_at_call 202; refine (cmpLess _ _ _).mono ?_; rintro e w' ⟨rfl, rfl⟩)
    go_round
    case rel =>
     refine ⟨i, m, hm1, by omega, rfl, rfl, HL.out, fun q h1 h2 => ?_⟩
     by_cases e : q = m
     ·subst e; rw [HY.out]; omega
     ·have := HS.out m q (by omega) (by have := HN.out; omega)
      rw [HY.out] at this
      omega
    case measure => simp [intOf]; omega
  ·have e : j = i := by omega
   subst e
   have h0 : decide ((j : Int) < (j : Int)) = false := by simp
   by_cases hjn2 : j = n
   ·subst hjn2
    go_wp2
    go_ret2
    refine ⟨j, false, rfl, ⟨by rw [HN.out]; exact Nat.le_refl _, HL.out, fun q h1 h2 => by rw [HN.out] at h2; omega, by rw [HN.out]; simp⟩, rfl⟩
   ·have h3 : (j : Int) < (n : Int) := by omega
    obtain ⟨b0, off, rfl, hb1, hc1⟩ := ha (by intro h; have := HN.out; rw [h] at this; simp at this; omega)
    have e1 := hc1 j (by have := HN.out; omega)
    clear hc1
    obtain ⟨y, hy⟩ : ∃ y, xs.getD j 0 = y := ⟨_, rfl⟩
    rw [hy] at e1
    have HY := Lib.hid hy
    clear hy
    by_cases hyx : y = x
    ·subst hyx
     go_wp2_with (go_at_call 203; refine (slicesIsNaN _ _).mono ?_; rintro e w' ⟨rfl, rfl⟩)
     go_ret2
     exact ⟨j, true, by simp, ⟨by rw [HN.out]; omega, HL.out, fun q h1 h2 => HH.out q h1 (by rw [HN.out] at h2; omega), by rw [HN.out, HY.out]; simp; omega⟩, rfl⟩
    ·have h4 : (y == x) = false := by simp [hyx]
     have HYX := Lib.hid hyx
     clear hyx
     go_wp2_with (go_at_call 203; refine (slicesIsNaN _ _).mono ?_; rintro e w' ⟨rfl, rfl⟩)
     go_ret2
     exact ⟨j, false, by simp, ⟨by rw [HN.out]; omega, HL.out, fun q h1 h2 => HH.out q h1 (by rw [HN.out] at h2; omega), by rw [HN.out, HY.out]; simp [HYX.out]⟩, rfl⟩
open Go.RowKit Go.Joins
set_option maxRecDepth 100000 in
set_option maxHeartbeats 1600000 in
theorem sCopy (x : RatD) (v : Value) (w : World) (hv : RatV w v x) (l1 : x.mag.length ≤ 1048576) (l2 : x.den.length ≤ 1048576) :
 Calls Tryz.prog 154 #[v] w fun e w' => ∃ v', e = .returned v' ∧ RatP w' w.heap.size v' x ∧ Below w.heap.size w w' := by
 obtain ⟨A, c, B, d, rfl, hcd, ra, rb⟩ := hv
 have HRA := Lib.hid (fun W (hW : Below w.heap.size w W) => ra.later hW)
 have HRB := Lib.hid (fun W (hW : Below w.heap.size w W) => rb.later hW)
 clear hcd ra rb
 obtain ⟨s, hs⟩ : ∃ s, x.neg = s := ⟨_, rfl⟩
 rw [hs]
 have HSN := Lib.hid hs
 clear hs
 obtain ⟨n, hn⟩ : ∃ n, x.mag.length = n := ⟨_, rfl⟩
 obtain ⟨m, hm⟩ : ∃ n, x.den.length = n := ⟨_, rfl⟩
 rw [hn] at l1 ⊢
 rw [hm] at l2 ⊢
 have HN := Lib.hid hn
 have HM := Lib.hid hm
 clear hn hm
 have S0 := Slots.new (below_step (Below.refl _ ((w.alloc (.cells #[.bool s, .slice A n c, .slice B m d] 57)).alloc (.cells #[.bool false, .slice none 0 0, .slice none 0 0] 57)))) (g := w.heap.size) rfl
 have R0 := Slots.new (Below.refl _ ((w.alloc (.cells #[.bool s, .slice A n c, .slice B m d] 57)).alloc (.cells #[.bool false, .slice none 0 0, .slice none 0 0] 57))) (g := w.heap.size + 1) (by simp)
 obtain ⟨a0_0, a0_1, a0_2, _, _, _⟩ := S0.c3
 have hS := below_alloc2 w (.cells #[.bool s, .slice A n c, .slice B m d] 57) (.cells #[.bool false, .slice none 0 0, .slice none 0 0] 57)
 clear S0
 go_enter Tryz.func154, Tryz.ntmps154
 go_wp2_with fail
 go_region_held3 (fun w' => Below w.heap.size w w' ∧ w'.cell? ⟨w.heap.size, 0, none⟩ = some (.bool s) ∧ w'.cell? ⟨w.heap.size, 1, none⟩ = some (.slice A n c) ∧ w'.cell? ⟨w.heap.size, 2, none⟩ = some (.slice B m d) ∧ AnyK w' (w.heap.size + 1) 3)
  (first | exact kD_3 hS a0_0 a0_1 a0_2 (AnyK.of R0) | exact kC_3 (by omega) (by assumption) (by assumption) | exact kC_3 (by omega) (by assumption) (below_alloc1 _ _) | exact kS_3_3 (by omega) (by omega) (by assumption))
  (first
   | ((refine stepAppFresh rfl _ _ _ (by rfl) Tryz.underlying40 Tryz.intInfo _ (by rfl) A x.mag n c (by rfl) HN.out (HRA.out _ (And.left (by assumption))) l1 ?_); intro v3 w3 hro3 hb3; obtain ⟨A3, c3, rfl, _⟩ := id hro3; rw [HN.out]; rw [HN.out] at hro3; have hSW3 := (‹Below w.heap.size w _ ∧ _ ∧ _ ∧ _ ∧ AnyK _ (w.heap.size + 1) 3›); have hB3 := hSW3.1.trans (below_le hb3 hSW3.1.size); have hA3 := hSW3.2.2.2.2.later hb3; have hlt3 := hSW3.2.2.2.2.lt; obtain ⟨_, _, _, q0, q1, q2, _z0, _z1, _z2⟩ := hA3.c3)
   | ((refine stepAppFresh rfl _ _ _ (by rfl) Tryz.underlying40 Tryz.intInfo _ (by rfl) B x.den m d (by rfl) HM.out (HRB.out _ (And.left (by assumption))) l2 ?_); intro v4 w4 hro4 hb4; obtain ⟨A4, c4, rfl, _⟩ := id hro4; rw [HM.out]; rw [HM.out] at hro4; have hSW4 := (‹Below w.heap.size w _ ∧ _ ∧ _ ∧ _ ∧ AnyK _ (w.heap.size + 1) 3›); have hB4 := hSW4.1.trans (below_le hb4 hSW4.1.size); have hA4 := hSW4.2.2.2.2.later hb4; have hlt4 := hSW4.2.2.2.2.lt; obtain ⟨_, _, _, q0, q1, q2, _z0, _z1, _z2⟩ := hA4.c3))
 all_goals
  have hb34 : Below w3.heap.size w3 w4 := by first | exact hb4 | exact box_below hb4
  have hap := apart_of hro3 hro4 (by first | exact Nat.le_refl _ | simp)
  have k3 := (hro3.later hb34).mono (base' := w.heap.size + 1 + 1) (by omega)
  have k4 := hro4.mono (base' := w.heap.size + 1 + 1) (by omega)
  have f3 := (((k3.far (p := ⟨w.heap.size + 1, 0, none⟩) (Nat.lt_succ_self _) (.bool s)).far (p := ⟨w.heap.size + 1, 1, none⟩) (Nat.lt_succ_self _) (.slice A3 n c3)).far (p := ⟨w.heap.size + 1, 2, none⟩) (Nat.lt_succ_self _) (.slice A4 m c4))
  have f4 := (((k4.far (p := ⟨w.heap.size + 1, 0, none⟩) (Nat.lt_succ_self _) (.bool s)).far (p := ⟨w.heap.size + 1, 1, none⟩) (Nat.lt_succ_self _) (.slice A3 n c3)).far (p := ⟨w.heap.size + 1, 2, none⟩) (Nat.lt_succ_self _) (.slice A4 m c4))
  have hb := below3 hB4 (show w.heap.size ≤ w.heap.size + 1 by omega) (.bool s) (.slice A3 n c3) (.slice A4 m c4)
  clear hSW3 hSW4 hA3
  go_wp2
  refine bodyPost_ret (v := .agg #[.bool s, .slice A3 n c3, .slice A4 m c4]) (by simp [results, Tryz.results154, go_sem, q0, q1, q2]) rfl ⟨_, rfl, RatP.mk' HSN.out (f3.mono (by omega)) (f4.mono (by omega)) hap, hb⟩
end Go.Proofs.YtlpomcihkjiokaaGreat
