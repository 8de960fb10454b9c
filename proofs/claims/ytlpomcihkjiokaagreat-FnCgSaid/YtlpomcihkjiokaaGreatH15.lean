/-
 Shared texts (H15).
-/
import Derived.Test.YtlpomcihkjiokaaGreatH14
import Derived.Test.YtlpomcihkjiokaaGreatH10
import Derived.Test.YtlpomcihkjiokaaGreatH9
import Derived.Test.YtlpomcihkjiokaaGreatH11
import Derived.Laws.Cover3
import Derived.Test.YtlpomcihkjiokaaGreatH12
namespace Go.Proofs.YtlpomcihkjiokaaGreat
open Go.RowKit Go.Joins
def fRow (x : RowD) (Ls : List (List RatD)) (Ps : List RatD) : Nat → List RatD
 | 0 => []
 | j + 1 => fRow x Ls Ps j ++ [FE.rdiv (minusK Ps (rowAt x j) (fRow x Ls Ps j) (Ls.getD j []) j) (Ps.getD j zR)]
def fPiv (x : RowD) (Ls : List (List RatD)) (Ps : List RatD) (i : Nat) : RatD := minusK Ps (rowAt x i) (fRow x Ls Ps i) (fRow x Ls Ps i) i
def facN (rs : List RowD) : Nat → FacD
 | 0 => ⟨[], []⟩
 | i + 1 => ⟨(facN rs i).lower ++ [fRow (rs.getD i zRow) (facN rs i).lower (facN rs i).pivots i], (facN rs i).pivots ++ [fPiv (rs.getD i zRow) (facN rs i).lower (facN rs i).pivots i]⟩
def facRow (rs : List RowD) (i : Nat) : List RatD := fRow (rs.getD i zRow) (facN rs i).lower (facN rs i).pivots i
def facPiv (rs : List RowD) (i : Nat) : RatD := fPiv (rs.getD i zRow) (facN rs i).lower (facN rs i).pivots i
theorem fRow_len (x : RowD) (Ls : List (List RatD)) (Ps : List RatD) : ∀ j, (fRow x Ls Ps j).length = j
 | 0 => rfl
 | j + 1 => by rw [fRow, List.length_append, fRow_len x Ls Ps j]; rfl
theorem facN_len (rs : List RowD) : ∀ i, (facN rs i).lower.length = i ∧ (facN rs i).pivots.length = i
 | 0 => ⟨rfl, rfl⟩
 | i + 1 => by
  obtain ⟨h1, h2⟩ := facN_len rs i
  simp only [facN, List.length_append, h1, h2, List.length_cons, List.length_nil]
  exact ⟨trivial, trivial⟩
theorem snoc_getD_lt {α : Type} {d : α} {l : List α} {x : α} {i : Nat} (h : i < l.length) : (l ++ [x]).getD i d = l.getD i d := ls_getl h
theorem snoc_getD_eq {α : Type} {d : α} {l : List α} {x : α} {i : Nat} (h : i = l.length) : (l ++ [x]).getD i d = x := by subst h; exact ls_getr
theorem facN_row (rs : List RowD) (j : Nat) : ∀ i, j < i → (facN rs i).lower.getD j [] = facRow rs j ∧ (facN rs i).pivots.getD j zR = facPiv rs j
 | 0, h => by omega
 | i + 1, h => by
  obtain ⟨h1, h2⟩ := facN_len rs i
  by_cases e : j < i
  ·simp only [facN]
   rw [snoc_getD_lt (by omega), snoc_getD_lt (by omega)]
   exact facN_row rs j i e
  ·have e2 : j = i := by omega
   subst e2
   simp only [facN]
   rw [snoc_getD_eq h1.symm, snoc_getD_eq h2.symm]
   exact ⟨rfl, rfl⟩
theorem fRow_res (x : RowD) (Ls : List (List RatD)) (Ps : List RatD) : ∀ j k, k < j → FE.Res ((fRow x Ls Ps j).getD k zR)
 | 0, k, h => by omega
 | j + 1, k, h => by
  have hl := fRow_len x Ls Ps j
  rw [fRow]
  by_cases e : k < j
  ·rw [snoc_getD_lt (by omega)]; exact fRow_res x Ls Ps j k e
  ·rw [snoc_getD_eq (by omega)]; exact FE.rdiv_res _ _
theorem fRow_few {x : RowD} {Ls : List (List RatD)} {Ps : List RatD} {j : Nat} (hj : j ≤ 1048576) : Few (fRow x Ls Ps j) :=
 ⟨by rw [fRow_len]; exact hj, fun k hk => res_few (fRow_res x Ls Ps j k (by rw [fRow_len] at hk; exact hk))⟩
theorem gd_mem {l : List RatD} {k : Nat} (h : k < l.length) : l.getD k zR ∈ l := by
 rw [List.getD_eq_getElem?_getD, List.getElem?_eq_getElem h]; exact List.getElem_mem h
theorem rowAt_res {rs : List RowD} (h : mOk rs = true) {i : Nat} (hi : i < rs.length) (j : Int) : FE.Res (rowAt (rs.getD i zRow) j) := by
 obtain ⟨h1, h2, _⟩ := mOk_row h hi
 unfold rowAt
 split
 ·rename_i h3
  refine Or.inr ?_
  have hk : (rs.getD i zRow).cols.findIdx (· == j) < (rs.getD i zRow).vals.length := by omega
  unfold vok at h2
  rw [List.all_eq_true] at h2
  exact h2 _ (gd_mem hk)
 ·exact Or.inr rint_zero_ok
theorem facPiv_res {rs : List RowD} (h : mOk rs = true) {i : Nat} (hi : i < rs.length) : FE.Res (facPiv rs i) := minusK_res (rowAt_res h hi _) _
theorem facN_few {rs : List RowD} (h : mOk rs = true) {i : Nat} (hi : i ≤ rs.length) : (facN rs i).few := by
 obtain ⟨h1, h2⟩ := facN_len rs i
 have hl : rs.length ≤ 40 := by
  unfold mOk at h
  rw [Bool.and_eq_true, decide_eq_true_eq] at h
  exact h.1
 refine ⟨⟨by omega, fun k hk => ?_⟩, ⟨by omega, fun k hk => ?_⟩⟩
 ·rw [(facN_row rs k i (by omega)).1]; exact fRow_few (by omega)
 ·rw [(facN_row rs k i (by omega)).2]; exact res_few (facPiv_res h (by omega))
theorem FW.nil (w : World) : FW w w.heap.size w.heap.size (.slice none 0 0) (.slice none 0 0) [] [] ⟨[], []⟩ :=
 ⟨LW.nil (World.ownsRow_nil w _ _ _), VW.nil _ _ _ (World.ownsRow_nil w _ _ _), fun b hb => (by cases hb), fun i hi => by simp at hi⟩
theorem FW.facV {w : World} {base hi : Nat} {lv pv : Value} {vs : List Value} {ps : List (Value × Value)} {F : FacD} (h : FW w base hi lv pv vs ps F) : ∃ A c B d, lv = .slice A F.lower.length c ∧ pv = .slice B F.pivots.length d ∧ FacV w (.agg #[lv, pv]) F := by
 have hl := h.rows.ls
 obtain ⟨A, c, rfl, l1, l2⟩ := hl.form
 obtain ⟨B, d, rfl, l3, l4⟩ := h.pivs.form
 exact ⟨A, c, B, d, rfl, rfl, A, c, B, d, rfl, ⟨l1, l2, l3, l4⟩, hl.reads, h.pivs.reads⟩
theorem FW.frame {S : Nat → Prop} {w w' : World} {base hi : Nat} {lv pv : Value} {vs : List Value} {ps : List (Value × Value)} {F : FacD} (h : FW w base hi lv pv vs ps F) (hf : Frame S w w') (hs : ∀ b, base ≤ b → ¬ S b) : FW w' base hi lv pv vs ps F := by
 refine ⟨⟨h.rows.1, h.rows.2.1, ⟨h.rows.2.2.1.1, ?_⟩, h.rows.2.2.2.1, Nat.le_trans h.rows.2.2.2.2.1 hf.size, fun i hi' => (h.rows.2.2.2.2.2 i hi').frame hf (fun b h1 _ => hs b h1)⟩, ⟨h.pivs.1, ⟨h.pivs.2.1.1, ?_⟩, fun j hj => ?_, h.pivs.2.2.2⟩, h.own, h.sep⟩
 ·rcases h.rows.2.2.1.2 with hn | ⟨g, cap, cur, rfl, hbs, hgg, rest⟩
  ·exact .inl hn
  ·exact .inr ⟨g, cap, cur, rfl, hbs, (hf.block g (Array.getElem?_eq_some_iff.1 hgg).1 (hs g hbs)).trans hgg, rest⟩
 ·rcases h.pivs.2.1.2 with hn | ⟨g, cap, cur, rfl, hbs, hgg, rest⟩
  ·exact .inl hn
  ·exact .inr ⟨g, cap, cur, rfl, hbs, (hf.block g (Array.getElem?_eq_some_iff.1 hgg).1 (hs g hbs)).trans hgg, rest⟩
 ·exact ⟨(h.pivs.2.2.1 j hj).1.frame hf (fun b hb' => hs b ((h.pivs.2.2.1 j hj).1.2 b hb').1), (h.pivs.2.2.1 j hj).2.frame hf (fun b hb' => hs b ((h.pivs.2.2.1 j hj).2.2 b hb').1)⟩
def PV (i : Nat) (w : World) (b : Nat) (v : Value) (P : RatD) : Prop := (i = 0 ∧ RatV w v P) ∨ RatP w b v P
theorem PV.reads {i : Nat} {w : World} {b : Nat} {v : Value} {P : RatD} (h : PV i w b v P) : RatV w v P := h.elim (fun h => h.2) (fun h => h.reads)
theorem PV.later {i : Nat} {w w' : World} {b : Nat} {v : Value} {P : RatD} (h : PV i w b v P) (hb : Below w.heap.size w w') : PV i w' b v P := h.imp (fun h => ⟨h.1, h.2.later hb⟩) (fun h => h.later hb)
def PivMeet (i : Nat) (W0 wx : World) (v : Value) (P : RatD) : Prop :=
 ∃ (g : Nat) (A : Option Addr) (n c : Nat) (B : Option Addr) (m d : Nat), v = .pointer (some ⟨g, 0, none⟩) ∧ Slots wx g [.bool P.neg, .slice A n c, .slice B m d] ∧ PV i wx W0.heap.size (.agg #[.bool P.neg, .slice A n c, .slice B m d]) P ∧ Below W0.heap.size W0 wx ∧ W0.heap.size ≤ g
theorem PivMeet.mk {i : Nat} {W0 W : World} {g : Nat} {P : RatD} {A : Option Addr} {n c : Nat} {B : Option Addr} {m d : Nat} {z0 z1 z2 : Value} (S : Slots W g [z0, z1, z2]) (hn : NoInt W g) (r : PV i W W0.heap.size (.agg #[.bool P.neg, .slice A n c, .slice B m d]) P) (hB : Below W0.heap.size W0 W) (b3 : W0.heap.size ≤ g) :
 PivMeet i W0 (((W.setCell ⟨g, 0, none⟩ (.bool P.neg)).setCell ⟨g, 1, none⟩ (.slice A n c)).setCell ⟨g, 2, none⟩ (.slice B m d)) (.pointer (some ⟨g, 0, none⟩)) P :=
 ⟨g, A, n, c, B, m, d, rfl, S.st3 _ _ _, r.imp (fun r => ⟨r.1, r.2.far3n hn S _ _ _ _ _ _ _⟩) (fun r => r.far3n hn S _ _ _ _ _ _ _), below3 hB b3 _ _ _, b3⟩
theorem run_eql_slice_some {P : Program} {w : World} (t e : TypeId) (a : Addr) (l c : Nat) (h : P.underlying t = some (.slice e)) : (binOp .eql t (.slice (some a) l c) (.slice none 0 0)).run P w = .ok (.bool false) w := by
 simp only [binOp]
 simp [run_equal_slice_nil w t e (some a) l c h]
theorem NoInt.newRat {w w2 : World} (hb : Below (w.alloc (.cells #[.bool false, .slice none 0 0, .slice none 0 0] 57)).heap.size (w.alloc (.cells #[.bool false, .slice none 0 0, .slice none 0 0] 57)) w2) : NoInt w2 w.heap.size :=
 NoInt.new hb (fun i u hi x e => by
  subst e
  match i with
  | 0 => simp at hi
  | 1 => simp at hi
  | 2 => simp at hi
  | i + 3 => simp at hi)
theorem cells3 {w : World} {g : Nat} {P : RatD} {va vb : Value} (c0 : w.cell? ⟨g, 0, none⟩ = some (.bool P.neg)) (c1 : w.cell? ⟨g, 1, none⟩ = some va) (c2 : w.cell? ⟨g, 2, none⟩ = some vb) : ∀ j u, (cellsP P (va, vb))[j]? = some u → w.cell? ((⟨g, 0, none⟩ : Addr).add j) = some u := by
 intro j u hj
 match j, hj with
 | 0, hj => simp [cellsP] at hj; subst hj; simpa [Addr.add] using c0
 | 1, hj => simp [cellsP] at hj; subst hj; simpa [Addr.add] using c1
 | 2, hj => simp [cellsP] at hj; subst hj; simpa [Addr.add] using c2
theorem one3 (P : RatD) (A : Option Addr) (n c : Nat) (B : Option Addr) (m d : Nat) : ∀ u ∈ cellsP P (.slice A n c, .slice B m d), u.oneCell' = true := by
 intro u hu
 simp only [cellsP, List.mem_cons, List.not_mem_nil, or_false] at hu
 rcases hu with rfl | rfl | rfl <;> rfl
theorem NoInt.newF {w w2 : World} (hb : Below (w.alloc (.cells #[.slice none 0 0, .slice none 0 0] 32)).heap.size (w.alloc (.cells #[.slice none 0 0, .slice none 0 0] 32)) w2) : NoInt w2 w.heap.size :=
 NoInt.new hb (fun i u hi x e => by
  subst e
  match i with
  | 0 => simp at hi
  | 1 => simp at hi
  | i + 2 => simp at hi)
theorem NoInt.frame {S : Nat → Prop} {w w' : World} {g : Nat} (h : NoInt w g) (hf : Frame S w w') (hs : ¬ S g) : NoInt w' g :=
 ⟨Nat.lt_of_lt_of_le h.1 hf.size, fun o x e => h.2 o x (by rw [← e]; exact (hf.cell h.1 hs).symm)⟩
theorem RatV.far1n {w : World} {v u : Value} {x : RatD} {g o : Nat} (h : RatV w v x) (hn : NoInt w g) : RatV (w.setCell ⟨g, o, none⟩ u) v x := by
 obtain ⟨A0, c0, B0, d0, rfl, hl, h1, h2⟩ := h
 exact ⟨A0, c0, B0, d0, rfl, hl, h1.far hn _, h2.far hn _⟩
theorem RatV.shape {w : World} {v : Value} {r : RatD} (h : RatV w v r) : ∃ A n c B m d, v = .agg #[.bool r.neg, .slice A n c, .slice B m d] := by
 obtain ⟨A, c, B, d, rfl, _⟩ := h
 exact ⟨A, _, c, B, _, d, rfl⟩
set_option maxRecDepth 100000 in
set_option maxHeartbeats 12800000 in
theorem iFactorMatrix (rs : List RowD) (u : Value) (n : Nat) (w : World) (hu : MatV w u rs) (hf : MFew rs) (hn : rs.length = n) (hs : mSym rs = true) (hg : ∀ i, i < n → 0 < rsig (facPiv rs i) ∧ vok (facRow rs i) = true) :
 Calls Tryz.prog 49 #[u] w fun e w' => ∃ v', e = .returned (.tuple #[v', .bool true]) ∧ FacV w' v' (facN rs n) ∧ Below w.heap.size w w' := by
 have hm : mOk rs = true := by
  unfold mSym at hs
  rw [Bool.and_eq_true] at hs
  exact hs.1
 have hn40 : n ≤ 40 := by
  have h := hm
  unfold mOk at h
  rw [Bool.and_eq_true, decide_eq_true_eq, hn] at h
  exact h.1
 have HSY := fun W (hW : Below w.heap.size w W) => iIsSymmetric rs u W (hu.later hW) hf
 rw [hs] at HSY
 replace HSY := Lib.hid HSY
 have HEN := Lib.hid (fun W (hW : Below w.heap.size w W) i (hi : i < n) (j : Int) => iEntry rs u i j W (hu.later hW) hf (by rw [hn]; exact hi) (Nat.le_of_eq (mOk_row hm (by rw [hn]; exact hi)).1.symm) (mOk_row hm (by rw [hn]; exact hi)).2.2.1)
 have HRR := Lib.hid (fun i (hi : i < n) (j : Int) => rowAt_res hm (by rw [hn]; exact hi) j)
 have HPR := Lib.hid (fun i (hi : i < n) => facPiv_res hm (i := i) (by rw [hn]; exact hi))
 have HFF := Lib.hid (fun i (hi : i ≤ n) => facN_few hm (i := i) (by rw [hn]; exact hi))
 have HG := Lib.hid hg
 obtain ⟨A, c, rfl, _, _⟩ := hu
 rw [hn] at HSY HEN ⊢
 clear hf hs hg hm hn
 go_enter Tryz.func49, Tryz.ntmps49
 go_wp2_with fail
 have al := below_alloc2 w (.cells #[.slice A n c] 52) (.cells #[.slice none 0 0, .slice none 0 0] 32)
 refine (HSY.out _ al).mono ?_
 rintro e w1 ⟨rfl, hb1⟩
 have S2 := Slots.new hb1 (g := w.heap.size + 1) (by simp)
 have S1 := Slots.new (below_step hb1) (g := w.heap.size) rfl
 have hb := below_trans al hb1
 have a0 := S1.c1.1
 have al4 := below_alloc1 w1 (.cells #[.slice none 0 0, .slice none 0 0] 32)
 have S4 := Slots.new (Below.refl _ (w1.alloc (.cells #[.slice none 0 0, .slice none 0 0] 32))) (g := w1.heap.size) rfl
 have hz2 := S2.1
 have hzw : (w1.alloc (.cells #[.slice none 0 0, .slice none 0 0] 32)).heap.size = w1.heap.size + 1 := by simp
 replace S1 := S1.later al4
 replace S2 := S2.later al4
 replace hb := below_trans hb al4
 have FW0 := FW.nil (w1.alloc (.cells #[.slice none 0 0, .slice none 0 0] 32))
 rw [hzw] at FW0
 replace a0 := S1.c1.1
 have HNI := Lib.hid (NoInt.newF (w := w1) (Below.refl _ _))
 clear al al4 hb1 HSY
 go_wp2_with fail
 generalize w1.alloc (.cells #[.slice none 0 0, .slice none 0 0] 32) = w2 at *
 generalize w1.heap.size = g4 at *
 clear a0
 go_loopw [17] (fun z wr => ∃ (i : Nat) (lv pv : Value) (vs : List Value) (ps : List (Value × Value)), i ≤ n ∧ z = .int .i64 i ∧ Below g4 w2 wr ∧ Slots wr g4 [lv, pv] ∧ FW wr (g4 + 1) wr.heap.size lv pv vs ps (facN rs i) ∧ (i = 0 → lv.ownBlock = none ∧ pv.ownBlock = none) ∧ NoInt wr g4) (fun z _ => n - (intOf z).toNat)
 case atStart => exact ⟨0, _, _, _, _, Nat.zero_le _, rfl, Below.refl _ _, S4, by rw [hzw]; exact FW0, fun _ => ⟨rfl, rfl⟩, HNI.out⟩
 case round =>
  clear S4 FW0
  obtain ⟨i, lv, pv, vs, ps, hi, rfl, hbr, S4, hfw, hown0, hni⟩ := hrel
  have HNI := Lib.hid hni
  have HO0 := Lib.hid hown0
  clear hni hown0
  have hbw := hb.trans (hbr.mono (by omega))
  have S1r := S1.below hbr (show w.heap.size < g4 by omega)
  have S2r := S2.below hbr (show w.heap.size + 1 < g4 by omega)
  have hs4 := S4.1
  have hbrz := hbr.size
  by_cases hin : i = n
  ·have hlf : ¬ (i < n) := by omega
   rw [hin] at hfw
   obtain ⟨AL, cL, AP, cP, rfl, rfl, _⟩ := hfw.facV
   obtain ⟨p0, p1, _⟩ := S4.k2
   obtain ⟨q0, q1, z0, z1⟩ := S2r.k2
   generalize (facN rs n).lower.length = LL at *
   generalize (facN rs n).pivots.length = PP at *
   have hf2 : Frame (fun b => b = w.heap.size + 1) wr ((wr.setCell ⟨w.heap.size + 1, 0, none⟩ (.slice AL LL cL)).setCell ⟨w.heap.size + 1, 1, none⟩ (.slice AP PP cP)) := ((Frame.refl (fun b => b = w.heap.size + 1) wr).setCell (p := ⟨w.heap.size + 1, 0, none⟩) rfl _).setCell (p := ⟨w.heap.size + 1, 1, none⟩) rfl _
   have hfin := (hfw.frame hf2 (fun b h1 e => by omega)).facV
   have hb2 := (hbw.setCell (p := ⟨w.heap.size + 1, 0, none⟩) (show w.heap.size ≤ w.heap.size + 1 by omega) (.slice AL LL cL)).setCell (p := ⟨w.heap.size + 1, 1, none⟩) (show w.heap.size ≤ w.heap.size + 1 by omega) (.slice AP PP cP)
   have HFIN := Lib.hid (And.intro hfin hb2)
   clear hfin hb2 hf2 hfw S1 S2 S4 S1r S2r hbw hb hbr
   go_wp2
   obtain ⟨_, _, _, _, _, _, hfac⟩ := HFIN.out.1
   exact bodyPost_ret (v := .tuple #[.agg #[.slice AL LL cL, .slice AP PP cP], .bool true]) (by simp [results, Tryz.results49, go_sem, q0, q1]) rfl ⟨_, rfl, hfac, HFIN.out.2⟩
  ·have hltI : (i : Int) < (n : Int) := by omega
   have hlt : i < n := by omega
   obtain ⟨AL, cL, AP, cP, rfl, rfl, hfv⟩ := hfw.facV
   obtain ⟨hll, hpl⟩ := facN_len rs i
   have HLL := Lib.hid hll
   have HPL := Lib.hid hpl
   rw [hll] at S4 hfw HO0
   rw [hpl] at S4 hfw HO0
   have HFW := Lib.hid hfw
   rw [hll, hpl] at hfv
   have HFV := Lib.hid hfv
   have HRI := Lib.hid (HRR.out i hlt)
   have HPI := Lib.hid (HPR.out i hlt)
   have HGI := Lib.hid (HG.out i hlt)
   have HFI := Lib.hid (HFF.out i (by omega))
   have HNEXT := Lib.hid (show facN rs (i + 1) = ⟨(facN rs i).lower ++ [facRow rs i], (facN rs i).pivots ++ [facPiv rs i]⟩ from rfl)
   have HLR := Lib.hid (fun j (hj : j < i) => (facN_row rs j i hj).1)
   have HFP := Lib.hid (show facPiv rs i = minusK (facN rs i).pivots (rowAt (rs.getD i zRow) i) (facRow rs i) (facRow rs i) i from rfl)
   have HFR := Lib.hid (show facRow rs i = fRow (rs.getD i zRow) (facN rs i).lower (facN rs i).pivots i from rfl)
   have HENi := Lib.hid (fun W hW (j : Int) => HEN.out W hW i hlt j)
   have hl0 := World.ownsRow_lit (base := wr.heap.size) (e := 57) (size := 3) wr #[] 0 (by simp) (by unfold maxLen; omega) rfl
   have al7 := below_alloc1 wr (.cells #[] 57)
   have hz7 : wr.heap.size < (wr.alloc (.cells #[] 57)).heap.size := by simp
   clear hll hpl hfw hfv
   go_wp2_with fail
   generalize wr = w3 at *
   generalize w3.alloc (.cells #[] 57) = w4 at *
   go_loopw [6, 22] (fun o z wr => ∃ (j : Nat) (a : Addr) (co : Nat) (ps2 : List (Value × Value)), j ≤ i ∧ z = .int .i64 j ∧ Below w3.heap.size w3 wr ∧ w3.heap.size ≤ wr.heap.size ∧ o = .slice (some a) j co ∧ VW wr w3.heap.size wr.heap.size o ps2 (fRow (rs.getD i zRow) (facN rs i).lower (facN rs i).pivots j)) (fun _ z _ => i - (intOf z).toNat)
   case atStart => exact ⟨0, _, _, [], Nat.zero_le _, rfl, al7, by omega, rfl, VW.nil _ _ _ hl0⟩
   case round =>
    clear hl0 al7 hz7
    obtain ⟨j, a, co, ps2, hj, rfl, hbj, hzj, rfl, hvw⟩ := hrel
    have HVW := Lib.hid hvw
    clear hvw
    have hbwj := below_trans hbw hbj
    have S4j := S4.later hbj
    have S1j := S1r.later hbj
    by_cases hji : j = i
    ·subst j
     replace HVW := HVW.out
     rw [← HFR.out] at HVW
     have hvr := HVW.reads
     replace HVW := Lib.hid HVW
     have hlf2 : ¬ (i < i) := by omega
     have hres := HPI.out
     have fP := res_few hres
     have hrlen : (facRow rs i).length = i := fRow_len _ _ _ _
     have fRw : Few (facRow rs i) := fRow_few (by omega)
     have K2 := fun ur W (hW : Below w3.heap.size w3 W) (hv : VI W (some a) (facRow rs i)) (hr : RatV W ur (rowAt (rs.getD i zRow) i)) => iMinus (facN rs i) (rowAt (rs.getD i zRow) i) (facRow rs i) (facRow rs i) _ ur i co co (some a) (some a) W (HFV.out.later hW) hr hrlen hrlen hv hv (by rw [HPL.out]; exact Nat.le_refl _) (HRI.out i) fRw fRw HFI.out.2
     rw [← HFP.out] at K2
     replace K2 := Lib.hid K2
     have HVR := Lib.hid hvr
     have HENj := Lib.hid (fun W hW => HENi.out W hW (i : Int))
     have HSG := Lib.hid (fun v W hv => iRatSign (facPiv rs i) v W hv fP)
     have hsg : ¬ (rsig (facPiv rs i) ≤ 0) := by have := HGI.out.1; omega
     have HIV := fun W ha => iIfVector (facRow rs i) (fun j hj => fRow_res _ _ _ i j (by rw [hrlen] at hj; exact hj)) i co hrlen fRw (some a) W ha
     rw [HGI.out.2] at HIV
     simp only [if_true] at HIV
     replace HIV := Lib.hid HIV
     have HCP := Lib.hid (fun v W hv => iCopyRat (facPiv rs i) v W hv fP.1 fP.2)
     have HRL := Lib.hid hrlen
     obtain ⟨p0, p1, _⟩ := S4j.k2
     have a0 := S1j.c1.1
     have hs4j := S4j.1
     have hs1j := S1j.1
     generalize rowAt (rs.getD i zRow) (i : Int) = EN at *
     clear fP hres fRw hrlen hvr
     generalize rsig (facPiv rs i) = SG at *
     go_wp2_with fail
     generalize wr = wb at *
     go_cut [8] (fun s8 wx => PivMeet i wb wx s8 (facPiv rs i))
     case first =>
      refine wp_region_held_drew (S := fun W => Below wb.heap.size wb W) (by kernel_rfl) (show Below wb.heap.size wb wb.drew from ⟨rfl, rfl, rfl, Nat.le_refl _, fun _ _ => rfl⟩) (fun hHeld => ?_)
      refine qL (i := 0) (v := ?_) rfl (by kernel_rfl) (fun _ _ _ h => h) (by assumption) (by rfl) (fun W hSw => ?_) ?_
      rotate_left
      ·have f0 := (Below.cell hSw (p := ⟨g4, 0, none⟩) hs4j).trans p0
       have f1 := (Below.cell hSw (p := ⟨g4, 1, none⟩) hs4j).trans p1
       go_simp
       try with_reducible rfl
      try simp only [Act.put, List.setIfInBounds_toArray]
      refine qL (i := 1) (v := ?_) rfl (by kernel_rfl) (fun _ _ _ h => h) (by assumption) (by rfl) (fun W hSw => ?_) ?_
      rotate_left
      ·have f0 := (Below.cell hSw (p := ⟨w.heap.size, 0, none⟩) hs1j).trans a0
       go_simp
       try with_reducible rfl
      try simp only [Act.put]
      refine qL (i := 2) (v := ?_) rfl (by kernel_rfl) (fun _ _ _ h => h) (by assumption) (by rfl) (fun W _ => ?_) ?_
      rotate_left
      ·go_simp
       try with_reducible rfl
      try simp only [Act.put]
      refine qL (i := 3) (v := ?_) rfl (by kernel_rfl) (fun _ _ _ h => h) (by assumption) (by rfl) (fun W _ => ?_) ?_
      rotate_left
      ·go_simp
       try with_reducible rfl
      try simp only [Act.put]
      refine qL (i := 5) (v := ?_) rfl (by kernel_rfl) (fun _ _ _ h => h) (by assumption) (by rfl) (fun W _ => ?_) ?_
      rotate_left
      ·go_simp
       try with_reducible rfl
      try simp only [Act.put]
      refine qL (i := 6) (v := ?_) rfl (by kernel_rfl) (fun _ _ _ h => h) (by assumption) (by rfl) (fun W _ => ?_) ?_
      rotate_left
      ·go_simp
       try with_reducible rfl
      try simp only [Act.put]
      have hBd : Below wb.heap.size wb wb.drew := ⟨rfl, rfl, rfl, Nat.le_refl _, fun _ _ => rfl⟩
      have hzd : wb.heap.size ≤ wb.drew.heap.size := Nat.le_refl _
      refine qR2 (i := 4) (j := 8) (by kernel_rfl) rfl rfl (fun K hK => ?_) (fun K hK => ?_)
      ·simp only [List.getElem_toArray, List.getElem_cons_succ, List.getElem_cons_zero]
       go_simp
       (go_at_call 91; (with_reducible refine (HENj.out _ (below_trans hbwj hBd)).mono ?_); rintro e41 w41 ⟨v41, rfl, he41, hb41⟩)
       try (go_wp2_with fail)
       obtain ⟨_, _, _, _, _, _, rfl⟩ := he41.shape
       have hz41 := hb41.size
       have hB41 := below_trans hBd hb41
       refine hK.out _ _ (hB41) (fun h2 => ?_)
       clear hK K hHeld
       have hHeld := h2
       clear h2
       try simp only [Act.put, List.setIfInBounds_toArray, List.set_cons_zero, List.set_cons_succ]
       refine qR2 (i := 7) (j := 8) (by kernel_rfl) rfl rfl (fun K hK => ?_) (fun K hK => ?_)
       ·simp only [List.getElem_toArray, List.getElem_cons_succ, List.getElem_cons_zero]
        go_simp
        (go_at_call 125; (with_reducible refine (K2.out _ _ (hbj.trans (hB41.mono hzj)) (HVR.out.later hB41) he41).mono ?_); rintro e43 w43 ⟨v43, rfl, hr43, hb43⟩)
        try (go_wp2_with fail)
        have hpv43 : PV i w43 wb.heap.size v43 (facPiv rs i) := hr43.imp (fun h => ⟨h.1, h.2.later hb43⟩) (fun h => h.mono (by first | exact hzd | omega))
        clear hr43
        obtain ⟨_, _, _, _, _, _, rfl⟩ := hpv43.reads.shape
        have hz43 := hb43.size
        have en_43 := he41.later hb43
        have hB43 := below_trans hB41 hb43
        refine hK.out _ _ (hB43) (fun h2 => ?_)
        clear hK K hHeld
        have hHeld := h2
        clear h2
        try simp only [Act.put, List.setIfInBounds_toArray, List.set_cons_zero, List.set_cons_succ]
        refine qR (i := 8) (by kernel_rfl) rfl (fun K hK => ?_)
        simp only [List.getElem_toArray, List.getElem_cons_succ, List.getElem_cons_zero]
        go_simp
        have hb45 := below_alloc1 w43 (.cells #[.bool false, .slice none 0 0, .slice none 0 0] 57)
        have hS := Slots.new (Below.refl _ ((w43.alloc (.cells #[.bool false, .slice none 0 0, .slice none 0 0] 57)))) (g := w43.heap.size) rfl
        have hN : NoInt ((w43.alloc (.cells #[.bool false, .slice none 0 0, .slice none 0 0] 57))) w43.heap.size := NoInt.newRat (w := w43) (Below.refl _ _)
        have hz45 := hb45.size
        have r_45 := hpv43.later hb45
        have hg45 := hS.1
        have hB45 := below_trans hB43 hb45
        generalize (w43.alloc (.cells #[.bool false, .slice none 0 0, .slice none 0 0] 57)) = w45 at *
        refine hK.out _ _ (hB45) (fun h2 => ?_)
        clear hK K hHeld
        have hHeld := h2
        clear h2
        try simp only [Act.put, List.setIfInBounds_toArray, List.set_cons_zero, List.set_cons_succ]
        refine qR (i := 9) (by kernel_rfl) rfl (fun K hK => ?_)
        simp only [List.getElem_toArray, List.getElem_cons_succ, List.getElem_cons_zero]
        have t0 := hS.c3.1
        have t1 := hS.c3.2.1
        have t2 := hS.c3.2.2.1
        have y0 := hS.c3.2.2.2.1
        have y1 := hS.c3.2.2.2.2.1
        have y2 := hS.c3.2.2.2.2.2
        go_simp
        refine hK.out _ _ (below3 hB45 (by omega) _ _ _) (fun h2 => ?_)
        clear hK K hHeld
        have hHeld := h2
        clear h2
        try simp only [Act.put, List.setIfInBounds_toArray, List.set_cons_zero, List.set_cons_succ]
        refine wpAnyH_done (by kernel_rfl) ?_ _
        clear hHeld
        go_wp2_with fail
        go_meet
        exact PivMeet.mk hS hN r_45 hB45 (by omega)
       ·simp only [List.getElem_toArray, List.getElem_cons_succ, List.getElem_cons_zero]
        go_simp
        have hb44 := below_alloc1 w41 (.cells #[.bool false, .slice none 0 0, .slice none 0 0] 57)
        have hS := Slots.new (Below.refl _ ((w41.alloc (.cells #[.bool false, .slice none 0 0, .slice none 0 0] 57)))) (g := w41.heap.size) rfl
        have hN : NoInt ((w41.alloc (.cells #[.bool false, .slice none 0 0, .slice none 0 0] 57))) w41.heap.size := NoInt.newRat (w := w41) (Below.refl _ _)
        have hz44 := hb44.size
        have en_44 := he41.later hb44
        have hg44 := hS.1
        have hB44 := below_trans hB41 hb44
        generalize (w41.alloc (.cells #[.bool false, .slice none 0 0, .slice none 0 0] 57)) = w44 at *
        refine hK.out _ _ (hB44) (fun h2 => ?_)
        clear hK K hHeld
        have hHeld := h2
        clear h2
        try simp only [Act.put, List.setIfInBounds_toArray, List.set_cons_zero, List.set_cons_succ]
        refine qR (i := 7) (by kernel_rfl) rfl (fun K hK => ?_)
        simp only [List.getElem_toArray, List.getElem_cons_succ, List.getElem_cons_zero]
        go_simp
        (go_at_call 125; (with_reducible refine (K2.out _ _ (hbj.trans (hB44.mono hzj)) (HVR.out.later hB44) en_44).mono ?_); rintro e46 w46 ⟨v46, rfl, hr46, hb46⟩)
        try (go_wp2_with fail)
        have hpv46 : PV i w46 wb.heap.size v46 (facPiv rs i) := hr46.imp (fun h => ⟨h.1, h.2.later hb46⟩) (fun h => h.mono (by first | exact hzd | omega))
        clear hr46
        obtain ⟨_, _, _, _, _, _, rfl⟩ := hpv46.reads.shape
        have hz46 := hb46.size
        have en_46 := en_44.later hb46
        have S_46 := hS.later hb46
        have N_46 := hN.later hb46
        have hB46 := below_trans hB44 hb46
        refine hK.out _ _ (hB46) (fun h2 => ?_)
        clear hK K hHeld
        have hHeld := h2
        clear h2
        try simp only [Act.put, List.setIfInBounds_toArray, List.set_cons_zero, List.set_cons_succ]
        refine qR (i := 9) (by kernel_rfl) rfl (fun K hK => ?_)
        simp only [List.getElem_toArray, List.getElem_cons_succ, List.getElem_cons_zero]
        have t0 := S_46.c3.1
        have t1 := S_46.c3.2.1
        have t2 := S_46.c3.2.2.1
        have y0 := S_46.c3.2.2.2.1
        have y1 := S_46.c3.2.2.2.2.1
        have y2 := S_46.c3.2.2.2.2.2
        go_simp
        refine hK.out _ _ (below3 hB46 (by omega) _ _ _) (fun h2 => ?_)
        clear hK K hHeld
        have hHeld := h2
        clear h2
        try simp only [Act.put, List.setIfInBounds_toArray, List.set_cons_zero, List.set_cons_succ]
        refine wpAnyH_done (by kernel_rfl) ?_ _
        clear hHeld
        go_wp2_with fail
        go_meet
        exact PivMeet.mk S_46 N_46 hpv46 hB46 (by omega)
      ·simp only [List.getElem_toArray, List.getElem_cons_succ, List.getElem_cons_zero]
       go_simp
       have hal := below_alloc1 wb (.cells #[.bool false, .slice none 0 0, .slice none 0 0] 57)
       have hb42 : Below wb.drew.heap.size wb.drew ((wb.alloc (.cells #[.bool false, .slice none 0 0, .slice none 0 0] 57)).drew) := ⟨hal.os, hal.tape, hal.output, hal.size, hal.block⟩
       clear hal
       have hS := Slots.newD (Below.refl _ ((wb.alloc (.cells #[.bool false, .slice none 0 0, .slice none 0 0] 57)).drew)) (g := wb.heap.size) rfl
       have hN : NoInt ((wb.alloc (.cells #[.bool false, .slice none 0 0, .slice none 0 0] 57)).drew) wb.heap.size := NoInt.newRat (w := wb) ⟨rfl, rfl, rfl, Nat.le_refl _, fun _ _ => rfl⟩
       have hz42 := hb42.size
       have hg42 := hS.1
       have hB42 := below_trans hBd hb42
       generalize (wb.alloc (.cells #[.bool false, .slice none 0 0, .slice none 0 0] 57)).drew = w42 at *
       refine hK.out _ _ (hB42) (fun h2 => ?_)
       clear hK K hHeld
       have hHeld := h2
       clear h2
       try simp only [Act.put, List.setIfInBounds_toArray, List.set_cons_zero, List.set_cons_succ]
       refine qR (i := 4) (by kernel_rfl) rfl (fun K hK => ?_)
       simp only [List.getElem_toArray, List.getElem_cons_succ, List.getElem_cons_zero]
       go_simp
       (go_at_call 91; (with_reducible refine (HENj.out _ (below_trans hbwj hB42)).mono ?_); rintro e47 w47 ⟨v47, rfl, he47, hb47⟩)
       try (go_wp2_with fail)
       obtain ⟨_, _, _, _, _, _, rfl⟩ := he47.shape
       have hz47 := hb47.size
       have S_47 := hS.later hb47
       have N_47 := hN.later hb47
       have hB47 := below_trans hB42 hb47
       refine hK.out _ _ (hB47) (fun h2 => ?_)
       clear hK K hHeld
       have hHeld := h2
       clear h2
       try simp only [Act.put, List.setIfInBounds_toArray, List.set_cons_zero, List.set_cons_succ]
       refine qR (i := 7) (by kernel_rfl) rfl (fun K hK => ?_)
       simp only [List.getElem_toArray, List.getElem_cons_succ, List.getElem_cons_zero]
       go_simp
       (go_at_call 125; (with_reducible refine (K2.out _ _ (hbj.trans (hB47.mono hzj)) (HVR.out.later hB47) he47).mono ?_); rintro e48 w48 ⟨v48, rfl, hr48, hb48⟩)
       try (go_wp2_with fail)
       have hpv48 : PV i w48 wb.heap.size v48 (facPiv rs i) := hr48.imp (fun h => ⟨h.1, h.2.later hb48⟩) (fun h => h.mono (by first | exact hzd | omega))
       clear hr48
       obtain ⟨_, _, _, _, _, _, rfl⟩ := hpv48.reads.shape
       have hz48 := hb48.size
       have en_48 := he47.later hb48
       have S_48 := S_47.later hb48
       have N_48 := N_47.later hb48
       have hB48 := below_trans hB47 hb48
       refine hK.out _ _ (hB48) (fun h2 => ?_)
       clear hK K hHeld
       have hHeld := h2
       clear h2
       try simp only [Act.put, List.setIfInBounds_toArray, List.set_cons_zero, List.set_cons_succ]
       refine qR (i := 9) (by kernel_rfl) rfl (fun K hK => ?_)
       simp only [List.getElem_toArray, List.getElem_cons_succ, List.getElem_cons_zero]
       have t0 := S_48.c3.1
       have t1 := S_48.c3.2.1
       have t2 := S_48.c3.2.2.1
       have y0 := S_48.c3.2.2.2.1
       have y1 := S_48.c3.2.2.2.2.1
       have y2 := S_48.c3.2.2.2.2.2
       go_simp
       refine hK.out _ _ (below3 hB48 (by omega) _ _ _) (fun h2 => ?_)
       clear hK K hHeld
       have hHeld := h2
       clear h2
       try simp only [Act.put, List.setIfInBounds_toArray, List.set_cons_zero, List.set_cons_succ]
       refine wpAnyH_done (by kernel_rfl) ?_ _
       clear hHeld
       go_wp2_with fail
       go_meet
       exact PivMeet.mk S_48 N_48 hpv48 hB48 (by omega)
     obtain ⟨g8, A8, n8, c8, B8, m8, d8, rfl, S8, rP, hb13, hg8⟩ := hcut
     generalize wc = w5 at *
     have hbj5 := hbj.trans (hb13.mono hzj)
     have hbw5 := below_trans hbwj hb13
     replace S4j := S4j.later hb13
     have hz5 := hb13.size
     replace HVW := Lib.hid (HVW.out.later hb13)
     clear p0 p1 a0 hs4j hs1j S1j HENj K2 HVR
     obtain ⟨x0, x1, x2, _⟩ := S8.c3
     go_wp2_with fail
     refine (HSG.out _ _ rP.reads).mono ?_
     rintro e w6 ⟨rfl, hb6⟩
     replace S8 := S8.later hb6
     replace S4j := S4j.later hb6
     replace rP := rP.later hb6
     replace HVW := Lib.hid (HVW.out.later hb6)
     replace hbj5 := below_trans hbj5 hb6
     replace hbw5 := below_trans hbw5 hb6
     have hz6 := hb6.size
     clear x0 x1 x2
     go_wp2_with fail
     refine (HIV.out _ HVW.out.reads).mono ?_
     rintro e w7 ⟨rfl, hb7⟩
     replace S8 := S8.later hb7
     replace S4j := S4j.later hb7
     replace rP := rP.later hb7
     replace HVW := Lib.hid (HVW.out.later hb7)
     replace hbj5 := below_trans hbj5 hb7
     replace hbw5 := below_trans hbw5 hb7
     have hz7 := hb7.size
     have p07 := S4j.k2.1
     have KE : ∀ W : World, (binOp .eql 28 (.slice (some a) i co) (.slice none 0 0)).run Tryz.prog W = .ok (.bool false) W := fun W => run_eql_slice_some _ _ _ _ _ Tryz.underlying28
     have al8 := below_alloc1 w7 (.cells #[.slice (some a) i co] 28)
     have hz8 : (w7.alloc (.cells #[.slice (some a) i co] 28)).heap.size = w7.heap.size + 1 := by simp
     replace S8 := S8.later al8
     replace S4j := S4j.later al8
     replace rP := rP.later al8
     have hbj8 := below_trans hbj5 al8
     have hbw8 := below_trans hbw5 al8
     have HW8 := HFW.out.later hbj8
     have HX8 := Lib.hid (show VX (w7.alloc (.cells #[.slice (some a) i co] 28)) w3.heap.size (w7.heap.size + 1) (.slice (some a) i co) (facRow rs i) from ⟨ps2, (HVW.out.later al8).parts.wide (Nat.le_refl _) (by rw [hz8]; omega)⟩)
     have HO8 := Lib.hid (show (w7.alloc (.cells #[.slice (some a) i co] 28)).ownsRow (g4 + 1) 28 1 (.slice AL i cL) i vs from by have := HW8.rows.2.2.1; rwa [HLL.out] at this)
     have HL8 := Lib.hid HW8
     have HC8 := Lib.hid (cell_new1s w7 (.slice (some a) i co) 28)
     have HN8 := Lib.hid (show ∀ u ∈ ([.slice (some a) i co] : List Value), u.oneCell' = true from fun u hu => by simp only [List.mem_cons, List.not_mem_nil, or_false] at hu; rw [hu]; rfl)
     obtain ⟨p0, p1, zz0, zz1⟩ := S4j.k2
     have hlo4 : ¬ (Value.slice AL i cL).ownBlock = some g4 := fun e => by have := (World.ownsRow.lt HO8.out g4 e).1; omega
     have hlo8 : ¬ (Value.slice AL i cL).ownBlock = some g8 := fun e => by have := HL8.out.rows.2.2.2.1 g8 e; omega
     clear HW8 al8
     go_wp2_with (at_builtin; refine appOwn rfl _ _ 30 28 rfl Tryz.underlying30 (.slice none 0 0) 1 24 Tryz.rowsInfo rfl (by decide) (by decide) rfl HO8.out (by omega) (by omega) ⟨w7.heap.size, 0, none⟩ rfl [.slice (some a) i co] rfl HC8.out HN8.out ?_; intro v8 w8 ho8 hf8 hob8; obtain ⟨Av, cv, rfl, _⟩ := own_slice ho8; have p08 := (hf8.cell (b := g4) (o := 0) (by omega) hlo4).trans p0; have zz8 := (hf8.frozen (b := g4) (o := 0) (by omega) hlo4).trans zz0)
     have hf8' : Frame (fun b => (Value.slice AL i cL).ownBlock = some b) (w7.alloc (.cells #[.slice (some a) i co] 28)) w8 := hf8
     have hob8' : (Value.slice Av (i + 1) cv).ownBlock = (Value.slice AL i cL).ownBlock ∨ (Value.slice Av (i + 1) cv).ownBlock = some (w7.alloc (.cells #[.slice (some a) i co] 28)).heap.size := hob8
     clear hf8 hob8
     have hzf8 := hf8'.size
     rw [hz8] at hzf8
     have hfs : Frame (fun b => b = g4) w8 (w8.setCell ⟨g4, 0, none⟩ (.slice Av (i + 1) cv)) := Frame.setCell (S := fun b => b = g4) (p := ⟨g4, 0, none⟩) (Frame.refl _ w8) rfl _
     have hzs : (w8.setCell ⟨g4, 0, none⟩ (.slice Av (i + 1) cv)).heap.size = w8.heap.size := by simp [World.setCell]
     have HW9 := Lib.hid ((HL8.out.row HX8.out (by omega) (by omega) (by omega) (by rw [HLL.out]; exact ho8) hf8' hob8').frame hfs (fun b h1 e => by omega))
     rw [← hzs] at HW9
     have S49 := (S4j.frame hf8' hlo4).set 0 (by show 0 < 2; decide) (.slice Av (i + 1) cv)
     have S89 := (S8.frame hf8' hlo8).far (p := ⟨g4, 0, none⟩) (by show g4 ≠ g8; omega) (.slice Av (i + 1) cv)
     have hni7 := HNI.out.later hbj8
     have hni8 := hni7.frame hf8' hlo4
     have hni9 := hni8.set p08 (u := .slice Av (i + 1) cv) (fun x => by intro e; cases e)
     have hrp9 : RatV (w8.setCell ⟨g4, 0, none⟩ (.slice Av (i + 1) cv)) (.agg #[.bool (facPiv rs i).neg, .slice A8 n8 c8, .slice B8 m8 d8]) (facPiv rs i) := by
      rcases rP with ⟨h0, r⟩ | r
      ·have hno : (Value.slice AL i cL).ownBlock = none := (HO0.out h0).1
       exact (r.later ⟨hf8'.os, hf8'.tape, hf8'.output, hf8'.size, fun k hk => hf8'.block k hk (by rw [hno]; intro e; cases e)⟩).far1n hni8
      ·exact ((r.frameLo hf8' (fun b h1 e => by have := HL8.out.rows.2.2.2.1 b e; omega)).far (p := ⟨g4, 0, none⟩) (by show g4 < wb.heap.size; omega) _).reads
     have hB9 : Below g4 w3 (w8.setCell ⟨g4, 0, none⟩ (.slice Av (i + 1) cv)) := ((hbj8.mono (by omega)).trans (hf8'.to_below (B := g4) (by omega) (fun b hb e => by have := (World.ownsRow.lt HO8.out b e).1; omega))).trans (hfs.to_below (B := g4) (by omega) (fun b hb e => by omega))
     have HNI9 := Lib.hid hni9
     have HRP9 := Lib.hid hrp9
     have HB9 := Lib.hid hB9
     clear hni7 hni8 hni9 hrp9 hB9 hfs hf8' hob8' ho8 HL8 HX8 HO8 HC8 HN8 HVW S8 S4j rP p0 p1 zz0 zz1 p08 zz8 p07 KE hbj5 hbj8 hbw5 hbw8 HIV HSG hlo4 hlo8
     generalize w8.setCell ⟨g4, 0, none⟩ (.slice Av (i + 1) cv) = w9 at *
     obtain ⟨x0, x1, x2, _⟩ := S89.c3
     have hown9 : ∀ b, (Value.slice AP i cP).ownBlock = some b → b < w3.heap.size := fun b hb => HFW.out.own b hb
     have hg8n : ¬ (Value.slice AP i cP).ownBlock = some g8 := fun e => by have := hown9 g8 e; omega
     have hg4n : ¬ (Value.slice AP i cP).ownBlock = some g4 := fun e => by have := (World.ownsRow.lt HW9.out.pivs.2.1 g4 e).1; omega
     have HRP9d := Lib.hid (HRP9.out.later (w' := w9.drew) ⟨rfl, rfl, rfl, Nat.le_refl _, fun _ _ => rfl⟩)
     have hs49 := S49.1
     have hs89 := S89.1
     refine wp_region_held_drew (S := fun W => World.cell? W ⟨g8, 0, none⟩ = some (.bool (facPiv rs i).neg) ∧ World.cell? W ⟨g8, 1, none⟩ = some (.slice A8 n8 c8) ∧ World.cell? W ⟨g8, 2, none⟩ = some (.slice B8 m8 d8)) (by kernel_rfl) ⟨x0, x1, x2⟩ (fun hHeld => ?_)
     refine qL (i := 0) (v := ?_) rfl (by kernel_rfl) (fun _ _ _ h => h) (by assumption) (by rfl) (fun W _ => ?_) ?_
     rotate_left
     ·go_simp
      try with_reducible rfl
     try simp only [Act.put, List.setIfInBounds_toArray]
     refine qL (i := 2) (v := ?_) rfl (by kernel_rfl) (fun _ _ _ h => h) (by assumption) (by rfl) (fun W hSw => ?_) ?_
     rotate_left
     ·have v0 := And.left hSw
      have v1 := And.left (And.right hSw)
      have v2 := (And.right (And.right hSw))
      go_simp
      try with_reducible rfl
     try simp only [Act.put]
     have hBd : Below w9.heap.size w9 w9.drew := ⟨rfl, rfl, rfl, Nat.le_refl _, fun _ _ => rfl⟩
     have hzd : w9.heap.size ≤ w9.drew.heap.size := Nat.le_refl _
     refine qR2 (i := 1) (j := 3) (by kernel_rfl) rfl rfl (fun K hK => ?_) (fun K hK => ?_)
     ·simp only [List.getElem_toArray, List.getElem_cons_succ, List.getElem_cons_zero]
      have T := (S49).k2
      have t1 := T.2.1
      clear T
      go_simp
      clear t1
      refine hK.out _ _ (hHeld) (fun h2 => ?_)
      clear hK K hHeld
      have hHeld := h2
      clear h2
      try simp only [Act.put, List.setIfInBounds_toArray, List.set_cons_zero, List.set_cons_succ]
      refine qR (i := 3) (by kernel_rfl) rfl (fun K hK => ?_)
      simp only [List.getElem_toArray, List.getElem_cons_succ, List.getElem_cons_zero]
      go_simp
      (go_at_call 123; (with_reducible refine (HCP.out _ _ HRP9d.out).mono ?_); rintro e33 w33 ⟨v33, rfl, hp33, hd33⟩)
      try (go_wp2_with fail)
      have hb33 := below_trans hBd hd33
      have hz33 := hb33.size
      obtain ⟨A9, n9, c9, B9, m9, d9, rfl⟩ := hp33.shape
      refine hK.out _ _ ⟨cell_later hs89 x0 hb33, cell_later hs89 x1 hb33, cell_later hs89 x2 hb33⟩ (fun h2 => ?_)
      clear hK K hHeld
      have hHeld := h2
      clear h2
      try simp only [Act.put, List.setIfInBounds_toArray, List.set_cons_zero, List.set_cons_succ]
      refine qR (i := 4) (by kernel_rfl) rfl (fun K hK => ?_)
      simp only [List.getElem_toArray, List.getElem_cons_succ, List.getElem_cons_zero]
      go_simp
      have al9 := below_alloc1 w33 (.cells #[.bool (facPiv rs i).neg, .slice A9 n9 c9, .slice B9 m9 d9] 57)
      have Z9 := (Slots.new (Below.refl _ (w33.alloc (.cells #[.bool (facPiv rs i).neg, .slice A9 n9 c9, .slice B9 m9 d9] 57))) (g := w33.heap.size) rfl).c3
      have c0 := Z9.1
      have c1 := Z9.2.1
      have c2 := Z9.2.2.1
      clear Z9
      have hb34 := below_trans hb33 al9
      have hz34 : (w33.alloc (.cells #[.bool (facPiv rs i).neg, .slice A9 n9 c9, .slice B9 m9 d9] 57)).heap.size = w33.heap.size + 1 := by simp
      obtain ⟨va, vb, ev, ra, rb, hap⟩ := hp33
      injection ev with ev
      injection ev with ev
      injection ev with ev0 ev
      injection ev with ev1 ev
      injection ev with ev2 _
      subst ev1 ev2
      clear ev0
      have ia := (ra.io.later al9).wide (lo' := w9.heap.size) (hi' := w33.heap.size + 1) (by exact Nat.le_refl _) (by omega)
      have ib := (rb.io.later al9).wide (lo' := w9.heap.size) (hi' := w33.heap.size + 1) (by exact Nat.le_refl _) (by omega)
      clear ra rb al9
      have hfw34 := HW9.out.later hb34
      generalize w33.alloc (.cells #[.bool (facPiv rs i).neg, .slice A9 n9 c9, .slice B9 m9 d9] 57) = w34 at *
      have z0 := cell_later hs89 x0 hb34
      have z1 := cell_later hs89 x1 hb34
      have z2 := cell_later hs89 x2 hb34
      refine hK.out _ _ ⟨z0, z1, z2⟩ (fun h2 => ?_)
      clear hK K hHeld
      have hHeld := h2
      clear h2
      try simp only [Act.put, List.setIfInBounds_toArray, List.set_cons_zero, List.set_cons_succ]
      refine qR (i := 5) (by kernel_rfl) rfl (fun K hK => ?_)
      simp only [List.getElem_toArray, List.getElem_cons_succ, List.getElem_cons_zero]
      rw [if_pos (by rfl)]
      refine wpAppOwn _ _ 28 57 (by rfl) Tryz.underlying28 (.agg #[.bool false, .slice none 0 0, .slice none 0 0]) 3 56 Tryz.ratInfo rfl (by decide) (by decide) (by rfl) hfw34.pivs.2.1 (by rw [show (FacD.pivots { lower := (facN rs i).lower ++ [facRow rs i], pivots := (facN rs i).pivots }).length = i from HPL.out]; omega) (by omega) ⟨w33.heap.size, 0, none⟩ (by rfl) (cellsP (facPiv rs i) (.slice A9 n9 c9, .slice B9 m9 d9)) rfl (cells3 c0 c1 c2) (one3 _ _ _ _ _ _ _) ?_
      intro v10 w10 ho10 hf10 hob10
      have hfw10 := hfw34.piv ia ib hap (by omega) (by omega) (by omega) ho10 hf10 hob10
      rw [show (FacD.pivots { lower := (facN rs i).lower ++ [facRow rs i], pivots := (facN rs i).pivots }).length = i from HPL.out] at ho10
      obtain ⟨Aw, cw, rfl, _⟩ := own_slice ho10
      have hz10 := hf10.size
      have y0 := (hf10.cell (b := g8) (o := 0) (by omega) hg8n).trans z0
      have y1 := (hf10.cell (b := g8) (o := 1) (by omega) hg8n).trans z1
      have y2 := (hf10.cell (b := g8) (o := 2) (by omega) hg8n).trans z2
      have S410 := (S49.later hb34).frame hf10 hg4n
      have hni10 := (HNI9.out.later hb34).frame hf10 hg4n
      have hB10 : Below g4 w9 w10 := (hb34.mono (by omega)).trans (hf10.to_below (B := g4) (by omega) (fun b hb e => by have := (World.ownsRow.lt hfw34.pivs.2.1 b e).1; omega))
      refine hK.out _ _ ⟨y0, y1, y2⟩ (fun h2 => ?_)
      clear hK K hHeld
      have hHeld := h2
      clear h2
      try simp only [Act.put, List.setIfInBounds_toArray, List.set_cons_zero, List.set_cons_succ]
      refine qL (i := 6) (v := ?_) rfl (by kernel_rfl) (fun _ _ _ h => h) (by assumption) (by rfl) (fun W _ => ?_) ?_
      rotate_left
      ·go_simp
       try with_reducible rfl
      try simp only [Act.put, List.setIfInBounds_toArray]
      refine qR (i := 7) (by kernel_rfl) rfl (fun K hK => ?_)
      simp only [List.getElem_toArray, List.getElem_cons_succ, List.getElem_cons_zero]
      have T := S410.k2
      have t0 := T.1
      have t1 := T.2.1
      have t2 := T.2.2.1
      have t3 := T.2.2.2
      clear T
      have hfs : Frame (fun b => b = g4) w10 (w10.setCell ⟨g4, 1, none⟩ (.slice Aw (i + 1) cw)) := Frame.setCell (S := fun b => b = g4) (p := ⟨g4, 1, none⟩) (Frame.refl _ w10) rfl _
      have hFW2 := (hfw10.frame hfs (fun b h1 e => by omega))
      have hzs : (w10.setCell ⟨g4, 1, none⟩ (.slice Aw (i + 1) cw)).heap.size = w10.heap.size := by simp [World.setCell]
      rw [← hzs] at hFW2
      have hSf := S410.set 1 (by show 1 < 2; decide) (.slice Aw (i + 1) cw)
      have hNf := hni10.set t1 (u := .slice Aw (i + 1) cw) (fun x => by intro e; cases e)
      have hBf := hB10.trans (hfs.to_below (B := g4) (by omega) (fun b hb e => by omega))
      go_simp
      refine hK.out _ _ ⟨((Frame.setCell (S := fun b => b = g4) (p := ⟨g4, 1, none⟩) (Frame.refl _ w10) rfl (.slice Aw (i + 1) cw)).cell (by omega) (by omega)).trans y0, ((Frame.setCell (S := fun b => b = g4) (p := ⟨g4, 1, none⟩) (Frame.refl _ w10) rfl (.slice Aw (i + 1) cw)).cell (by omega) (by omega)).trans y1, ((Frame.setCell (S := fun b => b = g4) (p := ⟨g4, 1, none⟩) (Frame.refl _ w10) rfl (.slice Aw (i + 1) cw)).cell (by omega) (by omega)).trans y2⟩ (fun h2 => ?_)
      clear hK K hHeld
      have hHeld := h2
      clear h2
      try simp only [Act.put, List.setIfInBounds_toArray, List.set_cons_zero, List.set_cons_succ]
      refine wpAnyH_done (by kernel_rfl) ?_ _
      clear hHeld
      have hfin := hFW2
      rw [show ({ lower := ({ lower := (facN rs i).lower ++ [facRow rs i], pivots := (facN rs i).pivots } : FacD).lower, pivots := ({ lower := (facN rs i).lower ++ [facRow rs i], pivots := (facN rs i).pivots } : FacD).pivots ++ [facPiv rs i] } : FacD) = facN rs (i + 1) from HNEXT.out.symm] at hfin
      have HF := Lib.hid hfin
      have hbr2 := hbr.trans (HB9.out.trans hBf)
      clear hfin hFW2 hBf x0 x1 x2
      go_wp2
      go_roundw
      case rel => exact ⟨i + 1, _, _, _, _, by omega, rfl, hbr2, hSf, HF.out, fun h => by omega, hNf⟩
      case measure => simp [intOf]; omega
     ·simp only [List.getElem_toArray, List.getElem_cons_succ, List.getElem_cons_zero]
      go_simp
      (go_at_call 123; (with_reducible refine (HCP.out _ _ HRP9d.out).mono ?_); rintro e33 w33 ⟨v33, rfl, hp33, hd33⟩)
      try (go_wp2_with fail)
      have hb33 := below_trans hBd hd33
      have hz33 := hb33.size
      obtain ⟨A9, n9, c9, B9, m9, d9, rfl⟩ := hp33.shape
      refine hK.out _ _ ⟨cell_later hs89 x0 hb33, cell_later hs89 x1 hb33, cell_later hs89 x2 hb33⟩ (fun h2 => ?_)
      clear hK K hHeld
      have hHeld := h2
      clear h2
      try simp only [Act.put, List.setIfInBounds_toArray, List.set_cons_zero, List.set_cons_succ]
      refine qR2 (i := 1) (j := 4) (by kernel_rfl) rfl rfl (fun K hK => ?_) (fun K hK => ?_)
      ·simp only [List.getElem_toArray, List.getElem_cons_succ, List.getElem_cons_zero]
       have T := (S49.later hb33).k2
       have t1 := T.2.1
       clear T
       go_simp
       clear t1
       refine hK.out _ _ ⟨cell_later hs89 x0 hb33, cell_later hs89 x1 hb33, cell_later hs89 x2 hb33⟩ (fun h2 => ?_)
       clear hK K hHeld
       have hHeld := h2
       clear h2
       try simp only [Act.put, List.setIfInBounds_toArray, List.set_cons_zero, List.set_cons_succ]
       refine qR (i := 4) (by kernel_rfl) rfl (fun K hK => ?_)
       simp only [List.getElem_toArray, List.getElem_cons_succ, List.getElem_cons_zero]
       go_simp
       have al9 := below_alloc1 w33 (.cells #[.bool (facPiv rs i).neg, .slice A9 n9 c9, .slice B9 m9 d9] 57)
       have Z9 := (Slots.new (Below.refl _ (w33.alloc (.cells #[.bool (facPiv rs i).neg, .slice A9 n9 c9, .slice B9 m9 d9] 57))) (g := w33.heap.size) rfl).c3
       have c0 := Z9.1
       have c1 := Z9.2.1
       have c2 := Z9.2.2.1
       clear Z9
       have hb34 := below_trans hb33 al9
       have hz34 : (w33.alloc (.cells #[.bool (facPiv rs i).neg, .slice A9 n9 c9, .slice B9 m9 d9] 57)).heap.size = w33.heap.size + 1 := by simp
       obtain ⟨va, vb, ev, ra, rb, hap⟩ := hp33
       injection ev with ev
       injection ev with ev
       injection ev with ev0 ev
       injection ev with ev1 ev
       injection ev with ev2 _
       subst ev1 ev2
       clear ev0
       have ia := (ra.io.later al9).wide (lo' := w9.heap.size) (hi' := w33.heap.size + 1) (by exact Nat.le_refl _) (by omega)
       have ib := (rb.io.later al9).wide (lo' := w9.heap.size) (hi' := w33.heap.size + 1) (by exact Nat.le_refl _) (by omega)
       clear ra rb al9
       have hfw34 := HW9.out.later hb34
       generalize w33.alloc (.cells #[.bool (facPiv rs i).neg, .slice A9 n9 c9, .slice B9 m9 d9] 57) = w34 at *
       have z0 := cell_later hs89 x0 hb34
       have z1 := cell_later hs89 x1 hb34
       have z2 := cell_later hs89 x2 hb34
       refine hK.out _ _ ⟨z0, z1, z2⟩ (fun h2 => ?_)
       clear hK K hHeld
       have hHeld := h2
       clear h2
       try simp only [Act.put, List.setIfInBounds_toArray, List.set_cons_zero, List.set_cons_succ]
       refine qR (i := 5) (by kernel_rfl) rfl (fun K hK => ?_)
       simp only [List.getElem_toArray, List.getElem_cons_succ, List.getElem_cons_zero]
       rw [if_pos (by rfl)]
       refine wpAppOwn _ _ 28 57 (by rfl) Tryz.underlying28 (.agg #[.bool false, .slice none 0 0, .slice none 0 0]) 3 56 Tryz.ratInfo rfl (by decide) (by decide) (by rfl) hfw34.pivs.2.1 (by rw [show (FacD.pivots { lower := (facN rs i).lower ++ [facRow rs i], pivots := (facN rs i).pivots }).length = i from HPL.out]; omega) (by omega) ⟨w33.heap.size, 0, none⟩ (by rfl) (cellsP (facPiv rs i) (.slice A9 n9 c9, .slice B9 m9 d9)) rfl (cells3 c0 c1 c2) (one3 _ _ _ _ _ _ _) ?_
       intro v10 w10 ho10 hf10 hob10
       have hfw10 := hfw34.piv ia ib hap (by omega) (by omega) (by omega) ho10 hf10 hob10
       rw [show (FacD.pivots { lower := (facN rs i).lower ++ [facRow rs i], pivots := (facN rs i).pivots }).length = i from HPL.out] at ho10
       obtain ⟨Aw, cw, rfl, _⟩ := own_slice ho10
       have hz10 := hf10.size
       have y0 := (hf10.cell (b := g8) (o := 0) (by omega) hg8n).trans z0
       have y1 := (hf10.cell (b := g8) (o := 1) (by omega) hg8n).trans z1
       have y2 := (hf10.cell (b := g8) (o := 2) (by omega) hg8n).trans z2
       have S410 := (S49.later hb34).frame hf10 hg4n
       have hni10 := (HNI9.out.later hb34).frame hf10 hg4n
       have hB10 : Below g4 w9 w10 := (hb34.mono (by omega)).trans (hf10.to_below (B := g4) (by omega) (fun b hb e => by have := (World.ownsRow.lt hfw34.pivs.2.1 b e).1; omega))
       refine hK.out _ _ ⟨y0, y1, y2⟩ (fun h2 => ?_)
       clear hK K hHeld
       have hHeld := h2
       clear h2
       try simp only [Act.put, List.setIfInBounds_toArray, List.set_cons_zero, List.set_cons_succ]
       refine qL (i := 6) (v := ?_) rfl (by kernel_rfl) (fun _ _ _ h => h) (by assumption) (by rfl) (fun W _ => ?_) ?_
       rotate_left
       ·go_simp
        try with_reducible rfl
       try simp only [Act.put, List.setIfInBounds_toArray]
       refine qR (i := 7) (by kernel_rfl) rfl (fun K hK => ?_)
       simp only [List.getElem_toArray, List.getElem_cons_succ, List.getElem_cons_zero]
       have T := S410.k2
       have t0 := T.1
       have t1 := T.2.1
       have t2 := T.2.2.1
       have t3 := T.2.2.2
       clear T
       have hfs : Frame (fun b => b = g4) w10 (w10.setCell ⟨g4, 1, none⟩ (.slice Aw (i + 1) cw)) := Frame.setCell (S := fun b => b = g4) (p := ⟨g4, 1, none⟩) (Frame.refl _ w10) rfl _
       have hFW2 := (hfw10.frame hfs (fun b h1 e => by omega))
       have hzs : (w10.setCell ⟨g4, 1, none⟩ (.slice Aw (i + 1) cw)).heap.size = w10.heap.size := by simp [World.setCell]
       rw [← hzs] at hFW2
       have hSf := S410.set 1 (by show 1 < 2; decide) (.slice Aw (i + 1) cw)
       have hNf := hni10.set t1 (u := .slice Aw (i + 1) cw) (fun x => by intro e; cases e)
       have hBf := hB10.trans (hfs.to_below (B := g4) (by omega) (fun b hb e => by omega))
       go_simp
       refine hK.out _ _ ⟨((Frame.setCell (S := fun b => b = g4) (p := ⟨g4, 1, none⟩) (Frame.refl _ w10) rfl (.slice Aw (i + 1) cw)).cell (by omega) (by omega)).trans y0, ((Frame.setCell (S := fun b => b = g4) (p := ⟨g4, 1, none⟩) (Frame.refl _ w10) rfl (.slice Aw (i + 1) cw)).cell (by omega) (by omega)).trans y1, ((Frame.setCell (S := fun b => b = g4) (p := ⟨g4, 1, none⟩) (Frame.refl _ w10) rfl (.slice Aw (i + 1) cw)).cell (by omega) (by omega)).trans y2⟩ (fun h2 => ?_)
       clear hK K hHeld
       have hHeld := h2
       clear h2
       try simp only [Act.put, List.setIfInBounds_toArray, List.set_cons_zero, List.set_cons_succ]
       refine wpAnyH_done (by kernel_rfl) ?_ _
       clear hHeld
       have hfin := hFW2
       rw [show ({ lower := ({ lower := (facN rs i).lower ++ [facRow rs i], pivots := (facN rs i).pivots } : FacD).lower, pivots := ({ lower := (facN rs i).lower ++ [facRow rs i], pivots := (facN rs i).pivots } : FacD).pivots ++ [facPiv rs i] } : FacD) = facN rs (i + 1) from HNEXT.out.symm] at hfin
       have HF := Lib.hid hfin
       have hbr2 := hbr.trans (HB9.out.trans hBf)
       clear hfin hFW2 hBf x0 x1 x2
       go_wp2
       go_roundw
       case rel => exact ⟨i + 1, _, _, _, _, by omega, rfl, hbr2, hSf, HF.out, fun h => by omega, hNf⟩
       case measure => simp [intOf]; omega
      ·simp only [List.getElem_toArray, List.getElem_cons_succ, List.getElem_cons_zero]
       go_simp
       have al9 := below_alloc1 w33 (.cells #[.bool (facPiv rs i).neg, .slice A9 n9 c9, .slice B9 m9 d9] 57)
       have Z9 := (Slots.new (Below.refl _ (w33.alloc (.cells #[.bool (facPiv rs i).neg, .slice A9 n9 c9, .slice B9 m9 d9] 57))) (g := w33.heap.size) rfl).c3
       have c0 := Z9.1
       have c1 := Z9.2.1
       have c2 := Z9.2.2.1
       clear Z9
       have hb34 := below_trans hb33 al9
       have hz34 : (w33.alloc (.cells #[.bool (facPiv rs i).neg, .slice A9 n9 c9, .slice B9 m9 d9] 57)).heap.size = w33.heap.size + 1 := by simp
       obtain ⟨va, vb, ev, ra, rb, hap⟩ := hp33
       injection ev with ev
       injection ev with ev
       injection ev with ev0 ev
       injection ev with ev1 ev
       injection ev with ev2 _
       subst ev1 ev2
       clear ev0
       have ia := (ra.io.later al9).wide (lo' := w9.heap.size) (hi' := w33.heap.size + 1) (by exact Nat.le_refl _) (by omega)
       have ib := (rb.io.later al9).wide (lo' := w9.heap.size) (hi' := w33.heap.size + 1) (by exact Nat.le_refl _) (by omega)
       clear ra rb al9
       have hfw34 := HW9.out.later hb34
       generalize w33.alloc (.cells #[.bool (facPiv rs i).neg, .slice A9 n9 c9, .slice B9 m9 d9] 57) = w34 at *
       have z0 := cell_later hs89 x0 hb34
       have z1 := cell_later hs89 x1 hb34
       have z2 := cell_later hs89 x2 hb34
       refine hK.out _ _ ⟨z0, z1, z2⟩ (fun h2 => ?_)
       clear hK K hHeld
       have hHeld := h2
       clear h2
       try simp only [Act.put, List.setIfInBounds_toArray, List.set_cons_zero, List.set_cons_succ]
       refine qR (i := 1) (by kernel_rfl) rfl (fun K hK => ?_)
       simp only [List.getElem_toArray, List.getElem_cons_succ, List.getElem_cons_zero]
       have T := (S49.later hb34).k2
       have t1 := T.2.1
       clear T
       go_simp
       clear t1
       refine hK.out _ _ ⟨cell_later hs89 x0 hb34, cell_later hs89 x1 hb34, cell_later hs89 x2 hb34⟩ (fun h2 => ?_)
       clear hK K hHeld
       have hHeld := h2
       clear h2
       try simp only [Act.put, List.setIfInBounds_toArray, List.set_cons_zero, List.set_cons_succ]
       refine qR (i := 5) (by kernel_rfl) rfl (fun K hK => ?_)
       simp only [List.getElem_toArray, List.getElem_cons_succ, List.getElem_cons_zero]
       rw [if_pos (by rfl)]
       refine wpAppOwn _ _ 28 57 (by rfl) Tryz.underlying28 (.agg #[.bool false, .slice none 0 0, .slice none 0 0]) 3 56 Tryz.ratInfo rfl (by decide) (by decide) (by rfl) hfw34.pivs.2.1 (by rw [show (FacD.pivots { lower := (facN rs i).lower ++ [facRow rs i], pivots := (facN rs i).pivots }).length = i from HPL.out]; omega) (by omega) ⟨w33.heap.size, 0, none⟩ (by rfl) (cellsP (facPiv rs i) (.slice A9 n9 c9, .slice B9 m9 d9)) rfl (cells3 c0 c1 c2) (one3 _ _ _ _ _ _ _) ?_
       intro v10 w10 ho10 hf10 hob10
       have hfw10 := hfw34.piv ia ib hap (by omega) (by omega) (by omega) ho10 hf10 hob10
       rw [show (FacD.pivots { lower := (facN rs i).lower ++ [facRow rs i], pivots := (facN rs i).pivots }).length = i from HPL.out] at ho10
       obtain ⟨Aw, cw, rfl, _⟩ := own_slice ho10
       have hz10 := hf10.size
       have y0 := (hf10.cell (b := g8) (o := 0) (by omega) hg8n).trans z0
       have y1 := (hf10.cell (b := g8) (o := 1) (by omega) hg8n).trans z1
       have y2 := (hf10.cell (b := g8) (o := 2) (by omega) hg8n).trans z2
       have S410 := (S49.later hb34).frame hf10 hg4n
       have hni10 := (HNI9.out.later hb34).frame hf10 hg4n
       have hB10 : Below g4 w9 w10 := (hb34.mono (by omega)).trans (hf10.to_below (B := g4) (by omega) (fun b hb e => by have := (World.ownsRow.lt hfw34.pivs.2.1 b e).1; omega))
       refine hK.out _ _ ⟨y0, y1, y2⟩ (fun h2 => ?_)
       clear hK K hHeld
       have hHeld := h2
       clear h2
       try simp only [Act.put, List.setIfInBounds_toArray, List.set_cons_zero, List.set_cons_succ]
       refine qL (i := 6) (v := ?_) rfl (by kernel_rfl) (fun _ _ _ h => h) (by assumption) (by rfl) (fun W _ => ?_) ?_
       rotate_left
       ·go_simp
        try with_reducible rfl
       try simp only [Act.put, List.setIfInBounds_toArray]
       refine qR (i := 7) (by kernel_rfl) rfl (fun K hK => ?_)
       simp only [List.getElem_toArray, List.getElem_cons_succ, List.getElem_cons_zero]
       have T := S410.k2
       have t0 := T.1
       have t1 := T.2.1
       have t2 := T.2.2.1
       have t3 := T.2.2.2
       clear T
       have hfs : Frame (fun b => b = g4) w10 (w10.setCell ⟨g4, 1, none⟩ (.slice Aw (i + 1) cw)) := Frame.setCell (S := fun b => b = g4) (p := ⟨g4, 1, none⟩) (Frame.refl _ w10) rfl _
       have hFW2 := (hfw10.frame hfs (fun b h1 e => by omega))
       have hzs : (w10.setCell ⟨g4, 1, none⟩ (.slice Aw (i + 1) cw)).heap.size = w10.heap.size := by simp [World.setCell]
       rw [← hzs] at hFW2
       have hSf := S410.set 1 (by show 1 < 2; decide) (.slice Aw (i + 1) cw)
       have hNf := hni10.set t1 (u := .slice Aw (i + 1) cw) (fun x => by intro e; cases e)
       have hBf := hB10.trans (hfs.to_below (B := g4) (by omega) (fun b hb e => by omega))
       go_simp
       refine hK.out _ _ ⟨((Frame.setCell (S := fun b => b = g4) (p := ⟨g4, 1, none⟩) (Frame.refl _ w10) rfl (.slice Aw (i + 1) cw)).cell (by omega) (by omega)).trans y0, ((Frame.setCell (S := fun b => b = g4) (p := ⟨g4, 1, none⟩) (Frame.refl _ w10) rfl (.slice Aw (i + 1) cw)).cell (by omega) (by omega)).trans y1, ((Frame.setCell (S := fun b => b = g4) (p := ⟨g4, 1, none⟩) (Frame.refl _ w10) rfl (.slice Aw (i + 1) cw)).cell (by omega) (by omega)).trans y2⟩ (fun h2 => ?_)
       clear hK K hHeld
       have hHeld := h2
       clear h2
       try simp only [Act.put, List.setIfInBounds_toArray, List.set_cons_zero, List.set_cons_succ]
       refine wpAnyH_done (by kernel_rfl) ?_ _
       clear hHeld
       have hfin := hFW2
       rw [show ({ lower := ({ lower := (facN rs i).lower ++ [facRow rs i], pivots := (facN rs i).pivots } : FacD).lower, pivots := ({ lower := (facN rs i).lower ++ [facRow rs i], pivots := (facN rs i).pivots } : FacD).pivots ++ [facPiv rs i] } : FacD) = facN rs (i + 1) from HNEXT.out.symm] at hfin
       have HF := Lib.hid hfin
       have hbr2 := hbr.trans (HB9.out.trans hBf)
       clear hfin hFW2 hBf x0 x1 x2
       go_wp2
       go_roundw
       case rel => exact ⟨i + 1, _, _, _, _, by omega, rfl, hbr2, hSf, HF.out, fun h => by omega, hNf⟩
       case measure => simp [intOf]; omega
    ·have hltj : j < i := by omega
     have hltjI : (j : Int) < (i : Int) := by omega
     obtain ⟨AL', cL', AP', cP', eF, _, hFI, hPI⟩ := HFV.out
     injection eF with eF
     injection eF with eF
     injection eF with eL eF
     injection eF with eP _
     injection eL with eL1 eL2 eL3
     injection eP with eP1 eP2 eP3
     subst eL1 eP1
     clear eL2 eL3 eP2 eP3
     obtain ⟨bL, oL, rfl, hbL, hvat⟩ := hFI.cells j (by rw [HLL.out]; exact hltj)
     rw [HLR.out j hltj] at hvat
     obtain ⟨AR, cR, r0, _, hVR⟩ := hvat
     have hrlen : (facRow rs j).length = j := fRow_len _ _ _ _
     rw [hrlen] at r0
     obtain ⟨bP, oP, rfl, hbP, hat⟩ := hPI.cells j (by rw [HPL.out]; exact hltj)
     rw [(facN_row rs j i hltj).2] at hat
     have hpres := HPR.out j (by omega)
     have fP := res_few hpres
     have HNX := Lib.hid (show fRow (rs.getD i zRow) (facN rs i).lower (facN rs i).pivots (j + 1) = fRow (rs.getD i zRow) (facN rs i).lower (facN rs i).pivots j ++ [FE.rdiv (minusK (facN rs i).pivots (rowAt (rs.getD i zRow) j) (fRow (rs.getD i zRow) (facN rs i).lower (facN rs i).pivots j) (facRow rs j) j) (facPiv rs j)] from by rw [fRow, HLR.out j hltj, (facN_row rs j i hltj).2])
     have HCL := Lib.hid (fRow_len (rs.getD i zRow) (facN rs i).lower (facN rs i).pivots j)
     have K2 := fun ur W (hW : Below w3.heap.size w3 W) (hv : VI W (some a) (fRow (rs.getD i zRow) (facN rs i).lower (facN rs i).pivots j)) (hr : RatV W ur (rowAt (rs.getD i zRow) j)) => iMinus (facN rs i) (rowAt (rs.getD i zRow) j) (fRow (rs.getD i zRow) (facN rs i).lower (facN rs i).pivots j) (facRow rs j) _ ur j co cR (some a) AR W (HFV.out.later hW) hr (fRow_len _ _ _ _) hrlen hv (hVR.later hW) (by rw [HPL.out]; omega) (HRI.out j) (fRow_few (by omega)) (fRow_few (by omega)) HFI.out.2
     have hmres := minusK_res (ps := (facN rs i).pivots) (us := fRow (rs.getD i zRow) (facN rs i).lower (facN rs i).pivots j) (vs := facRow rs j) (HRI.out j) j
     have hvr := HVW.out.reads
     have HENj := Lib.hid (fun W hW => HENi.out W hW (j : Int))
     generalize minusK (facN rs i).pivots (rowAt (rs.getD i zRow) j) (fRow (rs.getD i zRow) (facN rs i).lower (facN rs i).pivots j) (facRow rs j) j = M at *
     generalize rowAt (rs.getD i zRow) (j : Int) = EN at *
     have HVR := Lib.hid hvr
     replace K2 := Lib.hid K2
     have K3 := Lib.hid (fun u v W hu hv => iRatDiv M (facPiv rs j) u v W hu hv (res_few hmres) fP)
     have hat' := RatAt.stays _ _ _ _ _ hbP hat hbj
     have r0' := cell_later hbL r0 hbj
     clear hat r0 hvr hmres fP hpres hVR hFI hPI hrlen
     obtain ⟨Ap, cp, Bp, dp, k0, k1, k2, hlp, q1, q2⟩ := hat'
     have HVP := Lib.hid (show RatV wr (.agg #[.bool (facPiv rs j).neg, .slice Ap (facPiv rs j).mag.length cp, .slice Bp (facPiv rs j).den.length dp]) (facPiv rs j) from ⟨_, _, _, _, rfl, hlp, q1, q2⟩)
     obtain ⟨p0, p1, _⟩ := S4j.k2
     have a0 := S1j.c1.1
     generalize facPiv rs j = PJ at *
     obtain ⟨Y2, hY2⟩ : ∃ Y, FE.rdiv M PJ = Y := ⟨_, rfl⟩
     rw [hY2] at K3 HNX
     generalize fRow (rs.getD i zRow) (facN rs i).lower (facN rs i).pivots j = FR at *
     clear hlp q1 q2 S4j S1j hY2
     go_wp2_with fail
     generalize wr = wb at *
     refine wp_region_held_drew (S := fun W => Below w3.heap.size wb W) (by kernel_rfl) ⟨rfl, rfl, rfl, Nat.le_refl _, fun _ _ => rfl⟩ (fun hHeld => ?_)
     refine qL (i := 0) (v := ?_) rfl (by kernel_rfl) (fun _ _ _ h => h) (by assumption) (by rfl) (fun W _ => ?_) ?_
     rotate_left
     ·go_simp
      try with_reducible rfl
     try simp only [Act.put, List.setIfInBounds_toArray]
     refine qL (i := 1) (v := ?_) rfl (by kernel_rfl) (fun _ _ _ h => h) (by assumption) (by rfl) (fun W hSw => ?_) ?_
     rotate_left
     ·have f0 := (Below.cell hSw (p := ⟨g4, 0, none⟩) (show g4 < w3.heap.size by omega)).trans p0
      have f1 := (Below.cell hSw (p := ⟨g4, 1, none⟩) (show g4 < w3.heap.size by omega)).trans p1
      go_simp
      try with_reducible rfl
     try simp only [Act.put]
     refine qL (i := 2) (v := ?_) rfl (by kernel_rfl) (fun _ _ _ h => h) (by assumption) (by rfl) (fun W hSw => ?_) ?_
     rotate_left
     ·have f0 := (Below.cell hSw (p := ⟨w.heap.size, 0, none⟩) (show w.heap.size < w3.heap.size by omega)).trans a0
      go_simp
      try with_reducible rfl
     try simp only [Act.put]
     refine qL (i := 3) (v := ?_) rfl (by kernel_rfl) (fun _ _ _ h => h) (by assumption) (by rfl) (fun W _ => ?_) ?_
     rotate_left
     ·go_simp
      try with_reducible rfl
     try simp only [Act.put]
     refine qL (i := 4) (v := ?_) rfl (by kernel_rfl) (fun _ _ _ h => h) (by assumption) (by rfl) (fun W _ => ?_) ?_
     rotate_left
     ·go_simp
      try with_reducible rfl
     try simp only [Act.put]
     refine qL (i := 6) (v := ?_) rfl (by kernel_rfl) (fun _ _ _ h => h) (by assumption) (by rfl) (fun W _ => ?_) ?_
     rotate_left
     ·go_simp
      try with_reducible rfl
     try simp only [Act.put]
     refine qL (i := 7) (v := ?_) rfl (by kernel_rfl) (fun _ _ _ h => h) (by assumption) (by rfl) (fun W _ => ?_) ?_
     rotate_left
     ·go_simp
      try with_reducible rfl
     try simp only [Act.put]
     refine qL (i := 8) (v := ?_) rfl (by kernel_rfl) (fun _ _ _ h => h) (by assumption) (by rfl) (fun W hSw => ?_) ?_
     rotate_left
     ·have f0 := (Below.cell hSw (p := ⟨g4, 0, none⟩) (show g4 < w3.heap.size by omega)).trans p0
      have f1 := (Below.cell hSw (p := ⟨g4, 1, none⟩) (show g4 < w3.heap.size by omega)).trans p1
      go_simp
      try with_reducible rfl
     try simp only [Act.put]
     refine qL (i := 9) (v := ?_) rfl (by kernel_rfl) (fun _ _ _ h => h) (by assumption) (by rfl) (fun W _ => ?_) ?_
     rotate_left
     ·go_simp
      try with_reducible rfl
     try simp only [Act.put]
     refine qL (i := 10) (v := ?_) rfl (by kernel_rfl) (fun _ _ _ h => h) (by assumption) (by rfl) (fun W _ => ?_) ?_
     rotate_left
     ·go_simp
      try with_reducible rfl
     try simp only [Act.put]
     refine qL (i := 11) (v := ?_) rfl (by kernel_rfl) (fun _ _ _ h => h) (by assumption) (by rfl) (fun W hSw => ?_) ?_
     rotate_left
     ·have f0 := (Below.cell hSw (p := ⟨bL, oL + j, none⟩) (show bL < w3.heap.size by omega)).trans r0'
      go_simp
      try with_reducible rfl
     try simp only [Act.put]
     refine qL (i := 13) (v := ?_) rfl (by kernel_rfl) (fun _ _ _ h => h) (by assumption) (by rfl) (fun W _ => ?_) ?_
     rotate_left
     ·go_simp
      try with_reducible rfl
     try simp only [Act.put]
     refine qL (i := 14) (v := ?_) rfl (by kernel_rfl) (fun _ _ _ h => h) (by assumption) (by rfl) (fun W hSw => ?_) ?_
     rotate_left
     ·have f0 := (Below.cell hSw (p := ⟨g4, 0, none⟩) (show g4 < w3.heap.size by omega)).trans p0
      have f1 := (Below.cell hSw (p := ⟨g4, 1, none⟩) (show g4 < w3.heap.size by omega)).trans p1
      go_simp
      try with_reducible rfl
     try simp only [Act.put]
     refine qL (i := 15) (v := ?_) rfl (by kernel_rfl) (fun _ _ _ h => h) (by assumption) (by rfl) (fun W _ => ?_) ?_
     rotate_left
     ·go_simp
      try with_reducible rfl
     try simp only [Act.put]
     refine qL (i := 16) (v := ?_) rfl (by kernel_rfl) (fun _ _ _ h => h) (by assumption) (by rfl) (fun W _ => ?_) ?_
     rotate_left
     ·go_simp
      try with_reducible rfl
     try simp only [Act.put]
     refine qL (i := 17) (v := ?_) rfl (by kernel_rfl) (fun _ _ _ h => h) (by assumption) (by rfl) (fun W hSw => ?_) ?_
     rotate_left
     ·have f0 := (Below.cell hSw (p := ⟨bP, oP + j * 3, none⟩) (show bP < w3.heap.size by omega)).trans k0
      have f1 := (Below.cell hSw (p := ⟨bP, oP + j * 3 + 1, none⟩) (show bP < w3.heap.size by omega)).trans k1
      have f2 := (Below.cell hSw (p := ⟨bP, oP + j * 3 + 2, none⟩) (show bP < w3.heap.size by omega)).trans k2
      go_simp
      try with_reducible rfl
     try simp only [Act.put]
     have hBd : Below wb.heap.size wb wb.drew := ⟨rfl, rfl, rfl, Nat.le_refl _, fun _ _ => rfl⟩
     refine qR (i := 5) (by kernel_rfl) rfl (fun K hK => ?_)
     simp only [List.getElem_toArray, List.getElem_cons_succ, List.getElem_cons_zero]
     go_simp
     (go_at_call 91; (with_reducible refine (HENj.out _ (below_trans hbwj hBd)).mono ?_); rintro e31 w31 ⟨v31, rfl, hr31, hd31⟩)
     try (go_wp2_with fail)
     obtain ⟨_, _, _, _, _, _, rfl⟩ := hr31.shape
     have hb31 := below_trans hBd hd31
     have hB31 : Below w3.heap.size wb w31 := hb31.mono (by omega)
     refine hK.out _ _ (hB31) (fun h2 => ?_)
     clear hK K hHeld
     have hHeld := h2
     clear h2
     try simp only [Act.put, List.setIfInBounds_toArray, List.set_cons_zero, List.set_cons_succ]
     refine qR (i := 12) (by kernel_rfl) rfl (fun K hK => ?_)
     simp only [List.getElem_toArray, List.getElem_cons_succ, List.getElem_cons_zero]
     go_simp
     (go_at_call 125; (with_reducible refine (K2.out _ _ (hbj.trans hB31) (HVR.out.later hb31) hr31).mono ?_); rintro e32 w32 ⟨v32, rfl, hr32, hd32⟩)
     try (go_wp2_with fail)
     replace hr32 := hr32.reads hd32
     obtain ⟨_, _, _, _, _, _, rfl⟩ := hr32.shape
     have hb32 := below_trans hb31 hd32
     have hB32 : Below w3.heap.size wb w32 := hb32.mono (by omega)
     refine hK.out _ _ (hB32) (fun h2 => ?_)
     clear hK K hHeld
     have hHeld := h2
     clear h2
     try simp only [Act.put, List.setIfInBounds_toArray, List.set_cons_zero, List.set_cons_succ]
     refine qR (i := 18) (by kernel_rfl) rfl (fun K hK => ?_)
     simp only [List.getElem_toArray, List.getElem_cons_succ, List.getElem_cons_zero]
     go_simp
     (go_at_call 124; (with_reducible refine (K3.out _ _ _ hr32 (HVP.out.later hb32)).mono ?_); rintro e33 w33 ⟨v33, rfl, hp33, hd33⟩)
     try (go_wp2_with fail)
     have hz33 := hd33.size
     have hz32 := hb32.size
     have hb33 := below_trans hb32 hd33
     have hB33 : Below w3.heap.size wb w33 := hb33.mono (by omega)
     refine hK.out _ _ (hB33) (fun h2 => ?_)
     clear hK K hHeld
     have hHeld := h2
     clear h2
     try simp only [Act.put, List.setIfInBounds_toArray, List.set_cons_zero, List.set_cons_succ]
     refine qR (i := 19) (by kernel_rfl) rfl (fun K hK => ?_)
     simp only [List.getElem_toArray, List.getElem_cons_succ, List.getElem_cons_zero]
     obtain ⟨A9, n9, c9, B9, m9, d9, rfl⟩ := hp33.shape
     go_simp
     have al9 := below_alloc1 w33 (.cells #[.bool Y2.neg, .slice A9 n9 c9, .slice B9 m9 d9] 57)
     have Z9 := (Slots.new (Below.refl _ (w33.alloc (.cells #[.bool Y2.neg, .slice A9 n9 c9, .slice B9 m9 d9] 57))) (g := w33.heap.size) rfl).c3
     have c0 := Z9.1
     have c1' := Z9.2.1
     have c2' := Z9.2.2.1
     have hB10 := hB33.trans (al9.mono (by omega))
     have HVY := Lib.hid ((((HVW.out.later hb33).later al9)).wide (hi' := wb.heap.size) (by omega))
     obtain ⟨va, vb, ev, ra, rb, hap⟩ := hp33
     injection ev with ev
     injection ev with ev
     injection ev with ev0 ev
     injection ev with ev1 ev
     injection ev with ev2 _
     subst ev1 ev2
     clear ev0
     have ia := (ra.io.later al9).wide (lo' := wb.heap.size) (hi' := w33.heap.size + 1) (by omega) (by omega)
     have ib := (rb.io.later al9).wide (lo' := wb.heap.size) (hi' := w33.heap.size + 1) (by omega) (by omega)
     clear Z9 al9
     refine hK.out _ _ (hB10) (fun h2 => ?_)
     clear hK K hHeld
     have hHeld := h2
     clear h2
     try simp only [Act.put, List.setIfInBounds_toArray, List.set_cons_zero, List.set_cons_succ]
     refine qR (i := 20) (by kernel_rfl) rfl (fun K hK => ?_)
     simp only [List.getElem_toArray, List.getElem_cons_succ, List.getElem_cons_zero]
     rw [if_pos (by rfl)]
     refine wpAppRat _ _ (by rfl) (by rfl) HVY.out (by rw [HCL.out]; omega) (by simp; omega) Y2 _ _ w33.heap.size (by rfl) c0 c1' c2' ia ib hap (by omega) (by omega) ?_
     intro v9 w9 hvw9 hfr9
     have hB9 := hB10.trans (hfr9.to_below (B := w3.heap.size) (by simp; omega) (fun b hb hs => by have := (World.ownsRow.lt HVY.out.2.1 b hs).1; omega))
     refine hK.out _ _ (hB9) (fun h2 => ?_)
     clear hK K hHeld
     have hHeld := h2
     clear h2
     try simp only [Act.put, List.setIfInBounds_toArray, List.set_cons_zero, List.set_cons_succ]
     refine qR (i := 21) (by kernel_rfl) rfl (fun K hK => ?_)
     simp only [List.getElem_toArray, List.getElem_cons_succ, List.getElem_cons_zero]
     go_simp
     refine hK.out _ _ (hB9) (fun h2 => ?_)
     clear hK K hHeld
     have hHeld := h2
     clear h2
     try simp only [Act.put, List.setIfInBounds_toArray, List.set_cons_zero, List.set_cons_succ]
     refine wpAnyH_done (by kernel_rfl) ?_ _
     clear hHeld
     have hbn : Below w3.heap.size w3 w9 := hbj.trans hB9
     have hvw9' := hvw9.wide (hi' := w9.heap.size) (by have := hfr9.size; simp at this; omega)
     rw [← HNX.out] at hvw9'
     have hl9 := hvw9'.2.1
     obtain ⟨A10, c10, e10, _, _, h10⟩ := own_slice hl9
     obtain ⟨g10, rfl, _⟩ := h10 (by rw [fRow_len]; omega)
     rw [fRow_len] at e10
     subst e10
     have hz9 := hfr9.size
     simp only [World.size_alloc] at hz9
     have HF := Lib.hid (And.intro hbn hvw9')
     clear hbn hvw9 hvw9' hl9 h10 hfr9 c0 c1' c2' p0 p1 a0 r0' k0 k1 k2 hB9
     go_wp2
     go_roundw
     case rel => exact ⟨j + 1, _, _, _, by omega, rfl, HF.out.1, by omega, rfl, HF.out.2⟩
     case measure => simp [intOf]; omega
def Sz (p : Nat) (v : Rat) : Prop := ∃ D B, FE.Lat D B v ∧ D ≤ 10 ^ p ∧ B ≤ 10 ^ p
theorem p10_pos (p : Nat) : (0 : Int) < 10 ^ p := Int.pow_pos (by decide)
theorem p10_mono {p q : Nat} (h : p ≤ q) : (10 : Int) ^ p ≤ 10 ^ q := by
 have : (10 : Nat) ^ p ≤ 10 ^ q := Nat.pow_le_pow_right (by decide) h
 have e : ∀ k : Nat, ((10 ^ k : Nat) : Int) = (10 : Int) ^ k := fun k => by rw [Int.natCast_pow]; rfl
 rw [← e, ← e]
 exact Int.ofNat_le.2 this
theorem FE.Lat.sz {D B : Int} {v : Rat} (h : FE.Lat D B v) {p : Nat} (h1 : D ≤ 10 ^ p) (h2 : B ≤ 10 ^ p) : Sz p v := ⟨D, B, h, h1, h2⟩
theorem Sz.mono {p q : Nat} {v : Rat} (h : Sz p v) (hq : p ≤ q) : Sz q v := by
 obtain ⟨D, B, h, h1, h2⟩ := h
 exact ⟨D, B, h, Int.le_trans h1 (p10_mono hq), Int.le_trans h2 (p10_mono hq)⟩
theorem Sz.small {p : Nat} {v : Rat} (h : Sz p v) (hp : p ≤ 215) : FE.small v = true := by
 obtain ⟨D, B, h, h1, h2⟩ := h
 have := p10_mono hp
 have e : (10 : Int) ^ 215 < 10 ^ 216 := by decide +kernel
 exact h.small (by omega) (by omega)
theorem Sz.mul {p q : Nat} {u v : Rat} (h : Sz p u) (k : Sz q v) : Sz (p + q) (u * v) := by
 obtain ⟨D, B, h, h1, h2⟩ := h
 obtain ⟨E, C, k, k1, k2⟩ := k
 refine ⟨_, _, h.mul k, ?_, ?_⟩
 ·rw [Int.pow_add]; exact Int.mul_le_mul h1 k1 (Int.le_of_lt k.1) (Int.le_of_lt (p10_pos p))
 ·rw [Int.pow_add]; exact Int.mul_le_mul h2 k2 k.nonneg (Int.le_of_lt (p10_pos p))
theorem Sz.add {p q : Nat} {u v : Rat} (h : Sz p u) (k : Sz q v) : Sz (p + q + 1) (u + v) := by
 obtain ⟨D, B, h, h1, h2⟩ := h
 obtain ⟨E, C, k, k1, k2⟩ := k
 have a1 := h.wide k.1
 have a2 := (k.wide h.1).cast (Int.mul_comm E D)
 have e1 : D * E ≤ 10 ^ p * 10 ^ q := Int.mul_le_mul h1 k1 (Int.le_of_lt k.1) (Int.le_of_lt (p10_pos p))
 have e2 : B * E ≤ 10 ^ p * 10 ^ q := Int.mul_le_mul h2 k1 (Int.le_of_lt k.1) (Int.le_of_lt (p10_pos p))
 have e3 : C * D ≤ 10 ^ q * 10 ^ p := Int.mul_le_mul k2 h1 (Int.le_of_lt h.1) (Int.le_of_lt (p10_pos q))
 rw [Int.mul_comm (10 ^ q)] at e3
 have e4 : (10 : Int) ^ (p + q + 1) = 10 ^ p * 10 ^ q * 10 := by rw [Int.pow_succ, Int.pow_add]
 have e5 := Int.mul_pos (p10_pos p) (p10_pos q)
 refine ⟨_, _, a1.add a2, ?_, ?_⟩ <;> omega
theorem FE.Lat.neg_sz {p : Nat} {v : Rat} (h : Sz p v) : Sz p (-v) := by
 obtain ⟨D, B, h, h1, h2⟩ := h
 exact ⟨D, B, h.neg, h1, h2⟩
theorem Sz.sub {p q : Nat} {u v : Rat} (h : Sz p u) (k : Sz q v) : Sz (p + q + 1) (u - v) := by
 rw [Rat.sub_eq_add_neg]; exact h.add (FE.Lat.neg_sz k)
theorem asum_off {f : Nat → Int} {i : Nat} (h : ∀ j, j ≠ i → (f j).natAbs ≤ 1) : ∀ n, FE.asum f n ≤ n + (if i < n then ((f i).natAbs : Int) - 1 else 0)
 | 0 => by simp [FE.asum]
 | n + 1 => by
  have ih := asum_off h n
  simp only [FE.asum]
  by_cases e : n = i
  ·subst e
   rw [if_neg (by omega)] at ih
   rw [if_pos (by omega)]; omega
  ·have := h n e
   by_cases e2 : i < n
   ·rw [if_pos e2] at ih
    rw [if_pos (by omega)]; omega
   ·rw [if_neg e2] at ih
    rw [if_neg (by omega)]; omega
theorem dri_dom {n : Nat} {E : Nat → Nat → Int} (hn : n ≤ 4) (h : DrI E n) : FE.Dom E n 0 := by
 intro i _ hi
 have h1 := asum_off (f := E i) (i := i) (fun j hj => by have := h.off i j (Ne.symm hj); omega) n
 rw [if_pos hi] at h1
 have h2 := h.dia i hi
 show FE.asum (E i) n < 2 * E i i
 omega
theorem dri_pd {n : Nat} {E : Nat → Nat → Int} (hn : n ≤ 4) (h : DrI E n) : FE.PD E n := by
 have hd : ∀ k, k ≤ n → FE.Dom E n k := by
  intro k
  induction k with
  | zero => intro _; exact dri_dom hn h
  | succ k ih => intro hk; exact (ih (by omega)).step h.sym (by omega)
 exact ⟨h.sym, fun i j => by have := h.all i j; omega, fun k hk => (hd k (by omega)).pos (Nat.le_refl k) hk⟩
section
variable {n : Nat} {E : Nat → Nat → Int}
theorem elB_19 {k : Nat} (h : k ≤ 4) : FE.elB k ≤ 10 ^ 19 := by
 have : k = 0 ∨ k = 1 ∨ k = 2 ∨ k = 3 ∨ k = 4 := by omega
 rcases this with rfl | rfl | rfl | rfl | rfl <;> decide +kernel
theorem elC_19 {k : Nat} (h : k ≤ 4) : FE.elC k ≤ 10 ^ 19 := by
 have : k = 0 ∨ k = 1 ∨ k = 2 ∨ k = 3 ∨ k = 4 := by omega
 rcases this with rfl | rfl | rfl | rfl | rfl <;> decide +kernel
theorem qT_sz (h : FE.PD E n) (hn : n ≤ 4) {k : Nat} (hk : k ≤ n) (i j : Nat) : Sz 19 (FE.qT E k i j) :=
 (FE.qT_lat h hk i j).sz (Int.le_trans (FE.elD_le h.le h.pos k hk) (elC_19 (by omega))) (elB_19 (by omega))
theorem qP_sz (h : FE.PD E n) (hn : n ≤ 4) {k : Nat} (hk : k < n) : Sz 19 (FE.qP E k) :=
 (FE.qP_lat h hk).sz (Int.le_trans (FE.elD_le h.le h.pos k (by omega)) (elC_19 (by omega))) (elB_19 (by omega))
theorem qL_sz (h : FE.PD E n) (hn : n ≤ 4) {k : Nat} (hk : k < n) (i : Nat) : Sz 19 (FE.qL E i k) :=
 (FE.qL_lat h hk i).sz (Int.le_trans (FE.elM_le h.le k k k).2 (elB_19 (by omega))) (elB_19 (by omega))
theorem qT_is0 (hE : DrI E n) (i j : Nat) (hi : i < n) (hj : j < n) : FE.Is (rowAt ((spM (intL n E)).getD i zRow) (j : Int)) (FE.qT E 0 i j) := by
 rw [intL_rowAt hE.all hi hj, FE.qT_zero]
 exact rint_is (by have := (hE.all i j).1; omega) (by have := (hE.all i j).2; omega)
theorem minus_is (h : FE.PD E n) (hn : n ≤ 4) {i j : Nat} {ps us vs : List RatD} {r : RatD} (hr : FE.Is r (FE.qT E 0 i j)) :
 ∀ t, t ≤ n → (∀ k, k < t → FE.Is (us.getD k zR) (FE.qL E i k) ∧ FE.Is (ps.getD k zR) (FE.qP E k) ∧ FE.Is (vs.getD k zR) (FE.qL E j k)) → FE.Is (minusK ps r us vs t) (FE.qT E t i j)
 | 0, _, _ => hr
 | t + 1, ht, hk => by
  have ih := minus_is h hn (us := us) (ps := ps) (vs := vs) hr t (by omega) (fun k hk' => hk k (by omega))
  obtain ⟨h1, h2, h3⟩ := hk t (by omega)
  have s1 := (qL_sz h hn (show t < n by omega) i).mul (qP_sz h hn (show t < n by omega))
  have s2 := s1.mul (qL_sz h hn (show t < n by omega) j)
  have s3 := (qT_sz h hn ht i j).small (by decide)
  rw [FE.qT_succ h (show t < n by omega)] at s3 ⊢
  exact ih.sub ((h1.mul h2 (s1.small (by decide))).mul h3 (s2.small (by decide))) s3
def FacIs (E : Nat → Nat → Int) (rs : List RowD) (i : Nat) : Prop := ∀ j, j < i → FE.Is (facPiv rs j) (FE.qP E j) ∧ ∀ k, k < j → FE.Is ((facRow rs j).getD k zR) (FE.qL E j k)
theorem facIs_row (h : FE.PD E n) (hn : n ≤ 4) (hE : DrI E n) {i : Nat} (hi : i < n) (hF : FacIs E (spM (intL n E)) i) :
 ∀ j, j ≤ i → ∀ k, k < j → FE.Is ((fRow ((spM (intL n E)).getD i zRow) (facN (spM (intL n E)) i).lower (facN (spM (intL n E)) i).pivots j).getD k zR) (FE.qL E i k)
 | 0, _, k, hk => by omega
 | j + 1, hj, k, hk => by
  have ih := facIs_row h hn hE hi hF j (by omega)
  have hl := fRow_len ((spM (intL n E)).getD i zRow) (facN (spM (intL n E)) i).lower (facN (spM (intL n E)) i).pivots j
  rw [fRow]
  by_cases e : k < j
  ·rw [snoc_getD_lt (by omega)]; exact ih k e
  ·have e2 : k = j := by omega
   subst e2
   rw [snoc_getD_eq hl.symm, ← FE.qL_div h (show k < n by omega) i]
   obtain ⟨f1, f2⟩ := hF k (by omega)
   have hm := minus_is h hn (ps := (facN (spM (intL n E)) i).pivots) (us := fRow ((spM (intL n E)).getD i zRow) (facN (spM (intL n E)) i).lower (facN (spM (intL n E)) i).pivots k) (vs := (facN (spM (intL n E)) i).lower.getD k []) (qT_is0 hE i k hi (by omega)) k (by omega) (fun l hl' => by
    rw [(facN_row _ l i (by omega)).2, (facN_row _ k i (by omega)).1]
    exact ⟨ih l hl', (hF l (by omega)).1, f2 l hl'⟩)
   rw [(facN_row _ k i (by omega)).2]
   refine hm.div f1 (h.p0 (by omega)) ?_
   rw [FE.qL_div h (show k < n by omega) i]
   exact (qL_sz h hn (by omega) i).small (by decide)
theorem facIs (h : FE.PD E n) (hn : n ≤ 4) (hE : DrI E n) : ∀ i, i ≤ n → FacIs E (spM (intL n E)) i
 | 0, _ => fun j hj => by omega
 | i + 1, hi => by
  have ih := facIs h hn hE i (by omega)
  intro j hj
  by_cases e : j < i
  ·exact ih j e
  ·have e2 : j = i := by omega
   subst e2
   have hr := facIs_row h hn hE (show j < n by omega) ih j (Nat.le_refl j)
   refine ⟨?_, hr⟩
   exact minus_is h hn (qT_is0 hE j j (by omega) (by omega)) j (by omega) (fun l hl => by
    rw [(facN_row _ l j hl).2]
    exact ⟨hr l hl, (ih l hl).1, hr l hl⟩)
theorem qP_pos (h : FE.PD E n) {k : Nat} (hk : k < n) : 0 < FE.qP E k := by
 unfold FE.qP
 rw [Rat.div_def]
 exact Rat.mul_pos (Rat.intCast_pos.2 (h.pos k hk)) (Rat.inv_pos.2 (Rat.intCast_pos.2 (FE.elD_pos h.pos k (by omega))))
theorem num_pos_of {v : Rat} (h : 0 < v) : 0 < v.num := by
 have h1 := Rat.num_nonneg.2 (Rat.le_of_lt h)
 have h2 : v.num ≠ 0 := fun e => by rw [Rat.num_eq_zero.1 e] at h; exact Rat.lt_irrefl h
 omega
theorem FE.Is.rsig_pos {x : RatD} {v : Rat} (h : FE.Is x v) (hv : 0 < v) : rsig x = 1 := by
 unfold rsig
 rw [h.ok, if_pos rfl, h.rsgn, Int.sign_eq_one_of_pos (num_pos_of hv)]
theorem fac_good (h : FE.PD E n) (hn : n ≤ 4) (hE : DrI E n) : ∀ i, i < n → 0 < rsig (facPiv (spM (intL n E)) i) ∧ vok (facRow (spM (intL n E)) i) = true := by
 intro i hi
 obtain ⟨h1, h2⟩ := facIs h hn hE n (Nat.le_refl n) i hi
 refine ⟨by rw [h1.rsig_pos (qP_pos h hi)]; decide, vok_getD (fun j hj => ?_)⟩
 have hl : (facRow (spM (intL n E)) i).length = i := fRow_len _ _ _ _
 rw [hl] at hj
 exact (h2 j hj).ok
end
section
variable {n : Nat} {E : Nat → Nat → Int}
theorem six_le {z : Int} (h : z ≤ 10 ^ 19) : 6 * z ≤ 10 ^ 20 := by
 have e : (10 : Int) ^ 20 = 10 ^ 19 * 10 := by decide +kernel
 have := p10_pos 19
 omega
theorem yB_20 {k : Nat} (h : k ≤ 3) : FE.yB k ≤ 10 ^ 20 := by
 have : k = 0 ∨ k = 1 ∨ k = 2 ∨ k = 3 := by omega
 rcases this with rfl | rfl | rfl | rfl <;> decide +kernel
theorem qYp_sz (h : FE.PD E n) (hn : n ≤ 4) {b : Nat → Rat} (hb : ∀ i, i < n → FE.Lat 6 60 (b i)) {t i : Nat} (ht : t ≤ i) (hi : i < n) : Sz 20 (FE.qYp E b i t) :=
 (FE.qYp_lat h hb t i ht hi).sz (six_le (Int.le_trans (FE.elD_le h.le h.pos t (by omega)) (elC_19 (by omega)))) (yB_20 (by omega))
theorem qY_sz (h : FE.PD E n) (hn : n ≤ 4) {b : Nat → Rat} (hb : ∀ i, i < n → FE.Lat 6 60 (b i)) {i : Nat} (hi : i < n) : Sz 20 (FE.qY E b i) := by
 rw [FE.qY_eq]; exact qYp_sz h hn hb (Nat.le_refl i) hi
theorem qZ_sz (h : FE.PD E n) (hn : n ≤ 4) {b : Nat → Rat} (hb : ∀ i, i < n → FE.Lat 6 60 (b i)) {i : Nat} (hi : i < n) : Sz 20 (FE.qZ E b i) :=
 (FE.qZ_lat h hb hi).sz (six_le (Int.le_trans (FE.elM_le h.le i i i).2 (elB_19 (by omega)))) (yB_20 (by omega))
theorem qX_sz (h : FE.PD E n) (hn : n ≤ 4) {b : Nat → Rat} (hb : ∀ i, i < n → FE.Lat 6 60 (b i)) {i : Nat} (hi : i < n) : Sz 19 (FE.qX E b n i) :=
 (FE.qX_lat h hn hb hi).sz (Int.le_trans (FE.qR_lt h hn (Nat.le_refl n)) (p10_mono (by decide))) (Int.le_refl _)
theorem qXp_sz (h : FE.PD E n) (hn : n ≤ 4) {b : Nat → Rat} (hb : ∀ i, i < n → FE.Lat 6 60 (b i)) {t i j : Nat} (hi : i + 1 + t = n) (hj : j ≤ t) : Sz 19 (FE.qXp E b n i j) :=
 (FE.qXp_lat h hn hb hi (fun l hl hl2 => FE.qX_lats h hn hb t (by omega) l (by omega) hl2) j hj).sz (Int.le_trans (FE.qR_lt h hn (show t + 1 ≤ n by omega)) (p10_mono (by decide))) (FE.qXp_bound (by omega) hj)
theorem upd_get (x : List RatD) (i k : Nat) (r : RatD) (j : Nat) : (upd x i k r).getD j zR = if i = j ∧ j < x.length then FE.rsub (x.getD i zR) (FE.rmul r (x.getD k zR)) else x.getD j zR := by
 unfold upd
 rw [getD_setR]
structure LowIs (E : Nat → Nat → Int) (n : Nat) (L : List (List RatD)) (P : List RatD) : Prop where
 low : ∀ i k, i < n → k < i → FE.Is (lowE L i k) (FE.qL E i k)
 piv : ∀ i, i < n → FE.Is (P.getD i zR) (FE.qP E i)
theorem fw1_is (h : FE.PD E n) (hn : n ≤ 4) {L : List (List RatD)} {P x : List RatD} (hL : LowIs E n L P) {b : Nat → Rat} (hb : ∀ i, i < n → FE.Lat 6 60 (b i)) {i : Nat} (hi : i < n) (hx : x.length = n)
 (h0 : ∀ j, j < i → FE.Is (x.getD j zR) (FE.qY E b j)) (h1 : FE.Is (x.getD i zR) (b i)) : ∀ k, k ≤ i → FE.Is ((fw1 L i x k).getD i zR) (FE.qYp E b i k) ∧ ∀ j, j ≠ i → (fw1 L i x k).getD j zR = x.getD j zR
 | 0, _ => ⟨by rw [FE.qYp_zero]; exact h1, fun _ _ => rfl⟩
 | k + 1, hk => by
  obtain ⟨a1, a2⟩ := fw1_is h hn hL hb hi hx h0 h1 k (by omega)
  have hl : (fw1 L i x k).length = n := (fw1_len _ _ _ _).trans hx
  rw [fw1]
  refine ⟨?_, fun j hj => ?_⟩
  ·rw [upd_get, if_pos ⟨rfl, by omega⟩, a2 k (by omega)]
   have s := (qL_sz h hn (show k < n by omega) i).mul (qY_sz h hn hb (show k < n by omega))
   have s2 := (qYp_sz h hn hb hk hi).small (by decide)
   rw [FE.qYp_succ] at s2 ⊢
   exact a1.sub ((hL.low i k hi (by omega)).mul (h0 k (by omega)) (s.small (by decide))) s2
  ·rw [upd_get, if_neg (fun e => hj e.1.symm)]
   exact a2 j hj
theorem fwd_is (h : FE.PD E n) (hn : n ≤ 4) {L : List (List RatD)} {P bs : List RatD} (hL : LowIs E n L P) {b : Nat → Rat} (hb : ∀ i, i < n → FE.Lat 6 60 (b i)) (hbs : bs.length = n) (hB : ∀ i, i < n → FE.Is (bs.getD i zR) (b i)) :
 ∀ i, i ≤ n → ∀ j, j < n → FE.Is ((fwd L bs i).getD j zR) (if j < i then FE.qY E b j else b j)
 | 0, _, j, hj => by rw [if_neg (by omega)]; exact hB j hj
 | i + 1, hi, j, hj => by
  have ih := fwd_is h hn hL hb hbs hB i (by omega)
  have hl : (fwd L bs i).length = n := (fwd_len _ _ _).trans hbs
  rw [fwd]
  obtain ⟨a1, a2⟩ := fw1_is h hn hL hb (show i < n by omega) hl (fun j hj => by have := ih j (by omega); rw [if_pos hj] at this; exact this) (by have := ih i (by omega); rw [if_neg (by omega)] at this; exact this) i (Nat.le_refl i)
  by_cases e : j = i
  ·subst e
   rw [if_pos (by omega), FE.qY_eq]; exact a1
  ·rw [a2 j e]
   have := ih j hj
   by_cases e2 : j < i
   ·rw [if_pos e2] at this
    rw [if_pos (by omega)]; exact this
   ·rw [if_neg e2] at this
    rw [if_neg (by omega)]; exact this
theorem pvd_is (h : FE.PD E n) (hn : n ≤ 4) {L : List (List RatD)} {P x : List RatD} (hL : LowIs E n L P) {b : Nat → Rat} (hb : ∀ i, i < n → FE.Lat 6 60 (b i)) (hx : x.length = n) (hX : ∀ i, i < n → FE.Is (x.getD i zR) (FE.qY E b i)) :
 ∀ i, i ≤ n → ∀ j, j < n → FE.Is ((pvd P x i).getD j zR) (if j < i then FE.qZ E b j else FE.qY E b j)
 | 0, _, j, hj => by rw [if_neg (by omega)]; exact hX j hj
 | i + 1, hi, j, hj => by
  have ih := pvd_is h hn hL hb hx hX i (by omega)
  have hl : (pvd P x i).length = n := (pvd_len _ _ _).trans hx
  rw [pvd, getD_setR]
  by_cases e : i = j
  ·subst e
   rw [if_pos ⟨rfl, by omega⟩, if_pos (by omega)]
   have := ih i hj
   rw [if_neg (by omega)] at this
   exact this.div (hL.piv i hj) (h.p0 hj) ((qZ_sz h hn hb hj).small (by decide))
  ·rw [if_neg (fun c => e c.1)]
   have := ih j hj
   by_cases e2 : j < i
   ·rw [if_pos e2] at this
    rw [if_pos (by omega)]; exact this
   ·rw [if_neg e2] at this
    rw [if_neg (by omega)]; exact this
theorem bk1_is (h : FE.PD E n) (hn : n ≤ 4) {L : List (List RatD)} {P x : List RatD} (hL : LowIs E n L P) {b : Nat → Rat} (hb : ∀ i, i < n → FE.Lat 6 60 (b i)) {i t : Nat} (hi : i + 1 + t = n) (hx : x.length = n)
 (h0 : ∀ j, i < j → j < n → FE.Is (x.getD j zR) (FE.qX E b n j)) (h1 : FE.Is (x.getD i zR) (FE.qZ E b i)) : ∀ k, k ≤ t → FE.Is ((bk1 L i x k).getD i zR) (FE.qXp E b n i k) ∧ ∀ j, j ≠ i → (bk1 L i x k).getD j zR = x.getD j zR
 | 0, _ => ⟨by rw [FE.qXp_zero]; exact h1, fun _ _ => rfl⟩
 | k + 1, hk => by
  obtain ⟨a1, a2⟩ := bk1_is h hn hL hb hi hx h0 h1 k (by omega)
  have hl : (bk1 L i x k).length = n := (bk1_len _ _ _ _).trans hx
  rw [bk1]
  refine ⟨?_, fun j hj => ?_⟩
  ·rw [upd_get, if_pos ⟨rfl, by omega⟩, a2 (i + 1 + k) (by omega)]
   have s := (qL_sz h hn (show i < n by omega) (i + 1 + k)).mul (qX_sz h hn hb (show i + 1 + k < n by omega))
   have s2 := (qXp_sz h hn hb hi hk).small (by decide)
   rw [FE.qXp_succ] at s2 ⊢
   exact a1.sub ((hL.low (i + 1 + k) i (by omega) (by omega)).mul (h0 (i + 1 + k) (by omega) (by omega)) (s.small (by decide))) s2
  ·rw [upd_get, if_neg (fun e => hj e.1.symm)]
   exact a2 j hj
theorem bks_is (h : FE.PD E n) (hn : n ≤ 4) {L : List (List RatD)} {P x : List RatD} (hL : LowIs E n L P) {b : Nat → Rat} (hb : ∀ i, i < n → FE.Lat 6 60 (b i)) (hx : x.length = n) (hX : ∀ i, i < n → FE.Is (x.getD i zR) (FE.qZ E b i)) :
 ∀ t, t ≤ n → ∀ j, j < n → FE.Is ((bks L n x t).getD j zR) (if j + t < n then FE.qZ E b j else FE.qX E b n j)
 | 0, _, j, hj => by rw [if_pos (by omega)]; exact hX j hj
 | t + 1, ht, j, hj => by
  have ih := bks_is h hn hL hb hx hX t (by omega)
  have hl : (bks L n x t).length = n := (bks_len _ _ _ _).trans hx
  rw [bks]
  have hi : (n - 1 - t) + 1 + t = n := by omega
  obtain ⟨a1, a2⟩ := bk1_is h hn hL hb hi hl (fun j hj hj2 => by have := ih j hj2; rw [if_neg (by omega)] at this; exact this) (by have := ih (n - 1 - t) (by omega); rw [if_pos (by omega)] at this; exact this) t (Nat.le_refl t)
  by_cases e : j = n - 1 - t
  ·rw [if_neg (by omega), e, FE.qX_eq E b (show n - 1 - t < n by omega), show n - 1 - (n - 1 - t) = t by omega]; exact a1
  ·rw [a2 j e]
   have := ih j hj
   by_cases e2 : j + t < n
   ·rw [if_pos e2] at this
    rw [if_pos (by omega)]; exact this
   ·rw [if_neg e2] at this
    rw [if_neg (by omega)]; exact this
theorem fac_low (h : FE.PD E n) (hn : n ≤ 4) (hE : DrI E n) : LowIs E n (facN (spM (intL n E)) n).lower (facN (spM (intL n E)) n).pivots := by
 have hF := facIs h hn hE n (Nat.le_refl n)
 refine ⟨fun i k hi hk => ?_, fun i hi => ?_⟩
 ·unfold lowE
  rw [(facN_row _ i n hi).1]
  exact (hF i hi).2 k hk
 ·rw [(facN_row _ i n hi).2]
  exact (hF i hi).1
theorem sol_is (h : FE.PD E n) (hn : n ≤ 4) (hE : DrI E n) {bs : List RatD} {b : Nat → Rat} (hb : ∀ i, i < n → FE.Is (bs.getD i zR) (b i) ∧ FE.Lat 6 60 (b i)) (hbs : bs.length = n) :
 ∀ j, j < n → FE.Is ((solB (facN (spM (intL n E)) n) bs).getD j zR) (FE.qX E b n j) := by
 intro j hj
 have hL := fac_low h hn hE
 have hb2 := fun i hi => (hb i hi).2
 unfold solB
 rw [hbs]
 have h1 := fwd_is h hn hL hb2 hbs (fun i hi => (hb i hi).1) n (Nat.le_refl n)
 have h2 := pvd_is h hn hL hb2 ((fwd_len _ _ _).trans hbs) (fun i hi => by have := h1 i hi; rw [if_pos hi] at this; exact this) n (Nat.le_refl n)
 have h3 := bks_is h hn hL hb2 ((pvd_len _ _ _).trans ((fwd_len _ _ _).trans hbs)) (fun i hi => by have := h2 i hi; rw [if_pos hi] at this; exact this) n (Nat.le_refl n) j hj
 rw [if_neg (by omega)] at h3
 exact h3
theorem qdot_rsum (f g : Nat → Rat) : ∀ k, qdot f g k = FE.rsum (fun j => f j * g j) k
 | 0 => rfl
 | k + 1 => by rw [qdot, FE.rsum, qdot_rsum f g k]
theorem vApply_is (hn : n ≤ 4) (hE : DrI E n) {us : List RatD} {U : Nat → Rat} (hl : us.length = n) {D B : Int} (hU : ∀ j, j < n → FE.Is (us.getD j zR) (U j) ∧ FE.Lat D B (U j)) (hD : D ≤ 10 ^ 210) (hB : B ≤ 10 ^ 210) :
 ∀ i, i < n → FE.Is ((vApply (spM (intL n E)) us).getD i zR) (FE.rsum (fun j => (E i j : Rat) * U j) n) ∧ FE.Lat D (28 * B) (FE.rsum (fun j => (E i j : Rat) * U j) n) := by
 intro i hi
 have hEl : ∀ j, FE.Lat 1 7 ((E i j : Int) : Rat) := fun j => FE.Lat.int (by have := (hE.all i j).1; omega) (by have := (hE.all i j).2; omega)
 have e0 := p10_pos 210
 have e1 : (10 : Int) ^ 216 = 10 ^ 6 * 10 ^ 210 := by decide +kernel
 have hp : ∀ j, j < n → FE.Lat D (7 * B) ((E i j : Rat) * U j) := fun j hj => ((hEl j).mul (hU j hj).2).cast (Int.one_mul D)
 have hD0 := (hU i hi).2.1
 have hB0 := (hU i hi).2.nonneg
 have hs : ∀ k, k ≤ n → FE.Lat D (7 * B * k) (qdot (fun j => (E i j : Rat)) U k) := fun k hk => qdot_lat hD0 hp k hk
 have hb : ∀ k : Nat, k ≤ n → 7 * B * (k : Int) ≤ 28 * B := fun k hk => by
  have h4 : (k : Int) ≤ 4 := by omega
  have := Int.mul_le_mul_of_nonneg_left h4 (show 0 ≤ 7 * B by omega)
  omega
 have hrl : ((intL n E).getD i []).length = n := intL_row_len hi
 have hv : (vApply (spM (intL n E)) us).getD i zR = sumK (spRow ((intL n E).getD i [])) us (spC ((intL n E).getD i []) n).length := by
  rw [vApply_get (by rw [spM_len, intL_len]; exact hi), spM_get (by rw [intL_len]; exact hi)]
  show sumK _ us (spC ((intL n E).getD i []) ((intL n E).getD i []).length).length = _
  rw [hrl]
 have key := sp_sum (xs := (intL n E).getD i []) (us := us) (X := fun j => (E i j : Rat)) (U := U) (fun j hj => by
  rw [hrl] at hj
  rw [intL_get hi hj]
  exact rint_is (by have := (hE.all i j).1; omega) (by have := (hE.all i j).2; omega)) (fun j hj => by rw [hrl] at hj; exact (hU j hj).1)
  (fun j hj => by rw [hrl] at hj; exact (hp j hj).small (by omega) (by omega)) (fun k hk => by rw [hrl] at hk; exact (hs k hk).small (by omega) (by have := hb k hk; omega)) n (by rw [hrl]; exact Nat.le_refl n)
 rw [hv, ← qdot_rsum]
 exact ⟨key, (hs n (Nat.le_refl n)).mono (hb n (Nat.le_refl n))⟩
theorem rm1_is : FE.Is rm1 (-1) := FE.Is.int (n := -1) (by decide)
end
end Go.Proofs.YtlpomcihkjiokaaGreat
