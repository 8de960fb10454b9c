/-
  Shared texts (D11).
-/
import Derived.Test.YtlpomcihkjiokaaGreatD10
import Derived.Test.YtlpomcihkjiokaaGreatD6
import Derived.Test.YtlpomcihkjiokaaGreatD9
import Derived.Test.YtlpomcihkjiokaaGreatD1
namespace Go.Proofs.YtlpomcihkjiokaaGreat
open Go.RowKit Go.Joins

def RFew (x : RatD) : Prop := x.mag.length ≤ 1048576 ∧ x.den.length ≤ 1048576
theorem LS.frame {S : Nat → Prop} {w w' : World} {lo hi : Nat} {v : Value} {vs : List Value} {rows : List (List RatD)} (h : LS w lo hi v vs rows) (hf : Frame S w w') (hs : ∀ b, lo ≤ b → b < hi → ¬ S b) : LS w' lo hi v vs rows := by
  obtain ⟨h0, hd, A, c, h1, h2, h3, h4⟩ := h
  refine ⟨h0, hd, A, c, h1, h2, h3, fun hx => ?_⟩
  obtain ⟨g, e, k1, k2, k3, k4⟩ := h4 hx
  exact ⟨g, e, k1, k2, Nat.lt_of_lt_of_le k3 hf.size, fun i hi => ⟨(hf.cell k3 (hs g k1 k2)).trans (k4 i hi).1, (k4 i hi).2.frame hf hs⟩⟩
/-- Where a row lies, and the entry in it. -/
theorem LS.pick {w : World} {lo hi n c : Nat} {A : Option Addr} {vs : List Value} {rows : List (List RatD)} (h : LS w lo hi (.slice A n c) vs rows) (i : Nat) (hi1 : i < rows.length) (j : Nat) (hj : j < (rows.getD i []).length) :
    ∃ g gi ci, A = some ⟨g, 0, none⟩ ∧ lo ≤ g ∧ g < w.heap.size ∧ w.cell? ⟨g, i, none⟩ = some (.slice (some ⟨gi, 0, none⟩) (rows.getD i []).length ci) ∧ vs.getD i zV = .slice (some ⟨gi, 0, none⟩) (rows.getD i []).length ci ∧ lo ≤ gi ∧ gi < w.heap.size ∧ g ≠ gi ∧ (∀ o, w.frozen? ⟨gi, o, none⟩ = false) ∧ VX w lo hi (.slice (some ⟨gi, 0, none⟩) (rows.getD i []).length ci) (rows.getD i []) := by
  obtain ⟨g, e, h1, h2, h3, h4⟩ := h.row i hi1
  obtain ⟨Ai, ci, ei, _⟩ := h4.formF
  rw [ei] at h3 h4
  cases Ai with
  | none =>
    obtain ⟨ps, _, A', c', e', _, _, h5⟩ := h4
    injection e' with e1 _ _
    obtain ⟨g', e2, _⟩ := h5 (by intro h; rw [h] at hj; simp at hj)
    rw [e2] at e1
    cases e1
  | some a =>
    have hb : blk (.slice (some a) (rows.getD i []).length ci) = some a.block := blk_slice (by omega)
    obtain ⟨_, ⟨c2, e2⟩, k1, k2, k3, k4, s, hs⟩ := h4.blk hb
    injection e2 with e2 _ _
    injection e2 with e2
    rw [e2] at h3 h4 ei
    refine ⟨g, a.block, ci, e, h1, h2, h3, ei, k1, k3, ?_, k4, h4⟩
    intro hg
    obtain ⟨g0, e0, _, _, h30, h40⟩ := h.row 0 (by omega)
    rw [e] at e0
    injection e0 with e0
    injection e0 with e0
    subst e0
    rw [hg, hs] at h30
    injection h30 with h30
    obtain ⟨_, _, e9, _⟩ := h40.formF
    rw [e9] at h30
    cases h30
theorem rep_full (n : Nat) (x : RatD) : List.replicate n (List.replicate n x) = fullL n (fun _ _ => x) := by
  refine eq_fullL (by simp) (fun q hq => by simp [hq]) (fun q t hq ht => by simp [hq, ht])
theorem full_res {n : Nat} {E : Nat → Nat → RatD} (h : ∀ q t, q < n → t < n → FE.Res (E q t)) : ∀ i, i < (fullL n E).length → AllRes ((fullL n E).getD i []) := by
  intro i hi j hj
  rw [fullL_len] at hi
  rw [fullL_row_len hi] at hj
  rw [fullL_get hi hj]
  exact h i j hi hj
theorem two_rats {w : World} {r s : RatD} {A0 B0 A2 B2 : Option Addr} {c0 b0 c2 b2 : Nat} (h0 : RatV w (.agg #[.bool r.neg, .slice A0 r.mag.length c0, .slice B0 r.den.length b0]) r) (h2 : RatV w (.agg #[.bool s.neg, .slice A2 s.mag.length c2, .slice B2 s.den.length b2]) s) :
    VI (w.alloc (.cells #[.bool r.neg, .slice A0 r.mag.length c0, .slice B0 r.den.length b0, .bool s.neg, .slice A2 s.mag.length c2, .slice B2 s.den.length b2] 57)) (some ⟨w.heap.size, 0, none⟩) [r, s] := by
  have al := below_alloc1 w (.cells #[.bool r.neg, .slice A0 r.mag.length c0, .slice B0 r.den.length b0, .bool s.neg, .slice A2 s.mag.length c2, .slice B2 s.den.length b2] 57)
  replace h0 := h0.later al
  replace h2 := h2.later al
  obtain ⟨A, c, B, d, e, hl, k1, k2⟩ := h0
  obtain ⟨A', c', B', d', e', hl', k1', k2'⟩ := h2
  injection e with e
  injection e with e
  injection e with _ e
  injection e with ea e
  injection e with eb _
  injection ea with ea1 _ ea3
  injection eb with eb1 _ eb3
  injection e' with e'
  injection e' with e'
  injection e' with _ e'
  injection e' with ea' e'
  injection e' with eb' _
  injection ea' with ea1' _ ea3'
  injection eb' with eb1' _ eb3'
  subst ea1 ea3 eb1 eb3 ea1' ea3' eb1' eb3'
  intro _
  refine ⟨w.heap.size, 0, rfl, by simp, fun j hj => ?_⟩
  match j, hj with
  | 0, _ => exact ⟨_, _, _, _, by simp, by simp, by simp, hl, k1, k2⟩
  | 1, _ => exact ⟨_, _, _, _, by simp, by simp, by simp, hl', k1', k2'⟩
theorem MZ.wide {w : World} {lo hi lo' hi' : Nat} {v : Value} {rs : List RowD} (h : MZ w lo hi v rs) (j1 : lo' ≤ lo) (j2 : hi ≤ hi') : MZ w lo' hi' v rs := by
  obtain ⟨u, qs, rfl, h, ha⟩ := h
  exact ⟨u, qs, rfl, h.wide j1 j2, ha⟩
theorem comb_no {r s : RatD} {A B : List RowD} (h : combIn r A s B = false) : combM r A s B = [] ∧ combOk r A s B = false := by
  unfold combM combOk
  rw [h]
  exact ⟨rfl, rfl⟩
theorem comb_yes {r s : RatD} {A B : List RowD} (h : combIn r A s B = true) : combM r A s B = spR (combL r A s B) ∧ combOk r A s B = spOk (combL r A s B) := by
  unfold combM combOk
  rw [h]
  exact ⟨rfl, rfl⟩

set_option maxRecDepth 100000 in
set_option maxHeartbeats 6400000 in
theorem iCombineMatrices (r : RatD) (A : List RowD) (s : RatD) (B : List RowD) (u0 u1 u2 u3 : Value) (w : World) (h0 : RatV w u0 r) (h1 : MatV w u1 A) (h2 : RatV w u2 s) (h3 : MatV w u3 B) (f0 : RFew r) (f1 : MFew A) (f2 : RFew s) (f3 : MFew B) :
    Calls Tryz.prog 26 #[u0, u1, u2, u3] w (MPost w (combM r A s B) (.bool (combOk r A s B))) := by
  have HMA := fun W (hW : Below w.heap.size w W) => iIsMatrix A u1 W (h1.later hW) f1
  have HMB := fun W (hW : Below w.heap.size w W) => iIsMatrix B u3 W (h3.later hW) f3
  have HEA := fun (hq : mOk A = true) W (hW : Below w.heap.size w W) i (hi : i < A.length) (j : Int) => iEntry A u1 i j W (h1.later hW) f1 hi (Nat.le_of_eq (mOk_row hq hi).1.symm) (mOk_row hq hi).2.2.1
  have HEB := fun (hq : mOk B = true) W (hW : Below w.heap.size w W) i (hi : i < B.length) (j : Int) => iEntry B u3 i j W (h3.later hW) f3 hi (Nat.le_of_eq (mOk_row hq hi).1.symm) (mOk_row hq hi).2.2.1
  have HN := Lib.hid (fun h => comb_no (r := r) (A := A) (s := s) (B := B) h)
  have HY := Lib.hid (fun h => comb_yes (r := r) (A := A) (s := s) (B := B) h)
  have hin : combIn r A s B = (mOk A && (mOk B && (decide ((A.length : Int) = (B.length : Int)) && (FE.ratOk r && FE.ratOk s)))) := rfl
  rw [hin] at HN HY
  have HFEWA := Lib.hid f1.2
  have HFEWB := Lib.hid f3.2
  have hA40 := f1.1
  have hB40 := f3.1
  have HR0 := Lib.hid h0
  have HR2 := Lib.hid h2
  have HF0 := Lib.hid f0
  have HF2 := Lib.hid f2
  obtain ⟨A0, c0, B0, b0, rfl, _, _, _⟩ := h0
  obtain ⟨A2, c2, B2, b2, rfl, _, _, _⟩ := h2
  obtain ⟨A1, c1, rfl, _, _⟩ := h1
  obtain ⟨A3, c3, rfl, _, _⟩ := h3
  clear f0 f1 f2 f3 hin
  cases ha : mOk A
  · rw [ha] at HMA HN
    replace HMA := Lib.hid HMA
    have HNO := Lib.hid (HN.out (by simp))
    clear HN HY HMB ha HEA HEB
    generalize A.length = n at *
    generalize B.length = n' at *
    have S0 := Slots.new (below_step (below_step (below_step (below_step (Below.refl _ (((((w.alloc (.cells #[.bool r.neg, .slice A0 r.mag.length c0, .slice B0 r.den.length b0] 57)).alloc (.cells #[.slice A1 n c1] 52)).alloc (.cells #[.bool s.neg, .slice A2 s.mag.length c2, .slice B2 s.den.length b2] 57)).alloc (.cells #[.slice A3 n' c3] 52)).alloc (.cells #[.slice none 0 0] 52))))))) (g := w.heap.size) rfl
    have S1 := Slots.new (below_step (below_step (below_step (Below.refl _ (((((w.alloc (.cells #[.bool r.neg, .slice A0 r.mag.length c0, .slice B0 r.den.length b0] 57)).alloc (.cells #[.slice A1 n c1] 52)).alloc (.cells #[.bool s.neg, .slice A2 s.mag.length c2, .slice B2 s.den.length b2] 57)).alloc (.cells #[.slice A3 n' c3] 52)).alloc (.cells #[.slice none 0 0] 52)))))) (g := w.heap.size + 1) (by simp)
    have S2 := Slots.new (below_step (below_step (Below.refl _ (((((w.alloc (.cells #[.bool r.neg, .slice A0 r.mag.length c0, .slice B0 r.den.length b0] 57)).alloc (.cells #[.slice A1 n c1] 52)).alloc (.cells #[.bool s.neg, .slice A2 s.mag.length c2, .slice B2 s.den.length b2] 57)).alloc (.cells #[.slice A3 n' c3] 52)).alloc (.cells #[.slice none 0 0] 52))))) (g := w.heap.size + 1 + 1) (by simp)
    have S3 := Slots.new (below_step (Below.refl _ (((((w.alloc (.cells #[.bool r.neg, .slice A0 r.mag.length c0, .slice B0 r.den.length b0] 57)).alloc (.cells #[.slice A1 n c1] 52)).alloc (.cells #[.bool s.neg, .slice A2 s.mag.length c2, .slice B2 s.den.length b2] 57)).alloc (.cells #[.slice A3 n' c3] 52)).alloc (.cells #[.slice none 0 0] 52)))) (g := w.heap.size + 1 + 1 + 1) (by simp)
    have S4 := Slots.new (Below.refl _ (((((w.alloc (.cells #[.bool r.neg, .slice A0 r.mag.length c0, .slice B0 r.den.length b0] 57)).alloc (.cells #[.slice A1 n c1] 52)).alloc (.cells #[.bool s.neg, .slice A2 s.mag.length c2, .slice B2 s.den.length b2] 57)).alloc (.cells #[.slice A3 n' c3] 52)).alloc (.cells #[.slice none 0 0] 52))) (g := w.heap.size + 1 + 1 + 1 + 1) (by simp)
    have hb := (((below_alloc3 w (.cells #[.bool r.neg, .slice A0 r.mag.length c0, .slice B0 r.den.length b0] 57) (.cells #[.slice A1 n c1] 52) (.cells #[.bool s.neg, .slice A2 s.mag.length c2, .slice B2 s.den.length b2] 57)).alloc (by simp; omega) (.cells #[.slice A3 n' c3] 52)).alloc (by simp; omega) (.cells #[.slice none 0 0] 52))
    go_enter Tryz.func26, Tryz.ntmps26
    have m1 := S1.c1.1
    go_wp2_with fail
    generalize ((((w.alloc (.cells #[.bool r.neg, .slice A0 r.mag.length c0, .slice B0 r.den.length b0] 57)).alloc (.cells #[.slice A1 n c1] 52)).alloc (.cells #[.bool s.neg, .slice A2 s.mag.length c2, .slice B2 s.den.length b2] 57)).alloc (.cells #[.slice A3 n' c3] 52)).alloc (.cells #[.slice none 0 0] 52) = w0 at *
    refine (HMA.out _ hb).mono ?_
    rintro e w1 ⟨rfl, hb1⟩
    replace S0 := S0.later hb1
    replace S1 := S1.later hb1
    replace S2 := S2.later hb1
    replace S3 := S3.later hb1
    replace S4 := S4.later hb1
    replace hb := below_trans hb hb1
    clear m1 hb1
    obtain ⟨q0, z0⟩ := S4.c1
    have hfin : MPost w (combM r A s B) (.bool (combOk r A s B)) (.returned (.tuple #[.agg #[.slice none 0 0], .bool false])) (w1.setCell ⟨w.heap.size + 1 + 1 + 1 + 1, 0, none⟩ (.slice none 0 0)) := by
      rw [HNO.out.1, HNO.out.2]
      exact ⟨_, rfl, MZ.nil _ _ _, hb.setCell (p := ⟨w.heap.size + 1 + 1 + 1 + 1, 0, none⟩) (show w.heap.size ≤ w.heap.size + 1 + 1 + 1 + 1 by omega) _⟩
    replace hfin := Lib.hid hfin
    clear S0 S1 S2 S3 S4 hb
    go_wp2
    exact bodyPost_ret (v := .tuple #[.agg #[.slice none 0 0], .bool false]) (by simp [results, Tryz.results26, go_sem, q0]) rfl hfin.out
  rw [ha] at HMA HN HY
  replace HMA := Lib.hid HMA
  cases hbb : mOk B
  · rw [hbb] at HMB HN
    replace HMB := Lib.hid HMB
    have HNO := Lib.hid (HN.out (by simp))
    clear HN HY ha hbb HEA HEB
    generalize A.length = n at *
    generalize B.length = n' at *
    have S0 := Slots.new (below_step (below_step (below_step (below_step (Below.refl _ (((((w.alloc (.cells #[.bool r.neg, .slice A0 r.mag.length c0, .slice B0 r.den.length b0] 57)).alloc (.cells #[.slice A1 n c1] 52)).alloc (.cells #[.bool s.neg, .slice A2 s.mag.length c2, .slice B2 s.den.length b2] 57)).alloc (.cells #[.slice A3 n' c3] 52)).alloc (.cells #[.slice none 0 0] 52))))))) (g := w.heap.size) rfl
    have S1 := Slots.new (below_step (below_step (below_step (Below.refl _ (((((w.alloc (.cells #[.bool r.neg, .slice A0 r.mag.length c0, .slice B0 r.den.length b0] 57)).alloc (.cells #[.slice A1 n c1] 52)).alloc (.cells #[.bool s.neg, .slice A2 s.mag.length c2, .slice B2 s.den.length b2] 57)).alloc (.cells #[.slice A3 n' c3] 52)).alloc (.cells #[.slice none 0 0] 52)))))) (g := w.heap.size + 1) (by simp)
    have S2 := Slots.new (below_step (below_step (Below.refl _ (((((w.alloc (.cells #[.bool r.neg, .slice A0 r.mag.length c0, .slice B0 r.den.length b0] 57)).alloc (.cells #[.slice A1 n c1] 52)).alloc (.cells #[.bool s.neg, .slice A2 s.mag.length c2, .slice B2 s.den.length b2] 57)).alloc (.cells #[.slice A3 n' c3] 52)).alloc (.cells #[.slice none 0 0] 52))))) (g := w.heap.size + 1 + 1) (by simp)
    have S3 := Slots.new (below_step (Below.refl _ (((((w.alloc (.cells #[.bool r.neg, .slice A0 r.mag.length c0, .slice B0 r.den.length b0] 57)).alloc (.cells #[.slice A1 n c1] 52)).alloc (.cells #[.bool s.neg, .slice A2 s.mag.length c2, .slice B2 s.den.length b2] 57)).alloc (.cells #[.slice A3 n' c3] 52)).alloc (.cells #[.slice none 0 0] 52)))) (g := w.heap.size + 1 + 1 + 1) (by simp)
    have S4 := Slots.new (Below.refl _ (((((w.alloc (.cells #[.bool r.neg, .slice A0 r.mag.length c0, .slice B0 r.den.length b0] 57)).alloc (.cells #[.slice A1 n c1] 52)).alloc (.cells #[.bool s.neg, .slice A2 s.mag.length c2, .slice B2 s.den.length b2] 57)).alloc (.cells #[.slice A3 n' c3] 52)).alloc (.cells #[.slice none 0 0] 52))) (g := w.heap.size + 1 + 1 + 1 + 1) (by simp)
    have hb := (((below_alloc3 w (.cells #[.bool r.neg, .slice A0 r.mag.length c0, .slice B0 r.den.length b0] 57) (.cells #[.slice A1 n c1] 52) (.cells #[.bool s.neg, .slice A2 s.mag.length c2, .slice B2 s.den.length b2] 57)).alloc (by simp; omega) (.cells #[.slice A3 n' c3] 52)).alloc (by simp; omega) (.cells #[.slice none 0 0] 52))
    go_enter Tryz.func26, Tryz.ntmps26
    have m1 := S1.c1.1
    go_wp2_with fail
    generalize ((((w.alloc (.cells #[.bool r.neg, .slice A0 r.mag.length c0, .slice B0 r.den.length b0] 57)).alloc (.cells #[.slice A1 n c1] 52)).alloc (.cells #[.bool s.neg, .slice A2 s.mag.length c2, .slice B2 s.den.length b2] 57)).alloc (.cells #[.slice A3 n' c3] 52)).alloc (.cells #[.slice none 0 0] 52) = w0 at *
    refine (HMA.out _ hb).mono ?_
    rintro e w1 ⟨rfl, hb1⟩
    replace S0 := S0.later hb1
    replace S1 := S1.later hb1
    replace S2 := S2.later hb1
    replace S3 := S3.later hb1
    replace S4 := S4.later hb1
    replace hb := below_trans hb hb1
    clear m1 hb1
    have m3 := S3.c1.1
    go_wp2_with fail
    refine (HMB.out _ hb).mono ?_
    rintro e w2 ⟨rfl, hb2⟩
    replace S0 := S0.later hb2
    replace S1 := S1.later hb2
    replace S2 := S2.later hb2
    replace S3 := S3.later hb2
    replace S4 := S4.later hb2
    replace hb := below_trans hb hb2
    clear m3 hb2
    obtain ⟨q0, z0⟩ := S4.c1
    have hfin : MPost w (combM r A s B) (.bool (combOk r A s B)) (.returned (.tuple #[.agg #[.slice none 0 0], .bool false])) (w2.setCell ⟨w.heap.size + 1 + 1 + 1 + 1, 0, none⟩ (.slice none 0 0)) := by
      rw [HNO.out.1, HNO.out.2]
      exact ⟨_, rfl, MZ.nil _ _ _, hb.setCell (p := ⟨w.heap.size + 1 + 1 + 1 + 1, 0, none⟩) (show w.heap.size ≤ w.heap.size + 1 + 1 + 1 + 1 by omega) _⟩
    replace hfin := Lib.hid hfin
    clear S0 S1 S2 S3 S4 hb
    go_wp2
    exact bodyPost_ret (v := .tuple #[.agg #[.slice none 0 0], .bool false]) (by simp [results, Tryz.results26, go_sem, q0]) rfl hfin.out
  rw [hbb] at HMB HN HY
  replace HMB := Lib.hid HMB
  by_cases hnn : A.length = B.length
  rotate_left
  · have HNO := Lib.hid (HN.out (by simp; intro h; omega))
    clear HN HY ha hbb HEA HEB
    generalize A.length = n at *
    generalize B.length = n' at *
    have hne2 : ¬ (n' = n) := fun h => hnn h.symm
    have S0 := Slots.new (below_step (below_step (below_step (below_step (Below.refl _ (((((w.alloc (.cells #[.bool r.neg, .slice A0 r.mag.length c0, .slice B0 r.den.length b0] 57)).alloc (.cells #[.slice A1 n c1] 52)).alloc (.cells #[.bool s.neg, .slice A2 s.mag.length c2, .slice B2 s.den.length b2] 57)).alloc (.cells #[.slice A3 n' c3] 52)).alloc (.cells #[.slice none 0 0] 52))))))) (g := w.heap.size) rfl
    have S1 := Slots.new (below_step (below_step (below_step (Below.refl _ (((((w.alloc (.cells #[.bool r.neg, .slice A0 r.mag.length c0, .slice B0 r.den.length b0] 57)).alloc (.cells #[.slice A1 n c1] 52)).alloc (.cells #[.bool s.neg, .slice A2 s.mag.length c2, .slice B2 s.den.length b2] 57)).alloc (.cells #[.slice A3 n' c3] 52)).alloc (.cells #[.slice none 0 0] 52)))))) (g := w.heap.size + 1) (by simp)
    have S2 := Slots.new (below_step (below_step (Below.refl _ (((((w.alloc (.cells #[.bool r.neg, .slice A0 r.mag.length c0, .slice B0 r.den.length b0] 57)).alloc (.cells #[.slice A1 n c1] 52)).alloc (.cells #[.bool s.neg, .slice A2 s.mag.length c2, .slice B2 s.den.length b2] 57)).alloc (.cells #[.slice A3 n' c3] 52)).alloc (.cells #[.slice none 0 0] 52))))) (g := w.heap.size + 1 + 1) (by simp)
    have S3 := Slots.new (below_step (Below.refl _ (((((w.alloc (.cells #[.bool r.neg, .slice A0 r.mag.length c0, .slice B0 r.den.length b0] 57)).alloc (.cells #[.slice A1 n c1] 52)).alloc (.cells #[.bool s.neg, .slice A2 s.mag.length c2, .slice B2 s.den.length b2] 57)).alloc (.cells #[.slice A3 n' c3] 52)).alloc (.cells #[.slice none 0 0] 52)))) (g := w.heap.size + 1 + 1 + 1) (by simp)
    have S4 := Slots.new (Below.refl _ (((((w.alloc (.cells #[.bool r.neg, .slice A0 r.mag.length c0, .slice B0 r.den.length b0] 57)).alloc (.cells #[.slice A1 n c1] 52)).alloc (.cells #[.bool s.neg, .slice A2 s.mag.length c2, .slice B2 s.den.length b2] 57)).alloc (.cells #[.slice A3 n' c3] 52)).alloc (.cells #[.slice none 0 0] 52))) (g := w.heap.size + 1 + 1 + 1 + 1) (by simp)
    have hb := (((below_alloc3 w (.cells #[.bool r.neg, .slice A0 r.mag.length c0, .slice B0 r.den.length b0] 57) (.cells #[.slice A1 n c1] 52) (.cells #[.bool s.neg, .slice A2 s.mag.length c2, .slice B2 s.den.length b2] 57)).alloc (by simp; omega) (.cells #[.slice A3 n' c3] 52)).alloc (by simp; omega) (.cells #[.slice none 0 0] 52))
    go_enter Tryz.func26, Tryz.ntmps26
    have m1 := S1.c1.1
    go_wp2_with fail
    generalize ((((w.alloc (.cells #[.bool r.neg, .slice A0 r.mag.length c0, .slice B0 r.den.length b0] 57)).alloc (.cells #[.slice A1 n c1] 52)).alloc (.cells #[.bool s.neg, .slice A2 s.mag.length c2, .slice B2 s.den.length b2] 57)).alloc (.cells #[.slice A3 n' c3] 52)).alloc (.cells #[.slice none 0 0] 52) = w0 at *
    refine (HMA.out _ hb).mono ?_
    rintro e w1 ⟨rfl, hb1⟩
    replace S0 := S0.later hb1
    replace S1 := S1.later hb1
    replace S2 := S2.later hb1
    replace S3 := S3.later hb1
    replace S4 := S4.later hb1
    replace hb := below_trans hb hb1
    clear m1 hb1
    have m3 := S3.c1.1
    go_wp2_with fail
    refine (HMB.out _ hb).mono ?_
    rintro e w2 ⟨rfl, hb2⟩
    replace S0 := S0.later hb2
    replace S1 := S1.later hb2
    replace S2 := S2.later hb2
    replace S3 := S3.later hb2
    replace S4 := S4.later hb2
    replace hb := below_trans hb hb2
    clear m3 hb2
    have m1 := S1.c1.1
    have m3 := S3.c1.1
    clear HMA HMB
    obtain ⟨q0, z0⟩ := S4.c1
    have hfin : MPost w (combM r A s B) (.bool (combOk r A s B)) (.returned (.tuple #[.agg #[.slice none 0 0], .bool false])) (w2.setCell ⟨w.heap.size + 1 + 1 + 1 + 1, 0, none⟩ (.slice none 0 0)) := by
      rw [HNO.out.1, HNO.out.2]
      exact ⟨_, rfl, MZ.nil _ _ _, hb.setCell (p := ⟨w.heap.size + 1 + 1 + 1 + 1, 0, none⟩) (show w.heap.size ≤ w.heap.size + 1 + 1 + 1 + 1 by omega) _⟩
    replace hfin := Lib.hid hfin
    clear S0 S1 S2 S3 S4 hb
    go_wp2
    exact bodyPost_ret (v := .tuple #[.agg #[.slice none 0 0], .bool false]) (by simp [results, Tryz.results26, go_sem, q0]) rfl hfin.out
  have hnd : decide ((A.length : Int) = (B.length : Int)) = true := by simp; omega
  rw [hnd] at HN HY
  simp only [Bool.true_and] at HN HY
  rw [← hnn] at HMB HEB ⊢
  clear hnd
  have HAR := fun A W (hv : VI W A [r, s]) => iAreRats [r, s] 2 2 rfl ⟨by simp, fun k hk => by
    match k, hk with
    | 0, _ => exact HF0.out
    | 1, _ => exact HF2.out⟩ A W hv
  have hvr : vok [r, s] = (FE.ratOk r && FE.ratOk s) := by simp [vok]
  rw [hvr] at HAR
  clear hvr
  cases hq : (FE.ratOk r && FE.ratOk s)
  · rw [hq] at HAR HN
    replace HAR := Lib.hid HAR
    have HNO := Lib.hid (HN.out rfl)
    clear HN HY ha hbb HEA HEB hq hnn
    generalize A.length = n at *
    have S0 := Slots.new (below_step (below_step (below_step (below_step (Below.refl _ (((((w.alloc (.cells #[.bool r.neg, .slice A0 r.mag.length c0, .slice B0 r.den.length b0] 57)).alloc (.cells #[.slice A1 n c1] 52)).alloc (.cells #[.bool s.neg, .slice A2 s.mag.length c2, .slice B2 s.den.length b2] 57)).alloc (.cells #[.slice A3 n c3] 52)).alloc (.cells #[.slice none 0 0] 52))))))) (g := w.heap.size) rfl
    have S1 := Slots.new (below_step (below_step (below_step (Below.refl _ (((((w.alloc (.cells #[.bool r.neg, .slice A0 r.mag.length c0, .slice B0 r.den.length b0] 57)).alloc (.cells #[.slice A1 n c1] 52)).alloc (.cells #[.bool s.neg, .slice A2 s.mag.length c2, .slice B2 s.den.length b2] 57)).alloc (.cells #[.slice A3 n c3] 52)).alloc (.cells #[.slice none 0 0] 52)))))) (g := w.heap.size + 1) (by simp)
    have S2 := Slots.new (below_step (below_step (Below.refl _ (((((w.alloc (.cells #[.bool r.neg, .slice A0 r.mag.length c0, .slice B0 r.den.length b0] 57)).alloc (.cells #[.slice A1 n c1] 52)).alloc (.cells #[.bool s.neg, .slice A2 s.mag.length c2, .slice B2 s.den.length b2] 57)).alloc (.cells #[.slice A3 n c3] 52)).alloc (.cells #[.slice none 0 0] 52))))) (g := w.heap.size + 1 + 1) (by simp)
    have S3 := Slots.new (below_step (Below.refl _ (((((w.alloc (.cells #[.bool r.neg, .slice A0 r.mag.length c0, .slice B0 r.den.length b0] 57)).alloc (.cells #[.slice A1 n c1] 52)).alloc (.cells #[.bool s.neg, .slice A2 s.mag.length c2, .slice B2 s.den.length b2] 57)).alloc (.cells #[.slice A3 n c3] 52)).alloc (.cells #[.slice none 0 0] 52)))) (g := w.heap.size + 1 + 1 + 1) (by simp)
    have S4 := Slots.new (Below.refl _ (((((w.alloc (.cells #[.bool r.neg, .slice A0 r.mag.length c0, .slice B0 r.den.length b0] 57)).alloc (.cells #[.slice A1 n c1] 52)).alloc (.cells #[.bool s.neg, .slice A2 s.mag.length c2, .slice B2 s.den.length b2] 57)).alloc (.cells #[.slice A3 n c3] 52)).alloc (.cells #[.slice none 0 0] 52))) (g := w.heap.size + 1 + 1 + 1 + 1) (by simp)
    have hb := (((below_alloc3 w (.cells #[.bool r.neg, .slice A0 r.mag.length c0, .slice B0 r.den.length b0] 57) (.cells #[.slice A1 n c1] 52) (.cells #[.bool s.neg, .slice A2 s.mag.length c2, .slice B2 s.den.length b2] 57)).alloc (by simp; omega) (.cells #[.slice A3 n c3] 52)).alloc (by simp; omega) (.cells #[.slice none 0 0] 52))
    go_enter Tryz.func26, Tryz.ntmps26
    have m1 := S1.c1.1
    go_wp2_with fail
    generalize ((((w.alloc (.cells #[.bool r.neg, .slice A0 r.mag.length c0, .slice B0 r.den.length b0] 57)).alloc (.cells #[.slice A1 n c1] 52)).alloc (.cells #[.bool s.neg, .slice A2 s.mag.length c2, .slice B2 s.den.length b2] 57)).alloc (.cells #[.slice A3 n c3] 52)).alloc (.cells #[.slice none 0 0] 52) = w0 at *
    refine (HMA.out _ hb).mono ?_
    rintro e w1 ⟨rfl, hb1⟩
    replace S0 := S0.later hb1
    replace S1 := S1.later hb1
    replace S2 := S2.later hb1
    replace S3 := S3.later hb1
    replace S4 := S4.later hb1
    replace hb := below_trans hb hb1
    clear m1 hb1
    have m3 := S3.c1.1
    go_wp2_with fail
    refine (HMB.out _ hb).mono ?_
    rintro e w2 ⟨rfl, hb2⟩
    replace S0 := S0.later hb2
    replace S1 := S1.later hb2
    replace S2 := S2.later hb2
    replace S3 := S3.later hb2
    replace S4 := S4.later hb2
    replace hb := below_trans hb hb2
    clear m3 hb2
    have r0 := S0.c3.1
    have r1 := S0.c3.2.1
    have r2 := S0.c3.2.2.1
    have r3 := S2.c3.1
    have r4 := S2.c3.2.1
    have r5 := S2.c3.2.2.1
    have m1 := S1.c1.1
    have m3 := S3.c1.1
    have HVI := Lib.hid (two_rats (HR0.out.later hb) (HR2.out.later hb))
    have al := below_alloc1 w2 (.cells #[.bool r.neg, .slice A0 r.mag.length c0, .slice B0 r.den.length b0, .bool s.neg, .slice A2 s.mag.length c2, .slice B2 s.den.length b2] 57)
    replace S0 := S0.later al
    replace S1 := S1.later al
    replace S2 := S2.later al
    replace S3 := S3.later al
    replace S4 := S4.later al
    replace hb := below_trans hb al
    clear al
    go_wp2_with fail
    clear r0 r1 r2 r3 r4 r5 m1 m3
    generalize w2.alloc (.cells #[.bool r.neg, .slice A0 r.mag.length c0, .slice B0 r.den.length b0, .bool s.neg, .slice A2 s.mag.length c2, .slice B2 s.den.length b2] 57) = w3 at *
    refine (HAR.out _ _ HVI.out).mono ?_
    rintro e w4 ⟨rfl, hb4⟩
    replace S0 := S0.later hb4
    replace S1 := S1.later hb4
    replace S2 := S2.later hb4
    replace S3 := S3.later hb4
    replace S4 := S4.later hb4
    replace hb := below_trans hb hb4
    clear hb4 HVI
    obtain ⟨q0, z0⟩ := S4.c1
    have hfin : MPost w (combM r A s B) (.bool (combOk r A s B)) (.returned (.tuple #[.agg #[.slice none 0 0], .bool false])) (w4.setCell ⟨w.heap.size + 1 + 1 + 1 + 1, 0, none⟩ (.slice none 0 0)) := by
      rw [HNO.out.1, HNO.out.2]
      exact ⟨_, rfl, MZ.nil _ _ _, hb.setCell (p := ⟨w.heap.size + 1 + 1 + 1 + 1, 0, none⟩) (show w.heap.size ≤ w.heap.size + 1 + 1 + 1 + 1 by omega) _⟩
    replace hfin := Lib.hid hfin
    clear S0 S1 S2 S3 S4 hb
    go_wp2
    exact bodyPost_ret (v := .tuple #[.agg #[.slice none 0 0], .bool false]) (by simp [results, Tryz.results26, go_sem, q0]) rfl hfin.out
  rw [hq] at HAR HY
  replace HAR := Lib.hid HAR
  replace HY := Lib.hid (HY.out rfl)
  replace HEA := Lib.hid (HEA ha)
  replace HEB := Lib.hid (HEB hbb)
  clear HN hq ha hbb
  have HNN := Lib.hid hnn
  have HZ := Lib.hid (fun W => iZeros A.length hA40 W)
  have HEQ := Lib.hid (show combL r A s B = fullL A.length (combE r A s B) from rfl)
  have HEE := Lib.hid (show ∀ i j : Nat, combE r A s B i j = FE.radd (FE.rmul r (rowAt (A.getD i zRow) j)) (FE.rmul s (rowAt (B.getD i zRow) j)) from fun i j => rfl)
  have HER := Lib.hid (combE_res r A s B)
  have hE : ∃ E, combE r A s B = E := ⟨_, rfl⟩
  obtain ⟨E, hE⟩ := hE
  rw [hE] at HEQ HEE HER
  clear hE hnn
  have HAL := Lib.hid (rfl : A.length = A.length)
  generalize hAn : A.length = n at *
  have HLA := Lib.hid hAn
  clear hAn HAL
  have S0 := Slots.new (below_step (below_step (below_step (below_step (Below.refl _ (((((w.alloc (.cells #[.bool r.neg, .slice A0 r.mag.length c0, .slice B0 r.den.length b0] 57)).alloc (.cells #[.slice A1 n c1] 52)).alloc (.cells #[.bool s.neg, .slice A2 s.mag.length c2, .slice B2 s.den.length b2] 57)).alloc (.cells #[.slice A3 n c3] 52)).alloc (.cells #[.slice none 0 0] 52))))))) (g := w.heap.size) rfl
  have S1 := Slots.new (below_step (below_step (below_step (Below.refl _ (((((w.alloc (.cells #[.bool r.neg, .slice A0 r.mag.length c0, .slice B0 r.den.length b0] 57)).alloc (.cells #[.slice A1 n c1] 52)).alloc (.cells #[.bool s.neg, .slice A2 s.mag.length c2, .slice B2 s.den.length b2] 57)).alloc (.cells #[.slice A3 n c3] 52)).alloc (.cells #[.slice none 0 0] 52)))))) (g := w.heap.size + 1) (by simp)
  have S2 := Slots.new (below_step (below_step (Below.refl _ (((((w.alloc (.cells #[.bool r.neg, .slice A0 r.mag.length c0, .slice B0 r.den.length b0] 57)).alloc (.cells #[.slice A1 n c1] 52)).alloc (.cells #[.bool s.neg, .slice A2 s.mag.length c2, .slice B2 s.den.length b2] 57)).alloc (.cells #[.slice A3 n c3] 52)).alloc (.cells #[.slice none 0 0] 52))))) (g := w.heap.size + 1 + 1) (by simp)
  have S3 := Slots.new (below_step (Below.refl _ (((((w.alloc (.cells #[.bool r.neg, .slice A0 r.mag.length c0, .slice B0 r.den.length b0] 57)).alloc (.cells #[.slice A1 n c1] 52)).alloc (.cells #[.bool s.neg, .slice A2 s.mag.length c2, .slice B2 s.den.length b2] 57)).alloc (.cells #[.slice A3 n c3] 52)).alloc (.cells #[.slice none 0 0] 52)))) (g := w.heap.size + 1 + 1 + 1) (by simp)
  have S4 := Slots.new (Below.refl _ (((((w.alloc (.cells #[.bool r.neg, .slice A0 r.mag.length c0, .slice B0 r.den.length b0] 57)).alloc (.cells #[.slice A1 n c1] 52)).alloc (.cells #[.bool s.neg, .slice A2 s.mag.length c2, .slice B2 s.den.length b2] 57)).alloc (.cells #[.slice A3 n c3] 52)).alloc (.cells #[.slice none 0 0] 52))) (g := w.heap.size + 1 + 1 + 1 + 1) (by simp)
  have hb := (((below_alloc3 w (.cells #[.bool r.neg, .slice A0 r.mag.length c0, .slice B0 r.den.length b0] 57) (.cells #[.slice A1 n c1] 52) (.cells #[.bool s.neg, .slice A2 s.mag.length c2, .slice B2 s.den.length b2] 57)).alloc (by simp; omega) (.cells #[.slice A3 n c3] 52)).alloc (by simp; omega) (.cells #[.slice none 0 0] 52))
  go_enter Tryz.func26, Tryz.ntmps26
  have m1 := S1.c1.1
  go_wp2_with fail
  generalize ((((w.alloc (.cells #[.bool r.neg, .slice A0 r.mag.length c0, .slice B0 r.den.length b0] 57)).alloc (.cells #[.slice A1 n c1] 52)).alloc (.cells #[.bool s.neg, .slice A2 s.mag.length c2, .slice B2 s.den.length b2] 57)).alloc (.cells #[.slice A3 n c3] 52)).alloc (.cells #[.slice none 0 0] 52) = w0 at *
  refine (HMA.out _ hb).mono ?_
  rintro e w1 ⟨rfl, hb1⟩
  replace S0 := S0.later hb1
  replace S1 := S1.later hb1
  replace S2 := S2.later hb1
  replace S3 := S3.later hb1
  replace S4 := S4.later hb1
  replace hb := below_trans hb hb1
  clear m1 hb1
  have m3 := S3.c1.1
  go_wp2_with fail
  refine (HMB.out _ hb).mono ?_
  rintro e w2 ⟨rfl, hb2⟩
  replace S0 := S0.later hb2
  replace S1 := S1.later hb2
  replace S2 := S2.later hb2
  replace S3 := S3.later hb2
  replace S4 := S4.later hb2
  replace hb := below_trans hb hb2
  clear m3 hb2
  have r0 := S0.c3.1
  have r1 := S0.c3.2.1
  have r2 := S0.c3.2.2.1
  have r3 := S2.c3.1
  have r4 := S2.c3.2.1
  have r5 := S2.c3.2.2.1
  have m1 := S1.c1.1
  have m3 := S3.c1.1
  have HVI := Lib.hid (two_rats (HR0.out.later hb) (HR2.out.later hb))
  have al := below_alloc1 w2 (.cells #[.bool r.neg, .slice A0 r.mag.length c0, .slice B0 r.den.length b0, .bool s.neg, .slice A2 s.mag.length c2, .slice B2 s.den.length b2] 57)
  replace S0 := S0.later al
  replace S1 := S1.later al
  replace S2 := S2.later al
  replace S3 := S3.later al
  replace S4 := S4.later al
  replace hb := below_trans hb al
  clear al
  go_wp2_with fail
  clear r0 r1 r2 r3 r4 r5 m1 m3
  generalize w2.alloc (.cells #[.bool r.neg, .slice A0 r.mag.length c0, .slice B0 r.den.length b0, .bool s.neg, .slice A2 s.mag.length c2, .slice B2 s.den.length b2] 57) = w3 at *
  refine (HAR.out _ _ HVI.out).mono ?_
  rintro e w4 ⟨rfl, hb4⟩
  replace S0 := S0.later hb4
  replace S1 := S1.later hb4
  replace S2 := S2.later hb4
  replace S3 := S3.later hb4
  replace S4 := S4.later hb4
  replace hb := below_trans hb hb4
  clear hb4 HVI
  have m1 := S1.c1.1
  go_wp2_with fail
  clear m1
  refine (HZ.out _).mono ?_
  rintro e w5 ⟨v5, vs, rfl, hls, hb5⟩
  obtain ⟨A5, c5, rfl, _⟩ := hls.form
  rw [List.length_replicate] at hls ⊢
  rw [rep_full] at hls
  have hlsz := S4.1
  replace S0 := S0.later hb5
  replace S1 := S1.later hb5
  replace S2 := S2.later hb5
  replace S3 := S3.later hb5
  replace S4 := S4.later hb5
  replace hb := below_trans hb hb5
  obtain ⟨lo, hlo⟩ : ∃ lo, w4.heap.size = lo := ⟨_, rfl⟩
  have hlo5 := hb5.size
  rw [hlo] at hls hlsz hlo5
  clear hlo hb5
  have hls0 : LS w5 lo w5.heap.size (.slice A5 n c5) vs (mixL n (fun _ _ => FE.rint 0) E 0 0) := by rw [mixL_zero]; exact hls
  clear hls
  go_wp2_with fail
  go_loopw [44] (fun z wr => ∃ i : Nat, i ≤ n ∧ z = .int .i64 i ∧ Below lo w5 wr ∧ LS wr lo wr.heap.size (.slice A5 n c5) vs (mixL n (fun _ _ => FE.rint 0) E i 0)) (fun z _ => n - (intOf z).toNat)
  case atStart => exact ⟨0, Nat.zero_le _, rfl, Below.refl _ _, hls0⟩
  case round =>
    clear hls0
    obtain ⟨i, hi, rfl, hbw, hls⟩ := hrel
    have hww := hb.trans (hbw.mono (by omega))
    by_cases hin : i = n
    · have hlf : ¬ (i < n) := by omega
      rw [hin, mixL_all] at hls
      have HSP := Lib.hid (fun A c W (hF : FI W A (fullL n E)) => iSparse (fullL n E) n c A W (fullL_len n E) hF (few_full hA40 (fun p q _ _ => HER.out p q)) (full_res (fun p q _ _ => HER.out p q)))
      have HF := Lib.hid hls.reads
      have S4w := S4.below hbw (show w.heap.size + 1 + 1 + 1 + 1 < lo by omega)
      have HYO : combM r A s B = spR (fullL n E) ∧ combOk r A s B = spOk (fullL n E) := by rw [← HEQ.out]; exact HY.out
      have HYY := Lib.hid HYO
      clear hls HYO HY
      generalize fullL n E = XL at *
      generalize spOk XL = OKB at *
      generalize spR XL = RX at *
      go_wp2_with fail
      refine (HSP.out _ _ _ HF.out).mono ?_
      intro e8 w8 hp
      obtain ⟨v8, rfl, hmz, hb8⟩ := hp
      obtain ⟨A8', c8', rfl⟩ := hmz.form
      obtain ⟨q0, z0⟩ := (S4w.later hb8).c1
      have hb9 := below_trans hww hb8
      have hfin : MPost w (combM r A s B) (.bool (combOk r A s B)) (.returned (.tuple #[.agg #[.slice A8' RX.length c8'], .bool OKB])) (w8.setCell ⟨w.heap.size + 1 + 1 + 1 + 1, 0, none⟩ (.slice A8' RX.length c8')) := by
        rw [HYY.out.1, HYY.out.2]
        have hbs := hbw.size
        exact ⟨_, rfl, (hmz.frame (frame1 (g := w.heap.size + 1 + 1 + 1 + 1) (o := 0) (.slice A8' RX.length c8')) (fun b h1 _ e => by omega)).wide (by omega) (by simp), hb9.setCell (p := ⟨w.heap.size + 1 + 1 + 1 + 1, 0, none⟩) (show w.heap.size ≤ w.heap.size + 1 + 1 + 1 + 1 by omega) _⟩
      replace hfin := Lib.hid hfin
      clear hmz hb8 hb9 S4w S0 S1 S2 S3 S4 hb
      go_wp2
      exact bodyPost_ret (v := .tuple #[.agg #[.slice A8' RX.length c8'], .bool OKB]) (by simp [results, Tryz.results26, go_sem, q0]) rfl hfin.out
    · have hltn : (i : Int) < (n : Int) := by omega
      have hls1 := hls
      clear hls
      go_wp2_with fail
      generalize wr = wq at *
      go_loopw [49] (fun z wp => ∃ j : Nat, j ≤ n ∧ z = .int .i64 j ∧ Below lo w5 wp ∧ LS wp lo wp.heap.size (.slice A5 n c5) vs (mixL n (fun _ _ => FE.rint 0) E i j)) (fun z _ => n - (intOf z).toNat)
      case atStart => exact ⟨0, Nat.zero_le _, rfl, hbw, hls1⟩
      case round =>
        clear hls1 hbw hww
        obtain ⟨j, hj, rfl, hbw, hls⟩ := hrel
        by_cases hjn : j = n
        · have hlf : ¬ (j < n) := by omega
          have hls2 := hls
          rw [hjn, mixL_row] at hls2
          clear hls
          go_wp2
          go_roundw
          case rel => exact ⟨i + 1, by omega, rfl, hbw, hls2⟩
          case measure => simp [intOf]; omega
        · have hjlt : (j : Int) < (n : Int) := by omega
          have hin : i < n := by omega
          have hwwb := hb.trans (hbw.mono (by omega))
          have hwwd : Below w.heap.size w wr.drew := ⟨hwwb.os, hwwb.tape, hwwb.output, hwwb.size, hwwb.block⟩
          have HNX := Lib.hid (mixL_next (Z := (fun _ _ => FE.rint 0)) (E := E) hin (show j < n by omega))
          have HGT := Lib.hid (mixL_get (Z := (fun _ _ => FE.rint 0)) (E := E) hin (show j < n by omega))
          have HML := Lib.hid (mixL_len n (fun _ _ => FE.rint 0) E i j)
          have HMR := Lib.hid (mixL_row_len (n := n) (Z := (fun _ _ => FE.rint 0)) (E := E) (i := i) (j := j) hin)
          have HEij := Lib.hid (HEE.out i j)
          generalize mixL n (fun _ _ => FE.rint 0) E i j = X at *
          obtain ⟨g, gi, ci, eA, hg1, hg2, row0, hvi, hgi1, hgi2, hggi, hfz, hvx⟩ := hls.pick i (by rw [HML.out]; omega) j (by rw [HMR.out]; omega)
          subst eA
          rw [HMR.out] at row0 hvi hvx
          obtain ⟨A6, c6, B6, d6, r6, v6⟩ := hvx.at j (by rw [HMR.out]; omega)
          rw [HGT.out] at r6 v6
          obtain ⟨a0, a1, a2, _, _, _⟩ := (S0.below hbw (show w.heap.size < lo by omega)).c3
          obtain ⟨e0, e1, e2, _, _, _⟩ := (S2.below hbw (show w.heap.size + 1 + 1 < lo by omega)).c3
          have m1 := (S1.below hbw (show w.heap.size + 1 < lo by omega)).c1.1
          have m3 := (S3.below hbw (show w.heap.size + 1 + 1 + 1 < lo by omega)).c1.1
          have hlob := Nat.le_trans hlo5 hbw.size
          have hwd : Below wr.heap.size wr wr.drew := ⟨rfl, rfl, rfl, Nat.le_refl _, fun _ _ => rfl⟩
          have hwdl : Below lo wr wr.drew := ⟨rfl, rfl, rfl, Nat.le_refl _, fun _ _ => rfl⟩
          have fA := rowAt_few (HFEWA.out i hin) (j : Int)
          have fB := rowAt_few (HFEWB.out i (by rw [← HNN.out]; exact hin)) (j : Int)
          obtain ⟨yA, hyA⟩ : ∃ y, rowAt (A.getD i zRow) (j : Nat) = y := ⟨_, rfl⟩
          obtain ⟨yB, hyB⟩ : ∃ y, rowAt (B.getD i zRow) (j : Nat) = y := ⟨_, rfl⟩
          have HEAi := fun W hW hi => HEA.out W hW i hi j
          have HEBi := fun W hW hi => HEB.out W hW i hi j
          rw [hyA] at HEij fA HEAi
          rw [hyB] at HEij fB HEBi
          replace HEAi := Lib.hid HEAi
          replace HEBi := Lib.hid HEBi
          have KM1 := Lib.hid (fun W (hW : Below w.heap.size w W) v (hv : RatV W v yA) => iRatMul r yA _ v W (HR0.out.later hW) hv HF0.out fA)
          have KM2 := Lib.hid (fun W (hW : Below w.heap.size w W) v (hv : RatV W v yB) => iRatMul s yB _ v W (HR2.out.later hW) hv HF2.out fB)
          have KD := fun u v W (hu : RatV W u (FE.rmul r yA)) (hv : RatV W v (FE.rmul s yB)) => iRatAdd (FE.rmul r yA) (FE.rmul s yB) u v W hu hv (res_few (FE.rmul_res _ _)) (res_few (FE.rmul_res _ _))
          rw [← HEij.out] at KD
          replace KD := Lib.hid KD
          obtain ⟨Y, hYY⟩ : ∃ Y, E i j = Y := ⟨_, rfl⟩
          rw [hYY] at KD HNX
          clear HEij hYY hyA hyB fA fB hvx v6 HGT
          go_wp2_with fail
          generalize wr = wb at *
          generalize FE.rmul r yA = MA at *
          generalize FE.rmul s yB = MB at *
          refine wp_region_held_drew (S := fun W => Below lo wb W ∧ World.cell? W ⟨g, i, none⟩ = some (.slice (some ⟨gi, 0, none⟩) n ci)) (by kernel_rfl) ⟨hwdl, row0⟩ (fun hHeld => ?_)
          refine qL (i := 0) (v := ?_) rfl (by kernel_rfl) (fun _ _ _ h => h) (by assumption) (by rfl) (fun W _ => ?_) ?_
          rotate_left
          · go_simp
            try with_reducible rfl
          try simp only [Act.put, List.setIfInBounds_toArray]
          refine qL (i := 1) (v := ?_) rfl (by kernel_rfl) (fun _ _ _ h => h) (by assumption) (by rfl) (fun W _ => ?_) ?_
          rotate_left
          · go_simp
            try with_reducible rfl
          try simp only [Act.put]
          refine qL (i := 2) (v := ?_) rfl (by kernel_rfl) (fun _ _ _ h => h) (by assumption) (by rfl) (fun W _ => ?_) ?_
          rotate_left
          · go_simp
            try with_reducible rfl
          try simp only [Act.put]
          refine qL (i := 3) (v := ?_) rfl (by kernel_rfl) (fun _ _ _ h => h) (by assumption) (by rfl) (fun W hSw => ?_) ?_
          rotate_left
          · have row := (And.right hSw)
            go_simp
            try with_reducible rfl
          try simp only [Act.put]
          refine qL (i := 4) (v := ?_) rfl (by kernel_rfl) (fun _ _ _ h => h) (by assumption) (by rfl) (fun W _ => ?_) ?_
          rotate_left
          · go_simp
            try with_reducible rfl
          try simp only [Act.put]
          refine qL (i := 5) (v := ?_) rfl (by kernel_rfl) (fun _ _ _ h => h) (by assumption) (by rfl) (fun W hSw => ?_) ?_
          rotate_left
          · have fr0 := (Below.cell (And.left hSw) (p := ⟨w.heap.size, 0, none⟩) (show w.heap.size < lo by omega)).trans a0
            have fr1 := (Below.cell (And.left hSw) (p := ⟨w.heap.size, 1, none⟩) (show w.heap.size < lo by omega)).trans a1
            have fr2 := (Below.cell (And.left hSw) (p := ⟨w.heap.size, 2, none⟩) (show w.heap.size < lo by omega)).trans a2
            go_simp
            try with_reducible rfl
          try simp only [Act.put]
          refine qL (i := 6) (v := ?_) rfl (by kernel_rfl) (fun _ _ _ h => h) (by assumption) (by rfl) (fun W hSw => ?_) ?_
          rotate_left
          · have fA := (Below.cell (And.left hSw) (p := ⟨w.heap.size + 1, 0, none⟩) (show w.heap.size + 1 < lo by omega)).trans m1
            go_simp
            try with_reducible rfl
          try simp only [Act.put]
          refine qL (i := 7) (v := ?_) rfl (by kernel_rfl) (fun _ _ _ h => h) (by assumption) (by rfl) (fun W _ => ?_) ?_
          rotate_left
          · go_simp
            try with_reducible rfl
          try simp only [Act.put]
          refine qL (i := 8) (v := ?_) rfl (by kernel_rfl) (fun _ _ _ h => h) (by assumption) (by rfl) (fun W _ => ?_) ?_
          rotate_left
          · go_simp
            try with_reducible rfl
          try simp only [Act.put]
          refine qL (i := 11) (v := ?_) rfl (by kernel_rfl) (fun _ _ _ h => h) (by assumption) (by rfl) (fun W hSw => ?_) ?_
          rotate_left
          · have fs0 := (Below.cell (And.left hSw) (p := ⟨w.heap.size + 1 + 1, 0, none⟩) (show w.heap.size + 1 + 1 < lo by omega)).trans e0
            have fs1 := (Below.cell (And.left hSw) (p := ⟨w.heap.size + 1 + 1, 1, none⟩) (show w.heap.size + 1 + 1 < lo by omega)).trans e1
            have fs2 := (Below.cell (And.left hSw) (p := ⟨w.heap.size + 1 + 1, 2, none⟩) (show w.heap.size + 1 + 1 < lo by omega)).trans e2
            go_simp
            try with_reducible rfl
          try simp only [Act.put]
          refine qL (i := 12) (v := ?_) rfl (by kernel_rfl) (fun _ _ _ h => h) (by assumption) (by rfl) (fun W hSw => ?_) ?_
          rotate_left
          · have fB := (Below.cell (And.left hSw) (p := ⟨w.heap.size + 1 + 1 + 1, 0, none⟩) (show w.heap.size + 1 + 1 + 1 < lo by omega)).trans m3
            go_simp
            try with_reducible rfl
          try simp only [Act.put]
          refine qL (i := 13) (v := ?_) rfl (by kernel_rfl) (fun _ _ _ h => h) (by assumption) (by rfl) (fun W _ => ?_) ?_
          rotate_left
          · go_simp
            try with_reducible rfl
          try simp only [Act.put]
          refine qL (i := 14) (v := ?_) rfl (by kernel_rfl) (fun _ _ _ h => h) (by assumption) (by rfl) (fun W _ => ?_) ?_
          rotate_left
          · go_simp
            try with_reducible rfl
          try simp only [Act.put]
          refine qR (i := 9) (by kernel_rfl) rfl (fun K hK => ?_)
          simp only [List.getElem_toArray, List.getElem_cons_succ, List.getElem_cons_zero]
          go_simp
          (go_at_call 91; (with_reducible refine (HEAi.out _ (by first | exact hwwd | exact hwwb) hin).mono ?_); rintro e11 w11 ⟨v11, rfl, hv11, hb11⟩)
          try (go_wp2_with fail)
          have hw11 : Below wb.heap.size wb w11 := ⟨hb11.os, hb11.tape, hb11.output, hb11.size, hb11.block⟩
          have hz11 := hw11.size
          have hB11 := hw11.mono hlob
          have row11 := cell_later hg2 row0 hw11
          refine hK.out _ _ ⟨hB11, row11⟩ (fun h2 => ?_)
          clear hK K hHeld
          have hHeld := h2
          clear h2
          try simp only [Act.put, List.setIfInBounds_toArray, List.set_cons_zero, List.set_cons_succ]
          refine qR (i := 10) (by kernel_rfl) rfl (fun K hK => ?_)
          simp only [List.getElem_toArray, List.getElem_cons_succ, List.getElem_cons_zero]
          go_simp
          (go_at_call 45; (with_reducible refine (KM1.out _ (below_trans hwwb hw11) _ hv11).mono ?_); rintro e12 w12 ⟨v12, rfl, hv12, hb12⟩)
          try (go_wp2_with fail)
          have hw12 := below_trans hw11 hb12
          have hz12 := hw12.size
          have hB12 := hw12.mono hlob
          have row12 := cell_later hg2 row0 hw12
          refine hK.out _ _ ⟨hB12, row12⟩ (fun h2 => ?_)
          clear hK K hHeld
          have hHeld := h2
          clear h2
          try simp only [Act.put, List.setIfInBounds_toArray, List.set_cons_zero, List.set_cons_succ]
          refine qR (i := 15) (by kernel_rfl) rfl (fun K hK => ?_)
          simp only [List.getElem_toArray, List.getElem_cons_succ, List.getElem_cons_zero]
          go_simp
          (go_at_call 91; (with_reducible refine (HEBi.out _ (below_trans hwwb hw12) hin).mono ?_); rintro e13 w13 ⟨v13, rfl, hv13, hb13⟩)
          try (go_wp2_with fail)
          have hw13 := below_trans hw12 hb13
          have hz13 := hw13.size
          have hB13 := hw13.mono hlob
          have row13 := cell_later hg2 row0 hw13
          refine hK.out _ _ ⟨hB13, row13⟩ (fun h2 => ?_)
          clear hK K hHeld
          have hHeld := h2
          clear h2
          try simp only [Act.put, List.setIfInBounds_toArray, List.set_cons_zero, List.set_cons_succ]
          refine qR (i := 16) (by kernel_rfl) rfl (fun K hK => ?_)
          simp only [List.getElem_toArray, List.getElem_cons_succ, List.getElem_cons_zero]
          go_simp
          (go_at_call 45; (with_reducible refine (KM2.out _ (below_trans hwwb hw13) _ hv13).mono ?_); rintro e14 w14 ⟨v14, rfl, hv14, hb14⟩)
          try (go_wp2_with fail)
          have hw14 := below_trans hw13 hb14
          have hz14 := hw14.size
          have hB14 := hw14.mono hlob
          have row14 := cell_later hg2 row0 hw14
          replace hb14 := below_trans hb13 hb14
          refine hK.out _ _ ⟨hB14, row14⟩ (fun h2 => ?_)
          clear hK K hHeld
          have hHeld := h2
          clear h2
          try simp only [Act.put, List.setIfInBounds_toArray, List.set_cons_zero, List.set_cons_succ]
          refine qR (i := 17) (by kernel_rfl) rfl (fun K hK => ?_)
          simp only [List.getElem_toArray, List.getElem_cons_succ, List.getElem_cons_zero]
          go_simp
          (go_at_call 46; (with_reducible refine (KD.out _ _ _ (hv12.later hb14).reads hv14.reads).mono ?_); rintro e15 w15 ⟨v15, rfl, hp15, hb15⟩)
          try (go_wp2_with fail)
          have hw15 := below_trans hw14 hb15
          have hz15 := hw15.size
          have hB15 := hw15.mono hlob
          have row15 := cell_later hg2 row0 hw15
          obtain ⟨A9, n9, c9, B9, m9, d9, rfl⟩ := hp15.shape
          refine hK.out _ _ ⟨hB15, row15⟩ (fun h2 => ?_)
          clear hK K hHeld
          have hHeld := h2
          clear h2
          try simp only [Act.put, List.setIfInBounds_toArray, List.set_cons_zero, List.set_cons_succ]
          refine qL (i := 18) (v := ?_) rfl (by kernel_rfl) (fun _ _ _ h => h) (by assumption) (by rfl) (fun W _ => ?_) ?_
          rotate_left
          · go_simp
            try with_reducible rfl
          try simp only [Act.put, List.setIfInBounds_toArray]
          refine qR (i := 19) (by kernel_rfl) rfl (fun K hK => ?_)
          simp only [List.getElem_toArray, List.getElem_cons_succ, List.getElem_cons_zero]
          have r69 := r6.later hw15
          have t0 := r69.1
          have t1 := r69.2.1
          have t2 := r69.2.2
          have z0 := (hw15.frozen (p := ⟨gi, j * 3, none⟩) hgi2).trans (hfz (j * 3))
          have z1 := (hw15.frozen (p := ⟨gi, j * 3 + 1, none⟩) hgi2).trans (hfz (j * 3 + 1))
          have z2 := (hw15.frozen (p := ⟨gi, j * 3 + 2, none⟩) hgi2).trans (hfz (j * 3 + 2))
          go_simp
          refine hK.out _ _ ⟨below_set3 hB15 hgi1 _ _ _, ((set3_frame w15 gi (j * 3) _ _ _).cell (by omega) (fun e => hggi e)).trans row15⟩ (fun h2 => ?_)
          clear hK K hHeld
          have hHeld := h2
          clear h2
          try simp only [Act.put, List.setIfInBounds_toArray, List.set_cons_zero, List.set_cons_succ]
          refine wpAnyH_done (by kernel_rfl) ?_ _
          clear hHeld
          have hl9 := (hls.later hw15).put (i := i) (j := j) (by rw [HML.out]; omega) (by rw [hvi]) (by rw [HMR.out]; omega) hp15 (by omega) (by omega) hz15
          rw [HNX.out] at hl9
          have hsz : (set3 w15 gi (j * 3) (.bool Y.neg) (.slice A9 n9 c9) (.slice B9 m9 d9)).heap.size = w15.heap.size := by simp [set3]
          have hl10 := hl9.wide (Nat.le_refl lo) (Nat.le_of_eq hsz.symm)
          have hbr := hbw.trans (below_set3 hB15 hgi1 (o := j * 3) (.bool Y.neg) (.slice A9 n9 c9) (.slice B9 m9 d9))
          clear t0 t1 t2 z0 z1 z2 r6 hp15 hls hl9 a0 a1 a2 e0 e1 e2 row0
          go_wp2
          go_roundw
          case rel => exact ⟨j + 1, by omega, rfl, hbr, hl10⟩
          case measure => simp [intOf]; omega
end Go.Proofs.YtlpomcihkjiokaaGreat

namespace Go.Proofs.YtlpomcihkjiokaaGreat
open Go.RowKit Go.Joins

/-- Of a matrix drawn: symmetric, small, its first i diagonal entries drawn. -/
structure DrI (E : Nat → Nat → Int) (i : Nat) : Prop where
  sym : ∀ p q, E p q = E q p
  off : ∀ p q, p ≠ q → -1 ≤ E p q ∧ E p q ≤ 1
  dia : ∀ p, p < i → 5 ≤ E p p ∧ E p p ≤ 7
  all : ∀ p q, -1 ≤ E p q ∧ E p q ≤ 7
def updE (E : Nat → Nat → Int) (i j : Nat) (y : Int) : Nat → Nat → Int := fun p q => if p = i ∧ q = j then y else E p q
theorem DrI.zero : DrI (fun _ _ => 0) 0 := ⟨fun _ _ => rfl, fun _ _ _ => by decide, fun p hp => by omega, fun _ _ => by decide⟩
theorem DrI.diag {E : Nat → Nat → Int} {i : Nat} (h : DrI E i) {y : Int} (h1 : 5 ≤ y) (h2 : y ≤ 7) : DrI (updE E i i y) (i + 1) := by
  refine ⟨fun p q => ?_, fun p q hpq => ?_, fun p hp => ?_, fun p q => ?_⟩
  · unfold updE
    by_cases e : p = i ∧ q = i
    · rw [if_pos e, if_pos ⟨e.2, e.1⟩]
    · rw [if_neg e, if_neg (fun e' => e ⟨e'.2, e'.1⟩)]; exact h.sym p q
  · unfold updE
    rw [if_neg (fun e => hpq (e.1.trans e.2.symm))]; exact h.off p q hpq
  · unfold updE
    by_cases e : p = i
    · rw [if_pos ⟨e, e⟩]; omega
    · rw [if_neg (fun e' => e e'.1)]; exact h.dia p (by omega)
  · unfold updE
    split
    · omega
    · exact h.all p q
theorem DrI.two {E : Nat → Nat → Int} {i j k : Nat} (h : DrI E k) {y : Int} (hij : i ≠ j) (h1 : -1 ≤ y) (h2 : y ≤ 1) : DrI (updE (updE E i j y) j i y) k := by
  refine ⟨fun p q => ?_, fun p q hpq => ?_, fun p hp => ?_, fun p q => ?_⟩
  · unfold updE
    by_cases e : p = j ∧ q = i
    · rw [if_pos e]
      by_cases e2 : q = j ∧ p = i
      · rw [if_pos e2]
      · rw [if_neg e2, if_pos ⟨e.2, e.1⟩]
    · rw [if_neg e]
      by_cases e2 : p = i ∧ q = j
      · rw [if_pos e2, if_pos ⟨e2.2, e2.1⟩]
      · rw [if_neg e2, if_neg (fun e' => e2 ⟨e'.2, e'.1⟩), if_neg (fun e' => e ⟨e'.2, e'.1⟩)]; exact h.sym p q
  · unfold updE
    split
    · omega
    · split
      · omega
      · exact h.off p q hpq
  · unfold updE
    rw [if_neg (fun e => hij (e.2.symm.trans e.1)), if_neg (fun e => hij (e.1.symm.trans e.2))]; exact h.dia p hp
  · unfold updE
    split
    · omega
    · split
      · omega
      · exact h.all p q
/-- The matrix of the ints E. -/
def intL (n : Nat) (E : Nat → Nat → Int) : List (List RatD) := fullL n fun i j => FE.rint (E i j)
theorem intL_len (n : Nat) (E : Nat → Nat → Int) : (intL n E).length = n := fullL_len _ _
theorem intL_row_len {n : Nat} {E : Nat → Nat → Int} {p : Nat} (hp : p < n) : ((intL n E).getD p []).length = n := fullL_row_len hp
theorem intL_get {n : Nat} {E : Nat → Nat → Int} {p q : Nat} (hp : p < n) (hq : q < n) : ((intL n E).getD p []).getD q zR = FE.rint (E p q) := fullL_get hp hq
theorem intL_set {n : Nat} {E : Nat → Nat → Int} {i j : Nat} (hi : i < n) (y : Int) : (intL n E).set i (((intL n E).getD i []).set j (FE.rint y)) = intL n (updE E i j y) := by
  refine eq_fullL (by simp [intL_len]) (fun p hp => ?_) (fun p q hp hq => ?_)
  · rw [getD_setG]
    split
    · rw [List.length_set]; exact intL_row_len hi
    · exact intL_row_len hp
  · rw [getD_setG, intL_len]
    unfold updE
    by_cases e : i = p
    · subst e
      rw [if_pos ⟨rfl, hp⟩, getD_setR, intL_row_len hi]
      by_cases e2 : j = q
      · subst e2
        rw [if_pos ⟨rfl, hq⟩, if_pos ⟨rfl, rfl⟩]
      · rw [if_neg (fun h => e2 h.1), if_neg (fun h => e2 h.2.symm), intL_get hi hq]
    · rw [if_neg (fun h => e h.1), if_neg (fun h => e h.1.symm), intL_get hp hq]
theorem rint_ok {y : Int} (h1 : -10 ≤ y) (h2 : y ≤ 1000) : FE.ratOk (FE.rint y) = true := by
  have e : FE.toL 1 = [1] := by rw [FE.toL_pos (by omega), show (1 / 1000000000 : Nat) = 0 from rfl, FE.toL_zero]; rfl
  refine FE.OkR.ok (p := y.natAbs) (q := 1) ⟨rfl, by rw [e]; rfl, fun h => ?_, by decide, ?_, by rw [e]; decide, Nat.gcd_one_right _⟩
  · simp only [FE.rint, decide_eq_true_eq] at h
    omega
  · have := toL_small3 (k := y.natAbs) (by omega)
    omega
theorem intL_ok {n : Nat} {E : Nat → Nat → Int} (h : ∀ p q, -1 ≤ E p q ∧ E p q ≤ 7) : spOk (intL n E) = true := by
  unfold spOk intL fullL
  simp only [List.all_eq_true, List.mem_map, List.mem_range]
  rintro x ⟨a, _, rfl⟩
  unfold vok
  simp only [List.all_eq_true, List.mem_map, List.mem_range]
  rintro y ⟨b, _, rfl⟩
  exact rint_ok (by have := (h a b).1; omega) (by have := (h a b).2; omega)
theorem rep_one (_n i : Nat) (x : List RatD) : List.replicate (i + 1) x = List.replicate i x ++ [x] := by rw [List.replicate_succ']
theorem LS.cf {w w' : World} {g lo hi : Nat} {v : Value} {vs : List Value} {rows : List (List RatD)} (h : LS w lo hi v vs rows) (hf : CF g w w') (hg : g < lo) : LS w' lo hi v vs rows := h.frame hf (fun b hb _ e => by omega)
theorem CF.up {g lo : Nat} {a b c : World} (h : CF g a b) (k : Frame (fun x => lo ≤ x) b c) (hl : a.heap.size ≤ lo) : CF g a c :=
  ⟨k.os.trans h.os, k.tape.trans h.tape, k.output.trans h.output, Nat.le_trans h.size k.size, fun i hi hs => (k.block i (Nat.lt_of_lt_of_le hi h.size) (by omega)).trans (h.block i hi hs)⟩

theorem draw_end {n : Nat} {E : Nat → Nat → Int} {gc m cc hi : Nat} {C : Option Addr} {w w' : World} {v : Value} {R : List RowD} (h1 : 1 ≤ n) (h2 : n ≤ 4) (hE : DrI E n) (hR : spM (intL n E) = R) (hm : MZ w' w.heap.size hi v R) (hh : hi = w'.heap.size) (hc : Cu w' gc C m cc) (hf : CF gc w w') :
    ∃ (n : Nat) (E : Nat → Nat → Int) (u : Value), 1 ≤ n ∧ n ≤ 4 ∧ DrI E n ∧ Ending.returned v = .returned u ∧ MZ w' w.heap.size w'.heap.size u (spM (intL n E)) ∧ Cu w' gc C m cc ∧ CF gc w w' := by
  subst hR hh
  exact ⟨n, E, v, h1, h2, hE, rfl, hm, hc, hf⟩

theorem mat_end {n : Nat} {E : Nat → Nat → Int} {hi : Nat} {w w' : World} {v : Value} {R : List RowD} (h1 : 1 ≤ n) (h2 : n ≤ 4) (hE : DrI E n) (hR : spM (intL n E) = R) (hm : MZ w' w.heap.size hi v R) (hh : hi = w'.heap.size) (hf : Below w.heap.size w w') :
    ∃ (n : Nat) (E : Nat → Nat → Int) (u : Value), 1 ≤ n ∧ n ≤ 4 ∧ DrI E n ∧ Ending.returned v = .returned u ∧ MZ w' w.heap.size w'.heap.size u (spM (intL n E)) ∧ Below w.heap.size w w' := by
  subst hR hh
  exact ⟨n, E, v, h1, h2, hE, rfl, hm, hf⟩

set_option maxRecDepth 100000 in
set_option maxHeartbeats 6400000 in
theorem sDraw14 (gc m cc : Nat) (C : Option Addr) (w : World) (h : Cu w gc C m cc) :
    Calls Tryz.prog 104 #[.pointer (some ⟨gc, 0, none⟩)] w fun e w' => ∃ (n : Nat) (E : Nat → Nat → Int) (v : Value), 1 ≤ n ∧ n ≤ 4 ∧ DrI E n ∧ e = .returned v ∧ MZ w' w.heap.size w'.heap.size v (spM (intL n E)) ∧ Cu w' gc C m cc ∧ CF gc w w' := by
  have HB4 := Lib.hid (fun W (hW : Cu W gc C m cc) => sBelow gc m cc C 4 (by decide) (by decide) W hW)
  have HB3 := Lib.hid (fun W (hW : Cu W gc C m cc) => sBelow gc m cc C 3 (by decide) (by decide) W hW)
  have HRI := Lib.hid (fun y (h1 : -10 ≤ y) (h2 : y ≤ 1000) W => sRatFromInt_small y h1 h2 W)
  have hg := h.lt
  have HM := Lib.hid h.mem
  have HC := Lib.hid h
  clear h
  go_enter Tryz.func104, Tryz.ntmps104
  go_wp2_with fail
  have al := below_alloc1 w (.cells #[.slice none 0 0] 52)
  have S0 := Slots.new (Below.refl _ (w.alloc (.cells #[.slice none 0 0] 52))) (g := w.heap.size) rfl
  refine (HB4.out _ (HC.out.later al)).mono ?_
  rintro e w1 ⟨x, ⟨hx0, hx1⟩, rfl, hc1, hf1⟩
  have hcf := (CF.later al).trans hf1
  replace S0 := Slots.frame S0 hf1 (by omega)
  have hz1 := S0.1
  obtain ⟨n, hn⟩ : ∃ n : Nat, 1 + x = (n : Int) := ⟨(1 + x).toNat, by omega⟩
  have hn1 : 1 ≤ n := by omega
  have hn4 : n ≤ 4 := by omega
  have HZ := Lib.hid (fun W => sZeros n (by omega) W)
  have hl0 := World.ownsRow_lit (base := w1.heap.size) (e := 28) (size := 1) w1 #[] 0 (by simp) (by unfold maxLen; omega) rfl
  have al := below_alloc1 w1 (.cells #[] 28)
  have hlw0 := LW.nil hl0
  replace S0 := S0.later al
  replace hcf := hcf.trans (CF.later al)
  have hc2 := hc1.later al
  have hB2 : w1.heap.size ≤ (w1.alloc (.cells #[] 28)).heap.size := by simp
  go_wp2_with fail
  generalize w1.alloc (.cells #[] 28) = w2 at *
  obtain ⟨lo, hlo⟩ : ∃ lo, w1.heap.size = lo := ⟨_, rfl⟩
  rw [hlo] at hlw0 hz1 hB2 ⊢
  clear hl0 al hf1 hc1 hx0 hx1 hn hlo HC HB4
  have HCF := Lib.hid hcf
  have HC2 := Lib.hid hc2
  clear hcf hc2
  go_loopw [4, 5] (fun o z wr => ∃ i : Nat, i ≤ n ∧ z = .int .i64 i ∧ Below lo w2 wr ∧ ∃ vs, LW wr lo wr.heap.size o vs (List.replicate i (List.replicate n (FE.rint 0)))) (fun _ z _ => n - (intOf z).toNat)
  case atStart => exact ⟨0, Nat.zero_le _, rfl, Below.refl _ _, [], hlw0⟩
  case round =>
    clear hlw0
    obtain ⟨i, hi, rfl, hb, vs, hlw⟩ := hrel
    obtain ⟨Ao, co, rfl, _⟩ := hlw.form
    have hll : (List.replicate i (List.replicate n (FE.rint 0))).length = i := by simp
    rw [hll]
    rw [hll] at hlw
    have HLW := Lib.hid hlw
    have HLL := Lib.hid hll
    have hzr := hb.size
    clear hlw hll
    by_cases hin : i = n
    · have hlf : ¬ (i < n) := by omega
      have hls0 : LS wr lo wr.heap.size (.slice Ao n co) vs (intL n fun _ _ => 0) := by
        have := HLW.out.ls
        rw [hin, rep_full] at this
        exact this
      have hcu := HC2.out.frame (S := fun x => lo ≤ x) ⟨hb.os, hb.tape, hb.output, hb.size, fun b _ hs => hb.block b (by omega)⟩ (by omega) (fun h0 a ha => by have := HM.out h0 a ha; omega)
      have hcf := HCF.out.up (lo := lo) ⟨hb.os, hb.tape, hb.output, hb.size, fun b _ hs => hb.block b (by omega)⟩ (by omega)
      have hs0 := S0.below hb (show w.heap.size < lo by omega)
      subst hin
      clear HLW S0 hb HCF HC2
      go_wp2_with fail
      generalize wr = w3 at *
      go_loopw [6] (fun z wr => ∃ (k : Nat) (E : Nat → Nat → Int), k ≤ i ∧ DrI E k ∧ z = .int .i64 k ∧ LS wr lo wr.heap.size (.slice Ao i co) vs (intL i E) ∧ Cu wr gc C m cc ∧ CF gc w wr ∧ Slots wr w.heap.size [.slice none 0 0] ∧ lo ≤ wr.heap.size) (fun z _ => i - (intOf z).toNat)
      case atStart => exact ⟨0, fun _ _ => 0, Nat.zero_le _, DrI.zero, rfl, hls0, hcu, hcf, hs0, by omega⟩
      case round =>
        clear hls0 hcu hcf hs0
        obtain ⟨k, E, hk, hE, rfl, hls, hcu, hcf, hs, hzr2⟩ := hrel
        have HE := Lib.hid hE
        have HCU := Lib.hid hcu
        have HCFr := Lib.hid hcf
        have HLS := Lib.hid hls
        clear hE hcu hcf hls
        by_cases hkn : k = i
        · have hlf : ¬ (k < i) := by omega
          subst hkn
          have hE := HE.out
          have hR : ∀ p q, FE.ratOk (FE.rint (E p q)) = true := fun p q => rint_ok (by have := (hE.all p q).1; omega) (by have := (hE.all p q).2; omega)
          have HSP := fun A c W (hF : FI W A (intL k E)) => sSparse (intL k E) k c A W (intL_len k E) hF (few_full (by omega) (fun p q _ _ => Or.inr (hR p q))) (full_res (fun p q _ _ => Or.inr (hR p q)))
          have hok := intL_ok (n := k) hE.all
          have hrx : spR (intL k E) = spM (intL k E) := by unfold spR; rw [hok]; rfl
          rw [hok, hrx] at HSP
          replace HSP := Lib.hid HSP
          have HFI := Lib.hid HLS.out.reads
          clear hok hrx hR hE HLS
          obtain ⟨RX, hRX⟩ : ∃ R, spM (intL k E) = R := ⟨_, rfl⟩
          rw [hRX] at HSP
          replace hRX := Lib.hid hRX
          obtain ⟨XL, hXL⟩ : ∃ X, intL k E = X := ⟨_, rfl⟩
          rw [hXL] at HSP HFI
          clear hXL
          go_wp2_with fail
          refine (HSP.out _ _ _ HFI.out).mono ?_
          intro e8 w8 hp
          obtain ⟨v8, rfl, hmz, hb8⟩ := hp
          obtain ⟨A8, c8, rfl⟩ := hmz.form
          have hs8 := hs.later hb8
          have hz8 := hb8.size
          obtain ⟨q0, z0⟩ := hs8.c1
          have al := below_alloc1 w8 (.cells #[.slice A8 RX.length c8] 52)
          obtain ⟨q1, z1⟩ := (hs8.later al).c1
          have hz9 : (w8.alloc (.cells #[.slice A8 RX.length c8] 52)).heap.size = w8.heap.size + 1 := by simp
          have hmz9 := ((hmz.later al).frame (frame1 (g := w.heap.size) (o := 0) (.slice A8 RX.length c8)) (fun b h1 _ e => by omega)).wide (lo' := w.heap.size) (hi' := w8.heap.size + 1) (by omega) (by omega)
          have hbA := below_trans hb8 al
          have hcu9 := (HCU.out.later hbA).far (k := w.heap.size) (o := 0) (by omega) (fun h0 a ha => by have := HM.out h0 a ha; omega) (.slice A8 RX.length c8)
          have hcf9 := (HCFr.out.trans (CF.later hbA)).fresh (p := ⟨w.heap.size, 0, none⟩) (Nat.le_refl _) (.slice A8 RX.length c8)
          have hfin := Lib.hid (And.intro hmz9 (And.intro hcu9 hcf9))
          clear hmz hmz9 hcu9 hcf9 hb8 hbA hs8 al hs
          go_wp2
          exact bodyPost_ret (v := .agg #[.slice A8 RX.length c8]) (by simp [results, Tryz.results104, go_sem, q1]) rfl (draw_end hn1 hn4 HE.out hRX.out hfin.out.1 (by simp) hfin.out.2.1 hfin.out.2.2)
        · have hlt : (k : Int) < (i : Int) := by omega
          have hlt2 : k < i := by omega
          obtain ⟨g, gi, ci, eA, hg1, hg2, row0, hvi, hgi1, hgi2, hggi, hfz, hvx⟩ := HLS.out.pick k (by rw [intL_len]; omega) k (by rw [intL_row_len hlt2]; omega)
          subst eA
          rw [intL_row_len hlt2] at row0 hvi hvx
          obtain ⟨A6, c6, B6, d6, r6, _⟩ := hvx.at k (by rw [intL_row_len hlt2]; omega)
          have R6 := Lib.hid r6
          clear hvx r6
          have hcud : Cu wr.drew gc C m cc := HCU.out.later ⟨rfl, rfl, rfl, Nat.le_refl _, fun _ _ => rfl⟩
          have HCD := Lib.hid hcud
          clear hcud
          go_wp2_with fail
          refine wp_region_held_drew (S := fun W => World.cell? W ⟨g, k, none⟩ = some (.slice (some ⟨gi, 0, none⟩) i ci)) (by kernel_rfl) row0 (fun hHeld => ?_)
          refine qL (i := 0) (v := ?_) rfl (by kernel_rfl) (fun _ _ _ h => h) (by assumption) (by rfl) (fun W _ => ?_) ?_
          rotate_left
          · go_simp
            try with_reducible rfl
          try simp only [Act.put, List.setIfInBounds_toArray]
          refine qL (i := 1) (v := ?_) rfl (by kernel_rfl) (fun _ _ _ h => h) (by assumption) (by rfl) (fun W _ => ?_) ?_
          rotate_left
          · go_simp
            try with_reducible rfl
          try simp only [Act.put]
          refine qL (i := 2) (v := ?_) rfl (by kernel_rfl) (fun _ _ _ h => h) (by assumption) (by rfl) (fun W _ => ?_) ?_
          rotate_left
          · go_simp
            try with_reducible rfl
          try simp only [Act.put]
          refine qL (i := 3) (v := ?_) rfl (by kernel_rfl) (fun _ _ _ h => h) (by assumption) (by rfl) (fun W hSw => ?_) ?_
          rotate_left
          · have row := hSw
            go_simp
            try with_reducible rfl
          try simp only [Act.put]
          refine qL (i := 4) (v := ?_) rfl (by kernel_rfl) (fun _ _ _ h => h) (by assumption) (by rfl) (fun W _ => ?_) ?_
          rotate_left
          · go_simp
            try with_reducible rfl
          try simp only [Act.put]
          refine qL (i := 5) (v := ?_) rfl (by kernel_rfl) (fun _ _ _ h => h) (by assumption) (by rfl) (fun W _ => ?_) ?_
          rotate_left
          · go_simp
            try with_reducible rfl
          try simp only [Act.put]
          refine qR (i := 6) (by kernel_rfl) rfl (fun K hK => ?_)
          simp only [List.getElem_toArray, List.getElem_cons_succ, List.getElem_cons_zero]
          go_simp
          (go_at_call 172; (with_reducible refine (HB3.out _ HCD.out).mono ?_); rintro e11 w11 ⟨x, ⟨hx0, hx1⟩, rfl, hc11, hf11⟩)
          try (go_wp2_with fail)
          replace hf11 : CF gc wr w11 := ⟨hf11.os, hf11.tape, hf11.output, hf11.size, hf11.block⟩
          have row11 := (hf11.cell hg2 (show g ≠ gc by omega)).trans row0
          have r11 := R6.out.frame hf11 (by omega) (by omega)
          have hz11 := fun o => (hf11.frozen (b := gi) (o := o) hgi2 (show gi ≠ gc by omega)).trans (hfz o)
          have hcf11 := HCFr.out.trans hf11
          have hs11 := hs.frame hf11 (show w.heap.size ≠ gc by omega)
          have hzz11 := hf11.size
          refine hK.out _ _ (row11) (fun h2 => ?_)
          clear hK K hHeld
          have hHeld := h2
          clear h2
          try simp only [Act.put, List.setIfInBounds_toArray, List.set_cons_zero, List.set_cons_succ]
          refine qL (i := 7) (v := ?_) rfl (by kernel_rfl) (fun _ _ _ h => h) (by assumption) (by rfl) (fun W _ => ?_) ?_
          rotate_left
          · go_simp
            try with_reducible rfl
          try simp only [Act.put, List.setIfInBounds_toArray]
          refine qR (i := 8) (by kernel_rfl) rfl (fun K hK => ?_)
          simp only [List.getElem_toArray, List.getElem_cons_succ, List.getElem_cons_zero]
          have hwr : IntKind.i64.wrap (5 + x) = 5 + x := by rw [IntKind.wrap_i64]; omega
          go_simp
          try simp only [hwr]
          (go_at_call 173; (with_reducible refine (HRI.out (5 + x) (by omega) (by omega) _).mono ?_); rintro e12 w12 ⟨v12, rfl, hp12, hb12⟩)
          try (go_wp2_with fail)
          have row12 := cell_later (by omega) row11 hb12
          obtain ⟨A9, n9, c9, B9, m9, d9, rfl⟩ := hp12.shape
          have hc12 := hc11.later hb12
          have hcf12 := hcf11.trans (CF.later hb12)
          have hs12 := hs11.later hb12
          have hz12 := hb12.size
          refine hK.out _ _ (row12) (fun h2 => ?_)
          clear hK K hHeld
          have hHeld := h2
          clear h2
          try simp only [Act.put, List.setIfInBounds_toArray, List.set_cons_zero, List.set_cons_succ]
          refine qL (i := 9) (v := ?_) rfl (by kernel_rfl) (fun _ _ _ h => h) (by assumption) (by rfl) (fun W _ => ?_) ?_
          rotate_left
          · go_simp
            try with_reducible rfl
          try simp only [Act.put, List.setIfInBounds_toArray]
          refine qR (i := 10) (by kernel_rfl) rfl (fun K hK => ?_)
          simp only [List.getElem_toArray, List.getElem_cons_succ, List.getElem_cons_zero]
          have r69 := (r11.later hb12)
          have t0 := r69.1
          have t1 := r69.2.1
          have t2 := r69.2.2
          have z0 := (hb12.frozen (p := ⟨gi, k * 3, none⟩) (show gi < w11.heap.size by omega)).trans (hz11 (k * 3))
          have z1 := (hb12.frozen (p := ⟨gi, k * 3 + 1, none⟩) (show gi < w11.heap.size by omega)).trans (hz11 (k * 3 + 1))
          have z2 := (hb12.frozen (p := ⟨gi, k * 3 + 2, none⟩) (show gi < w11.heap.size by omega)).trans (hz11 (k * 3 + 2))
          clear r69
          go_simp
          refine hK.out _ _ (((set3_frame w12 gi (k * 3) _ _ _).cell (by omega) (fun e => hggi e)).trans row12) (fun h2 => ?_)
          clear hK K hHeld
          have hHeld := h2
          clear h2
          try simp only [Act.put, List.setIfInBounds_toArray, List.set_cons_zero, List.set_cons_succ]
          refine wpAnyH_done (by kernel_rfl) ?_ _
          clear hHeld
          have hls1 := (((HLS.out.cf hf11 (by omega)).later hb12).put (i := k) (j := k) (by rw [intL_len]; omega) (by rw [hvi]) (by rw [intL_row_len hlt2]; omega) hp12 (by omega) (by omega) (by omega))
          rw [intL_set hlt2] at hls1
          have hdr := HE.out.diag (i := k) (y := 5 + x) (by omega) (by omega)
          have hsz : (set3 w12 gi (k * 3) (.bool (FE.rint (5 + x)).neg) (.slice A9 n9 c9) (.slice B9 m9 d9)).heap.size = w12.heap.size := by simp [set3]
          have hfs := set3_frame w12 gi (k * 3) (.bool (FE.rint (5 + x)).neg) (.slice A9 n9 c9) (.slice B9 m9 d9)
          have hcu3 := hc12.frame hfs (by omega) (fun h0 a ha => by have := HM.out h0 a ha; omega)
          have hcf3 := hcf12.up (lo := lo) (hfs.mono (fun b hb => by omega)) (by omega)
          have hs3 := hs12.frame hfs (by omega)
          have hls2 := hls1.wide (Nat.le_refl lo) (Nat.le_of_eq hsz.symm)
          have hzf : lo ≤ (set3 w12 gi (k * 3) (.bool (FE.rint (5 + x)).neg) (.slice A9 n9 c9) (.slice B9 m9 d9)).heap.size := by rw [hsz]; omega
          have HY := Lib.hid (And.intro hls2 (And.intro hcu3 (And.intro hcf3 (And.intro hs3 hzf))))
          have HDR := Lib.hid hdr
          clear hls1 hls2 hcu3 hcf3 hs3 hzf hsz hfs t0 t1 t2 z0 z1 z2 hp12 hb12 hf11 hc11 hc12 hcf12 hs12 hdr R6 row0 HLS HCU HCFr hs row11 row12 hz11 r11 HE HCD hvi hfz
          go_wp2_with fail
          generalize wr = wb at *
          clear hx0 hx1 hwr
          go_loopw [7] (fun z wr => ∃ (j : Nat) (E : Nat → Nat → Int), j ≤ k ∧ DrI E (k + 1) ∧ z = .int .i64 j ∧ LS wr lo wr.heap.size (.slice (some ⟨g, 0, none⟩) i co) vs (intL i E) ∧ Cu wr gc C m cc ∧ CF gc w wr ∧ Slots wr w.heap.size [.slice none 0 0] ∧ lo ≤ wr.heap.size) (fun z _ => k - (intOf z).toNat)
          case atStart => exact ⟨0, _, Nat.zero_le _, HDR.out, rfl, HY.out.1, HY.out.2.1, HY.out.2.2.1, HY.out.2.2.2.1, HY.out.2.2.2.2⟩
          case round =>
            clear HY HDR
            obtain ⟨j, E2, hj, hE, rfl, hls, hcu, hcf, hs, hzr2⟩ := hrel
            have HE := Lib.hid hE
            have HCU := Lib.hid hcu
            have HCFr := Lib.hid hcf
            have HLS := Lib.hid hls
            clear hE hcu hcf hls
            by_cases hjk : j = k
            · have hlf : ¬ (j < k) := by omega
              go_wp2
              go_roundw
              case rel => exact ⟨k + 1, E2, by omega, HE.out, rfl, HLS.out, HCU.out, HCFr.out, hs, hzr2⟩
              case measure => simp [intOf]; omega
            · have hlj : (j : Int) < (k : Int) := by omega
              go_wp2_with fail
              refine (HB3.out _ HCU.out).mono ?_
              rintro e11 w11 ⟨x, ⟨hx0, hx1⟩, rfl, hc11, hf11⟩
              have hls11 := HLS.out.cf hf11 (by omega)
              have hcf11 := HCFr.out.trans hf11
              have hs11 := hs.frame hf11 (show w.heap.size ≠ gc by omega)
              have hz11 := hf11.size
              have HX1 := Lib.hid (And.intro hc11 (And.intro hls11 (And.intro hcf11 hs11)))
              clear hc11 hls11 hcf11 hs11 hf11 hs HLS HCU HCFr
              have hki : k < i := by omega
              have hji : j < i := by omega
              obtain ⟨g2, gi, ci, eA, hg1, hg2, row0, hvi, hgi1, hgi2, hggi, hfz, hvx⟩ := HX1.out.2.1.pick k (by rw [intL_len]; omega) j (by rw [intL_row_len hki]; omega)
              injection eA with eA
              injection eA with eA
              subst eA
              rw [intL_row_len hki] at row0 hvi hvx
              obtain ⟨A6, c6, B6, d6, r6, _⟩ := hvx.at j (by rw [intL_row_len hki]; omega)
              clear hvx
              obtain ⟨_, gj, cj, -, -, -, -, hvj, hgj1, hgj2, -, -, -⟩ := HX1.out.2.1.pick j (by rw [intL_len]; omega) k (by rw [intL_row_len hji]; omega)
              rw [intL_row_len hji] at hvj
              have HVJ := Lib.hid hvj
              have HVI := Lib.hid hvi
              clear hvj hvi
              have hwr : IntKind.i64.wrap (x - 1) = x - 1 := by rw [IntKind.wrap_i64]; omega
              go_wp2_with fail
              refine (HRI.out (x - 1) (by omega) (by omega) _).mono ?_
              rintro e12 w12 ⟨v12, rfl, hp12, hb12⟩
              obtain ⟨A9, n9, c9, B9, m9, d9, rfl⟩ := hp12.shape
              obtain ⟨y, hy⟩ : ∃ y, x - 1 = y := ⟨_, rfl⟩
              have hy1 : -1 ≤ y ∧ y ≤ 1 := by omega
              rw [hy] at hp12 ⊢
              clear hwr hy hx0 hx1
              have hz12 := hb12.size
              have HX2 := Lib.hid (And.intro (HX1.out.1.later hb12) (And.intro (HX1.out.2.1.later hb12) (And.intro (HX1.out.2.2.1.trans (CF.later hb12)) (HX1.out.2.2.2.later hb12))))
              have al := below_alloc1 w12 (.cells #[.bool (FE.rint y).neg, .slice A9 n9 c9, .slice B9 m9 d9] 57)
              have S8 := Slots.new (Below.refl _ (w12.alloc (.cells #[.bool (FE.rint y).neg, .slice A9 n9 c9, .slice B9 m9 d9] 57))) (g := w12.heap.size) rfl
              have HX3 := Lib.hid (And.intro (HX2.out.1.later al) (And.intro (HX2.out.2.1.later al) (And.intro (HX2.out.2.2.1.trans (CF.later al)) (HX2.out.2.2.2.later al))))
              have HP3 := Lib.hid (hp12.later al)
              have hz13 : (w12.alloc (.cells #[.bool (FE.rint y).neg, .slice A9 n9 c9, .slice B9 m9 d9] 57)).heap.size = w12.heap.size + 1 := by simp
              have hb13 := below_trans hb12 al
              replace row0 := cell_later hg2 row0 hb13
              replace r6 := r6.later hb13
              replace hfz := fun o => (hb13.frozen (p := ⟨gi, o, none⟩) hgi2).trans (hfz o)
              clear HX1 HX2 hb12 hp12 al hb13
              go_wp2_with fail
              generalize w12.alloc (.cells #[.bool (FE.rint y).neg, .slice A9 n9 c9, .slice B9 m9 d9] 57) = w13 at *
              obtain ⟨s0, s1, s2, _⟩ := S8.c3
              refine wp_region_held_drew (S := fun W => World.cell? W ⟨g, k, none⟩ = some (.slice (some ⟨gi, 0, none⟩) i ci) ∧ World.cell? W ⟨w12.heap.size, 0, none⟩ = some (.bool (FE.rint y).neg) ∧ World.cell? W ⟨w12.heap.size, 1, none⟩ = some (.slice A9 n9 c9) ∧ World.cell? W ⟨w12.heap.size, 2, none⟩ = some (.slice B9 m9 d9)) (by kernel_rfl) ⟨row0, s0, s1, s2⟩ (fun hHeld => ?_)
              refine qL (i := 0) (v := ?_) rfl (by kernel_rfl) (fun _ _ _ h => h) (by assumption) (by rfl) (fun W _ => ?_) ?_
              rotate_left
              · go_simp
                try with_reducible rfl
              try simp only [Act.put, List.setIfInBounds_toArray]
              refine qL (i := 1) (v := ?_) rfl (by kernel_rfl) (fun _ _ _ h => h) (by assumption) (by rfl) (fun W _ => ?_) ?_
              rotate_left
              · go_simp
                try with_reducible rfl
              try simp only [Act.put]
              refine qL (i := 2) (v := ?_) rfl (by kernel_rfl) (fun _ _ _ h => h) (by assumption) (by rfl) (fun W _ => ?_) ?_
              rotate_left
              · go_simp
                try with_reducible rfl
              try simp only [Act.put]
              refine qL (i := 3) (v := ?_) rfl (by kernel_rfl) (fun _ _ _ h => h) (by assumption) (by rfl) (fun W hSw => ?_) ?_
              rotate_left
              · have row := And.left hSw
                go_simp
                try with_reducible rfl
              try simp only [Act.put]
              refine qL (i := 4) (v := ?_) rfl (by kernel_rfl) (fun _ _ _ h => h) (by assumption) (by rfl) (fun W _ => ?_) ?_
              rotate_left
              · go_simp
                try with_reducible rfl
              try simp only [Act.put]
              refine qL (i := 5) (v := ?_) rfl (by kernel_rfl) (fun _ _ _ h => h) (by assumption) (by rfl) (fun W hSw => ?_) ?_
              rotate_left
              · have v0 := And.left (And.right hSw)
                have v1 := And.left (And.right (And.right hSw))
                have v2 := (And.right (And.right (And.right hSw)))
                go_simp
                try with_reducible rfl
              try simp only [Act.put]
              refine qL (i := 6) (v := ?_) rfl (by kernel_rfl) (fun _ _ _ h => h) (by assumption) (by rfl) (fun W _ => ?_) ?_
              rotate_left
              · go_simp
                try with_reducible rfl
              try simp only [Act.put]
              refine qR (i := 7) (by kernel_rfl) rfl (fun K hK => ?_)
              simp only [List.getElem_toArray, List.getElem_cons_succ, List.getElem_cons_zero]
              have t0 := r6.1
              have t1 := r6.2.1
              have t2 := r6.2.2
              have z0 := hfz (j * 3)
              have z1 := hfz (j * 3 + 1)
              have z2 := hfz (j * 3 + 2)
              go_simp
              refine hK.out _ _ ⟨((set3_frame w13 gi (j * 3) _ _ _).cell (by omega) (fun e => hggi e)).trans row0, ((set3_frame w13 gi (j * 3) _ _ _).cell (by omega) (fun e => by omega)).trans s0, ((set3_frame w13 gi (j * 3) _ _ _).cell (by omega) (fun e => by omega)).trans s1, ((set3_frame w13 gi (j * 3) _ _ _).cell (by omega) (fun e => by omega)).trans s2⟩ (fun h2 => ?_)
              clear hK K hHeld
              have hHeld := h2
              clear h2
              try simp only [Act.put, List.setIfInBounds_toArray, List.set_cons_zero, List.set_cons_succ]
              refine wpAnyH_done (by kernel_rfl) ?_ _
              clear hHeld
              have hsz : ((set3 w13 gi (j * 3) (.bool (FE.rint y).neg) (.slice A9 n9 c9) (.slice B9 m9 d9)).drew).heap.size = w13.heap.size := by simp [set3]
              have hfs : Frame (fun b => b = gi) w13 ((set3 w13 gi (j * 3) (.bool (FE.rint y).neg) (.slice A9 n9 c9) (.slice B9 m9 d9)).drew) := (set3_frame w13 gi (j * 3) (.bool (FE.rint y).neg) (.slice A9 n9 c9) (.slice B9 m9 d9)).drew
              have hls1 := HX3.out.2.1.put (i := k) (j := j) (by rw [intL_len]; omega) (by rw [HVI.out]) (by rw [intL_row_len hki]; omega) HP3.out (by omega) (by omega) (by omega)
              rw [intL_set hki] at hls1
              have hls2 : LS ((set3 w13 gi (j * 3) (.bool (FE.rint y).neg) (.slice A9 n9 c9) (.slice B9 m9 d9)).drew) lo w13.heap.size (.slice (some ⟨g, 0, none⟩) i co) vs (intL i (updE E2 k j y)) := hls1.later ⟨rfl, rfl, rfl, Nat.le_refl _, fun _ _ => rfl⟩
              have HY2 := Lib.hid (And.intro (HX3.out.1.frame hfs (by omega) (fun h0 a ha => by have := HM.out h0 a ha; omega)) (And.intro (HX3.out.2.2.1.up (lo := lo) (hfs.mono (fun b hb => by omega)) (by omega)) (And.intro (HX3.out.2.2.2.frame hfs (by omega)) (S8.frame hfs (by omega)))))
              have HLS2 := Lib.hid hls2
              have hrv : RatV ((set3 w13 gi (j * 3) (.bool (FE.rint y).neg) (.slice A9 n9 c9) (.slice B9 m9 d9)).drew) (.agg #[.bool (FE.rint y).neg, .slice A9 n9 c9, .slice B9 m9 d9]) (FE.rint y) := (((HP3.out.far (p := ⟨gi, j * 3, none⟩) hgi2 _).far (p := ⟨gi, j * 3 + 1, none⟩) hgi2 _).far (p := ⟨gi, j * 3 + 2, none⟩) hgi2 _).reads.later (w' := (set3 w13 gi (j * 3) (.bool (FE.rint y).neg) (.slice A9 n9 c9) (.slice B9 m9 d9)).drew) ⟨rfl, rfl, rfl, Nat.le_refl _, fun _ _ => rfl⟩
              have HRV := Lib.hid hrv
              clear hls1 hls2 hfs hrv t0 t1 t2 z0 z1 z2 r6 row0 s0 s1 s2 S8 HX3 HP3
              go_wp2_with fail
              rw [show (((w13.setCell ⟨gi, j * 3, none⟩ (.bool (FE.rint y).neg)).setCell ⟨gi, j * 3 + 1, none⟩ (.slice A9 n9 c9)).setCell ⟨gi, j * 3 + 2, none⟩ (.slice B9 m9 d9)).drew = (set3 w13 gi (j * 3) (.bool (FE.rint y).neg) (.slice A9 n9 c9) (.slice B9 m9 d9)).drew from rfl]
              generalize (set3 w13 gi (j * 3) (.bool (FE.rint y).neg) (.slice A9 n9 c9) (.slice B9 m9 d9)).drew = w14 at *
              obtain ⟨g3, gi2, ci2, eA, _, hg4, row0, hvi2, hgi3, hgi4, hggi2, hfz2, hvx⟩ := HLS2.out.pick j (by rw [intL_len]; omega) k (by rw [intL_row_len hji]; omega)
              injection eA with eA
              injection eA with eA
              subst eA
              rw [intL_row_len hji] at row0 hvi2 hvx
              rw [HVJ.out] at hvi2
              injection hvi2 with hvi2 _ _
              injection hvi2 with hvi2
              injection hvi2 with hvi2
              subst hvi2
              obtain ⟨A6, c6, B6, d6, r6, _⟩ := hvx.at k (by rw [intL_row_len hji]; omega)
              obtain ⟨s0, s1, s2, _⟩ := HY2.out.2.2.2.c3
              have HRV2 := Lib.hid (HRV.out.later (w' := w14.drew) ⟨rfl, rfl, rfl, Nat.le_refl _, fun _ _ => rfl⟩)
              have hrl := rint_ok (y := y) (by omega) (by omega)
              have HSC := Lib.hid (fun v W (hv : RatV W v (FE.rint y)) => sCopy (FE.rint y) v W hv (res_few (Or.inr hrl)).1 (res_few (Or.inr hrl)).2)
              clear hvx hrl
              refine wp_region_held_drew (S := fun W => World.cell? W ⟨g, j, none⟩ = some (.slice (some ⟨gj, 0, none⟩) i ci2) ∧ World.cell? W ⟨w12.heap.size, 0, none⟩ = some (.bool (FE.rint y).neg) ∧ World.cell? W ⟨w12.heap.size, 1, none⟩ = some (.slice A9 n9 c9) ∧ World.cell? W ⟨w12.heap.size, 2, none⟩ = some (.slice B9 m9 d9)) (by kernel_rfl) ⟨row0, s0, s1, s2⟩ (fun hHeld => ?_)
              refine qL (i := 0) (v := ?_) rfl (by kernel_rfl) (fun _ _ _ h => h) (by assumption) (by rfl) (fun W _ => ?_) ?_
              rotate_left
              · go_simp
                try with_reducible rfl
              try simp only [Act.put, List.setIfInBounds_toArray]
              refine qL (i := 1) (v := ?_) rfl (by kernel_rfl) (fun _ _ _ h => h) (by assumption) (by rfl) (fun W _ => ?_) ?_
              rotate_left
              · go_simp
                try with_reducible rfl
              try simp only [Act.put]
              refine qL (i := 2) (v := ?_) rfl (by kernel_rfl) (fun _ _ _ h => h) (by assumption) (by rfl) (fun W _ => ?_) ?_
              rotate_left
              · go_simp
                try with_reducible rfl
              try simp only [Act.put]
              refine qL (i := 3) (v := ?_) rfl (by kernel_rfl) (fun _ _ _ h => h) (by assumption) (by rfl) (fun W hSw => ?_) ?_
              rotate_left
              · have row := And.left hSw
                go_simp
                try with_reducible rfl
              try simp only [Act.put]
              refine qL (i := 4) (v := ?_) rfl (by kernel_rfl) (fun _ _ _ h => h) (by assumption) (by rfl) (fun W _ => ?_) ?_
              rotate_left
              · go_simp
                try with_reducible rfl
              try simp only [Act.put]
              refine qL (i := 5) (v := ?_) rfl (by kernel_rfl) (fun _ _ _ h => h) (by assumption) (by rfl) (fun W hSw => ?_) ?_
              rotate_left
              · have v0 := And.left (And.right hSw)
                have v1 := And.left (And.right (And.right hSw))
                have v2 := (And.right (And.right (And.right hSw)))
                go_simp
                try with_reducible rfl
              try simp only [Act.put]
              refine qR (i := 6) (by kernel_rfl) rfl (fun K hK => ?_)
              simp only [List.getElem_toArray, List.getElem_cons_succ, List.getElem_cons_zero]
              go_simp
              (go_at_call 154; (with_reducible refine (HSC.out _ _ HRV2.out).mono ?_); rintro e15 w15 ⟨v15, rfl, hp15, hb15⟩)
              try (go_wp2_with fail)
              replace hb15 : Below w14.heap.size w14 w15 := ⟨hb15.os, hb15.tape, hb15.output, hb15.size, hb15.block⟩
              replace hp15 : RatP w15 w14.heap.size _ _ := hp15
              have row15 := cell_later hg4 row0 hb15
              have s015 := cell_later (by omega) s0 hb15
              have s115 := cell_later (by omega) s1 hb15
              have s215 := cell_later (by omega) s2 hb15
              obtain ⟨A10, n10, c10, B10, m10, d10, rfl⟩ := hp15.shape
              have hz15 := hb15.size
              refine hK.out _ _ ⟨row15, s015, s115, s215⟩ (fun h2 => ?_)
              clear hK K hHeld
              have hHeld := h2
              clear h2
              try simp only [Act.put, List.setIfInBounds_toArray, List.set_cons_zero, List.set_cons_succ]
              refine qL (i := 7) (v := ?_) rfl (by kernel_rfl) (fun _ _ _ h => h) (by assumption) (by rfl) (fun W _ => ?_) ?_
              rotate_left
              · go_simp
                try with_reducible rfl
              try simp only [Act.put, List.setIfInBounds_toArray]
              refine qR (i := 8) (by kernel_rfl) rfl (fun K hK => ?_)
              simp only [List.getElem_toArray, List.getElem_cons_succ, List.getElem_cons_zero]
              have r69 := r6.later hb15
              have t0 := r69.1
              have t1 := r69.2.1
              have t2 := r69.2.2
              have z0 := (hb15.frozen (p := ⟨gj, k * 3, none⟩) hgi4).trans (hfz2 (k * 3))
              have z1 := (hb15.frozen (p := ⟨gj, k * 3 + 1, none⟩) hgi4).trans (hfz2 (k * 3 + 1))
              have z2 := (hb15.frozen (p := ⟨gj, k * 3 + 2, none⟩) hgi4).trans (hfz2 (k * 3 + 2))
              clear r69
              go_simp
              refine hK.out _ _ ⟨((set3_frame w15 gj (k * 3) _ _ _).cell (by omega) (fun e => hggi2 e)).trans row15, ((set3_frame w15 gj (k * 3) _ _ _).cell (by omega) (fun e => by omega)).trans s015, ((set3_frame w15 gj (k * 3) _ _ _).cell (by omega) (fun e => by omega)).trans s115, ((set3_frame w15 gj (k * 3) _ _ _).cell (by omega) (fun e => by omega)).trans s215⟩ (fun h2 => ?_)
              clear hK K hHeld
              have hHeld := h2
              clear h2
              try simp only [Act.put, List.setIfInBounds_toArray, List.set_cons_zero, List.set_cons_succ]
              refine wpAnyH_done (by kernel_rfl) ?_ _
              clear hHeld
              have hsz : (set3 w15 gj (k * 3) (.bool (FE.rint y).neg) (.slice A10 n10 c10) (.slice B10 m10 d10)).heap.size = w15.heap.size := by simp [set3]
              have hfs := set3_frame w15 gj (k * 3) (.bool (FE.rint y).neg) (.slice A10 n10 c10) (.slice B10 m10 d10)
              have hls1 := (HLS2.out.later hb15).put (i := j) (j := k) (by rw [intL_len]; omega) (by rw [HVJ.out]) (by rw [intL_row_len hji]; omega) hp15 (by omega) (by omega) (by omega)
              rw [intL_set hji] at hls1
              have hls2 := hls1.wide (Nat.le_refl lo) (Nat.le_of_eq hsz.symm)
              have hdr := HE.out.two (i := k) (j := j) (y := y) (by omega) hy1.1 hy1.2
              have hcu3 := (HY2.out.1.later hb15).frame hfs (by omega) (fun h0 a ha => by have := HM.out h0 a ha; omega)
              have hcf3 := (HY2.out.2.1.trans (CF.later hb15)).up (lo := lo) (hfs.mono (fun b hb => by omega)) (by omega)
              have hs3 := (HY2.out.2.2.1.later hb15).frame hfs (by omega)
              have hzf : lo ≤ (set3 w15 gj (k * 3) (.bool (FE.rint y).neg) (.slice A10 n10 c10) (.slice B10 m10 d10)).heap.size := by rw [hsz]; omega
              have HY := Lib.hid (And.intro hls2 (And.intro hcu3 (And.intro hcf3 (And.intro hs3 hzf))))
              have HDR := Lib.hid hdr
              clear hls1 hls2 hcu3 hcf3 hs3 hzf hsz hfs t0 t1 t2 z0 z1 z2 hp15 hb15 hdr r6 row0 s0 s1 s2 row15 s015 s115 s215 HRV HRV2 HY2 HLS2
              go_wp2
              go_roundw
              case rel => exact ⟨j + 1, _, by omega, HDR.out, rfl, HY.out.1, HY.out.2.1, HY.out.2.2.1, HY.out.2.2.2.1, HY.out.2.2.2.2⟩
              case measure => simp [intOf]; omega
    · have hltn : (i : Int) < (n : Int) := by omega
      go_wp2_with fail
      refine (HZ.out _).mono ?_
      rintro e w5 ⟨v5, ps5, rfl, hv5, hb5⟩
      obtain ⟨A5, c5, rfl, _⟩ := hv5.form
      rw [List.length_replicate]
      rw [List.length_replicate] at hv5
      have HX5 := Lib.hid (show VX w5 wr.heap.size w5.heap.size (.slice A5 n c5) (List.replicate n (FE.rint 0)) from ⟨ps5, hv5⟩)
      have hz5 := hb5.size
      have al7 := below_alloc1 w5 (.cells #[.slice A5 n c5] 28)
      have hz7 : (w5.alloc (.cells #[.slice A5 n c5] 28)).heap.size = w5.heap.size + 1 := by simp
      have HL7 := (HLW.out.later hb5).later al7
      have HX7 := Lib.hid (HX5.out.later al7)
      have HO7 := Lib.hid (show (w5.alloc (.cells #[.slice A5 n c5] 28)).ownsRow lo 28 1 (.slice Ao i co) i vs from by have := HL7.2.2.1; rwa [HLL.out] at this)
      have HL := Lib.hid HL7
      have hbb := hb.trans ((below_trans hb5 al7).mono (by omega))
      have HC7 := Lib.hid (cell_new1s w5 (.slice A5 n c5) 28)
      have HN7 := Lib.hid (show ∀ u ∈ ([.slice A5 n c5] : List Value), u.oneCell' = true from fun u hu => by simp only [List.mem_cons, List.not_mem_nil, or_false] at hu; rw [hu]; rfl)
      clear HL7 al7 hv5 HX5 HLW
      go_wp2_with (at_builtin; refine appOwn rfl _ _ 30 28 rfl Tryz.underlying30 (.slice none 0 0) 1 24 Tryz.rowsInfo rfl (by decide) (by decide) rfl HO7.out (by omega) (by omega) ⟨w5.heap.size, 0, none⟩ rfl [.slice A5 n c5] rfl HC7.out HN7.out ?_; intro v8 w8 ho8 hf8 hob8)
      have HLS := Lib.hid (HL.out.snoc HX7.out (by omega) (by omega) (by omega) (by rw [HLL.out]; exact ho8) hf8 hob8)
      rw [← rep_one n] at HLS
      have hb8 := hbb.trans (hf8.to_below (B := lo) (by omega) (fun b hb hs => by have := (own_lt HO7.out hs).1; omega))
      clear ho8 hf8 hob8 HC7 HN7 HX7
      go_wp2
      go_roundw
      case rel => exact ⟨i + 1, by omega, rfl, hb8, _, HLS.out⟩
      case measure => simp [intOf]; omega
set_option maxRecDepth 100000 in
set_option maxHeartbeats 1600000 in
theorem sMakeMatrix (m c : Nat) (C : Option Addr) (hm : m ≤ 1048576) (w : World) (h : BI w C m) :
    Calls Tryz.prog 37 #[.slice C m c] w fun e w' => ∃ (n : Nat) (E : Nat → Nat → Int) (v : Value), 1 ≤ n ∧ n ≤ 4 ∧ DrI E n ∧ e = .returned v ∧ MZ w' w.heap.size w'.heap.size v (spM (intL n E)) ∧ Below w.heap.size w w' := by
  have HN := Lib.hid (fun W (hW : Below w.heap.size w W) => sNew m c C hm W (h.frame (S := fun _ => False) (Frame.of_below hW) (fun _ _ _ h => h)))
  clear h
  go_enter Tryz.func37, Tryz.ntmps37
  go_wp2_with fail
  have al := below_alloc1 w (.cells #[.slice none 0 0] 52)
  have S0 := Slots.new (Below.refl _ (w.alloc (.cells #[.slice none 0 0] 52))) (g := w.heap.size) rfl
  refine (HN.out _ al).mono ?_
  rintro e w1 ⟨g, rfl, hg, hc, hb⟩
  simp only [World.size_alloc] at hg
  replace S0 := S0.later hb
  replace hb := below_trans al hb
  have HC := Lib.hid hc
  clear al hc
  go_wp2_with fail
  refine (sDraw14 g m c C _ HC.out).mono ?_
  rintro e w2 ⟨n, E, v, h1, h4, hE, rfl, hmz, hc2, hf2⟩
  obtain ⟨A8, c8, rfl⟩ := hmz.form
  obtain ⟨q0, z0⟩ := (S0.frame hf2 (by omega)).c1
  have hz1 := S0.1
  have hz2 := hf2.size
  have hb2 := hb.trans (hf2.below hb.size (by omega))
  have HE := Lib.hid hE
  have hmz9 := (hmz.frame (frame1 (g := w.heap.size) (o := 0) (.slice A8 (spM (intL n E)).length c8)) (fun b h1 _ e => by omega)).wide (lo' := w.heap.size) (hi' := w2.heap.size) (by omega) (by omega)
  have hfin := Lib.hid (And.intro hmz9 (hb2.setCell (p := ⟨w.heap.size, 0, none⟩) (Nat.le_refl _) (.slice A8 (spM (intL n E)).length c8)))
  obtain ⟨R, hR⟩ : ∃ R, spM (intL n E) = R := ⟨_, rfl⟩
  rw [hR] at hfin ⊢
  replace hR := Lib.hid hR
  clear hmz hmz9 hE hb2 hc2 hf2 S0 hb
  go_wp2
  exact bodyPost_ret (v := .agg #[.slice A8 R.length c8]) (by simp [results, Tryz.results37, go_sem, q0]) rfl (mat_end h1 h4 HE.out hR.out hfin.out.1 (by simp) hfin.out.2)
end Go.Proofs.YtlpomcihkjiokaaGreat

namespace Go.Proofs.YtlpomcihkjiokaaGreat
namespace FE

theorem few_iff {p : Nat} : few p = true ↔ p < 10 ^ 216 := by
  unfold few
  rw [decide_eq_true_iff, toL_len_le]
  have e : bp 24 = ((10 ^ 216 : Nat) : Int) := by decide
  rw [e]
  exact Int.ofNat_lt
/-- Whether a rational number has few digits. -/
def small (v : Rat) : Bool := few v.num.natAbs && few v.den
theorem small_iff {v : Rat} : small v = true ↔ v.num.natAbs < 10 ^ 216 ∧ v.den < 10 ^ 216 := by
  rw [small, Bool.and_eq_true, few_iff, few_iff]
/-- The fraction of a rational number. -/
def ofQ (v : Rat) : RatD := mkR (decide (v.num < 0)) v.num.natAbs v.den
/-- The fraction r is valid and its value is v. -/
def Is (r : RatD) (v : Rat) : Prop := r = ofQ v ∧ small v = true
theorem lowI_eq {n : Int} {q : Nat} (hq : q ≠ 0) : lowI n q = if small (_root_.mkRat n q) then ofQ (_root_.mkRat n q) else zR := by
  have h1 : (_root_.mkRat n q).num = n / (Nat.gcd n.natAbs q : Nat) := by rw [Rat.num_mkRat, if_neg hq, Nat.gcd_comm]
  have h2 : (_root_.mkRat n q).den = q / Nat.gcd n.natAbs q := by rw [Rat.den_mkRat, if_neg hq, Nat.gcd_comm]
  have hd : ((Nat.gcd n.natAbs q : Nat) : Int) ∣ n := Int.ofNat_dvd_left.2 (Nat.gcd_dvd_left _ _)
  have h3 : (_root_.mkRat n q).num.natAbs = n.natAbs / Nat.gcd n.natAbs q := by
    rw [h1, Int.natAbs_ediv_of_dvd hd]; rfl
  have hg : 0 < Nat.gcd n.natAbs q := Nat.gcd_pos_of_pos_right _ (by omega)
  have h4 : decide ((_root_.mkRat n q).num < 0) = decide (n < 0) := by
    rw [h1]
    obtain ⟨k, hk⟩ := hd
    have hg' : (0 : Int) < (Nat.gcd n.natAbs q : Nat) := by omega
    have e : n / ((Nat.gcd n.natAbs q : Nat) : Int) = k := by
      have := Int.mul_ediv_cancel_left k (Int.ne_of_gt hg')
      rw [← hk] at this
      exact this
    rw [e]
    generalize ((Nat.gcd n.natAbs q : Nat) : Int) = g at *
    rw [Bool.eq_iff_iff, decide_eq_true_iff, decide_eq_true_iff, hk]
    constructor
    · intro h; exact Int.mul_neg_of_pos_of_neg hg' h
    · intro h
      rcases Int.lt_or_le k 0 with h5 | h5
      · exact h5
      · have := Int.mul_nonneg (Int.le_of_lt hg') h5; omega
  unfold lowI low small ofQ
  rw [if_neg hq, h3, h2, h4]
theorem Is.okr {r : RatD} {v : Rat} (h : Is r v) : OkR r v.num.natAbs v.den := by
  obtain ⟨rfl, hs⟩ := h
  simp only [small, few, Bool.and_eq_true, decide_eq_true_eq] at hs
  refine ⟨rfl, rfl, fun h => ?_, v.den_nz, hs.1, hs.2, v.reduced⟩
  simp only [ofQ, mkR, Bool.and_eq_true, decide_eq_true_eq] at h
  exact h.2
theorem Is.ok {r : RatD} {v : Rat} (h : Is r v) : ratOk r = true := h.okr.ok
theorem Is.num {r : RatD} {v : Rat} (h : Is r v) : num r = v.num := by
  have h1 := h.okr.nmag
  obtain ⟨rfl, _⟩ := h
  unfold FE.num
  rw [h1]
  by_cases c : v.num < 0
  · have e0 : v.num ≠ 0 := by omega
    have e : (ofQ v).neg = true := by simp [ofQ, mkR, c, e0]
    rw [e, if_pos rfl]; omega
  · have e : (ofQ v).neg = false := by simp [ofQ, mkR, c]
    rw [e, if_neg (by decide)]; omega
theorem Is.den {r : RatD} {v : Rat} (h : Is r v) : nv r.den = v.den := h.okr.nden
theorem Is.mag {r : RatD} {v : Rat} (h : Is r v) : nv r.mag = v.num.natAbs := h.okr.nmag
theorem Is.neg {r : RatD} {v : Rat} (h : Is r v) : r.neg = decide (v.num < 0) := by
  obtain ⟨rfl, _⟩ := h
  by_cases c : v.num < 0
  · have e : v.num ≠ 0 := by omega
    simp [ofQ, mkR, c, e]
  · simp [ofQ, mkR, c]
theorem Is.of_low {n : Int} {q : Nat} (hq : q ≠ 0) {v : Rat} (hv : _root_.mkRat n q = v) (hs : small v = true) : Is (lowI n q) v := by
  rw [lowI_eq hq, hv, hs]; exact ⟨rfl, hs⟩
theorem Is.inj {r : RatD} {u v : Rat} (h : Is r u) (h' : Is r v) : u = v := by
  refine Rat.ext ?_ ?_
  · rw [← h.num, h'.num]
  · rw [← h.den, h'.den]
theorem Is.same {r s : RatD} {v : Rat} (h : Is r v) (h' : Is s v) : r = s := h.1.trans h'.1.symm
theorem Is.add {r s : RatD} {u v : Rat} (h : Is r u) (k : Is s v) (hs : small (u + v) = true) : Is (radd r s) (u + v) := by
  unfold radd
  rw [h.ok, k.ok, h.num, k.num, h.den, k.den]
  exact Is.of_low (Nat.mul_ne_zero u.den_nz v.den_nz) (Rat.add_def' u v).symm hs
theorem Is.mul {r s : RatD} {u v : Rat} (h : Is r u) (k : Is s v) (hs : small (u * v) = true) : Is (rmul r s) (u * v) := by
  unfold rmul
  rw [h.ok, k.ok, h.num, k.num, h.den, k.den]
  exact Is.of_low (Nat.mul_ne_zero u.den_nz v.den_nz) (Rat.mul_def' u v).symm hs
theorem Is.int {n : Int} (h : n.natAbs < 10 ^ 216) : Is (rint n) (n : Rat) := by
  refine ⟨?_, small_iff.2 ⟨by simpa using h, by simp⟩⟩
  unfold rint ofQ mkR
  simp only [Rat.num_intCast, Rat.den_intCast]
  have e : toL 1 = [1] := by rw [toL_pos (by omega), show (1 / 1000000000 : Nat) = 0 from rfl, toL_zero]; rfl
  rw [e]
  congr 1
  by_cases c : n < 0
  · have h0 : n ≠ 0 := by omega
    simp [c, h0]
  · simp [c]
theorem Is.sign {r : RatD} {v : Rat} (h : Is r v) : rsign r = v.num.sign := by
  unfold rsign
  rw [h.ok, if_pos rfl, h.neg]
  have hm : r.mag = toL v.num.natAbs := h.okr.mag
  by_cases c : v.num = 0
  · have e : r.mag.isEmpty = true := by rw [hm, c]; show (toL 0).isEmpty = true; rw [toL_zero]; rfl
    rw [e, if_pos rfl, c]; rfl
  · have e : r.mag.isEmpty = false := by
      rw [List.isEmpty_eq_false_iff, hm]
      intro e; exact c (by have := toL_eq_nil.1 e; omega)
    rw [e, if_neg (by decide)]
    by_cases c2 : v.num < 0
    · simp only [c2, decide_true, if_true]; rw [Int.sign_eq_neg_one_of_neg c2]
    · simp only [c2, decide_false, Bool.false_eq_true, if_false]; rw [Int.sign_eq_one_of_pos (by omega)]

/-- The number v times D is an integer of size at most B. -/
def Lat (D B : Int) (v : Rat) : Prop := 0 < D ∧ ∃ z : Int, v * (D : Rat) = (z : Rat) ∧ -B ≤ z ∧ z ≤ B
theorem Lat.small {D B : Int} {v : Rat} (h : Lat D B v) (hD : D < 10 ^ 216) (hB : B < 10 ^ 216) : small v = true := by
  obtain ⟨h0, z, hz, h1, h2⟩ := h
  have hv : v = _root_.mkRat z D.toNat := by
    have hD' : ((D.toNat : Nat) : Int) = D := by omega
    rw [Rat.mkRat_eq_div, ← hz]
    have : ((D.toNat : Nat) : Rat) = (D : Rat) := by rw [← Rat.intCast_natCast, hD']
    rw [this, Rat.mul_div_cancel]
    intro e
    rw [Rat.intCast_eq_zero_iff] at e
    omega
  have hne : D.toNat ≠ 0 := by omega
  rw [small_iff, hv, Rat.num_mkRat, Rat.den_mkRat, if_neg hne, if_neg hne]
  have hd : ((Nat.gcd D.toNat z.natAbs : Nat) : Int) ∣ z := Int.ofNat_dvd_left.2 (Nat.gcd_dvd_right _ _)
  constructor
  · refine Nat.lt_of_le_of_lt (Int.natAbs_ediv_of_dvd hd ▸ Nat.div_le_self _ _) ?_
    omega
  · refine Nat.lt_of_le_of_lt (Nat.div_le_self _ _) ?_
    omega
theorem Lat.mono {D B C : Int} {v : Rat} (h : Lat D B v) (hc : B ≤ C) : Lat D C v := by
  obtain ⟨h0, z, hz, h1, h2⟩ := h
  exact ⟨h0, z, hz, by omega, by omega⟩
theorem Lat.add {D B C : Int} {u v : Rat} (h : Lat D B u) (k : Lat D C v) : Lat D (B + C) (u + v) := by
  obtain ⟨h0, z, hz, h1, h2⟩ := h
  obtain ⟨_, y, hy, k1, k2⟩ := k
  refine ⟨h0, z + y, ?_, by omega, by omega⟩
  rw [Rat.add_mul, hz, hy, Rat.intCast_add]
theorem Lat.neg {D B : Int} {u : Rat} (h : Lat D B u) : Lat D B (-u) := by
  obtain ⟨h0, z, hz, h1, h2⟩ := h
  exact ⟨h0, -z, by rw [Rat.neg_mul, hz, Rat.intCast_neg], by omega, by omega⟩
theorem abs_mul_le {z y B C : Int} (h1 : -B ≤ z) (h2 : z ≤ B) (k1 : -C ≤ y) (k2 : y ≤ C) : -(B * C) ≤ z * y ∧ z * y ≤ B * C := by
  have hz : z.natAbs ≤ B.toNat := by omega
  have hy : y.natAbs ≤ C.toNat := by omega
  have hm : (z * y).natAbs ≤ B.toNat * C.toNat := by rw [Int.natAbs_mul]; exact Nat.mul_le_mul hz hy
  have e : ((B.toNat * C.toNat : Nat) : Int) = B * C := by
    rw [Int.natCast_mul, Int.toNat_of_nonneg (by omega), Int.toNat_of_nonneg (by omega)]
  omega
theorem Lat.mul {D B E C : Int} {u v : Rat} (h : Lat D B u) (k : Lat E C v) : Lat (D * E) (B * C) (u * v) := by
  obtain ⟨h0, z, hz, h1, h2⟩ := h
  obtain ⟨k0, y, hy, k1, k2⟩ := k
  obtain ⟨m1, m2⟩ := abs_mul_le h1 h2 k1 k2
  refine ⟨Int.mul_pos h0 k0, z * y, ?_, m1, m2⟩
  rw [Rat.intCast_mul, Rat.intCast_mul, ← hz, ← hy]
  grind
theorem Lat.wide {D B : Int} {u : Rat} (h : Lat D B u) {k : Int} (hk : 0 < k) : Lat (D * k) (B * k) u := by
  obtain ⟨h0, z, hz, h1, h2⟩ := h
  obtain ⟨m1, m2⟩ := abs_mul_le h1 h2 (show -k ≤ k by omega) (Int.le_refl k)
  refine ⟨Int.mul_pos h0 hk, z * k, ?_, m1, m2⟩
  rw [Rat.intCast_mul, Rat.intCast_mul, ← hz]
  grind
theorem Lat.int {z B : Int} (h1 : -B ≤ z) (h2 : z ≤ B) : Lat 1 B (z : Rat) := ⟨by decide, z, by rw [show ((1 : Int) : Rat) = 1 from rfl, Rat.mul_one], h1, h2⟩
end FE
end Go.Proofs.YtlpomcihkjiokaaGreat
