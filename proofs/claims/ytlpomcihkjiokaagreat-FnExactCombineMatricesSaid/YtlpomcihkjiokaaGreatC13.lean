/-
  Shared texts (C13).
-/
import Derived.Test.YtlpomcihkjiokaaGreatC12
import Derived.Test.YtlpomcihkjiokaaGreatC10
namespace Go.Proofs.YtlpomcihkjiokaaGreat
open Go.RowKit Go.Joins

def RFew (x : RatD) : Prop := x.mag.length ≤ 1048576 ∧ x.den.length ≤ 1048576
theorem LS.frame {S : Nat → Prop} {w w' : World} {lo hi : Nat} {v : Value} {vs : List Value} {rows : List (List RatD)} (h : LS w lo hi v vs rows) (hf : Frame S w w') (hs : ∀ b, lo ≤ b → b < hi → ¬ S b) : LS w' lo hi v vs rows := by
  obtain ⟨h0, hd, A, c, h1, h2, h3, h4⟩ := h
  refine ⟨h0, hd, A, c, h1, h2, h3, fun hx => ?_⟩
  obtain ⟨g, e, k1, k2, k3, k4⟩ := h4 hx
  exact ⟨g, e, k1, k2, Nat.lt_of_lt_of_le k3 hf.size, fun i hi => ⟨(hf.cell k3 (hs g k1 k2)).trans (k4 i hi).1, (k4 i hi).2.frame hf hs⟩⟩
/-- Where a row lies, and the entry in it. -/
theorem LS.pick {w : World} {lo hi n c : Nat} {A : Option Addr} {vs : List Value} {rows : List (List RatD)} (h : LS w lo hi (.slice A n c) vs rows) (i : Nat) (hi1 : i < rows.length) (j : Nat) (hj : j < (rows.getD i []).length) :
    ∃ g gi ci, A = some ⟨g, 0, none⟩ ∧ lo ≤ g ∧ g < w.heap.size ∧ w.cell? ⟨g, i, none⟩ = some (.slice (some ⟨gi, 0, none⟩) (rows.getD i []).length ci) ∧ vs.getD i zV = .slice (some ⟨gi, 0, none⟩) (rows.getD i []).length ci ∧ lo ≤ gi ∧ gi < w.heap.size ∧ g ≠ gi ∧ (∀ o, w.frozen? ⟨gi, o, none⟩ = false) ∧ VX w lo hi (.slice (some ⟨gi, 0, none⟩) (rows.getD i []).length ci) (rows.getD i []) := by
  obtain ⟨g, e, h1, h2, h3, h4⟩ := h.row i hi1
  obtain ⟨Ai, ci, ei, _⟩ := h4.formF
  rw [ei] at h3 h4
  cases Ai with
  | none =>
    obtain ⟨ps, _, A', c', e', _, _, h5⟩ := h4
    injection e' with e1 _ _
    obtain ⟨g', e2, _⟩ := h5 (by intro h; rw [h] at hj; simp at hj)
    rw [e2] at e1
    cases e1
  | some a =>
    have hb : blk (.slice (some a) (rows.getD i []).length ci) = some a.block := blk_slice (by omega)
    obtain ⟨_, ⟨c2, e2⟩, k1, k2, k3, k4, s, hs⟩ := h4.blk hb
    injection e2 with e2 _ _
    injection e2 with e2
    rw [e2] at h3 h4 ei
    refine ⟨g, a.block, ci, e, h1, h2, h3, ei, k1, k3, ?_, k4, h4⟩
    intro hg
    obtain ⟨g0, e0, _, _, h30, h40⟩ := h.row 0 (by omega)
    rw [e] at e0
    injection e0 with e0
    injection e0 with e0
    subst e0
    rw [hg, hs] at h30
    injection h30 with h30
    obtain ⟨_, _, e9, _⟩ := h40.formF
    rw [e9] at h30
    cases h30
theorem rep_full (n : Nat) (x : RatD) : List.replicate n (List.replicate n x) = fullL n (fun _ _ => x) := by
  refine eq_fullL (by simp) (fun q hq => by simp [hq]) (fun q t hq ht => by simp [hq, ht])
theorem full_res {n : Nat} {E : Nat → Nat → RatD} (h : ∀ q t, q < n → t < n → FE.Res (E q t)) : ∀ i, i < (fullL n E).length → AllRes ((fullL n E).getD i []) := by
  intro i hi j hj
  rw [fullL_len] at hi
  rw [fullL_row_len hi] at hj
  rw [fullL_get hi hj]
  exact h i j hi hj
theorem two_rats {w : World} {r s : RatD} {A0 B0 A2 B2 : Option Addr} {c0 b0 c2 b2 : Nat} (h0 : RatV w (.agg #[.bool r.neg, .slice A0 r.mag.length c0, .slice B0 r.den.length b0]) r) (h2 : RatV w (.agg #[.bool s.neg, .slice A2 s.mag.length c2, .slice B2 s.den.length b2]) s) :
    VI (w.alloc (.cells #[.bool r.neg, .slice A0 r.mag.length c0, .slice B0 r.den.length b0, .bool s.neg, .slice A2 s.mag.length c2, .slice B2 s.den.length b2] 57)) (some ⟨w.heap.size, 0, none⟩) [r, s] := by
  have al := below_alloc1 w (.cells #[.bool r.neg, .slice A0 r.mag.length c0, .slice B0 r.den.length b0, .bool s.neg, .slice A2 s.mag.length c2, .slice B2 s.den.length b2] 57)
  replace h0 := h0.later al
  replace h2 := h2.later al
  obtain ⟨A, c, B, d, e, hl, k1, k2⟩ := h0
  obtain ⟨A', c', B', d', e', hl', k1', k2'⟩ := h2
  injection e with e
  injection e with e
  injection e with _ e
  injection e with ea e
  injection e with eb _
  injection ea with ea1 _ ea3
  injection eb with eb1 _ eb3
  injection e' with e'
  injection e' with e'
  injection e' with _ e'
  injection e' with ea' e'
  injection e' with eb' _
  injection ea' with ea1' _ ea3'
  injection eb' with eb1' _ eb3'
  subst ea1 ea3 eb1 eb3 ea1' ea3' eb1' eb3'
  intro _
  refine ⟨w.heap.size, 0, rfl, by simp, fun j hj => ?_⟩
  match j, hj with
  | 0, _ => exact ⟨_, _, _, _, by simp, by simp, by simp, hl, k1, k2⟩
  | 1, _ => exact ⟨_, _, _, _, by simp, by simp, by simp, hl', k1', k2'⟩
theorem MZ.wide {w : World} {lo hi lo' hi' : Nat} {v : Value} {rs : List RowD} (h : MZ w lo hi v rs) (j1 : lo' ≤ lo) (j2 : hi ≤ hi') : MZ w lo' hi' v rs := by
  obtain ⟨u, qs, rfl, h, ha⟩ := h
  exact ⟨u, qs, rfl, h.wide j1 j2, ha⟩
theorem comb_no {r s : RatD} {A B : List RowD} (h : combIn r A s B = false) : combM r A s B = [] ∧ combOk r A s B = false := by
  unfold combM combOk
  rw [h]
  exact ⟨rfl, rfl⟩
theorem comb_yes {r s : RatD} {A B : List RowD} (h : combIn r A s B = true) : combM r A s B = spR (combL r A s B) ∧ combOk r A s B = spOk (combL r A s B) := by
  unfold combM combOk
  rw [h]
  exact ⟨rfl, rfl⟩

set_option maxRecDepth 100000 in
set_option maxHeartbeats 6400000 in
theorem iCombineMatrices (r : RatD) (A : List RowD) (s : RatD) (B : List RowD) (u0 u1 u2 u3 : Value) (w : World) (h0 : RatV w u0 r) (h1 : MatV w u1 A) (h2 : RatV w u2 s) (h3 : MatV w u3 B) (f0 : RFew r) (f1 : MFew A) (f2 : RFew s) (f3 : MFew B) :
    Calls Tryz.prog 26 #[u0, u1, u2, u3] w (MPost w (combM r A s B) (.bool (combOk r A s B))) := by
  have HMA := fun W (hW : Below w.heap.size w W) => iIsMatrix A u1 W (h1.later hW) f1
  have HMB := fun W (hW : Below w.heap.size w W) => iIsMatrix B u3 W (h3.later hW) f3
  have HEA := fun (hq : mOk A = true) W (hW : Below w.heap.size w W) i (hi : i < A.length) (j : Int) => iEntry A u1 i j W (h1.later hW) f1 hi (Nat.le_of_eq (mOk_row hq hi).1.symm) (mOk_row hq hi).2.2.1
  have HEB := fun (hq : mOk B = true) W (hW : Below w.heap.size w W) i (hi : i < B.length) (j : Int) => iEntry B u3 i j W (h3.later hW) f3 hi (Nat.le_of_eq (mOk_row hq hi).1.symm) (mOk_row hq hi).2.2.1
  have HN := Lib.hid (fun h => comb_no (r := r) (A := A) (s := s) (B := B) h)
  have HY := Lib.hid (fun h => comb_yes (r := r) (A := A) (s := s) (B := B) h)
  have hin : combIn r A s B = (mOk A && (mOk B && (decide ((A.length : Int) = (B.length : Int)) && (FE.ratOk r && FE.ratOk s)))) := rfl
  rw [hin] at HN HY
  have HFEWA := Lib.hid f1.2
  have HFEWB := Lib.hid f3.2
  have hA40 := f1.1
  have hB40 := f3.1
  have HR0 := Lib.hid h0
  have HR2 := Lib.hid h2
  have HF0 := Lib.hid f0
  have HF2 := Lib.hid f2
  obtain ⟨A0, c0, B0, b0, rfl, _, _, _⟩ := h0
  obtain ⟨A2, c2, B2, b2, rfl, _, _, _⟩ := h2
  obtain ⟨A1, c1, rfl, _, _⟩ := h1
  obtain ⟨A3, c3, rfl, _, _⟩ := h3
  clear f0 f1 f2 f3 hin
  cases ha : mOk A
  · rw [ha] at HMA HN
    replace HMA := Lib.hid HMA
    have HNO := Lib.hid (HN.out (by simp))
    clear HN HY HMB ha HEA HEB
    generalize A.length = n at *
    generalize B.length = n' at *
    have S0 := Slots.new (below_step (below_step (below_step (below_step (Below.refl _ (((((w.alloc (.cells #[.bool r.neg, .slice A0 r.mag.length c0, .slice B0 r.den.length b0] 57)).alloc (.cells #[.slice A1 n c1] 52)).alloc (.cells #[.bool s.neg, .slice A2 s.mag.length c2, .slice B2 s.den.length b2] 57)).alloc (.cells #[.slice A3 n' c3] 52)).alloc (.cells #[.slice none 0 0] 52))))))) (g := w.heap.size) rfl
    have S1 := Slots.new (below_step (below_step (below_step (Below.refl _ (((((w.alloc (.cells #[.bool r.neg, .slice A0 r.mag.length c0, .slice B0 r.den.length b0] 57)).alloc (.cells #[.slice A1 n c1] 52)).alloc (.cells #[.bool s.neg, .slice A2 s.mag.length c2, .slice B2 s.den.length b2] 57)).alloc (.cells #[.slice A3 n' c3] 52)).alloc (.cells #[.slice none 0 0] 52)))))) (g := w.heap.size + 1) (by simp)
    have S2 := Slots.new (below_step (below_step (Below.refl _ (((((w.alloc (.cells #[.bool r.neg, .slice A0 r.mag.length c0, .slice B0 r.den.length b0] 57)).alloc (.cells #[.slice A1 n c1] 52)).alloc (.cells #[.bool s.neg, .slice A2 s.mag.length c2, .slice B2 s.den.length b2] 57)).alloc (.cells #[.slice A3 n' c3] 52)).alloc (.cells #[.slice none 0 0] 52))))) (g := w.heap.size + 1 + 1) (by simp)
    have S3 := Slots.new (below_step (Below.refl _ (((((w.alloc (.cells #[.bool r.neg, .slice A0 r.mag.length c0, .slice B0 r.den.length b0] 57)).alloc (.cells #[.slice A1 n c1] 52)).alloc (.cells #[.bool s.neg, .slice A2 s.mag.length c2, .slice B2 s.den.length b2] 57)).alloc (.cells #[.slice A3 n' c3] 52)).alloc (.cells #[.slice none 0 0] 52)))) (g := w.heap.size + 1 + 1 + 1) (by simp)
    have S4 := Slots.new (Below.refl _ (((((w.alloc (.cells #[.bool r.neg, .slice A0 r.mag.length c0, .slice B0 r.den.length b0] 57)).alloc (.cells #[.slice A1 n c1] 52)).alloc (.cells #[.bool s.neg, .slice A2 s.mag.length c2, .slice B2 s.den.length b2] 57)).alloc (.cells #[.slice A3 n' c3] 52)).alloc (.cells #[.slice none 0 0] 52))) (g := w.heap.size + 1 + 1 + 1 + 1) (by simp)
    have hb := (((below_alloc3 w (.cells #[.bool r.neg, .slice A0 r.mag.length c0, .slice B0 r.den.length b0] 57) (.cells #[.slice A1 n c1] 52) (.cells #[.bool s.neg, .slice A2 s.mag.length c2, .slice B2 s.den.length b2] 57)).alloc (by simp; omega) (.cells #[.slice A3 n' c3] 52)).alloc (by simp; omega) (.cells #[.slice none 0 0] 52))
    go_enter Tryz.func26, Tryz.ntmps26
    have m1 := S1.c1.1
    go_wp2_with fail
    generalize ((((w.alloc (.cells #[.bool r.neg, .slice A0 r.mag.length c0, .slice B0 r.den.length b0] 57)).alloc (.cells #[.slice A1 n c1] 52)).alloc (.cells #[.bool s.neg, .slice A2 s.mag.length c2, .slice B2 s.den.length b2] 57)).alloc (.cells #[.slice A3 n' c3] 52)).alloc (.cells #[.slice none 0 0] 52) = w0 at *
    refine (HMA.out _ hb).mono ?_
    rintro e w1 ⟨rfl, hb1⟩
    replace S0 := S0.later hb1
    replace S1 := S1.later hb1
    replace S2 := S2.later hb1
    replace S3 := S3.later hb1
    replace S4 := S4.later hb1
    replace hb := below_trans hb hb1
    clear m1 hb1
    obtain ⟨q0, z0⟩ := S4.c1
    have hfin : MPost w (combM r A s B) (.bool (combOk r A s B)) (.returned (.tuple #[.agg #[.slice none 0 0], .bool false])) (w1.setCell ⟨w.heap.size + 1 + 1 + 1 + 1, 0, none⟩ (.slice none 0 0)) := by
      rw [HNO.out.1, HNO.out.2]
      exact ⟨_, rfl, MZ.nil _ _ _, hb.setCell (p := ⟨w.heap.size + 1 + 1 + 1 + 1, 0, none⟩) (show w.heap.size ≤ w.heap.size + 1 + 1 + 1 + 1 by omega) _⟩
    replace hfin := Lib.hid hfin
    clear S0 S1 S2 S3 S4 hb
    go_wp2
    exact bodyPost_ret (v := .tuple #[.agg #[.slice none 0 0], .bool false]) (by simp [results, Tryz.results26, go_sem, q0]) rfl hfin.out
  rw [ha] at HMA HN HY
  replace HMA := Lib.hid HMA
  cases hbb : mOk B
  · rw [hbb] at HMB HN
    replace HMB := Lib.hid HMB
    have HNO := Lib.hid (HN.out (by simp))
    clear HN HY ha hbb HEA HEB
    generalize A.length = n at *
    generalize B.length = n' at *
    have S0 := Slots.new (below_step (below_step (below_step (below_step (Below.refl _ (((((w.alloc (.cells #[.bool r.neg, .slice A0 r.mag.length c0, .slice B0 r.den.length b0] 57)).alloc (.cells #[.slice A1 n c1] 52)).alloc (.cells #[.bool s.neg, .slice A2 s.mag.length c2, .slice B2 s.den.length b2] 57)).alloc (.cells #[.slice A3 n' c3] 52)).alloc (.cells #[.slice none 0 0] 52))))))) (g := w.heap.size) rfl
    have S1 := Slots.new (below_step (below_step (below_step (Below.refl _ (((((w.alloc (.cells #[.bool r.neg, .slice A0 r.mag.length c0, .slice B0 r.den.length b0] 57)).alloc (.cells #[.slice A1 n c1] 52)).alloc (.cells #[.bool s.neg, .slice A2 s.mag.length c2, .slice B2 s.den.length b2] 57)).alloc (.cells #[.slice A3 n' c3] 52)).alloc (.cells #[.slice none 0 0] 52)))))) (g := w.heap.size + 1) (by simp)
    have S2 := Slots.new (below_step (below_step (Below.refl _ (((((w.alloc (.cells #[.bool r.neg, .slice A0 r.mag.length c0, .slice B0 r.den.length b0] 57)).alloc (.cells #[.slice A1 n c1] 52)).alloc (.cells #[.bool s.neg, .slice A2 s.mag.length c2, .slice B2 s.den.length b2] 57)).alloc (.cells #[.slice A3 n' c3] 52)).alloc (.cells #[.slice none 0 0] 52))))) (g := w.heap.size + 1 + 1) (by simp)
    have S3 := Slots.new (below_step (Below.refl _ (((((w.alloc (.cells #[.bool r.neg, .slice A0 r.mag.length c0, .slice B0 r.den.length b0] 57)).alloc (.cells #[.slice A1 n c1] 52)).alloc (.cells #[.bool s.neg, .slice A2 s.mag.length c2, .slice B2 s.den.length b2] 57)).alloc (.cells #[.slice A3 n' c3] 52)).alloc (.cells #[.slice none 0 0] 52)))) (g := w.heap.size + 1 + 1 + 1) (by simp)
    have S4 := Slots.new (Below.refl _ (((((w.alloc (.cells #[.bool r.neg, .slice A0 r.mag.length c0, .slice B0 r.den.length b0] 57)).alloc (.cells #[.slice A1 n c1] 52)).alloc (.cells #[.bool s.neg, .slice A2 s.mag.length c2, .slice B2 s.den.length b2] 57)).alloc (.cells #[.slice A3 n' c3] 52)).alloc (.cells #[.slice none 0 0] 52))) (g := w.heap.size + 1 + 1 + 1 + 1) (by simp)
    have hb := (((below_alloc3 w (.cells #[.bool r.neg, .slice A0 r.mag.length c0, .slice B0 r.den.length b0] 57) (.cells #[.slice A1 n c1] 52) (.cells #[.bool s.neg, .slice A2 s.mag.length c2, .slice B2 s.den.length b2] 57)).alloc (by simp; omega) (.cells #[.slice A3 n' c3] 52)).alloc (by simp; omega) (.cells #[.slice none 0 0] 52))
    go_enter Tryz.func26, Tryz.ntmps26
    have m1 := S1.c1.1
    go_wp2_with fail
    generalize ((((w.alloc (.cells #[.bool r.neg, .slice A0 r.mag.length c0, .slice B0 r.den.length b0] 57)).alloc (.cells #[.slice A1 n c1] 52)).alloc (.cells #[.bool s.neg, .slice A2 s.mag.length c2, .slice B2 s.den.length b2] 57)).alloc (.cells #[.slice A3 n' c3] 52)).alloc (.cells #[.slice none 0 0] 52) = w0 at *
    refine (HMA.out _ hb).mono ?_
    rintro e w1 ⟨rfl, hb1⟩
    replace S0 := S0.later hb1
    replace S1 := S1.later hb1
    replace S2 := S2.later hb1
    replace S3 := S3.later hb1
    replace S4 := S4.later hb1
    replace hb := below_trans hb hb1
    clear m1 hb1
    have m3 := S3.c1.1
    go_wp2_with fail
    refine (HMB.out _ hb).mono ?_
    rintro e w2 ⟨rfl, hb2⟩
    replace S0 := S0.later hb2
    replace S1 := S1.later hb2
    replace S2 := S2.later hb2
    replace S3 := S3.later hb2
    replace S4 := S4.later hb2
    replace hb := below_trans hb hb2
    clear m3 hb2
    obtain ⟨q0, z0⟩ := S4.c1
    have hfin : MPost w (combM r A s B) (.bool (combOk r A s B)) (.returned (.tuple #[.agg #[.slice none 0 0], .bool false])) (w2.setCell ⟨w.heap.size + 1 + 1 + 1 + 1, 0, none⟩ (.slice none 0 0)) := by
      rw [HNO.out.1, HNO.out.2]
      exact ⟨_, rfl, MZ.nil _ _ _, hb.setCell (p := ⟨w.heap.size + 1 + 1 + 1 + 1, 0, none⟩) (show w.heap.size ≤ w.heap.size + 1 + 1 + 1 + 1 by omega) _⟩
    replace hfin := Lib.hid hfin
    clear S0 S1 S2 S3 S4 hb
    go_wp2
    exact bodyPost_ret (v := .tuple #[.agg #[.slice none 0 0], .bool false]) (by simp [results, Tryz.results26, go_sem, q0]) rfl hfin.out
  rw [hbb] at HMB HN HY
  replace HMB := Lib.hid HMB
  by_cases hnn : A.length = B.length
  rotate_left
  · have HNO := Lib.hid (HN.out (by simp; intro h; omega))
    clear HN HY ha hbb HEA HEB
    generalize A.length = n at *
    generalize B.length = n' at *
    have hne2 : ¬ (n' = n) := fun h => hnn h.symm
    have S0 := Slots.new (below_step (below_step (below_step (below_step (Below.refl _ (((((w.alloc (.cells #[.bool r.neg, .slice A0 r.mag.length c0, .slice B0 r.den.length b0] 57)).alloc (.cells #[.slice A1 n c1] 52)).alloc (.cells #[.bool s.neg, .slice A2 s.mag.length c2, .slice B2 s.den.length b2] 57)).alloc (.cells #[.slice A3 n' c3] 52)).alloc (.cells #[.slice none 0 0] 52))))))) (g := w.heap.size) rfl
    have S1 := Slots.new (below_step (below_step (below_step (Below.refl _ (((((w.alloc (.cells #[.bool r.neg, .slice A0 r.mag.length c0, .slice B0 r.den.length b0] 57)).alloc (.cells #[.slice A1 n c1] 52)).alloc (.cells #[.bool s.neg, .slice A2 s.mag.length c2, .slice B2 s.den.length b2] 57)).alloc (.cells #[.slice A3 n' c3] 52)).alloc (.cells #[.slice none 0 0] 52)))))) (g := w.heap.size + 1) (by simp)
    have S2 := Slots.new (below_step (below_step (Below.refl _ (((((w.alloc (.cells #[.bool r.neg, .slice A0 r.mag.length c0, .slice B0 r.den.length b0] 57)).alloc (.cells #[.slice A1 n c1] 52)).alloc (.cells #[.bool s.neg, .slice A2 s.mag.length c2, .slice B2 s.den.length b2] 57)).alloc (.cells #[.slice A3 n' c3] 52)).alloc (.cells #[.slice none 0 0] 52))))) (g := w.heap.size + 1 + 1) (by simp)
    have S3 := Slots.new (below_step (Below.refl _ (((((w.alloc (.cells #[.bool r.neg, .slice A0 r.mag.length c0, .slice B0 r.den.length b0] 57)).alloc (.cells #[.slice A1 n c1] 52)).alloc (.cells #[.bool s.neg, .slice A2 s.mag.length c2, .slice B2 s.den.length b2] 57)).alloc (.cells #[.slice A3 n' c3] 52)).alloc (.cells #[.slice none 0 0] 52)))) (g := w.heap.size + 1 + 1 + 1) (by simp)
    have S4 := Slots.new (Below.refl _ (((((w.alloc (.cells #[.bool r.neg, .slice A0 r.mag.length c0, .slice B0 r.den.length b0] 57)).alloc (.cells #[.slice A1 n c1] 52)).alloc (.cells #[.bool s.neg, .slice A2 s.mag.length c2, .slice B2 s.den.length b2] 57)).alloc (.cells #[.slice A3 n' c3] 52)).alloc (.cells #[.slice none 0 0] 52))) (g := w.heap.size + 1 + 1 + 1 + 1) (by simp)
    have hb := (((below_alloc3 w (.cells #[.bool r.neg, .slice A0 r.mag.length c0, .slice B0 r.den.length b0] 57) (.cells #[.slice A1 n c1] 52) (.cells #[.bool s.neg, .slice A2 s.mag.length c2, .slice B2 s.den.length b2] 57)).alloc (by simp; omega) (.cells #[.slice A3 n' c3] 52)).alloc (by simp; omega) (.cells #[.slice none 0 0] 52))
    go_enter Tryz.func26, Tryz.ntmps26
    have m1 := S1.c1.1
    go_wp2_with fail
    generalize ((((w.alloc (.cells #[.bool r.neg, .slice A0 r.mag.length c0, .slice B0 r.den.length b0] 57)).alloc (.cells #[.slice A1 n c1] 52)).alloc (.cells #[.bool s.neg, .slice A2 s.mag.length c2, .slice B2 s.den.length b2] 57)).alloc (.cells #[.slice A3 n' c3] 52)).alloc (.cells #[.slice none 0 0] 52) = w0 at *
    refine (HMA.out _ hb).mono ?_
    rintro e w1 ⟨rfl, hb1⟩
    replace S0 := S0.later hb1
    replace S1 := S1.later hb1
    replace S2 := S2.later hb1
    replace S3 := S3.later hb1
    replace S4 := S4.later hb1
    replace hb := below_trans hb hb1
    clear m1 hb1
    have m3 := S3.c1.1
    go_wp2_with fail
    refine (HMB.out _ hb).mono ?_
    rintro e w2 ⟨rfl, hb2⟩
    replace S0 := S0.later hb2
    replace S1 := S1.later hb2
    replace S2 := S2.later hb2
    replace S3 := S3.later hb2
    replace S4 := S4.later hb2
    replace hb := below_trans hb hb2
    clear m3 hb2
    have m1 := S1.c1.1
    have m3 := S3.c1.1
    clear HMA HMB
    obtain ⟨q0, z0⟩ := S4.c1
    have hfin : MPost w (combM r A s B) (.bool (combOk r A s B)) (.returned (.tuple #[.agg #[.slice none 0 0], .bool false])) (w2.setCell ⟨w.heap.size + 1 + 1 + 1 + 1, 0, none⟩ (.slice none 0 0)) := by
      rw [HNO.out.1, HNO.out.2]
      exact ⟨_, rfl, MZ.nil _ _ _, hb.setCell (p := ⟨w.heap.size + 1 + 1 + 1 + 1, 0, none⟩) (show w.heap.size ≤ w.heap.size + 1 + 1 + 1 + 1 by omega) _⟩
    replace hfin := Lib.hid hfin
    clear S0 S1 S2 S3 S4 hb
    go_wp2
    exact bodyPost_ret (v := .tuple #[.agg #[.slice none 0 0], .bool false]) (by simp [results, Tryz.results26, go_sem, q0]) rfl hfin.out
  have hnd : decide ((A.length : Int) = (B.length : Int)) = true := by simp; omega
  rw [hnd] at HN HY
  simp only [Bool.true_and] at HN HY
  rw [← hnn] at HMB HEB ⊢
  clear hnd
  have HAR := fun A W (hv : VI W A [r, s]) => iAreRats [r, s] 2 2 rfl ⟨by simp, fun k hk => by
    match k, hk with
    | 0, _ => exact HF0.out
    | 1, _ => exact HF2.out⟩ A W hv
  have hvr : vok [r, s] = (FE.ratOk r && FE.ratOk s) := by simp [vok]
  rw [hvr] at HAR
  clear hvr
  cases hq : (FE.ratOk r && FE.ratOk s)
  · rw [hq] at HAR HN
    replace HAR := Lib.hid HAR
    have HNO := Lib.hid (HN.out rfl)
    clear HN HY ha hbb HEA HEB hq hnn
    generalize A.length = n at *
    have S0 := Slots.new (below_step (below_step (below_step (below_step (Below.refl _ (((((w.alloc (.cells #[.bool r.neg, .slice A0 r.mag.length c0, .slice B0 r.den.length b0] 57)).alloc (.cells #[.slice A1 n c1] 52)).alloc (.cells #[.bool s.neg, .slice A2 s.mag.length c2, .slice B2 s.den.length b2] 57)).alloc (.cells #[.slice A3 n c3] 52)).alloc (.cells #[.slice none 0 0] 52))))))) (g := w.heap.size) rfl
    have S1 := Slots.new (below_step (below_step (below_step (Below.refl _ (((((w.alloc (.cells #[.bool r.neg, .slice A0 r.mag.length c0, .slice B0 r.den.length b0] 57)).alloc (.cells #[.slice A1 n c1] 52)).alloc (.cells #[.bool s.neg, .slice A2 s.mag.length c2, .slice B2 s.den.length b2] 57)).alloc (.cells #[.slice A3 n c3] 52)).alloc (.cells #[.slice none 0 0] 52)))))) (g := w.heap.size + 1) (by simp)
    have S2 := Slots.new (below_step (below_step (Below.refl _ (((((w.alloc (.cells #[.bool r.neg, .slice A0 r.mag.length c0, .slice B0 r.den.length b0] 57)).alloc (.cells #[.slice A1 n c1] 52)).alloc (.cells #[.bool s.neg, .slice A2 s.mag.length c2, .slice B2 s.den.length b2] 57)).alloc (.cells #[.slice A3 n c3] 52)).alloc (.cells #[.slice none 0 0] 52))))) (g := w.heap.size + 1 + 1) (by simp)
    have S3 := Slots.new (below_step (Below.refl _ (((((w.alloc (.cells #[.bool r.neg, .slice A0 r.mag.length c0, .slice B0 r.den.length b0] 57)).alloc (.cells #[.slice A1 n c1] 52)).alloc (.cells #[.bool s.neg, .slice A2 s.mag.length c2, .slice B2 s.den.length b2] 57)).alloc (.cells #[.slice A3 n c3] 52)).alloc (.cells #[.slice none 0 0] 52)))) (g := w.heap.size + 1 + 1 + 1) (by simp)
    have S4 := Slots.new (Below.refl _ (((((w.alloc (.cells #[.bool r.neg, .slice A0 r.mag.length c0, .slice B0 r.den.length b0] 57)).alloc (.cells #[.slice A1 n c1] 52)).alloc (.cells #[.bool s.neg, .slice A2 s.mag.length c2, .slice B2 s.den.length b2] 57)).alloc (.cells #[.slice A3 n c3] 52)).alloc (.cells #[.slice none 0 0] 52))) (g := w.heap.size + 1 + 1 + 1 + 1) (by simp)
    have hb := (((below_alloc3 w (.cells #[.bool r.neg, .slice A0 r.mag.length c0, .slice B0 r.den.length b0] 57) (.cells #[.slice A1 n c1] 52) (.cells #[.bool s.neg, .slice A2 s.mag.length c2, .slice B2 s.den.length b2] 57)).alloc (by simp; omega) (.cells #[.slice A3 n c3] 52)).alloc (by simp; omega) (.cells #[.slice none 0 0] 52))
    go_enter Tryz.func26, Tryz.ntmps26
    have m1 := S1.c1.1
    go_wp2_with fail
    generalize ((((w.alloc (.cells #[.bool r.neg, .slice A0 r.mag.length c0, .slice B0 r.den.length b0] 57)).alloc (.cells #[.slice A1 n c1] 52)).alloc (.cells #[.bool s.neg, .slice A2 s.mag.length c2, .slice B2 s.den.length b2] 57)).alloc (.cells #[.slice A3 n c3] 52)).alloc (.cells #[.slice none 0 0] 52) = w0 at *
    refine (HMA.out _ hb).mono ?_
    rintro e w1 ⟨rfl, hb1⟩
    replace S0 := S0.later hb1
    replace S1 := S1.later hb1
    replace S2 := S2.later hb1
    replace S3 := S3.later hb1
    replace S4 := S4.later hb1
    replace hb := below_trans hb hb1
    clear m1 hb1
    have m3 := S3.c1.1
    go_wp2_with fail
    refine (HMB.out _ hb).mono ?_
    rintro e w2 ⟨rfl, hb2⟩
    replace S0 := S0.later hb2
    replace S1 := S1.later hb2
    replace S2 := S2.later hb2
    replace S3 := S3.later hb2
    replace S4 := S4.later hb2
    replace hb := below_trans hb hb2
    clear m3 hb2
    have r0 := S0.c3.1
    have r1 := S0.c3.2.1
    have r2 := S0.c3.2.2.1
    have r3 := S2.c3.1
    have r4 := S2.c3.2.1
    have r5 := S2.c3.2.2.1
    have m1 := S1.c1.1
    have m3 := S3.c1.1
    have HVI := Lib.hid (two_rats (HR0.out.later hb) (HR2.out.later hb))
    have al := below_alloc1 w2 (.cells #[.bool r.neg, .slice A0 r.mag.length c0, .slice B0 r.den.length b0, .bool s.neg, .slice A2 s.mag.length c2, .slice B2 s.den.length b2] 57)
    replace S0 := S0.later al
    replace S1 := S1.later al
    replace S2 := S2.later al
    replace S3 := S3.later al
    replace S4 := S4.later al
    replace hb := below_trans hb al
    clear al
    go_wp2_with fail
    clear r0 r1 r2 r3 r4 r5 m1 m3
    generalize w2.alloc (.cells #[.bool r.neg, .slice A0 r.mag.length c0, .slice B0 r.den.length b0, .bool s.neg, .slice A2 s.mag.length c2, .slice B2 s.den.length b2] 57) = w3 at *
    refine (HAR.out _ _ HVI.out).mono ?_
    rintro e w4 ⟨rfl, hb4⟩
    replace S0 := S0.later hb4
    replace S1 := S1.later hb4
    replace S2 := S2.later hb4
    replace S3 := S3.later hb4
    replace S4 := S4.later hb4
    replace hb := below_trans hb hb4
    clear hb4 HVI
    obtain ⟨q0, z0⟩ := S4.c1
    have hfin : MPost w (combM r A s B) (.bool (combOk r A s B)) (.returned (.tuple #[.agg #[.slice none 0 0], .bool false])) (w4.setCell ⟨w.heap.size + 1 + 1 + 1 + 1, 0, none⟩ (.slice none 0 0)) := by
      rw [HNO.out.1, HNO.out.2]
      exact ⟨_, rfl, MZ.nil _ _ _, hb.setCell (p := ⟨w.heap.size + 1 + 1 + 1 + 1, 0, none⟩) (show w.heap.size ≤ w.heap.size + 1 + 1 + 1 + 1 by omega) _⟩
    replace hfin := Lib.hid hfin
    clear S0 S1 S2 S3 S4 hb
    go_wp2
    exact bodyPost_ret (v := .tuple #[.agg #[.slice none 0 0], .bool false]) (by simp [results, Tryz.results26, go_sem, q0]) rfl hfin.out
  rw [hq] at HAR HY
  replace HAR := Lib.hid HAR
  replace HY := Lib.hid (HY.out rfl)
  replace HEA := Lib.hid (HEA ha)
  replace HEB := Lib.hid (HEB hbb)
  clear HN hq ha hbb
  have HNN := Lib.hid hnn
  have HZ := Lib.hid (fun W => iZeros A.length hA40 W)
  have HEQ := Lib.hid (show combL r A s B = fullL A.length (combE r A s B) from rfl)
  have HEE := Lib.hid (show ∀ i j : Nat, combE r A s B i j = FE.radd (FE.rmul r (rowAt (A.getD i zRow) j)) (FE.rmul s (rowAt (B.getD i zRow) j)) from fun i j => rfl)
  have HER := Lib.hid (combE_res r A s B)
  have hE : ∃ E, combE r A s B = E := ⟨_, rfl⟩
  obtain ⟨E, hE⟩ := hE
  rw [hE] at HEQ HEE HER
  clear hE hnn
  have HAL := Lib.hid (rfl : A.length = A.length)
  generalize hAn : A.length = n at *
  have HLA := Lib.hid hAn
  clear hAn HAL
  have S0 := Slots.new (below_step (below_step (below_step (below_step (Below.refl _ (((((w.alloc (.cells #[.bool r.neg, .slice A0 r.mag.length c0, .slice B0 r.den.length b0] 57)).alloc (.cells #[.slice A1 n c1] 52)).alloc (.cells #[.bool s.neg, .slice A2 s.mag.length c2, .slice B2 s.den.length b2] 57)).alloc (.cells #[.slice A3 n c3] 52)).alloc (.cells #[.slice none 0 0] 52))))))) (g := w.heap.size) rfl
  have S1 := Slots.new (below_step (below_step (below_step (Below.refl _ (((((w.alloc (.cells #[.bool r.neg, .slice A0 r.mag.length c0, .slice B0 r.den.length b0] 57)).alloc (.cells #[.slice A1 n c1] 52)).alloc (.cells #[.bool s.neg, .slice A2 s.mag.length c2, .slice B2 s.den.length b2] 57)).alloc (.cells #[.slice A3 n c3] 52)).alloc (.cells #[.slice none 0 0] 52)))))) (g := w.heap.size + 1) (by simp)
  have S2 := Slots.new (below_step (below_step (Below.refl _ (((((w.alloc (.cells #[.bool r.neg, .slice A0 r.mag.length c0, .slice B0 r.den.length b0] 57)).alloc (.cells #[.slice A1 n c1] 52)).alloc (.cells #[.bool s.neg, .slice A2 s.mag.length c2, .slice B2 s.den.length b2] 57)).alloc (.cells #[.slice A3 n c3] 52)).alloc (.cells #[.slice none 0 0] 52))))) (g := w.heap.size + 1 + 1) (by simp)
  have S3 := Slots.new (below_step (Below.refl _ (((((w.alloc (.cells #[.bool r.neg, .slice A0 r.mag.length c0, .slice B0 r.den.length b0] 57)).alloc (.cells #[.slice A1 n c1] 52)).alloc (.cells #[.bool s.neg, .slice A2 s.mag.length c2, .slice B2 s.den.length b2] 57)).alloc (.cells #[.slice A3 n c3] 52)).alloc (.cells #[.slice none 0 0] 52)))) (g := w.heap.size + 1 + 1 + 1) (by simp)
  have S4 := Slots.new (Below.refl _ (((((w.alloc (.cells #[.bool r.neg, .slice A0 r.mag.length c0, .slice B0 r.den.length b0] 57)).alloc (.cells #[.slice A1 n c1] 52)).alloc (.cells #[.bool s.neg, .slice A2 s.mag.length c2, .slice B2 s.den.length b2] 57)).alloc (.cells #[.slice A3 n c3] 52)).alloc (.cells #[.slice none 0 0] 52))) (g := w.heap.size + 1 + 1 + 1 + 1) (by simp)
  have hb := (((below_alloc3 w (.cells #[.bool r.neg, .slice A0 r.mag.length c0, .slice B0 r.den.length b0] 57) (.cells #[.slice A1 n c1] 52) (.cells #[.bool s.neg, .slice A2 s.mag.length c2, .slice B2 s.den.length b2] 57)).alloc (by simp; omega) (.cells #[.slice A3 n c3] 52)).alloc (by simp; omega) (.cells #[.slice none 0 0] 52))
  go_enter Tryz.func26, Tryz.ntmps26
  have m1 := S1.c1.1
  go_wp2_with fail
  generalize ((((w.alloc (.cells #[.bool r.neg, .slice A0 r.mag.length c0, .slice B0 r.den.length b0] 57)).alloc (.cells #[.slice A1 n c1] 52)).alloc (.cells #[.bool s.neg, .slice A2 s.mag.length c2, .slice B2 s.den.length b2] 57)).alloc (.cells #[.slice A3 n c3] 52)).alloc (.cells #[.slice none 0 0] 52) = w0 at *
  refine (HMA.out _ hb).mono ?_
  rintro e w1 ⟨rfl, hb1⟩
  replace S0 := S0.later hb1
  replace S1 := S1.later hb1
  replace S2 := S2.later hb1
  replace S3 := S3.later hb1
  replace S4 := S4.later hb1
  replace hb := below_trans hb hb1
  clear m1 hb1
  have m3 := S3.c1.1
  go_wp2_with fail
  refine (HMB.out _ hb).mono ?_
  rintro e w2 ⟨rfl, hb2⟩
  replace S0 := S0.later hb2
  replace S1 := S1.later hb2
  replace S2 := S2.later hb2
  replace S3 := S3.later hb2
  replace S4 := S4.later hb2
  replace hb := below_trans hb hb2
  clear m3 hb2
  have r0 := S0.c3.1
  have r1 := S0.c3.2.1
  have r2 := S0.c3.2.2.1
  have r3 := S2.c3.1
  have r4 := S2.c3.2.1
  have r5 := S2.c3.2.2.1
  have m1 := S1.c1.1
  have m3 := S3.c1.1
  have HVI := Lib.hid (two_rats (HR0.out.later hb) (HR2.out.later hb))
  have al := below_alloc1 w2 (.cells #[.bool r.neg, .slice A0 r.mag.length c0, .slice B0 r.den.length b0, .bool s.neg, .slice A2 s.mag.length c2, .slice B2 s.den.length b2] 57)
  replace S0 := S0.later al
  replace S1 := S1.later al
  replace S2 := S2.later al
  replace S3 := S3.later al
  replace S4 := S4.later al
  replace hb := below_trans hb al
  clear al
  go_wp2_with fail
  clear r0 r1 r2 r3 r4 r5 m1 m3
  generalize w2.alloc (.cells #[.bool r.neg, .slice A0 r.mag.length c0, .slice B0 r.den.length b0, .bool s.neg, .slice A2 s.mag.length c2, .slice B2 s.den.length b2] 57) = w3 at *
  refine (HAR.out _ _ HVI.out).mono ?_
  rintro e w4 ⟨rfl, hb4⟩
  replace S0 := S0.later hb4
  replace S1 := S1.later hb4
  replace S2 := S2.later hb4
  replace S3 := S3.later hb4
  replace S4 := S4.later hb4
  replace hb := below_trans hb hb4
  clear hb4 HVI
  have m1 := S1.c1.1
  go_wp2_with fail
  clear m1
  refine (HZ.out _).mono ?_
  rintro e w5 ⟨v5, vs, rfl, hls, hb5⟩
  obtain ⟨A5, c5, rfl, _⟩ := hls.form
  rw [List.length_replicate] at hls ⊢
  rw [rep_full] at hls
  have hlsz := S4.1
  replace S0 := S0.later hb5
  replace S1 := S1.later hb5
  replace S2 := S2.later hb5
  replace S3 := S3.later hb5
  replace S4 := S4.later hb5
  replace hb := below_trans hb hb5
  obtain ⟨lo, hlo⟩ : ∃ lo, w4.heap.size = lo := ⟨_, rfl⟩
  have hlo5 := hb5.size
  rw [hlo] at hls hlsz hlo5
  clear hlo hb5
  have hls0 : LS w5 lo w5.heap.size (.slice A5 n c5) vs (mixL n (fun _ _ => FE.rint 0) E 0 0) := by rw [mixL_zero]; exact hls
  clear hls
  go_wp2_with fail
  go_loopw [44] (fun z wr => ∃ i : Nat, i ≤ n ∧ z = .int .i64 i ∧ Below lo w5 wr ∧ LS wr lo wr.heap.size (.slice A5 n c5) vs (mixL n (fun _ _ => FE.rint 0) E i 0)) (fun z _ => n - (intOf z).toNat)
  case atStart => exact ⟨0, Nat.zero_le _, rfl, Below.refl _ _, hls0⟩
  case round =>
    clear hls0
    obtain ⟨i, hi, rfl, hbw, hls⟩ := hrel
    have hww := hb.trans (hbw.mono (by omega))
    by_cases hin : i = n
    · have hlf : ¬ (i < n) := by omega
      rw [hin, mixL_all] at hls
      have HSP := Lib.hid (fun A c W (hF : FI W A (fullL n E)) => iSparse (fullL n E) n c A W (fullL_len n E) hF (few_full hA40 (fun p q _ _ => HER.out p q)) (full_res (fun p q _ _ => HER.out p q)))
      have HF := Lib.hid hls.reads
      have S4w := S4.below hbw (show w.heap.size + 1 + 1 + 1 + 1 < lo by omega)
      have HYO : combM r A s B = spR (fullL n E) ∧ combOk r A s B = spOk (fullL n E) := by rw [← HEQ.out]; exact HY.out
      have HYY := Lib.hid HYO
      clear hls HYO HY
      generalize fullL n E = XL at *
      generalize spOk XL = OKB at *
      generalize spR XL = RX at *
      go_wp2_with fail
      refine (HSP.out _ _ _ HF.out).mono ?_
      intro e8 w8 hp
      obtain ⟨v8, rfl, hmz, hb8⟩ := hp
      obtain ⟨A8', c8', rfl⟩ := hmz.form
      obtain ⟨q0, z0⟩ := (S4w.later hb8).c1
      have hb9 := below_trans hww hb8
      have hfin : MPost w (combM r A s B) (.bool (combOk r A s B)) (.returned (.tuple #[.agg #[.slice A8' RX.length c8'], .bool OKB])) (w8.setCell ⟨w.heap.size + 1 + 1 + 1 + 1, 0, none⟩ (.slice A8' RX.length c8')) := by
        rw [HYY.out.1, HYY.out.2]
        have hbs := hbw.size
        exact ⟨_, rfl, (hmz.frame (frame1 (g := w.heap.size + 1 + 1 + 1 + 1) (o := 0) (.slice A8' RX.length c8')) (fun b h1 _ e => by omega)).wide (by omega) (by simp), hb9.setCell (p := ⟨w.heap.size + 1 + 1 + 1 + 1, 0, none⟩) (show w.heap.size ≤ w.heap.size + 1 + 1 + 1 + 1 by omega) _⟩
      replace hfin := Lib.hid hfin
      clear hmz hb8 hb9 S4w S0 S1 S2 S3 S4 hb
      go_wp2
      exact bodyPost_ret (v := .tuple #[.agg #[.slice A8' RX.length c8'], .bool OKB]) (by simp [results, Tryz.results26, go_sem, q0]) rfl hfin.out
    · have hltn : (i : Int) < (n : Int) := by omega
      have hls1 := hls
      clear hls
      go_wp2_with fail
      generalize wr = wq at *
      go_loopw [49] (fun z wp => ∃ j : Nat, j ≤ n ∧ z = .int .i64 j ∧ Below lo w5 wp ∧ LS wp lo wp.heap.size (.slice A5 n c5) vs (mixL n (fun _ _ => FE.rint 0) E i j)) (fun z _ => n - (intOf z).toNat)
      case atStart => exact ⟨0, Nat.zero_le _, rfl, hbw, hls1⟩
      case round =>
        clear hls1 hbw hww
        obtain ⟨j, hj, rfl, hbw, hls⟩ := hrel
        by_cases hjn : j = n
        · have hlf : ¬ (j < n) := by omega
          have hls2 := hls
          rw [hjn, mixL_row] at hls2
          clear hls
          go_wp2
          go_roundw
          case rel => exact ⟨i + 1, by omega, rfl, hbw, hls2⟩
          case measure => simp [intOf]; omega
        · have hjlt : (j : Int) < (n : Int) := by omega
          have hin : i < n := by omega
          have hwwb := hb.trans (hbw.mono (by omega))
          have hwwd : Below w.heap.size w wr.drew := ⟨hwwb.os, hwwb.tape, hwwb.output, hwwb.size, hwwb.block⟩
          have HNX := Lib.hid (mixL_next (Z := (fun _ _ => FE.rint 0)) (E := E) hin (show j < n by omega))
          have HGT := Lib.hid (mixL_get (Z := (fun _ _ => FE.rint 0)) (E := E) hin (show j < n by omega))
          have HML := Lib.hid (mixL_len n (fun _ _ => FE.rint 0) E i j)
          have HMR := Lib.hid (mixL_row_len (n := n) (Z := (fun _ _ => FE.rint 0)) (E := E) (i := i) (j := j) hin)
          have HEij := Lib.hid (HEE.out i j)
          generalize mixL n (fun _ _ => FE.rint 0) E i j = X at *
          obtain ⟨g, gi, ci, eA, hg1, hg2, row0, hvi, hgi1, hgi2, hggi, hfz, hvx⟩ := hls.pick i (by rw [HML.out]; omega) j (by rw [HMR.out]; omega)
          subst eA
          rw [HMR.out] at row0 hvi hvx
          obtain ⟨A6, c6, B6, d6, r6, v6⟩ := hvx.at j (by rw [HMR.out]; omega)
          rw [HGT.out] at r6 v6
          obtain ⟨a0, a1, a2, _, _, _⟩ := (S0.below hbw (show w.heap.size < lo by omega)).c3
          obtain ⟨e0, e1, e2, _, _, _⟩ := (S2.below hbw (show w.heap.size + 1 + 1 < lo by omega)).c3
          have m1 := (S1.below hbw (show w.heap.size + 1 < lo by omega)).c1.1
          have m3 := (S3.below hbw (show w.heap.size + 1 + 1 + 1 < lo by omega)).c1.1
          have hlob := Nat.le_trans hlo5 hbw.size
          have hwd : Below wr.heap.size wr wr.drew := ⟨rfl, rfl, rfl, Nat.le_refl _, fun _ _ => rfl⟩
          have hwdl : Below lo wr wr.drew := ⟨rfl, rfl, rfl, Nat.le_refl _, fun _ _ => rfl⟩
          have fA := rowAt_few (HFEWA.out i hin) (j : Int)
          have fB := rowAt_few (HFEWB.out i (by rw [← HNN.out]; exact hin)) (j : Int)
          obtain ⟨yA, hyA⟩ : ∃ y, rowAt (A.getD i zRow) (j : Nat) = y := ⟨_, rfl⟩
          obtain ⟨yB, hyB⟩ : ∃ y, rowAt (B.getD i zRow) (j : Nat) = y := ⟨_, rfl⟩
          have HEAi := fun W hW hi => HEA.out W hW i hi j
          have HEBi := fun W hW hi => HEB.out W hW i hi j
          rw [hyA] at HEij fA HEAi
          rw [hyB] at HEij fB HEBi
          replace HEAi := Lib.hid HEAi
          replace HEBi := Lib.hid HEBi
          have KM1 := Lib.hid (fun W (hW : Below w.heap.size w W) v (hv : RatV W v yA) => iRatMul r yA _ v W (HR0.out.later hW) hv HF0.out fA)
          have KM2 := Lib.hid (fun W (hW : Below w.heap.size w W) v (hv : RatV W v yB) => iRatMul s yB _ v W (HR2.out.later hW) hv HF2.out fB)
          have KD := fun u v W (hu : RatV W u (FE.rmul r yA)) (hv : RatV W v (FE.rmul s yB)) => iRatAdd (FE.rmul r yA) (FE.rmul s yB) u v W hu hv (res_few (FE.rmul_res _ _)) (res_few (FE.rmul_res _ _))
          rw [← HEij.out] at KD
          replace KD := Lib.hid KD
          obtain ⟨Y, hYY⟩ : ∃ Y, E i j = Y := ⟨_, rfl⟩
          rw [hYY] at KD HNX
          clear HEij hYY hyA hyB fA fB hvx v6 HGT
          go_wp2_with fail
          generalize wr = wb at *
          generalize FE.rmul r yA = MA at *
          generalize FE.rmul s yB = MB at *
          refine wp_region_held_drew (S := fun W => Below lo wb W ∧ World.cell? W ⟨g, i, none⟩ = some (.slice (some ⟨gi, 0, none⟩) n ci)) (by kernel_rfl) ⟨hwdl, row0⟩ (fun hHeld => ?_)
          refine qL (i := 0) (v := ?_) rfl (by kernel_rfl) (fun _ _ _ h => h) (by assumption) (by rfl) (fun W _ => ?_) ?_
          rotate_left
          · go_simp
            try with_reducible rfl
          try simp only [Act.put, List.setIfInBounds_toArray]
          refine qL (i := 1) (v := ?_) rfl (by kernel_rfl) (fun _ _ _ h => h) (by assumption) (by rfl) (fun W _ => ?_) ?_
          rotate_left
          · go_simp
            try with_reducible rfl
          try simp only [Act.put]
          refine qL (i := 2) (v := ?_) rfl (by kernel_rfl) (fun _ _ _ h => h) (by assumption) (by rfl) (fun W _ => ?_) ?_
          rotate_left
          · go_simp
            try with_reducible rfl
          try simp only [Act.put]
          refine qL (i := 3) (v := ?_) rfl (by kernel_rfl) (fun _ _ _ h => h) (by assumption) (by rfl) (fun W hSw => ?_) ?_
          rotate_left
          · have row := (And.right hSw)
            go_simp
            try with_reducible rfl
          try simp only [Act.put]
          refine qL (i := 4) (v := ?_) rfl (by kernel_rfl) (fun _ _ _ h => h) (by assumption) (by rfl) (fun W _ => ?_) ?_
          rotate_left
          · go_simp
            try with_reducible rfl
          try simp only [Act.put]
          refine qL (i := 5) (v := ?_) rfl (by kernel_rfl) (fun _ _ _ h => h) (by assumption) (by rfl) (fun W hSw => ?_) ?_
          rotate_left
          · have fr0 := (Below.cell (And.left hSw) (p := ⟨w.heap.size, 0, none⟩) (show w.heap.size < lo by omega)).trans a0
            have fr1 := (Below.cell (And.left hSw) (p := ⟨w.heap.size, 1, none⟩) (show w.heap.size < lo by omega)).trans a1
            have fr2 := (Below.cell (And.left hSw) (p := ⟨w.heap.size, 2, none⟩) (show w.heap.size < lo by omega)).trans a2
            go_simp
            try with_reducible rfl
          try simp only [Act.put]
          refine qL (i := 6) (v := ?_) rfl (by kernel_rfl) (fun _ _ _ h => h) (by assumption) (by rfl) (fun W hSw => ?_) ?_
          rotate_left
          · have fA := (Below.cell (And.left hSw) (p := ⟨w.heap.size + 1, 0, none⟩) (show w.heap.size + 1 < lo by omega)).trans m1
            go_simp
            try with_reducible rfl
          try simp only [Act.put]
          refine qL (i := 7) (v := ?_) rfl (by kernel_rfl) (fun _ _ _ h => h) (by assumption) (by rfl) (fun W _ => ?_) ?_
          rotate_left
          · go_simp
            try with_reducible rfl
          try simp only [Act.put]
          refine qL (i := 8) (v := ?_) rfl (by kernel_rfl) (fun _ _ _ h => h) (by assumption) (by rfl) (fun W _ => ?_) ?_
          rotate_left
          · go_simp
            try with_reducible rfl
          try simp only [Act.put]
          refine qL (i := 11) (v := ?_) rfl (by kernel_rfl) (fun _ _ _ h => h) (by assumption) (by rfl) (fun W hSw => ?_) ?_
          rotate_left
          · have fs0 := (Below.cell (And.left hSw) (p := ⟨w.heap.size + 1 + 1, 0, none⟩) (show w.heap.size + 1 + 1 < lo by omega)).trans e0
            have fs1 := (Below.cell (And.left hSw) (p := ⟨w.heap.size + 1 + 1, 1, none⟩) (show w.heap.size + 1 + 1 < lo by omega)).trans e1
            have fs2 := (Below.cell (And.left hSw) (p := ⟨w.heap.size + 1 + 1, 2, none⟩) (show w.heap.size + 1 + 1 < lo by omega)).trans e2
            go_simp
            try with_reducible rfl
          try simp only [Act.put]
          refine qL (i := 12) (v := ?_) rfl (by kernel_rfl) (fun _ _ _ h => h) (by assumption) (by rfl) (fun W hSw => ?_) ?_
          rotate_left
          · have fB := (Below.cell (And.left hSw) (p := ⟨w.heap.size + 1 + 1 + 1, 0, none⟩) (show w.heap.size + 1 + 1 + 1 < lo by omega)).trans m3
            go_simp
            try with_reducible rfl
          try simp only [Act.put]
          refine qL (i := 13) (v := ?_) rfl (by kernel_rfl) (fun _ _ _ h => h) (by assumption) (by rfl) (fun W _ => ?_) ?_
          rotate_left
          · go_simp
            try with_reducible rfl
          try simp only [Act.put]
          refine qL (i := 14) (v := ?_) rfl (by kernel_rfl) (fun _ _ _ h => h) (by assumption) (by rfl) (fun W _ => ?_) ?_
          rotate_left
          · go_simp
            try with_reducible rfl
          try simp only [Act.put]
          refine qR (i := 9) (by kernel_rfl) rfl (fun K hK => ?_)
          simp only [List.getElem_toArray, List.getElem_cons_succ, List.getElem_cons_zero]
          go_simp
          (go_at_call 91; (with_reducible refine (HEAi.out _ (by first | exact hwwd | exact hwwb) hin).mono ?_); rintro e11 w11 ⟨v11, rfl, hv11, hb11⟩)
          try (go_wp2_with fail)
          have hw11 : Below wb.heap.size wb w11 := ⟨hb11.os, hb11.tape, hb11.output, hb11.size, hb11.block⟩
          have hz11 := hw11.size
          have hB11 := hw11.mono hlob
          have row11 := cell_later hg2 row0 hw11
          refine hK.out _ _ ⟨hB11, row11⟩ (fun h2 => ?_)
          clear hK K hHeld
          have hHeld := h2
          clear h2
          try simp only [Act.put, List.setIfInBounds_toArray, List.set_cons_zero, List.set_cons_succ]
          refine qR (i := 10) (by kernel_rfl) rfl (fun K hK => ?_)
          simp only [List.getElem_toArray, List.getElem_cons_succ, List.getElem_cons_zero]
          go_simp
          (go_at_call 45; (with_reducible refine (KM1.out _ (below_trans hwwb hw11) _ hv11).mono ?_); rintro e12 w12 ⟨v12, rfl, hv12, hb12⟩)
          try (go_wp2_with fail)
          have hw12 := below_trans hw11 hb12
          have hz12 := hw12.size
          have hB12 := hw12.mono hlob
          have row12 := cell_later hg2 row0 hw12
          refine hK.out _ _ ⟨hB12, row12⟩ (fun h2 => ?_)
          clear hK K hHeld
          have hHeld := h2
          clear h2
          try simp only [Act.put, List.setIfInBounds_toArray, List.set_cons_zero, List.set_cons_succ]
          refine qR (i := 15) (by kernel_rfl) rfl (fun K hK => ?_)
          simp only [List.getElem_toArray, List.getElem_cons_succ, List.getElem_cons_zero]
          go_simp
          (go_at_call 91; (with_reducible refine (HEBi.out _ (below_trans hwwb hw12) hin).mono ?_); rintro e13 w13 ⟨v13, rfl, hv13, hb13⟩)
          try (go_wp2_with fail)
          have hw13 := below_trans hw12 hb13
          have hz13 := hw13.size
          have hB13 := hw13.mono hlob
          have row13 := cell_later hg2 row0 hw13
          refine hK.out _ _ ⟨hB13, row13⟩ (fun h2 => ?_)
          clear hK K hHeld
          have hHeld := h2
          clear h2
          try simp only [Act.put, List.setIfInBounds_toArray, List.set_cons_zero, List.set_cons_succ]
          refine qR (i := 16) (by kernel_rfl) rfl (fun K hK => ?_)
          simp only [List.getElem_toArray, List.getElem_cons_succ, List.getElem_cons_zero]
          go_simp
          (go_at_call 45; (with_reducible refine (KM2.out _ (below_trans hwwb hw13) _ hv13).mono ?_); rintro e14 w14 ⟨v14, rfl, hv14, hb14⟩)
          try (go_wp2_with fail)
          have hw14 := below_trans hw13 hb14
          have hz14 := hw14.size
          have hB14 := hw14.mono hlob
          have row14 := cell_later hg2 row0 hw14
          replace hb14 := below_trans hb13 hb14
          refine hK.out _ _ ⟨hB14, row14⟩ (fun h2 => ?_)
          clear hK K hHeld
          have hHeld := h2
          clear h2
          try simp only [Act.put, List.setIfInBounds_toArray, List.set_cons_zero, List.set_cons_succ]
          refine qR (i := 17) (by kernel_rfl) rfl (fun K hK => ?_)
          simp only [List.getElem_toArray, List.getElem_cons_succ, List.getElem_cons_zero]
          go_simp
          (go_at_call 46; (with_reducible refine (KD.out _ _ _ (hv12.later hb14).reads hv14.reads).mono ?_); rintro e15 w15 ⟨v15, rfl, hp15, hb15⟩)
          try (go_wp2_with fail)
          have hw15 := below_trans hw14 hb15
          have hz15 := hw15.size
          have hB15 := hw15.mono hlob
          have row15 := cell_later hg2 row0 hw15
          obtain ⟨A9, n9, c9, B9, m9, d9, rfl⟩ := hp15.shape
          refine hK.out _ _ ⟨hB15, row15⟩ (fun h2 => ?_)
          clear hK K hHeld
          have hHeld := h2
          clear h2
          try simp only [Act.put, List.setIfInBounds_toArray, List.set_cons_zero, List.set_cons_succ]
          refine qL (i := 18) (v := ?_) rfl (by kernel_rfl) (fun _ _ _ h => h) (by assumption) (by rfl) (fun W _ => ?_) ?_
          rotate_left
          · go_simp
            try with_reducible rfl
          try simp only [Act.put, List.setIfInBounds_toArray]
          refine qR (i := 19) (by kernel_rfl) rfl (fun K hK => ?_)
          simp only [List.getElem_toArray, List.getElem_cons_succ, List.getElem_cons_zero]
          have r69 := r6.later hw15
          have t0 := r69.1
          have t1 := r69.2.1
          have t2 := r69.2.2
          have z0 := (hw15.frozen (p := ⟨gi, j * 3, none⟩) hgi2).trans (hfz (j * 3))
          have z1 := (hw15.frozen (p := ⟨gi, j * 3 + 1, none⟩) hgi2).trans (hfz (j * 3 + 1))
          have z2 := (hw15.frozen (p := ⟨gi, j * 3 + 2, none⟩) hgi2).trans (hfz (j * 3 + 2))
          go_simp
          refine hK.out _ _ ⟨below_set3 hB15 hgi1 _ _ _, ((set3_frame w15 gi (j * 3) _ _ _).cell (by omega) (fun e => hggi e)).trans row15⟩ (fun h2 => ?_)
          clear hK K hHeld
          have hHeld := h2
          clear h2
          try simp only [Act.put, List.setIfInBounds_toArray, List.set_cons_zero, List.set_cons_succ]
          refine wpAnyH_done (by kernel_rfl) ?_ _
          clear hHeld
          have hl9 := (hls.later hw15).put (i := i) (j := j) (by rw [HML.out]; omega) (by rw [hvi]) (by rw [HMR.out]; omega) hp15 (by omega) (by omega) hz15
          rw [HNX.out] at hl9
          have hsz : (set3 w15 gi (j * 3) (.bool Y.neg) (.slice A9 n9 c9) (.slice B9 m9 d9)).heap.size = w15.heap.size := by simp [set3]
          have hl10 := hl9.wide (Nat.le_refl lo) (Nat.le_of_eq hsz.symm)
          have hbr := hbw.trans (below_set3 hB15 hgi1 (o := j * 3) (.bool Y.neg) (.slice A9 n9 c9) (.slice B9 m9 d9))
          clear t0 t1 t2 z0 z1 z2 r6 hp15 hls hl9 a0 a1 a2 e0 e1 e2 row0
          go_wp2
          go_roundw
          case rel => exact ⟨j + 1, by omega, rfl, hbr, hl10⟩
          case measure => simp [intOf]; omega
set_option maxRecDepth 100000 in
set_option maxHeartbeats 6400000 in
theorem sCombineMatrices (r : RatD) (A : List RowD) (s : RatD) (B : List RowD) (u0 u1 u2 u3 : Value) (w : World) (h0 : RatV w u0 r) (h1 : MatV w u1 A) (h2 : RatV w u2 s) (h3 : MatV w u3 B) (f0 : RFew r) (f1 : MFew A) (f2 : RFew s) (f3 : MFew B) :
    Calls Tryz.prog 23 #[u0, u1, u2, u3] w (MPost w (combM r A s B) (.bool (combOk r A s B))) := by
  have HMA := fun W (hW : Below w.heap.size w W) => sIsMatrix A u1 W (h1.later hW) f1
  have HMB := fun W (hW : Below w.heap.size w W) => sIsMatrix B u3 W (h3.later hW) f3
  have HOR := fun W (hW : Below w.heap.size w W) => sRatOk r u0 W (h0.later hW) f0.1 f0.2
  have HOS := fun W (hW : Below w.heap.size w W) => sRatOk s u2 W (h2.later hW) f2.1 f2.2
  have HFA := fun (hq : mOk A = true) W (hW : Below w.heap.size w W) => sFull14 A u1 W (h1.later hW) f1 hq
  have HFB := fun (hq : mOk B = true) W (hW : Below w.heap.size w W) => sFull14 B u3 W (h3.later hW) f3 hq
  have HN := Lib.hid (fun h => comb_no (r := r) (A := A) (s := s) (B := B) h)
  have HY := Lib.hid (fun h => comb_yes (r := r) (A := A) (s := s) (B := B) h)
  have hin : combIn r A s B = (mOk A && (mOk B && (decide ((A.length : Int) = (B.length : Int)) && (FE.ratOk r && FE.ratOk s)))) := rfl
  rw [hin] at HN HY
  have HFEWA := Lib.hid f1.2
  have HFEWB := Lib.hid f3.2
  have hA40 := f1.1
  have hB40 := f3.1
  have HR0 := Lib.hid h0
  have HR2 := Lib.hid h2
  have HF0 := Lib.hid f0
  have HF2 := Lib.hid f2
  obtain ⟨A0, c0, B0, b0, rfl, _, _, _⟩ := h0
  obtain ⟨A2, c2, B2, b2, rfl, _, _, _⟩ := h2
  obtain ⟨A1, c1, rfl, _, _⟩ := h1
  obtain ⟨A3, c3, rfl, _, _⟩ := h3
  clear f0 f1 f2 f3 hin
  cases ha : mOk A
  · rw [ha] at HMA HN
    replace HMA := Lib.hid HMA
    have HNO := Lib.hid (HN.out (by simp))
    clear HN HY HMB ha HOR HOS HFA HFB
    generalize A.length = n at *
    generalize B.length = n' at *
    have S0 := Slots.new (below_step (below_step (below_step (below_step (Below.refl _ (((((w.alloc (.cells #[.bool r.neg, .slice A0 r.mag.length c0, .slice B0 r.den.length b0] 57)).alloc (.cells #[.slice A1 n c1] 52)).alloc (.cells #[.bool s.neg, .slice A2 s.mag.length c2, .slice B2 s.den.length b2] 57)).alloc (.cells #[.slice A3 n' c3] 52)).alloc (.cells #[.slice none 0 0] 52))))))) (g := w.heap.size) rfl
    have S1 := Slots.new (below_step (below_step (below_step (Below.refl _ (((((w.alloc (.cells #[.bool r.neg, .slice A0 r.mag.length c0, .slice B0 r.den.length b0] 57)).alloc (.cells #[.slice A1 n c1] 52)).alloc (.cells #[.bool s.neg, .slice A2 s.mag.length c2, .slice B2 s.den.length b2] 57)).alloc (.cells #[.slice A3 n' c3] 52)).alloc (.cells #[.slice none 0 0] 52)))))) (g := w.heap.size + 1) (by simp)
    have S2 := Slots.new (below_step (below_step (Below.refl _ (((((w.alloc (.cells #[.bool r.neg, .slice A0 r.mag.length c0, .slice B0 r.den.length b0] 57)).alloc (.cells #[.slice A1 n c1] 52)).alloc (.cells #[.bool s.neg, .slice A2 s.mag.length c2, .slice B2 s.den.length b2] 57)).alloc (.cells #[.slice A3 n' c3] 52)).alloc (.cells #[.slice none 0 0] 52))))) (g := w.heap.size + 1 + 1) (by simp)
    have S3 := Slots.new (below_step (Below.refl _ (((((w.alloc (.cells #[.bool r.neg, .slice A0 r.mag.length c0, .slice B0 r.den.length b0] 57)).alloc (.cells #[.slice A1 n c1] 52)).alloc (.cells #[.bool s.neg, .slice A2 s.mag.length c2, .slice B2 s.den.length b2] 57)).alloc (.cells #[.slice A3 n' c3] 52)).alloc (.cells #[.slice none 0 0] 52)))) (g := w.heap.size + 1 + 1 + 1) (by simp)
    have S4 := Slots.new (Below.refl _ (((((w.alloc (.cells #[.bool r.neg, .slice A0 r.mag.length c0, .slice B0 r.den.length b0] 57)).alloc (.cells #[.slice A1 n c1] 52)).alloc (.cells #[.bool s.neg, .slice A2 s.mag.length c2, .slice B2 s.den.length b2] 57)).alloc (.cells #[.slice A3 n' c3] 52)).alloc (.cells #[.slice none 0 0] 52))) (g := w.heap.size + 1 + 1 + 1 + 1) (by simp)
    have hb := (((below_alloc3 w (.cells #[.bool r.neg, .slice A0 r.mag.length c0, .slice B0 r.den.length b0] 57) (.cells #[.slice A1 n c1] 52) (.cells #[.bool s.neg, .slice A2 s.mag.length c2, .slice B2 s.den.length b2] 57)).alloc (by simp; omega) (.cells #[.slice A3 n' c3] 52)).alloc (by simp; omega) (.cells #[.slice none 0 0] 52))
    go_enter Tryz.func23, Tryz.ntmps23
    have m1 := S1.c1.1
    go_wp2_with fail
    generalize ((((w.alloc (.cells #[.bool r.neg, .slice A0 r.mag.length c0, .slice B0 r.den.length b0] 57)).alloc (.cells #[.slice A1 n c1] 52)).alloc (.cells #[.bool s.neg, .slice A2 s.mag.length c2, .slice B2 s.den.length b2] 57)).alloc (.cells #[.slice A3 n' c3] 52)).alloc (.cells #[.slice none 0 0] 52) = w0 at *
    refine (HMA.out _ hb).mono ?_
    rintro e w1 ⟨rfl, hb1⟩
    replace S0 := S0.later hb1
    replace S1 := S1.later hb1
    replace S2 := S2.later hb1
    replace S3 := S3.later hb1
    replace S4 := S4.later hb1
    replace hb := below_trans hb hb1
    clear m1 hb1
    obtain ⟨q0, z0⟩ := S4.c1
    have hfin : MPost w (combM r A s B) (.bool (combOk r A s B)) (.returned (.tuple #[.agg #[.slice none 0 0], .bool false])) (w1.setCell ⟨w.heap.size + 1 + 1 + 1 + 1, 0, none⟩ (.slice none 0 0)) := by
      rw [HNO.out.1, HNO.out.2]
      exact ⟨_, rfl, MZ.nil _ _ _, hb.setCell (p := ⟨w.heap.size + 1 + 1 + 1 + 1, 0, none⟩) (show w.heap.size ≤ w.heap.size + 1 + 1 + 1 + 1 by omega) _⟩
    replace hfin := Lib.hid hfin
    clear S0 S1 S2 S3 S4 hb
    go_wp2
    exact bodyPost_ret (v := .tuple #[.agg #[.slice none 0 0], .bool false]) (by simp [results, Tryz.results23, go_sem, q0]) rfl hfin.out
  rw [ha] at HMA HN HY
  replace HMA := Lib.hid HMA
  cases hbb : mOk B
  · rw [hbb] at HMB HN
    replace HMB := Lib.hid HMB
    have HNO := Lib.hid (HN.out (by simp))
    clear HN HY ha hbb HOR HOS HFA HFB
    generalize A.length = n at *
    generalize B.length = n' at *
    have S0 := Slots.new (below_step (below_step (below_step (below_step (Below.refl _ (((((w.alloc (.cells #[.bool r.neg, .slice A0 r.mag.length c0, .slice B0 r.den.length b0] 57)).alloc (.cells #[.slice A1 n c1] 52)).alloc (.cells #[.bool s.neg, .slice A2 s.mag.length c2, .slice B2 s.den.length b2] 57)).alloc (.cells #[.slice A3 n' c3] 52)).alloc (.cells #[.slice none 0 0] 52))))))) (g := w.heap.size) rfl
    have S1 := Slots.new (below_step (below_step (below_step (Below.refl _ (((((w.alloc (.cells #[.bool r.neg, .slice A0 r.mag.length c0, .slice B0 r.den.length b0] 57)).alloc (.cells #[.slice A1 n c1] 52)).alloc (.cells #[.bool s.neg, .slice A2 s.mag.length c2, .slice B2 s.den.length b2] 57)).alloc (.cells #[.slice A3 n' c3] 52)).alloc (.cells #[.slice none 0 0] 52)))))) (g := w.heap.size + 1) (by simp)
    have S2 := Slots.new (below_step (below_step (Below.refl _ (((((w.alloc (.cells #[.bool r.neg, .slice A0 r.mag.length c0, .slice B0 r.den.length b0] 57)).alloc (.cells #[.slice A1 n c1] 52)).alloc (.cells #[.bool s.neg, .slice A2 s.mag.length c2, .slice B2 s.den.length b2] 57)).alloc (.cells #[.slice A3 n' c3] 52)).alloc (.cells #[.slice none 0 0] 52))))) (g := w.heap.size + 1 + 1) (by simp)
    have S3 := Slots.new (below_step (Below.refl _ (((((w.alloc (.cells #[.bool r.neg, .slice A0 r.mag.length c0, .slice B0 r.den.length b0] 57)).alloc (.cells #[.slice A1 n c1] 52)).alloc (.cells #[.bool s.neg, .slice A2 s.mag.length c2, .slice B2 s.den.length b2] 57)).alloc (.cells #[.slice A3 n' c3] 52)).alloc (.cells #[.slice none 0 0] 52)))) (g := w.heap.size + 1 + 1 + 1) (by simp)
    have S4 := Slots.new (Below.refl _ (((((w.alloc (.cells #[.bool r.neg, .slice A0 r.mag.length c0, .slice B0 r.den.length b0] 57)).alloc (.cells #[.slice A1 n c1] 52)).alloc (.cells #[.bool s.neg, .slice A2 s.mag.length c2, .slice B2 s.den.length b2] 57)).alloc (.cells #[.slice A3 n' c3] 52)).alloc (.cells #[.slice none 0 0] 52))) (g := w.heap.size + 1 + 1 + 1 + 1) (by simp)
    have hb := (((below_alloc3 w (.cells #[.bool r.neg, .slice A0 r.mag.length c0, .slice B0 r.den.length b0] 57) (.cells #[.slice A1 n c1] 52) (.cells #[.bool s.neg, .slice A2 s.mag.length c2, .slice B2 s.den.length b2] 57)).alloc (by simp; omega) (.cells #[.slice A3 n' c3] 52)).alloc (by simp; omega) (.cells #[.slice none 0 0] 52))
    go_enter Tryz.func23, Tryz.ntmps23
    have m1 := S1.c1.1
    go_wp2_with fail
    generalize ((((w.alloc (.cells #[.bool r.neg, .slice A0 r.mag.length c0, .slice B0 r.den.length b0] 57)).alloc (.cells #[.slice A1 n c1] 52)).alloc (.cells #[.bool s.neg, .slice A2 s.mag.length c2, .slice B2 s.den.length b2] 57)).alloc (.cells #[.slice A3 n' c3] 52)).alloc (.cells #[.slice none 0 0] 52) = w0 at *
    refine (HMA.out _ hb).mono ?_
    rintro e w1 ⟨rfl, hb1⟩
    replace S0 := S0.later hb1
    replace S1 := S1.later hb1
    replace S2 := S2.later hb1
    replace S3 := S3.later hb1
    replace S4 := S4.later hb1
    replace hb := below_trans hb hb1
    clear m1 hb1
    have m3 := S3.c1.1
    go_wp2_with fail
    refine (HMB.out _ hb).mono ?_
    rintro e w2 ⟨rfl, hb2⟩
    replace S0 := S0.later hb2
    replace S1 := S1.later hb2
    replace S2 := S2.later hb2
    replace S3 := S3.later hb2
    replace S4 := S4.later hb2
    replace hb := below_trans hb hb2
    clear m3 hb2
    obtain ⟨q0, z0⟩ := S4.c1
    have hfin : MPost w (combM r A s B) (.bool (combOk r A s B)) (.returned (.tuple #[.agg #[.slice none 0 0], .bool false])) (w2.setCell ⟨w.heap.size + 1 + 1 + 1 + 1, 0, none⟩ (.slice none 0 0)) := by
      rw [HNO.out.1, HNO.out.2]
      exact ⟨_, rfl, MZ.nil _ _ _, hb.setCell (p := ⟨w.heap.size + 1 + 1 + 1 + 1, 0, none⟩) (show w.heap.size ≤ w.heap.size + 1 + 1 + 1 + 1 by omega) _⟩
    replace hfin := Lib.hid hfin
    clear S0 S1 S2 S3 S4 hb
    go_wp2
    exact bodyPost_ret (v := .tuple #[.agg #[.slice none 0 0], .bool false]) (by simp [results, Tryz.results23, go_sem, q0]) rfl hfin.out
  rw [hbb] at HMB HN HY
  replace HMB := Lib.hid HMB
  by_cases hnn : A.length = B.length
  rotate_left
  · have HNO := Lib.hid (HN.out (by simp; intro h; omega))
    clear HN HY ha hbb HOR HOS HFA HFB
    generalize A.length = n at *
    generalize B.length = n' at *
    have hne2 : ¬ (n' = n) := fun h => hnn h.symm
    have S0 := Slots.new (below_step (below_step (below_step (below_step (Below.refl _ (((((w.alloc (.cells #[.bool r.neg, .slice A0 r.mag.length c0, .slice B0 r.den.length b0] 57)).alloc (.cells #[.slice A1 n c1] 52)).alloc (.cells #[.bool s.neg, .slice A2 s.mag.length c2, .slice B2 s.den.length b2] 57)).alloc (.cells #[.slice A3 n' c3] 52)).alloc (.cells #[.slice none 0 0] 52))))))) (g := w.heap.size) rfl
    have S1 := Slots.new (below_step (below_step (below_step (Below.refl _ (((((w.alloc (.cells #[.bool r.neg, .slice A0 r.mag.length c0, .slice B0 r.den.length b0] 57)).alloc (.cells #[.slice A1 n c1] 52)).alloc (.cells #[.bool s.neg, .slice A2 s.mag.length c2, .slice B2 s.den.length b2] 57)).alloc (.cells #[.slice A3 n' c3] 52)).alloc (.cells #[.slice none 0 0] 52)))))) (g := w.heap.size + 1) (by simp)
    have S2 := Slots.new (below_step (below_step (Below.refl _ (((((w.alloc (.cells #[.bool r.neg, .slice A0 r.mag.length c0, .slice B0 r.den.length b0] 57)).alloc (.cells #[.slice A1 n c1] 52)).alloc (.cells #[.bool s.neg, .slice A2 s.mag.length c2, .slice B2 s.den.length b2] 57)).alloc (.cells #[.slice A3 n' c3] 52)).alloc (.cells #[.slice none 0 0] 52))))) (g := w.heap.size + 1 + 1) (by simp)
    have S3 := Slots.new (below_step (Below.refl _ (((((w.alloc (.cells #[.bool r.neg, .slice A0 r.mag.length c0, .slice B0 r.den.length b0] 57)).alloc (.cells #[.slice A1 n c1] 52)).alloc (.cells #[.bool s.neg, .slice A2 s.mag.length c2, .slice B2 s.den.length b2] 57)).alloc (.cells #[.slice A3 n' c3] 52)).alloc (.cells #[.slice none 0 0] 52)))) (g := w.heap.size + 1 + 1 + 1) (by simp)
    have S4 := Slots.new (Below.refl _ (((((w.alloc (.cells #[.bool r.neg, .slice A0 r.mag.length c0, .slice B0 r.den.length b0] 57)).alloc (.cells #[.slice A1 n c1] 52)).alloc (.cells #[.bool s.neg, .slice A2 s.mag.length c2, .slice B2 s.den.length b2] 57)).alloc (.cells #[.slice A3 n' c3] 52)).alloc (.cells #[.slice none 0 0] 52))) (g := w.heap.size + 1 + 1 + 1 + 1) (by simp)
    have hb := (((below_alloc3 w (.cells #[.bool r.neg, .slice A0 r.mag.length c0, .slice B0 r.den.length b0] 57) (.cells #[.slice A1 n c1] 52) (.cells #[.bool s.neg, .slice A2 s.mag.length c2, .slice B2 s.den.length b2] 57)).alloc (by simp; omega) (.cells #[.slice A3 n' c3] 52)).alloc (by simp; omega) (.cells #[.slice none 0 0] 52))
    go_enter Tryz.func23, Tryz.ntmps23
    have m1 := S1.c1.1
    go_wp2_with fail
    generalize ((((w.alloc (.cells #[.bool r.neg, .slice A0 r.mag.length c0, .slice B0 r.den.length b0] 57)).alloc (.cells #[.slice A1 n c1] 52)).alloc (.cells #[.bool s.neg, .slice A2 s.mag.length c2, .slice B2 s.den.length b2] 57)).alloc (.cells #[.slice A3 n' c3] 52)).alloc (.cells #[.slice none 0 0] 52) = w0 at *
    refine (HMA.out _ hb).mono ?_
    rintro e w1 ⟨rfl, hb1⟩
    replace S0 := S0.later hb1
    replace S1 := S1.later hb1
    replace S2 := S2.later hb1
    replace S3 := S3.later hb1
    replace S4 := S4.later hb1
    replace hb := below_trans hb hb1
    clear m1 hb1
    have m3 := S3.c1.1
    go_wp2_with fail
    refine (HMB.out _ hb).mono ?_
    rintro e w2 ⟨rfl, hb2⟩
    replace S0 := S0.later hb2
    replace S1 := S1.later hb2
    replace S2 := S2.later hb2
    replace S3 := S3.later hb2
    replace S4 := S4.later hb2
    replace hb := below_trans hb hb2
    clear m3 hb2
    have m1 := S1.c1.1
    have m3 := S3.c1.1
    clear HMA HMB
    obtain ⟨q0, z0⟩ := S4.c1
    have hfin : MPost w (combM r A s B) (.bool (combOk r A s B)) (.returned (.tuple #[.agg #[.slice none 0 0], .bool false])) (w2.setCell ⟨w.heap.size + 1 + 1 + 1 + 1, 0, none⟩ (.slice none 0 0)) := by
      rw [HNO.out.1, HNO.out.2]
      exact ⟨_, rfl, MZ.nil _ _ _, hb.setCell (p := ⟨w.heap.size + 1 + 1 + 1 + 1, 0, none⟩) (show w.heap.size ≤ w.heap.size + 1 + 1 + 1 + 1 by omega) _⟩
    replace hfin := Lib.hid hfin
    clear S0 S1 S2 S3 S4 hb
    go_wp2
    exact bodyPost_ret (v := .tuple #[.agg #[.slice none 0 0], .bool false]) (by simp [results, Tryz.results23, go_sem, q0]) rfl hfin.out
  have hnd : decide ((A.length : Int) = (B.length : Int)) = true := by simp; omega
  rw [hnd] at HN HY
  simp only [Bool.true_and] at HN HY
  rw [← hnn] at HMB HFB ⊢
  clear hnd
  cases hqr : FE.ratOk r
  · rw [hqr] at HOR HN
    replace HOR := Lib.hid HOR
    have HNO := Lib.hid (HN.out rfl)
    clear HN HY ha hbb HFA HFB HOS hqr hnn
    generalize A.length = n at *
    have S0 := Slots.new (below_step (below_step (below_step (below_step (Below.refl _ (((((w.alloc (.cells #[.bool r.neg, .slice A0 r.mag.length c0, .slice B0 r.den.length b0] 57)).alloc (.cells #[.slice A1 n c1] 52)).alloc (.cells #[.bool s.neg, .slice A2 s.mag.length c2, .slice B2 s.den.length b2] 57)).alloc (.cells #[.slice A3 n c3] 52)).alloc (.cells #[.slice none 0 0] 52))))))) (g := w.heap.size) rfl
    have S1 := Slots.new (below_step (below_step (below_step (Below.refl _ (((((w.alloc (.cells #[.bool r.neg, .slice A0 r.mag.length c0, .slice B0 r.den.length b0] 57)).alloc (.cells #[.slice A1 n c1] 52)).alloc (.cells #[.bool s.neg, .slice A2 s.mag.length c2, .slice B2 s.den.length b2] 57)).alloc (.cells #[.slice A3 n c3] 52)).alloc (.cells #[.slice none 0 0] 52)))))) (g := w.heap.size + 1) (by simp)
    have S2 := Slots.new (below_step (below_step (Below.refl _ (((((w.alloc (.cells #[.bool r.neg, .slice A0 r.mag.length c0, .slice B0 r.den.length b0] 57)).alloc (.cells #[.slice A1 n c1] 52)).alloc (.cells #[.bool s.neg, .slice A2 s.mag.length c2, .slice B2 s.den.length b2] 57)).alloc (.cells #[.slice A3 n c3] 52)).alloc (.cells #[.slice none 0 0] 52))))) (g := w.heap.size + 1 + 1) (by simp)
    have S3 := Slots.new (below_step (Below.refl _ (((((w.alloc (.cells #[.bool r.neg, .slice A0 r.mag.length c0, .slice B0 r.den.length b0] 57)).alloc (.cells #[.slice A1 n c1] 52)).alloc (.cells #[.bool s.neg, .slice A2 s.mag.length c2, .slice B2 s.den.length b2] 57)).alloc (.cells #[.slice A3 n c3] 52)).alloc (.cells #[.slice none 0 0] 52)))) (g := w.heap.size + 1 + 1 + 1) (by simp)
    have S4 := Slots.new (Below.refl _ (((((w.alloc (.cells #[.bool r.neg, .slice A0 r.mag.length c0, .slice B0 r.den.length b0] 57)).alloc (.cells #[.slice A1 n c1] 52)).alloc (.cells #[.bool s.neg, .slice A2 s.mag.length c2, .slice B2 s.den.length b2] 57)).alloc (.cells #[.slice A3 n c3] 52)).alloc (.cells #[.slice none 0 0] 52))) (g := w.heap.size + 1 + 1 + 1 + 1) (by simp)
    have hb := (((below_alloc3 w (.cells #[.bool r.neg, .slice A0 r.mag.length c0, .slice B0 r.den.length b0] 57) (.cells #[.slice A1 n c1] 52) (.cells #[.bool s.neg, .slice A2 s.mag.length c2, .slice B2 s.den.length b2] 57)).alloc (by simp; omega) (.cells #[.slice A3 n c3] 52)).alloc (by simp; omega) (.cells #[.slice none 0 0] 52))
    go_enter Tryz.func23, Tryz.ntmps23
    have m1 := S1.c1.1
    go_wp2_with fail
    generalize ((((w.alloc (.cells #[.bool r.neg, .slice A0 r.mag.length c0, .slice B0 r.den.length b0] 57)).alloc (.cells #[.slice A1 n c1] 52)).alloc (.cells #[.bool s.neg, .slice A2 s.mag.length c2, .slice B2 s.den.length b2] 57)).alloc (.cells #[.slice A3 n c3] 52)).alloc (.cells #[.slice none 0 0] 52) = w0 at *
    refine (HMA.out _ hb).mono ?_
    rintro e w1 ⟨rfl, hb1⟩
    replace S0 := S0.later hb1
    replace S1 := S1.later hb1
    replace S2 := S2.later hb1
    replace S3 := S3.later hb1
    replace S4 := S4.later hb1
    replace hb := below_trans hb hb1
    clear m1 hb1
    have m3 := S3.c1.1
    go_wp2_with fail
    refine (HMB.out _ hb).mono ?_
    rintro e w2 ⟨rfl, hb2⟩
    replace S0 := S0.later hb2
    replace S1 := S1.later hb2
    replace S2 := S2.later hb2
    replace S3 := S3.later hb2
    replace S4 := S4.later hb2
    replace hb := below_trans hb hb2
    clear m3 hb2
    have r0 := S0.c3.1
    have r1 := S0.c3.2.1
    have r2 := S0.c3.2.2.1
    have m1 := S1.c1.1
    have m3 := S3.c1.1
    go_wp2_with fail
    refine (HOR.out _ hb).mono ?_
    rintro e w3 ⟨rfl, hb3⟩
    replace S0 := S0.later hb3
    replace S1 := S1.later hb3
    replace S2 := S2.later hb3
    replace S3 := S3.later hb3
    replace S4 := S4.later hb3
    replace hb := below_trans hb hb3
    clear r0 r1 r2 m1 m3 hb3
    obtain ⟨q0, z0⟩ := S4.c1
    have hfin : MPost w (combM r A s B) (.bool (combOk r A s B)) (.returned (.tuple #[.agg #[.slice none 0 0], .bool false])) (w3.setCell ⟨w.heap.size + 1 + 1 + 1 + 1, 0, none⟩ (.slice none 0 0)) := by
      rw [HNO.out.1, HNO.out.2]
      exact ⟨_, rfl, MZ.nil _ _ _, hb.setCell (p := ⟨w.heap.size + 1 + 1 + 1 + 1, 0, none⟩) (show w.heap.size ≤ w.heap.size + 1 + 1 + 1 + 1 by omega) _⟩
    replace hfin := Lib.hid hfin
    clear S0 S1 S2 S3 S4 hb
    go_wp2
    exact bodyPost_ret (v := .tuple #[.agg #[.slice none 0 0], .bool false]) (by simp [results, Tryz.results23, go_sem, q0]) rfl hfin.out
  rw [hqr] at HOR HN HY
  simp only [Bool.true_and] at HN HY
  replace HOR := Lib.hid HOR
  cases hqs : FE.ratOk s
  · rw [hqs] at HOS HN
    replace HOS := Lib.hid HOS
    have HNO := Lib.hid (HN.out rfl)
    clear HN HY ha hbb HFA HFB hqr hqs hnn
    generalize A.length = n at *
    have S0 := Slots.new (below_step (below_step (below_step (below_step (Below.refl _ (((((w.alloc (.cells #[.bool r.neg, .slice A0 r.mag.length c0, .slice B0 r.den.length b0] 57)).alloc (.cells #[.slice A1 n c1] 52)).alloc (.cells #[.bool s.neg, .slice A2 s.mag.length c2, .slice B2 s.den.length b2] 57)).alloc (.cells #[.slice A3 n c3] 52)).alloc (.cells #[.slice none 0 0] 52))))))) (g := w.heap.size) rfl
    have S1 := Slots.new (below_step (below_step (below_step (Below.refl _ (((((w.alloc (.cells #[.bool r.neg, .slice A0 r.mag.length c0, .slice B0 r.den.length b0] 57)).alloc (.cells #[.slice A1 n c1] 52)).alloc (.cells #[.bool s.neg, .slice A2 s.mag.length c2, .slice B2 s.den.length b2] 57)).alloc (.cells #[.slice A3 n c3] 52)).alloc (.cells #[.slice none 0 0] 52)))))) (g := w.heap.size + 1) (by simp)
    have S2 := Slots.new (below_step (below_step (Below.refl _ (((((w.alloc (.cells #[.bool r.neg, .slice A0 r.mag.length c0, .slice B0 r.den.length b0] 57)).alloc (.cells #[.slice A1 n c1] 52)).alloc (.cells #[.bool s.neg, .slice A2 s.mag.length c2, .slice B2 s.den.length b2] 57)).alloc (.cells #[.slice A3 n c3] 52)).alloc (.cells #[.slice none 0 0] 52))))) (g := w.heap.size + 1 + 1) (by simp)
    have S3 := Slots.new (below_step (Below.refl _ (((((w.alloc (.cells #[.bool r.neg, .slice A0 r.mag.length c0, .slice B0 r.den.length b0] 57)).alloc (.cells #[.slice A1 n c1] 52)).alloc (.cells #[.bool s.neg, .slice A2 s.mag.length c2, .slice B2 s.den.length b2] 57)).alloc (.cells #[.slice A3 n c3] 52)).alloc (.cells #[.slice none 0 0] 52)))) (g := w.heap.size + 1 + 1 + 1) (by simp)
    have S4 := Slots.new (Below.refl _ (((((w.alloc (.cells #[.bool r.neg, .slice A0 r.mag.length c0, .slice B0 r.den.length b0] 57)).alloc (.cells #[.slice A1 n c1] 52)).alloc (.cells #[.bool s.neg, .slice A2 s.mag.length c2, .slice B2 s.den.length b2] 57)).alloc (.cells #[.slice A3 n c3] 52)).alloc (.cells #[.slice none 0 0] 52))) (g := w.heap.size + 1 + 1 + 1 + 1) (by simp)
    have hb := (((below_alloc3 w (.cells #[.bool r.neg, .slice A0 r.mag.length c0, .slice B0 r.den.length b0] 57) (.cells #[.slice A1 n c1] 52) (.cells #[.bool s.neg, .slice A2 s.mag.length c2, .slice B2 s.den.length b2] 57)).alloc (by simp; omega) (.cells #[.slice A3 n c3] 52)).alloc (by simp; omega) (.cells #[.slice none 0 0] 52))
    go_enter Tryz.func23, Tryz.ntmps23
    have m1 := S1.c1.1
    go_wp2_with fail
    generalize ((((w.alloc (.cells #[.bool r.neg, .slice A0 r.mag.length c0, .slice B0 r.den.length b0] 57)).alloc (.cells #[.slice A1 n c1] 52)).alloc (.cells #[.bool s.neg, .slice A2 s.mag.length c2, .slice B2 s.den.length b2] 57)).alloc (.cells #[.slice A3 n c3] 52)).alloc (.cells #[.slice none 0 0] 52) = w0 at *
    refine (HMA.out _ hb).mono ?_
    rintro e w1 ⟨rfl, hb1⟩
    replace S0 := S0.later hb1
    replace S1 := S1.later hb1
    replace S2 := S2.later hb1
    replace S3 := S3.later hb1
    replace S4 := S4.later hb1
    replace hb := below_trans hb hb1
    clear m1 hb1
    have m3 := S3.c1.1
    go_wp2_with fail
    refine (HMB.out _ hb).mono ?_
    rintro e w2 ⟨rfl, hb2⟩
    replace S0 := S0.later hb2
    replace S1 := S1.later hb2
    replace S2 := S2.later hb2
    replace S3 := S3.later hb2
    replace S4 := S4.later hb2
    replace hb := below_trans hb hb2
    clear m3 hb2
    have r0 := S0.c3.1
    have r1 := S0.c3.2.1
    have r2 := S0.c3.2.2.1
    have m1 := S1.c1.1
    have m3 := S3.c1.1
    go_wp2_with fail
    refine (HOR.out _ hb).mono ?_
    rintro e w3 ⟨rfl, hb3⟩
    replace S0 := S0.later hb3
    replace S1 := S1.later hb3
    replace S2 := S2.later hb3
    replace S3 := S3.later hb3
    replace S4 := S4.later hb3
    replace hb := below_trans hb hb3
    clear r0 r1 r2 m1 m3 hb3
    have r3 := S2.c3.1
    have r4 := S2.c3.2.1
    have r5 := S2.c3.2.2.1
    go_wp2_with fail
    refine (HOS.out _ hb).mono ?_
    rintro e w4 ⟨rfl, hb4⟩
    replace S0 := S0.later hb4
    replace S1 := S1.later hb4
    replace S2 := S2.later hb4
    replace S3 := S3.later hb4
    replace S4 := S4.later hb4
    replace hb := below_trans hb hb4
    clear r3 r4 r5 hb4
    obtain ⟨q0, z0⟩ := S4.c1
    have hfin : MPost w (combM r A s B) (.bool (combOk r A s B)) (.returned (.tuple #[.agg #[.slice none 0 0], .bool false])) (w4.setCell ⟨w.heap.size + 1 + 1 + 1 + 1, 0, none⟩ (.slice none 0 0)) := by
      rw [HNO.out.1, HNO.out.2]
      exact ⟨_, rfl, MZ.nil _ _ _, hb.setCell (p := ⟨w.heap.size + 1 + 1 + 1 + 1, 0, none⟩) (show w.heap.size ≤ w.heap.size + 1 + 1 + 1 + 1 by omega) _⟩
    replace hfin := Lib.hid hfin
    clear S0 S1 S2 S3 S4 hb
    go_wp2
    exact bodyPost_ret (v := .tuple #[.agg #[.slice none 0 0], .bool false]) (by simp [results, Tryz.results23, go_sem, q0]) rfl hfin.out
  rw [hqs] at HOS HY
  replace HOS := Lib.hid HOS
  replace HY := Lib.hid (HY.out rfl)
  replace HFA := Lib.hid (HFA ha)
  replace HFB := Lib.hid (HFB hbb)
  clear HN hqr hqs ha hbb
  have HNN := Lib.hid hnn
  have HEQ := Lib.hid (show combL r A s B = fullL A.length (combE r A s B) from rfl)
  have HEE := Lib.hid (show ∀ i j : Nat, combE r A s B i j = FE.radd (FE.rmul r (rowAt (A.getD i zRow) j)) (FE.rmul s (rowAt (B.getD i zRow) j)) from fun i j => rfl)
  have HER := Lib.hid (combE_res r A s B)
  have hE : ∃ E, combE r A s B = E := ⟨_, rfl⟩
  obtain ⟨E, hE⟩ := hE
  rw [hE] at HEQ HEE HER
  clear hE hnn
  generalize hAn : A.length = n at *
  have HLA := Lib.hid hAn
  clear hAn
  have S0 := Slots.new (below_step (below_step (below_step (below_step (Below.refl _ (((((w.alloc (.cells #[.bool r.neg, .slice A0 r.mag.length c0, .slice B0 r.den.length b0] 57)).alloc (.cells #[.slice A1 n c1] 52)).alloc (.cells #[.bool s.neg, .slice A2 s.mag.length c2, .slice B2 s.den.length b2] 57)).alloc (.cells #[.slice A3 n c3] 52)).alloc (.cells #[.slice none 0 0] 52))))))) (g := w.heap.size) rfl
  have S1 := Slots.new (below_step (below_step (below_step (Below.refl _ (((((w.alloc (.cells #[.bool r.neg, .slice A0 r.mag.length c0, .slice B0 r.den.length b0] 57)).alloc (.cells #[.slice A1 n c1] 52)).alloc (.cells #[.bool s.neg, .slice A2 s.mag.length c2, .slice B2 s.den.length b2] 57)).alloc (.cells #[.slice A3 n c3] 52)).alloc (.cells #[.slice none 0 0] 52)))))) (g := w.heap.size + 1) (by simp)
  have S2 := Slots.new (below_step (below_step (Below.refl _ (((((w.alloc (.cells #[.bool r.neg, .slice A0 r.mag.length c0, .slice B0 r.den.length b0] 57)).alloc (.cells #[.slice A1 n c1] 52)).alloc (.cells #[.bool s.neg, .slice A2 s.mag.length c2, .slice B2 s.den.length b2] 57)).alloc (.cells #[.slice A3 n c3] 52)).alloc (.cells #[.slice none 0 0] 52))))) (g := w.heap.size + 1 + 1) (by simp)
  have S3 := Slots.new (below_step (Below.refl _ (((((w.alloc (.cells #[.bool r.neg, .slice A0 r.mag.length c0, .slice B0 r.den.length b0] 57)).alloc (.cells #[.slice A1 n c1] 52)).alloc (.cells #[.bool s.neg, .slice A2 s.mag.length c2, .slice B2 s.den.length b2] 57)).alloc (.cells #[.slice A3 n c3] 52)).alloc (.cells #[.slice none 0 0] 52)))) (g := w.heap.size + 1 + 1 + 1) (by simp)
  have S4 := Slots.new (Below.refl _ (((((w.alloc (.cells #[.bool r.neg, .slice A0 r.mag.length c0, .slice B0 r.den.length b0] 57)).alloc (.cells #[.slice A1 n c1] 52)).alloc (.cells #[.bool s.neg, .slice A2 s.mag.length c2, .slice B2 s.den.length b2] 57)).alloc (.cells #[.slice A3 n c3] 52)).alloc (.cells #[.slice none 0 0] 52))) (g := w.heap.size + 1 + 1 + 1 + 1) (by simp)
  have hb := (((below_alloc3 w (.cells #[.bool r.neg, .slice A0 r.mag.length c0, .slice B0 r.den.length b0] 57) (.cells #[.slice A1 n c1] 52) (.cells #[.bool s.neg, .slice A2 s.mag.length c2, .slice B2 s.den.length b2] 57)).alloc (by simp; omega) (.cells #[.slice A3 n c3] 52)).alloc (by simp; omega) (.cells #[.slice none 0 0] 52))
  go_enter Tryz.func23, Tryz.ntmps23
  have m1 := S1.c1.1
  go_wp2_with fail
  generalize ((((w.alloc (.cells #[.bool r.neg, .slice A0 r.mag.length c0, .slice B0 r.den.length b0] 57)).alloc (.cells #[.slice A1 n c1] 52)).alloc (.cells #[.bool s.neg, .slice A2 s.mag.length c2, .slice B2 s.den.length b2] 57)).alloc (.cells #[.slice A3 n c3] 52)).alloc (.cells #[.slice none 0 0] 52) = w0 at *
  refine (HMA.out _ hb).mono ?_
  rintro e w1 ⟨rfl, hb1⟩
  replace S0 := S0.later hb1
  replace S1 := S1.later hb1
  replace S2 := S2.later hb1
  replace S3 := S3.later hb1
  replace S4 := S4.later hb1
  replace hb := below_trans hb hb1
  clear m1 hb1
  have m3 := S3.c1.1
  go_wp2_with fail
  refine (HMB.out _ hb).mono ?_
  rintro e w2 ⟨rfl, hb2⟩
  replace S0 := S0.later hb2
  replace S1 := S1.later hb2
  replace S2 := S2.later hb2
  replace S3 := S3.later hb2
  replace S4 := S4.later hb2
  replace hb := below_trans hb hb2
  clear m3 hb2
  have r0 := S0.c3.1
  have r1 := S0.c3.2.1
  have r2 := S0.c3.2.2.1
  have m1 := S1.c1.1
  have m3 := S3.c1.1
  go_wp2_with fail
  refine (HOR.out _ hb).mono ?_
  rintro e w3 ⟨rfl, hb3⟩
  replace S0 := S0.later hb3
  replace S1 := S1.later hb3
  replace S2 := S2.later hb3
  replace S3 := S3.later hb3
  replace S4 := S4.later hb3
  replace hb := below_trans hb hb3
  clear r0 r1 r2 m1 m3 hb3
  have r3 := S2.c3.1
  have r4 := S2.c3.2.1
  have r5 := S2.c3.2.2.1
  go_wp2_with fail
  refine (HOS.out _ hb).mono ?_
  rintro e w4 ⟨rfl, hb4⟩
  replace S0 := S0.later hb4
  replace S1 := S1.later hb4
  replace S2 := S2.later hb4
  replace S3 := S3.later hb4
  replace S4 := S4.later hb4
  replace hb := below_trans hb hb4
  clear r3 r4 r5 hb4
  have m1 := S1.c1.1
  go_wp2_with fail
  clear m1
  refine (HFA.out _ hb).mono ?_
  rintro e w5 ⟨v5, vs, rfl, hls, hb5⟩
  obtain ⟨A5, c5, rfl, _⟩ := hls.form
  rw [fullL_len]
  rw [fullL_len] at hls
  have hlsz := S4.1
  replace S0 := S0.later hb5
  replace S1 := S1.later hb5
  replace S2 := S2.later hb5
  replace S3 := S3.later hb5
  replace S4 := S4.later hb5
  replace hb := below_trans hb hb5
  have m3 := S3.c1.1
  go_wp2_with fail
  clear m3
  refine (HFB.out _ hb).mono ?_
  rintro e w6 ⟨v6, vy, rfl, hly, hb6⟩
  obtain ⟨A8, c8, rfl, _⟩ := hly.form
  rw [fullL_len]
  rw [fullL_len] at hly
  replace S0 := S0.later hb6
  replace S1 := S1.later hb6
  replace S2 := S2.later hb6
  replace S3 := S3.later hb6
  replace S4 := S4.later hb6
  replace hb := below_trans hb hb6
  have hlo56 := hb5.size
  have hlo6 := hb6.size
  have hlsx := hls.later hb6
  have HVS := Lib.hid (fun i (hi : i < n) b (hb : blk (vs.getD i zV) = some b) => (VX.blk (hls.row i (by rw [fullL_len]; exact hi)).choose_spec.2.2.2.2 hb).2.2.2.1)
  obtain ⟨lo, hlo⟩ : ∃ lo, w4.heap.size = lo := ⟨_, rfl⟩
  obtain ⟨loy, hloy⟩ : ∃ lo, w5.heap.size = lo := ⟨_, rfl⟩
  obtain ⟨hiy, hhiy⟩ : ∃ lo, w6.heap.size = lo := ⟨_, rfl⟩
  rw [hlo] at hlsx hlsz hlo56
  rw [hloy] at hlsx hly hlo56 hlo6 HVS
  have hlo5 : lo ≤ w6.heap.size := by omega
  rw [hhiy] at hly hlo6
  clear hlo hloy hb5 hb6 hls
  replace hls := hlsx.wide (Nat.le_refl lo) (show loy ≤ w6.heap.size by omega)
  clear hlsx
  generalize w6 = w5 at *
  have hls0 : LS w5 lo w5.heap.size (.slice A5 n c5) vs (mixL n (fun i j => rowAt (A.getD i zRow) (j : Nat)) E 0 0) := by rw [mixL_zero]; exact hls
  clear hls
  go_wp2_with fail
  go_loopw [48] (fun z wr => ∃ i : Nat, i ≤ n ∧ z = .int .i64 i ∧ Below lo w5 wr ∧ LS wr lo wr.heap.size (.slice A5 n c5) vs (mixL n (fun i j => rowAt (A.getD i zRow) (j : Nat)) E i 0) ∧ LS wr loy hiy (.slice A8 n c8) vy (fullL n fun i j => rowAt (B.getD i zRow) (j : Nat))) (fun z _ => n - (intOf z).toNat)
  case atStart => exact ⟨0, Nat.zero_le _, rfl, Below.refl _ _, hls0, hly⟩
  case round =>
    clear hls0 hly
    obtain ⟨i, hi, rfl, hbw, hls, hly⟩ := hrel
    have hww := hb.trans (hbw.mono (by omega))
    by_cases hin : i = n
    · have hlf : ¬ (i < n) := by omega
      rw [hin, mixL_all] at hls
      have HSP := Lib.hid (fun A c W (hF : FI W A (fullL n E)) => sSparse (fullL n E) n c A W (fullL_len n E) hF (few_full hA40 (fun p q _ _ => HER.out p q)) (full_res (fun p q _ _ => HER.out p q)))
      have HF := Lib.hid hls.reads
      have S4w := S4.below hbw (show w.heap.size + 1 + 1 + 1 + 1 < lo by omega)
      have HYO : combM r A s B = spR (fullL n E) ∧ combOk r A s B = spOk (fullL n E) := by rw [← HEQ.out]; exact HY.out
      have HYY := Lib.hid HYO
      clear hls HYO HY hly HVS
      generalize fullL n E = XL at *
      generalize spOk XL = OKB at *
      generalize spR XL = RX at *
      go_wp2_with fail
      refine (HSP.out _ _ _ HF.out).mono ?_
      intro e8 w8 hp
      obtain ⟨v8, rfl, hmz, hb8⟩ := hp
      obtain ⟨A8', c8', rfl⟩ := hmz.form
      obtain ⟨q0, z0⟩ := (S4w.later hb8).c1
      have hb9 := below_trans hww hb8
      have hfin : MPost w (combM r A s B) (.bool (combOk r A s B)) (.returned (.tuple #[.agg #[.slice A8' RX.length c8'], .bool OKB])) (w8.setCell ⟨w.heap.size + 1 + 1 + 1 + 1, 0, none⟩ (.slice A8' RX.length c8')) := by
        rw [HYY.out.1, HYY.out.2]
        have hbs := hbw.size
        exact ⟨_, rfl, (hmz.frame (frame1 (g := w.heap.size + 1 + 1 + 1 + 1) (o := 0) (.slice A8' RX.length c8')) (fun b h1 _ e => by omega)).wide (by omega) (by simp), hb9.setCell (p := ⟨w.heap.size + 1 + 1 + 1 + 1, 0, none⟩) (show w.heap.size ≤ w.heap.size + 1 + 1 + 1 + 1 by omega) _⟩
      replace hfin := Lib.hid hfin
      clear hmz hb8 hb9 S4w S0 S1 S2 S3 S4 hb
      go_wp2
      exact bodyPost_ret (v := .tuple #[.agg #[.slice A8' RX.length c8'], .bool OKB]) (by simp [results, Tryz.results23, go_sem, q0]) rfl hfin.out
    · have hltn : (i : Int) < (n : Int) := by omega
      obtain ⟨g0, gi0, ci0, e00, _, _, hrow0, _, _, _, _, _, _⟩ := hls.pick i (by rw [mixL_len]; omega) 0 (by rw [mixL_row_len (by omega)]; omega)
      rw [mixL_row_len (by omega)] at hrow0
      have e0A := e00
      have hls1 := hls
      clear hls
      subst e0A
      go_wp2_with fail
      clear hrow0 e00
      generalize wr = wq at *
      go_loopw [56] (fun z wp => ∃ j : Nat, j ≤ n ∧ z = .int .i64 j ∧ Below lo w5 wp ∧ LS wp lo wp.heap.size (.slice (some ⟨g0, 0, none⟩) n c5) vs (mixL n (fun i j => rowAt (A.getD i zRow) (j : Nat)) E i j) ∧ LS wp loy hiy (.slice A8 n c8) vy (fullL n fun i j => rowAt (B.getD i zRow) (j : Nat))) (fun z _ => n - (intOf z).toNat)
      case atStart => exact ⟨0, Nat.zero_le _, rfl, hbw, hls1, hly⟩
      case round =>
        clear hls1 hbw hww hly
        obtain ⟨j, hj, rfl, hbw, hls, hly⟩ := hrel
        by_cases hjn : j = n
        · have hlf : ¬ (j < n) := by omega
          have hls2 := hls
          rw [hjn, mixL_row] at hls2
          clear hls
          go_wp2
          go_roundw
          case rel => exact ⟨i + 1, by omega, rfl, hbw, hls2, hly⟩
          case measure => simp [intOf]; omega
        · have hjlt : (j : Int) < (n : Int) := by omega
          have hin : i < n := by omega
          have hwwb := hb.trans (hbw.mono (by omega))
          have hwwd : Below w.heap.size w wr.drew := ⟨hwwb.os, hwwb.tape, hwwb.output, hwwb.size, hwwb.block⟩
          have HNX := Lib.hid (mixL_next (Z := (fun i j => rowAt (A.getD i zRow) (j : Nat))) (E := E) hin (show j < n by omega))
          have HGT := Lib.hid (mixL_get (Z := (fun i j => rowAt (A.getD i zRow) (j : Nat))) (E := E) hin (show j < n by omega))
          have HML := Lib.hid (mixL_len n (fun i j => rowAt (A.getD i zRow) (j : Nat)) E i j)
          have HMR := Lib.hid (mixL_row_len (n := n) (Z := (fun i j => rowAt (A.getD i zRow) (j : Nat))) (E := E) (i := i) (j := j) hin)
          have HEij := Lib.hid (HEE.out i j)
          generalize mixL n (fun i j => rowAt (A.getD i zRow) (j : Nat)) E i j = X at *
          obtain ⟨g, gi, ci, eA, hg1, hg2, row0, hvi, hgi1, hgi2, hggi, hfz, hvx⟩ := hls.pick i (by rw [HML.out]; omega) j (by rw [HMR.out]; omega)
          injection eA with eA
          injection eA with eA
          replace eA := eA.symm
          subst eA
          rw [HMR.out] at row0 hvi hvx
          obtain ⟨A6, c6, B6, d6, r6, v6⟩ := hvx.at j (by rw [HMR.out]; omega)
          rw [HGT.out] at r6 v6
          obtain ⟨a0, a1, a2, _, _, _⟩ := (S0.below hbw (show w.heap.size < lo by omega)).c3
          obtain ⟨e0, e1, e2, _, _, _⟩ := (S2.below hbw (show w.heap.size + 1 + 1 < lo by omega)).c3
          have m1 := (S1.below hbw (show w.heap.size + 1 < lo by omega)).c1.1
          have m3 := (S3.below hbw (show w.heap.size + 1 + 1 + 1 < lo by omega)).c1.1
          have hlob := Nat.le_trans hlo5 hbw.size
          have hwd : Below wr.heap.size wr wr.drew := ⟨rfl, rfl, rfl, Nat.le_refl _, fun _ _ => rfl⟩
          have hwdl : Below lo wr wr.drew := ⟨rfl, rfl, rfl, Nat.le_refl _, fun _ _ => rfl⟩
          have fA := rowAt_few (HFEWA.out i hin) (j : Int)
          have fB := rowAt_few (HFEWB.out i (by rw [← HNN.out]; exact hin)) (j : Int)
          obtain ⟨gy, gyi, cyi, eY, hgy1, hgy2, yrow0, _, hgyi1, hgyi2, _, _, hvy⟩ := hly.pick i (by rw [fullL_len]; omega) j (by rw [fullL_row_len hin]; omega)
          subst eY
          rw [fullL_row_len hin] at yrow0 hvy
          obtain ⟨A7, c7, B7, d7, ye0, v7⟩ := hvy.at j (by rw [fullL_row_len hin]; omega)
          rw [fullL_get hin (show j < n by omega)] at ye0 v7
          have hgib := HVS.out i hin gi (by rw [hvi]; exact blk_slice (by omega))
          have hgyb : gy ≠ gi := by omega
          have hgyib : gyi ≠ gi := by omega
          clear m1 m3 hvy
          obtain ⟨yA, hyA⟩ : ∃ y, rowAt (A.getD i zRow) (j : Nat) = y := ⟨_, rfl⟩
          obtain ⟨yB, hyB⟩ : ∃ y, rowAt (B.getD i zRow) (j : Nat) = y := ⟨_, rfl⟩
          rw [hyA] at r6 v6 HEij fA
          rw [hyB] at ye0 v7 HEij fB
          have KM1 := Lib.hid (fun W (hW : Below wr.heap.size wr W) => sRatMul r yA _ _ W (HR0.out.later (below_trans hwwb hW)) (v6.later hW) HF0.out fA)
          have KM2 := Lib.hid (fun W (hW : Below wr.heap.size wr W) => sRatMul s yB _ _ W (HR2.out.later (below_trans hwwb hW)) (v7.later hW) HF2.out fB)
          have KD := fun u v W (hu : RatV W u (FE.rmul r yA)) (hv : RatV W v (FE.rmul s yB)) => sRatAdd (FE.rmul r yA) (FE.rmul s yB) u v W hu hv (res_few (FE.rmul_res _ _)) (res_few (FE.rmul_res _ _))
          rw [← HEij.out] at KD
          replace KD := Lib.hid KD
          obtain ⟨Y, hYY⟩ : ∃ Y, E i j = Y := ⟨_, rfl⟩
          rw [hYY] at KD HNX
          clear HEij hYY hyA hyB fA fB hvx v6 HGT
          go_wp2_with fail
          generalize wr = wb at *
          generalize FE.rmul r yA = MA at *
          generalize FE.rmul s yB = MB at *
          refine wp_region_held_drew (S := fun W => Below lo wb W ∧ World.cell? W ⟨g, i, none⟩ = some (.slice (some ⟨gi, 0, none⟩) n ci) ∧ World.cell? W ⟨gy, i, none⟩ = some (.slice (some ⟨gyi, 0, none⟩) n cyi) ∧ R3 W gyi (j * 3) (.bool yB.neg) (.slice A7 yB.mag.length c7) (.slice B7 yB.den.length d7)) (by kernel_rfl) ⟨hwdl, row0, yrow0, ye0⟩ (fun hHeld => ?_)
          refine qL (i := 0) (v := ?_) rfl (by kernel_rfl) (fun _ _ _ h => h) (by assumption) (by rfl) (fun W _ => ?_) ?_
          rotate_left
          · go_simp
            try with_reducible rfl
          try simp only [Act.put, List.setIfInBounds_toArray]
          refine qL (i := 1) (v := ?_) rfl (by kernel_rfl) (fun _ _ _ h => h) (by assumption) (by rfl) (fun W _ => ?_) ?_
          rotate_left
          · go_simp
            try with_reducible rfl
          try simp only [Act.put]
          refine qL (i := 2) (v := ?_) rfl (by kernel_rfl) (fun _ _ _ h => h) (by assumption) (by rfl) (fun W _ => ?_) ?_
          rotate_left
          · go_simp
            try with_reducible rfl
          try simp only [Act.put]
          refine qL (i := 3) (v := ?_) rfl (by kernel_rfl) (fun _ _ _ h => h) (by assumption) (by rfl) (fun W hSw => ?_) ?_
          rotate_left
          · have row := And.left (And.right hSw)
            go_simp
            try with_reducible rfl
          try simp only [Act.put]
          refine qL (i := 4) (v := ?_) rfl (by kernel_rfl) (fun _ _ _ h => h) (by assumption) (by rfl) (fun W _ => ?_) ?_
          rotate_left
          · go_simp
            try with_reducible rfl
          try simp only [Act.put]
          refine qL (i := 5) (v := ?_) rfl (by kernel_rfl) (fun _ _ _ h => h) (by assumption) (by rfl) (fun W hSw => ?_) ?_
          rotate_left
          · have fr0 := (Below.cell (And.left hSw) (p := ⟨w.heap.size, 0, none⟩) (show w.heap.size < lo by omega)).trans a0
            have fr1 := (Below.cell (And.left hSw) (p := ⟨w.heap.size, 1, none⟩) (show w.heap.size < lo by omega)).trans a1
            have fr2 := (Below.cell (And.left hSw) (p := ⟨w.heap.size, 2, none⟩) (show w.heap.size < lo by omega)).trans a2
            go_simp
            try with_reducible rfl
          try simp only [Act.put]
          refine qL (i := 6) (v := ?_) rfl (by kernel_rfl) (fun _ _ _ h => h) (by assumption) (by rfl) (fun W _ => ?_) ?_
          rotate_left
          · go_simp
            try with_reducible rfl
          try simp only [Act.put]
          refine qL (i := 7) (v := ?_) rfl (by kernel_rfl) (fun _ _ _ h => h) (by assumption) (by rfl) (fun W _ => ?_) ?_
          rotate_left
          · go_simp
            try with_reducible rfl
          try simp only [Act.put]
          refine qL (i := 8) (v := ?_) rfl (by kernel_rfl) (fun _ _ _ h => h) (by assumption) (by rfl) (fun W _ => ?_) ?_
          rotate_left
          · go_simp
            try with_reducible rfl
          try simp only [Act.put]
          refine qL (i := 9) (v := ?_) rfl (by kernel_rfl) (fun _ _ _ h => h) (by assumption) (by rfl) (fun W hSw => ?_) ?_
          rotate_left
          · have row := And.left (And.right hSw)
            go_simp
            try with_reducible rfl
          try simp only [Act.put]
          refine qL (i := 10) (v := ?_) rfl (by kernel_rfl) (fun _ _ _ h => h) (by assumption) (by rfl) (fun W _ => ?_) ?_
          rotate_left
          · go_simp
            try with_reducible rfl
          try simp only [Act.put]
          refine qL (i := 11) (v := ?_) rfl (by kernel_rfl) (fun _ _ _ h => h) (by assumption) (by rfl) (fun W _ => ?_) ?_
          rotate_left
          · go_simp
            try with_reducible rfl
          try simp only [Act.put]
          refine qL (i := 14) (v := ?_) rfl (by kernel_rfl) (fun _ _ _ h => h) (by assumption) (by rfl) (fun W hSw => ?_) ?_
          rotate_left
          · have fs0 := (Below.cell (And.left hSw) (p := ⟨w.heap.size + 1 + 1, 0, none⟩) (show w.heap.size + 1 + 1 < lo by omega)).trans e0
            have fs1 := (Below.cell (And.left hSw) (p := ⟨w.heap.size + 1 + 1, 1, none⟩) (show w.heap.size + 1 + 1 < lo by omega)).trans e1
            have fs2 := (Below.cell (And.left hSw) (p := ⟨w.heap.size + 1 + 1, 2, none⟩) (show w.heap.size + 1 + 1 < lo by omega)).trans e2
            go_simp
            try with_reducible rfl
          try simp only [Act.put]
          refine qL (i := 15) (v := ?_) rfl (by kernel_rfl) (fun _ _ _ h => h) (by assumption) (by rfl) (fun W _ => ?_) ?_
          rotate_left
          · go_simp
            try with_reducible rfl
          try simp only [Act.put]
          refine qL (i := 16) (v := ?_) rfl (by kernel_rfl) (fun _ _ _ h => h) (by assumption) (by rfl) (fun W _ => ?_) ?_
          rotate_left
          · go_simp
            try with_reducible rfl
          try simp only [Act.put]
          refine qL (i := 17) (v := ?_) rfl (by kernel_rfl) (fun _ _ _ h => h) (by assumption) (by rfl) (fun W _ => ?_) ?_
          rotate_left
          · go_simp
            try with_reducible rfl
          try simp only [Act.put]
          refine qL (i := 18) (v := ?_) rfl (by kernel_rfl) (fun _ _ _ h => h) (by assumption) (by rfl) (fun W hSw => ?_) ?_
          rotate_left
          · have yrow := And.left (And.right (And.right hSw))
            go_simp
            try with_reducible rfl
          try simp only [Act.put]
          refine qL (i := 19) (v := ?_) rfl (by kernel_rfl) (fun _ _ _ h => h) (by assumption) (by rfl) (fun W _ => ?_) ?_
          rotate_left
          · go_simp
            try with_reducible rfl
          try simp only [Act.put]
          refine qL (i := 20) (v := ?_) rfl (by kernel_rfl) (fun _ _ _ h => h) (by assumption) (by rfl) (fun W _ => ?_) ?_
          rotate_left
          · go_simp
            try with_reducible rfl
          try simp only [Act.put]
          refine qL (i := 21) (v := ?_) rfl (by kernel_rfl) (fun _ _ _ h => h) (by assumption) (by rfl) (fun W hSw => ?_) ?_
          rotate_left
          · have y := (And.right (And.right (And.right hSw)))
            have fy0 := y.1
            have fy1 := y.2.1
            have fy2 := y.2.2
            go_simp
            try with_reducible rfl
          try simp only [Act.put]
          refine qR (i := 12) (by kernel_rfl) rfl (fun K hK => ?_)
          simp only [List.getElem_toArray, List.getElem_cons_succ, List.getElem_cons_zero]
          have u0 := r6.1
          have u1 := r6.2.1
          have u2 := r6.2.2
          go_simp
          refine hK.out _ _ (hHeld) (fun h2 => ?_)
          clear hK K hHeld
          have hHeld := h2
          clear h2
          try simp only [Act.put, List.setIfInBounds_toArray, List.set_cons_zero, List.set_cons_succ]
          refine qR (i := 13) (by kernel_rfl) rfl (fun K hK => ?_)
          simp only [List.getElem_toArray, List.getElem_cons_succ, List.getElem_cons_zero]
          go_simp
          (go_at_call 84; (with_reducible refine (KM1.out _ (by first | exact hwd | exact Below.refl _ _)).mono ?_); rintro e12 w12 ⟨v12, rfl, hv12, hb12⟩)
          try (go_wp2_with fail)
          have hw12 : Below wb.heap.size wb w12 := ⟨hb12.os, hb12.tape, hb12.output, hb12.size, hb12.block⟩
          have hz12 := hw12.size
          have hB12 := hw12.mono hlob
          have row12 := cell_later hg2 row0 hw12
          have yrow12 := cell_later hgy2 yrow0 hw12
          have ye12 := ye0.later hw12
          refine hK.out _ _ ⟨hB12, row12, yrow12, ye12⟩ (fun h2 => ?_)
          clear hK K hHeld
          have hHeld := h2
          clear h2
          try simp only [Act.put, List.setIfInBounds_toArray, List.set_cons_zero, List.set_cons_succ]
          refine qR (i := 22) (by kernel_rfl) rfl (fun K hK => ?_)
          simp only [List.getElem_toArray, List.getElem_cons_succ, List.getElem_cons_zero]
          go_simp
          (go_at_call 84; (with_reducible refine (KM2.out _ hw12).mono ?_); rintro e14 w14 ⟨v14, rfl, hv14, hb14⟩)
          try (go_wp2_with fail)
          have hw14 := below_trans hw12 hb14
          have hz14 := hw14.size
          have hB14 := hw14.mono hlob
          have row14 := cell_later hg2 row0 hw14
          have yrow14 := cell_later hgy2 yrow0 hw14
          have ye14 := ye0.later hw14
          refine hK.out _ _ ⟨hB14, row14, yrow14, ye14⟩ (fun h2 => ?_)
          clear hK K hHeld
          have hHeld := h2
          clear h2
          try simp only [Act.put, List.setIfInBounds_toArray, List.set_cons_zero, List.set_cons_succ]
          refine qR (i := 23) (by kernel_rfl) rfl (fun K hK => ?_)
          simp only [List.getElem_toArray, List.getElem_cons_succ, List.getElem_cons_zero]
          go_simp
          (go_at_call 83; (with_reducible refine (KD.out _ _ _ (hv12.later hb14).reads hv14.reads).mono ?_); rintro e15 w15 ⟨v15, rfl, hp15, hb15⟩)
          try (go_wp2_with fail)
          have hw15 := below_trans hw14 hb15
          have hz15 := hw15.size
          have hB15 := hw15.mono hlob
          have row15 := cell_later hg2 row0 hw15
          have yrow15 := cell_later hgy2 yrow0 hw15
          have ye15 := ye0.later hw15
          obtain ⟨A9, n9, c9, B9, m9, d9, rfl⟩ := hp15.shape
          refine hK.out _ _ ⟨hB15, row15, yrow15, ye15⟩ (fun h2 => ?_)
          clear hK K hHeld
          have hHeld := h2
          clear h2
          try simp only [Act.put, List.setIfInBounds_toArray, List.set_cons_zero, List.set_cons_succ]
          refine qL (i := 24) (v := ?_) rfl (by kernel_rfl) (fun _ _ _ h => h) (by assumption) (by rfl) (fun W _ => ?_) ?_
          rotate_left
          · go_simp
            try with_reducible rfl
          try simp only [Act.put, List.setIfInBounds_toArray]
          refine qR (i := 25) (by kernel_rfl) rfl (fun K hK => ?_)
          simp only [List.getElem_toArray, List.getElem_cons_succ, List.getElem_cons_zero]
          have r69 := r6.later hw15
          have t0 := r69.1
          have t1 := r69.2.1
          have t2 := r69.2.2
          have z0 := (hw15.frozen (p := ⟨gi, j * 3, none⟩) hgi2).trans (hfz (j * 3))
          have z1 := (hw15.frozen (p := ⟨gi, j * 3 + 1, none⟩) hgi2).trans (hfz (j * 3 + 1))
          have z2 := (hw15.frozen (p := ⟨gi, j * 3 + 2, none⟩) hgi2).trans (hfz (j * 3 + 2))
          go_simp
          refine hK.out _ _ ⟨below_set3 hB15 hgi1 _ _ _, ((set3_frame w15 gi (j * 3) _ _ _).cell (by omega) (fun e => hggi e)).trans row15, ((set3_frame w15 gi (j * 3) _ _ _).cell (by omega) (fun e => by omega)).trans yrow15, ye15.off (Or.inl (by omega))⟩ (fun h2 => ?_)
          clear hK K hHeld
          have hHeld := h2
          clear h2
          try simp only [Act.put, List.setIfInBounds_toArray, List.set_cons_zero, List.set_cons_succ]
          refine wpAnyH_done (by kernel_rfl) ?_ _
          clear hHeld
          have hl9 := (hls.later hw15).put (i := i) (j := j) (by rw [HML.out]; omega) (by rw [hvi]) (by rw [HMR.out]; omega) hp15 (by omega) (by omega) hz15
          rw [HNX.out] at hl9
          have hsz : (set3 w15 gi (j * 3) (.bool Y.neg) (.slice A9 n9 c9) (.slice B9 m9 d9)).heap.size = w15.heap.size := by simp [set3]
          have hl10 := hl9.wide (Nat.le_refl lo) (Nat.le_of_eq hsz.symm)
          have hbr := hbw.trans (below_set3 hB15 hgi1 (o := j * 3) (.bool Y.neg) (.slice A9 n9 c9) (.slice B9 m9 d9))
          have hly2 := (hly.later hw15).frame (set3_frame w15 gi (j * 3) (.bool Y.neg) (.slice A9 n9 c9) (.slice B9 m9 d9)) (fun b h1 _ e => by omega)
          clear t0 t1 t2 z0 z1 z2 r6 hp15 hls hl9 a0 a1 a2 e0 e1 e2 row0
          go_wp2
          go_roundw
          case rel => exact ⟨j + 1, by omega, rfl, hbr, hl10, hly2⟩
          case measure => simp [intOf]; omega
end Go.Proofs.YtlpomcihkjiokaaGreat
