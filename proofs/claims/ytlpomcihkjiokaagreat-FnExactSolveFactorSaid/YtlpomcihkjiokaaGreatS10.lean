/-
  Shared texts (S10).
-/
import Derived.Test.YtlpomcihkjiokaaGreatS9
import Derived.Test.YtlpomcihkjiokaaGreatS2
import Derived.Deep.RegionHeld
namespace Go.Proofs.YtlpomcihkjiokaaGreat
open Go.RowKit Go.Joins

theorem getD_setP (l : List (Value × Value)) (i j : Nat) (x : Value × Value) : (l.set i x).getD j zP = if i = j ∧ j < l.length then x else l.getD j zP := by
  simp only [List.getD_eq_getElem?_getD, List.getElem?_set]
  split
  · rename_i h
    subst h
    split
    · rename_i h; simp [h]
    · rename_i h; simp [h]
  · rename_i h
    rw [if_neg (fun h' => h h'.1)]
/-- Parts that lie in intervals apart. -/
theorem PO.apart {w w' : World} {lo hi lo' hi' : Nat} {u v : Value} {xs ys : List Int} (h1 : PO w lo hi u xs) (h2 : PO w' lo' hi' v ys) (h : hi ≤ lo') : Apart u v := by
  intro a n c b m d e1 e2 n1 n2 e
  subst e1 e2
  have k1 := (h1.2 _ (blk_slice n1)).2
  have k2 := (h2.2 _ (blk_slice n2)).1
  omega
theorem Aps.swap {ps : List (Value × Value)} {i : Nat} {va vb : Value} (h : Aps ps) (_hi : i < ps.length) (hab : Apart va vb) (ho : ∀ j, j < ps.length → j ≠ i → Apart (ps.getD j zP).1 va ∧ Apart (ps.getD j zP).1 vb ∧ Apart (ps.getD j zP).2 va ∧ Apart (ps.getD j zP).2 vb) : Aps (ps.set i (va, vb)) := by
  refine ⟨fun j hj => ?_, fun j k hj hk hne => ?_⟩
  · rw [List.length_set] at hj
    rw [getD_setP]
    split
    · exact hab
    · exact h.1 j hj
  · rw [List.length_set] at hj hk
    rw [getD_setP, getD_setP]
    by_cases e1 : i = j
    · subst e1
      rw [if_pos ⟨rfl, hj⟩, if_neg (fun h' => hne h'.1)]
      obtain ⟨a, b, c, d⟩ := ho k hk (fun e => hne e.symm)
      exact ⟨a.symm, c.symm, b.symm, d.symm⟩
    · rw [if_neg (fun h' => e1 h'.1)]
      by_cases e2 : i = k
      · subst e2
        rw [if_pos ⟨rfl, hk⟩]
        exact ho j hj (fun e => hne e)
      · rw [if_neg (fun h' => e2 h'.1)]
        exact h.2 j k hj hk hne
/-- Three cells of a block, set. -/
def set3 (w : World) (g o : Nat) (a b c : Value) : World := ((w.setCell ⟨g, o, none⟩ a).setCell ⟨g, o + 1, none⟩ b).setCell ⟨g, o + 2, none⟩ c
theorem set3_far {w : World} {g o k : Nat} {a b c : Value} (h0 : k ≠ o) (h1 : k ≠ o + 1) (h2 : k ≠ o + 2) : (set3 w g o a b c).cell? ⟨g, k, none⟩ = w.cell? ⟨g, k, none⟩ := by
  unfold set3
  rw [World.cell?_setCell_other _ _ _ _ (by intro e; injection e with _ e; exact h2 e.symm), World.cell?_setCell_other _ _ _ _ (by intro e; injection e with _ e; exact h1 e.symm), World.cell?_setCell_other _ _ _ _ (by intro e; injection e with _ e; exact h0 e.symm)]
theorem set3_at {w : World} {g o : Nat} {a b c x y z : Value} (hx : w.cell? ⟨g, o, none⟩ = some x) (hy : w.cell? ⟨g, o + 1, none⟩ = some y) (hz : w.cell? ⟨g, o + 2, none⟩ = some z) :
    (set3 w g o a b c).cell? ⟨g, o, none⟩ = some a ∧ (set3 w g o a b c).cell? ⟨g, o + 1, none⟩ = some b ∧ (set3 w g o a b c).cell? ⟨g, o + 2, none⟩ = some c := by
  have n01 : (⟨g, o, none⟩ : Addr) ≠ ⟨g, o + 1, none⟩ := by intro e; injection e with _ e; omega
  have n02 : (⟨g, o, none⟩ : Addr) ≠ ⟨g, o + 2, none⟩ := by intro e; injection e with _ e; omega
  have n12 : (⟨g, o + 1, none⟩ : Addr) ≠ ⟨g, o + 2, none⟩ := by intro e; injection e with _ e; omega
  unfold set3
  refine ⟨?_, ?_, ?_⟩
  · rw [World.cell?_setCell_other _ _ _ _ (fun e => n02 e.symm), World.cell?_setCell_other _ _ _ _ (fun e => n01 e.symm), World.cell?_setCell_same _ _ _ hx]
  · rw [World.cell?_setCell_other _ _ _ _ (fun e => n12 e.symm), World.cell?_setCell_same _ _ _ (show _ = some y by rw [World.cell?_setCell_other _ _ _ _ n01]; exact hy)]
  · rw [World.cell?_setCell_same _ _ _ (show _ = some z by rw [World.cell?_setCell_other _ _ _ _ n12, World.cell?_setCell_other _ _ _ _ n02]; exact hz)]
theorem set3_frame (w : World) (g o : Nat) (a b c : Value) : Frame (fun x => x = g) w (set3 w g o a b c) :=
  (((Frame.refl (fun x => x = g) w).setCell (p := ⟨g, o, none⟩) rfl a).setCell (p := ⟨g, o + 1, none⟩) rfl b).setCell (p := ⟨g, o + 2, none⟩) rfl c
/-- **An entry replaced by a fresh fraction.** -/
theorem VS.swap {w : World} {lo hi lo2 hi2 g n c i : Nat} {ps : List (Value × Value)} {rs : List RatD} {y : RatD} {va vb : Value} (h : VS w lo hi (.slice (some ⟨g, 0, none⟩) n c) ps rs) (hi1 : i < rs.length) (hap : Aps ps)
    (ha : PO w lo2 hi2 va y.mag) (hb : PO w lo2 hi2 vb y.den) (hab : Apart va vb) (hl : hi ≤ lo2) (hll : lo ≤ lo2) (hh : hi ≤ hi2) :
    VS (set3 w g (i * 3) (.bool y.neg) va vb) lo hi2 (.slice (some ⟨g, 0, none⟩) n c) (ps.set i (va, vb)) (rs.set i y) ∧ Aps (ps.set i (va, vb)) := by
  have hnn : n = rs.length := by
    obtain ⟨_, A, c', e, _⟩ := h
    injection e
  subst hnn
  have hx : rs ≠ [] := by rintro rfl; simp at hi1
  have hbv : blk (.slice (some ⟨g, 0, none⟩) rs.length c) = some g := blk_slice (by simpa using hx)
  obtain ⟨_, _, k1, k2, k3, k4, ke⟩ := h.at_blk hbv
  obtain ⟨hp, A, c', e, q1, q2, _⟩ := h
  injection e with _ _ e
  subst e
  have hz : ∃ s, w.cell? ⟨g, 0, none⟩ = some (.bool s) := ⟨_, by have := (ke 0 (List.length_pos_iff.2 hx)).1; rwa [Nat.zero_mul] at this⟩
  have hf := set3_frame w g (i * 3) (.bool y.neg) va vb
  have hfz : ∀ o, (set3 w g (i * 3) (.bool y.neg) va vb).frozen? ⟨g, o, none⟩ = w.frozen? ⟨g, o, none⟩ := fun o => by simp [set3]
  obtain ⟨c0, c1, c2⟩ := set3_at (a := .bool y.neg) (b := va) (c := vb) (ke i hi1).1 (ke i hi1).2.1 (ke i hi1).2.2.1
  refine ⟨⟨by simpa using hp, some ⟨g, 0, none⟩, c, by simp, by simpa using q1, q2, fun _ => ⟨g, rfl, k1, by omega, Nat.lt_of_lt_of_le k3 hf.size, fun o => (hfz o).trans (k4 o), fun j hj => ?_⟩⟩, ?_⟩
  · rw [List.length_set] at hj
    rw [getD_setR, getD_setP]
    by_cases e : i = j
    · subst e
      rw [if_pos ⟨rfl, by omega⟩, if_pos ⟨rfl, by omega⟩]
      exact ⟨c0, c1, c2, (ha.frame hf (fun b hb e => by have := (ha.2 b hb).1; omega)).wide hll (Nat.le_refl _), (hb.frame hf (fun b hb' e => by have := (hb.2 b hb').1; omega)).wide hll (Nat.le_refl _)⟩
    · rw [if_neg (fun h' => e h'.1), if_neg (fun h' => e h'.1)]
      obtain ⟨m1, m2⟩ := (ke j hj).head hz
      refine ⟨(set3_far (by omega) (by omega) (by omega)).trans (ke j hj).1, (set3_far (by omega) (by omega) (by omega)).trans (ke j hj).2.1, (set3_far (by omega) (by omega) (by omega)).trans (ke j hj).2.2.1, ((ke j hj).2.2.2.1.frame hf (fun b hb e => ?_)).wide (Nat.le_refl _) hh, ((ke j hj).2.2.2.2.frame hf (fun b hb e => ?_)).wide (Nat.le_refl _) hh⟩
      · exact m1 (by rw [hb, show b = g from e])
      · exact m2 (by rw [hb, show b = g from e])
  · refine hap.swap (by omega) hab (fun j hj hne => ?_)
    have k := ke j (by omega)
    exact ⟨k.2.2.2.1.apart ha hl, k.2.2.2.1.apart hb hl, k.2.2.2.2.apart ha hl, k.2.2.2.2.apart hb hl⟩
end Go.Proofs.YtlpomcihkjiokaaGreat

namespace Go.Proofs.YtlpomcihkjiokaaGreat
open Go.RowKit Go.Joins

set_option maxRecDepth 100000 in
set_option maxHeartbeats 1600000 in
theorem iCopyVec (us : List RatD) (n c : Nat) (hn : us.length = n) (hf : Few us) (A : Option Addr) (w : World) (ha : VI w A us) :
    Calls Tryz.prog 140 #[.slice A n c] w (VRes w us) := by
  have hn1 : n ≤ 1048576 := hn ▸ hf.1
  have HF := Lib.hid hf.2
  have HN := Lib.hid hn
  have HA := Lib.hid ha
  have HTS := Lib.hid (fun k (hk : k < n) => (show us.take (k + 1) = us.take k ++ [us.getD k zR] by
    rw [List.take_succ_eq_append_getElem (by omega)]
    simp [show k < us.length by omega]))
  have HTL := Lib.hid (fun k (hk : k ≤ n) => (show (us.take k).length = k by rw [List.length_take]; omega))
  have hl0 := World.ownsRow_lit (base := w.heap.size) (e := 57) (size := 3) w #[] 0 (by simp) (by unfold maxLen; omega) rfl
  have hbel0 := below_alloc1 w (.cells #[] 57)
  have hsz0 : w.heap.size < (w.alloc (.cells #[] 57)).heap.size := by simp
  clear hn hf ha
  go_enter Tryz.func140, Tryz.ntmps140
  go_wp2_with fail
  generalize w.alloc (.cells #[] 57) = w2 at *
  go_loopw [3, 9] (fun o z wr => ∃ k : Nat, k ≤ n ∧ z = .int .i64 k ∧ Below w.heap.size w2 wr ∧ ∃ ps, VW wr w.heap.size wr.heap.size o ps (us.take k)) (fun _ z _ => n - (intOf z).toNat)
  case atStart => exact ⟨0, Nat.zero_le _, rfl, Below.refl _ _, [], VW.nil _ _ _ hl0⟩
  case round =>
    obtain ⟨k, hk, rfl, hbel, ps, hvw⟩ := hrel
    have hbelw := hbel0.trans hbel
    have hszr := hbel.size
    obtain ⟨Ao, co, rfl, _⟩ := hvw.form
    have hno := HTL.out k hk
    rw [hno]
    rw [hno] at hvw
    have HCL := Lib.hid hno
    have HVW := Lib.hid hvw
    clear hvw hno
    by_cases hkn : k = n
    · subst hkn
      have hlf : decide ((k : Int) < (k : Int)) = false := by simp
      have HTK := Lib.hid (show us.take k = us from List.take_of_length_le (by rw [HN.out]; exact Nat.le_refl _))
      go_wp2
      go_ret
      have hv := HVW.out
      rw [HTK.out] at hv
      exact ⟨.slice Ao k co, ps, rfl, hv.parts.wide (Nat.le_refl _) (by simp), hv.2.2.2, hbelw⟩
    · have hltk : (k : Int) < (n : Int) := by omega
      have hku : k < us.length := by rw [HN.out]; omega
      obtain ⟨b4, o4, rfl, hb4, hat4⟩ := HA.out.cells k hku
      have hat4' := RatAt.stays _ _ _ _ _ hb4 hat4 hbelw
      obtain ⟨fu1, fu2⟩ := HF.out k hku
      have HS := Lib.hid (HTS.out k (by omega))
      clear hku hat4
      generalize us.getD k zR = y at *
      obtain ⟨A5, c5, B5, d5, k0, k1, k2, hl5, q1, q2⟩ := hat4'
      have al7 := below_alloc1 wr (.cells #[.bool y.neg, .slice A5 y.mag.length c5, .slice B5 y.den.length d5] 57)
      have X7 := Slots.new (Below.refl _ (wr.alloc (.cells #[.bool y.neg, .slice A5 y.mag.length c5, .slice B5 y.den.length d5] 57))) (g := wr.heap.size) rfl
      have HC := Lib.hid (fun W (hW : Below wr.heap.size wr W) => iCopyRat y (.agg #[.bool y.neg, .slice A5 y.mag.length c5, .slice B5 y.den.length d5]) W ⟨_, _, _, _, rfl, hl5, q1.later hW, q2.later hW⟩ fu1 fu2)
      obtain ⟨x0, x1, x2, _, _, _⟩ := X7.c3
      clear hl5 q1 q2 fu1 fu2 X7
      go_wp2_with fail
      clear k0 k1 k2
      refine (HC.out _ al7).mono ?_
      rintro e w5 ⟨v5, rfl, hr5, hb5⟩
      clear x0 x1 x2
      obtain ⟨A9, n9, c9, B9, m9, d9, rfl⟩ := hr5.shape
      have hb7 := below_trans al7 hb5
      have hz7 : wr.heap.size + 1 ≤ w5.heap.size := by have := hb5.size; simp at this; omega
      have al9 := below_alloc1 w5 (.cells #[.bool y.neg, .slice A9 n9 c9, .slice B9 m9 d9] 57)
      have Z9 := Slots.new (Below.refl _ (w5.alloc (.cells #[.bool y.neg, .slice A9 n9 c9, .slice B9 m9 d9] 57))) (g := w5.heap.size) rfl
      obtain ⟨c0, c1', c2', _, _, _⟩ := Z9.c3
      have hbx := below_trans hb7 al9
      have hbelx := hbel.trans (hbx.mono (by omega))
      have HVX := Lib.hid (HVW.out.later hbx)
      obtain ⟨va, vb, ev, ra, rb, hap⟩ := hr5
      injection ev with ev
      injection ev with ev
      injection ev with ev0 ev
      injection ev with ev1 ev
      injection ev with ev2 _
      subst ev1 ev2
      clear ev0
      have ia := (ra.io.later al9).wide (lo' := wr.heap.size) (hi' := w5.heap.size + 1) (by simp) (by omega)
      have ib := (rb.io.later al9).wide (lo' := wr.heap.size) (hi' := w5.heap.size + 1) (by simp) (by omega)
      clear Z9 al9 hbx ra rb hb5 hb7 al7
      go_wp2_with (at_builtin; refine appRat rfl _ _ rfl rfl HVX.out (by rw [HCL.out]; omega) (by simp; omega) y _ _ w5.heap.size rfl c0 c1' c2' ia ib hap (by omega) (by omega) ?_; intro v9 w9 hvw9 hfr9)
      have hbel9 := hbelx.trans (hfr9.to_below (B := w.heap.size) (by simp; omega) (fun b hb hs => by have := (World.ownsRow.lt HVX.out.2.1 b hs).1; omega))
      rw [← HS.out] at hvw9
      have hvw9' := hvw9.wide (hi' := w9.heap.size) (by have := hfr9.size; simp at this; omega)
      clear c0 c1' c2'
      go_roundw
      case rel => exact ⟨k + 1, by omega, rfl, hbel9, _, hvw9'⟩
      case measure => simp [intOf]; omega

set_option maxRecDepth 100000 in
set_option maxHeartbeats 1600000 in
theorem sCopyVec (us : List RatD) (n c : Nat) (hn : us.length = n) (hf : Few us) (A : Option Addr) (w : World) (ha : VI w A us) :
    Calls Tryz.prog 144 #[.slice A n c] w (VRes w us) := by
  have hn1 : n ≤ 1048576 := hn ▸ hf.1
  have HF := Lib.hid hf.2
  have HN := Lib.hid hn
  have HA := Lib.hid ha
  have HTS := Lib.hid (fun k (hk : k < n) => (show us.take (k + 1) = us.take k ++ [us.getD k zR] by
    rw [List.take_succ_eq_append_getElem (by omega)]
    simp [show k < us.length by omega]))
  have HTL := Lib.hid (fun k (hk : k ≤ n) => (show (us.take k).length = k by rw [List.length_take]; omega))
  have hl0 := World.ownsRow_lit (base := w.heap.size) (e := 57) (size := 3) w #[] 0 (by simp) (by unfold maxLen; omega) rfl
  have hbel0 := below_alloc1 w (.cells #[] 57)
  have hsz0 : w.heap.size < (w.alloc (.cells #[] 57)).heap.size := by simp
  clear hn hf ha
  go_enter Tryz.func144, Tryz.ntmps144
  go_wp2_with fail
  generalize w.alloc (.cells #[] 57) = w2 at *
  go_loopw [3, 9] (fun o z wr => ∃ k : Nat, k ≤ n ∧ z = .int .i64 k ∧ Below w.heap.size w2 wr ∧ ∃ ps, VW wr w.heap.size wr.heap.size o ps (us.take k)) (fun _ z _ => n - (intOf z).toNat)
  case atStart => exact ⟨0, Nat.zero_le _, rfl, Below.refl _ _, [], VW.nil _ _ _ hl0⟩
  case round =>
    obtain ⟨k, hk, rfl, hbel, ps, hvw⟩ := hrel
    have hbelw := hbel0.trans hbel
    have hszr := hbel.size
    obtain ⟨Ao, co, rfl, _⟩ := hvw.form
    have hno := HTL.out k hk
    rw [hno]
    rw [hno] at hvw
    have HCL := Lib.hid hno
    have HVW := Lib.hid hvw
    clear hvw hno
    by_cases hkn : k = n
    · subst hkn
      have hlf : decide ((k : Int) < (k : Int)) = false := by simp
      have HTK := Lib.hid (show us.take k = us from List.take_of_length_le (by rw [HN.out]; exact Nat.le_refl _))
      go_wp2
      go_ret
      have hv := HVW.out
      rw [HTK.out] at hv
      exact ⟨.slice Ao k co, ps, rfl, hv.parts.wide (Nat.le_refl _) (by simp), hv.2.2.2, hbelw⟩
    · have hltk : (k : Int) < (n : Int) := by omega
      have hku : k < us.length := by rw [HN.out]; omega
      obtain ⟨b4, o4, rfl, hb4, hat4⟩ := HA.out.cells k hku
      have hat4' := RatAt.stays _ _ _ _ _ hb4 hat4 hbelw
      obtain ⟨fu1, fu2⟩ := HF.out k hku
      have HS := Lib.hid (HTS.out k (by omega))
      clear hku hat4
      generalize us.getD k zR = y at *
      obtain ⟨A5, c5, B5, d5, k0, k1, k2, hl5, q1, q2⟩ := hat4'
      have al7 := below_alloc1 wr (.cells #[.bool y.neg, .slice A5 y.mag.length c5, .slice B5 y.den.length d5] 57)
      have X7 := Slots.new (Below.refl _ (wr.alloc (.cells #[.bool y.neg, .slice A5 y.mag.length c5, .slice B5 y.den.length d5] 57))) (g := wr.heap.size) rfl
      have HC := Lib.hid (fun W (hW : Below wr.heap.size wr W) => sCopy y (.agg #[.bool y.neg, .slice A5 y.mag.length c5, .slice B5 y.den.length d5]) W ⟨_, _, _, _, rfl, hl5, q1.later hW, q2.later hW⟩ fu1 fu2)
      obtain ⟨x0, x1, x2, _, _, _⟩ := X7.c3
      clear hl5 q1 q2 fu1 fu2 X7
      go_wp2_with fail
      clear k0 k1 k2
      refine (HC.out _ al7).mono ?_
      rintro e w5 ⟨v5, rfl, hr5, hb5⟩
      clear x0 x1 x2
      obtain ⟨A9, n9, c9, B9, m9, d9, rfl⟩ := hr5.shape
      have hb7 := below_trans al7 hb5
      have hz7 : wr.heap.size + 1 ≤ w5.heap.size := by have := hb5.size; simp at this; omega
      have al9 := below_alloc1 w5 (.cells #[.bool y.neg, .slice A9 n9 c9, .slice B9 m9 d9] 57)
      have Z9 := Slots.new (Below.refl _ (w5.alloc (.cells #[.bool y.neg, .slice A9 n9 c9, .slice B9 m9 d9] 57))) (g := w5.heap.size) rfl
      obtain ⟨c0, c1', c2', _, _, _⟩ := Z9.c3
      have hbx := below_trans hb7 al9
      have hbelx := hbel.trans (hbx.mono (by omega))
      have HVX := Lib.hid (HVW.out.later hbx)
      obtain ⟨va, vb, ev, ra, rb, hap⟩ := hr5
      injection ev with ev
      injection ev with ev
      injection ev with ev0 ev
      injection ev with ev1 ev
      injection ev with ev2 _
      subst ev1 ev2
      clear ev0
      have ia := (ra.io.later al9).wide (lo' := wr.heap.size) (hi' := w5.heap.size + 1) (by simp) (by omega)
      have ib := (rb.io.later al9).wide (lo' := wr.heap.size) (hi' := w5.heap.size + 1) (by simp) (by omega)
      clear Z9 al9 hbx ra rb hb5 hb7 al7
      go_wp2_with (at_builtin; refine appRat rfl _ _ rfl rfl HVX.out (by rw [HCL.out]; omega) (by simp; omega) y _ _ w5.heap.size rfl c0 c1' c2' ia ib hap (by omega) (by omega) ?_; intro v9 w9 hvw9 hfr9)
      have hbel9 := hbelx.trans (hfr9.to_below (B := w.heap.size) (by simp; omega) (fun b hb hs => by have := (World.ownsRow.lt HVX.out.2.1 b hs).1; omega))
      rw [← HS.out] at hvw9
      have hvw9' := hvw9.wide (hi' := w9.heap.size) (by have := hfr9.size; simp at this; omega)
      clear c0 c1' c2'
      go_roundw
      case rel => exact ⟨k + 1, by omega, rfl, hbel9, _, hvw9'⟩
      case measure => simp [intOf]; omega

end Go.Proofs.YtlpomcihkjiokaaGreat

namespace Go.Proofs.YtlpomcihkjiokaaGreat
open Go.RowKit Go.Joins

/-- An iterate of the call's own between lo and hi. -/
def IT (w : World) (lo hi : Nat) (v : Value) (x r p : List RatD) : Prop :=
  ∃ vx vr vp l1 h1 l2 h2 l3 h3, v = .agg #[vx, vr, vp] ∧ VZ w l1 h1 vx x ∧ VZ w l2 h2 vr r ∧ VZ w l3 h3 vp p ∧ hi ≤ w.heap.size ∧ (lo ≤ l1 ∧ h1 ≤ hi) ∧ (lo ≤ l2 ∧ h2 ≤ hi) ∧ (lo ≤ l3 ∧ h3 ≤ hi) ∧ (h1 ≤ l2 ∨ h2 ≤ l1) ∧ (h1 ≤ l3 ∨ h3 ≤ l1) ∧ (h2 ≤ l3 ∨ h3 ≤ l2)
theorem VZ.form {w : World} {lo hi : Nat} {v : Value} {rs : List RatD} (h : VZ w lo hi v rs) : ∃ A c, v = .slice A rs.length c ∧ rs.length ≤ c ∧ c ≤ maxLen := by
  obtain ⟨ps, h, _⟩ := h
  exact h.form
theorem VZ.wide {w : World} {lo hi lo' hi' : Nat} {v : Value} {rs : List RatD} (h : VZ w lo hi v rs) (h1 : lo' ≤ lo) (h2 : hi ≤ hi') : VZ w lo' hi' v rs := by
  obtain ⟨ps, h, ha⟩ := h
  exact ⟨ps, h.wide h1 h2, ha⟩
theorem VZ.nil (w : World) (lo hi : Nat) : VZ w lo hi (.slice none 0 0) [] := ⟨[], VS.nil w lo hi, aps_nil⟩
theorem IT.frame {S : Nat → Prop} {w w' : World} {lo hi : Nat} {v : Value} {x r p : List RatD} (h : IT w lo hi v x r p) (hf : Frame S w w') (hs : ∀ b, lo ≤ b → b < hi → ¬ S b) : IT w' lo hi v x r p := by
  obtain ⟨vx, vr, vp, l1, h1, l2, h2, l3, h3, rfl, hx, hr, hp, hh, b1, b2, b3, d⟩ := h
  exact ⟨vx, vr, vp, l1, h1, l2, h2, l3, h3, rfl, hx.frame hf (fun b i j => hs b (by omega) (by omega)), hr.frame hf (fun b i j => hs b (by omega) (by omega)), hp.frame hf (fun b i j => hs b (by omega) (by omega)), Nat.le_trans hh hf.size, b1, b2, b3, d⟩
theorem IT.later {w w' : World} {lo hi : Nat} {v : Value} {x r p : List RatD} (h : IT w lo hi v x r p) (hb : Below w.heap.size w w') : IT w' lo hi v x r p :=
  h.frame (S := fun _ => False) (Frame.of_below hb) (fun _ _ _ h => h)
theorem IT.form {w : World} {lo hi : Nat} {v : Value} {x r p : List RatD} (h : IT w lo hi v x r p) : ∃ A c B d C e, v = .agg #[.slice A x.length c, .slice B r.length d, .slice C p.length e] := by
  obtain ⟨vx, vr, vp, l1, h1, l2, h2, l3, h3, rfl, hx, hr, hp, _⟩ := h
  obtain ⟨A, c, rfl, _⟩ := hx.form
  obtain ⟨B, d, rfl, _⟩ := hr.form
  obtain ⟨C, e, rfl, _⟩ := hp.form
  exact ⟨A, c, B, d, C, e, rfl⟩
theorem IT.reads {w : World} {lo hi : Nat} {v : Value} {x r p : List RatD} (h : IT w lo hi v x r p) : ItV w v x r p := by
  obtain ⟨vx, vr, vp, l1, h1, l2, h2, l3, h3, rfl, hx, hr, hp, _⟩ := h
  obtain ⟨A, c, rfl, k1, k1'⟩ := hx.form
  obtain ⟨B, d, rfl, k2, k2'⟩ := hr.form
  obtain ⟨C, e, rfl, k3, k3'⟩ := hp.form
  exact ⟨A, c, B, d, C, e, rfl, ⟨by omega, by omega, by omega⟩, hx.reads, hr.reads, hp.reads⟩
theorem IT.nil (w : World) (lo : Nat) (h : lo ≤ w.heap.size) : IT w lo lo (.agg #[.slice none 0 0, .slice none 0 0, .slice none 0 0]) [] [] [] :=
  ⟨_, _, _, lo, lo, lo, lo, lo, lo, rfl, VZ.nil _ _ _, VZ.nil _ _ _, VZ.nil _ _ _, h, ⟨Nat.le_refl _, Nat.le_refl _⟩, ⟨Nat.le_refl _, Nat.le_refl _⟩, ⟨Nat.le_refl _, Nat.le_refl _⟩, .inl (Nat.le_refl _), .inl (Nat.le_refl _), .inl (Nat.le_refl _)⟩

end Go.Proofs.YtlpomcihkjiokaaGreat

namespace Go.Proofs.YtlpomcihkjiokaaGreat
open Go.RowKit Go.Joins

structure ItD where
  x : List RatD
  r : List RatD
  p : List RatD
def ItD.size (d : ItD) : Nat := vsz d.x + vsz d.r + vsz d.p
def ItD.few (d : ItD) : Prop := Few d.x ∧ Few d.r ∧ Few d.p
def ItD.cnt (d : ItD) : Nat := cntV d.x + cntV d.r + cntV d.p
theorem ItD.few_of {d : ItD} (h : d.size ≤ 1048576) : d.few := by
  unfold ItD.size at h
  exact ⟨few_of_vsz (by omega), few_of_vsz (by omega), few_of_vsz (by omega)⟩
theorem ItD.cnt_few {d : ItD} (h : d.few) : d.cnt ≤ 3 * (1048576 * 2097153) := by
  have h1 := cntV_few h.1
  have h2 := cntV_few h.2.1
  have h3 := cntV_few h.2.2
  unfold ItD.cnt
  omega
def ItW (w : World) (v : Value) (d : ItD) : Prop := ItV w v d.x d.r d.p
theorem ItW.later {w w' : World} {v : Value} {d : ItD} (h : ItW w v d) (hb : Below w.heap.size w w') : ItW w' v d := ItV.later h hb
/-- A copy of an iterate between lo and hi: its vectors lie in intervals of their own. -/
def IX (w : World) (lo hi : Nat) (v : Value) (d : ItD) : Prop :=
  ∃ vx vr vp l1 h1 l2 h2 l3 h3, v = .agg #[vx, vr, vp] ∧ VX w l1 h1 vx d.x ∧ VX w l2 h2 vr d.r ∧ VX w l3 h3 vp d.p ∧ hi ≤ w.heap.size ∧ (lo ≤ l1 ∧ h1 ≤ hi) ∧ (lo ≤ l2 ∧ h2 ≤ hi) ∧ (lo ≤ l3 ∧ h3 ≤ hi) ∧ (h1 ≤ l2 ∨ h2 ≤ l1) ∧ (h1 ≤ l3 ∨ h3 ≤ l1) ∧ (h2 ≤ l3 ∨ h3 ≤ l2)
theorem VX.form {w : World} {lo hi : Nat} {v : Value} {rs : List RatD} (h : VX w lo hi v rs) : ∃ A c, v = .slice A rs.length c ∧ rs.length ≤ c ∧ c ≤ maxLen := by
  obtain ⟨ps, h⟩ := h
  exact h.form
theorem VX.wide {w : World} {lo hi lo' hi' : Nat} {v : Value} {rs : List RatD} (h : VX w lo hi v rs) (h1 : lo' ≤ lo) (h2 : hi ≤ hi') : VX w lo' hi' v rs := by
  obtain ⟨ps, h⟩ := h
  exact ⟨ps, h.wide h1 h2⟩
theorem IX.frame {S : Nat → Prop} {w w' : World} {lo hi : Nat} {v : Value} {d : ItD} (h : IX w lo hi v d) (hf : Frame S w w') (hs : ∀ b, lo ≤ b → b < hi → ¬ S b) : IX w' lo hi v d := by
  obtain ⟨vx, vr, vp, l1, h1, l2, h2, l3, h3, rfl, hx, hr, hp, hh, b1, b2, b3, e⟩ := h
  exact ⟨vx, vr, vp, l1, h1, l2, h2, l3, h3, rfl, hx.frame hf (fun b i j => hs b (by omega) (by omega)), hr.frame hf (fun b i j => hs b (by omega) (by omega)), hp.frame hf (fun b i j => hs b (by omega) (by omega)), Nat.le_trans hh hf.size, b1, b2, b3, e⟩
theorem IX.later {w w' : World} {lo hi : Nat} {v : Value} {d : ItD} (h : IX w lo hi v d) (hb : Below w.heap.size w w') : IX w' lo hi v d :=
  h.frame (S := fun _ => False) (Frame.of_below hb) (fun _ _ _ h => h)
theorem IX.form {w : World} {lo hi : Nat} {v : Value} {d : ItD} (h : IX w lo hi v d) : ∃ A c B b C f, v = .agg #[.slice A d.x.length c, .slice B d.r.length b, .slice C d.p.length f] := by
  obtain ⟨vx, vr, vp, l1, h1, l2, h2, l3, h3, rfl, hx, hr, hp, _⟩ := h
  obtain ⟨A, c, rfl, _⟩ := hx.form
  obtain ⟨B, b, rfl, _⟩ := hr.form
  obtain ⟨C, f, rfl, _⟩ := hp.form
  exact ⟨A, c, B, b, C, f, rfl⟩
/-- A result: an iterate of the call's own between lo and hi. -/
def ITD (w : World) (lo hi : Nat) (v : Value) (d : ItD) : Prop := IT w lo hi v d.x d.r d.p
theorem ITD.frame {S : Nat → Prop} {w w' : World} {lo hi : Nat} {v : Value} {d : ItD} (h : ITD w lo hi v d) (hf : Frame S w w') (hs : ∀ b, lo ≤ b → b < hi → ¬ S b) : ITD w' lo hi v d := IT.frame h hf hs
theorem ITD.later {w w' : World} {lo hi : Nat} {v : Value} {d : ItD} (h : ITD w lo hi v d) (hb : Below w.heap.size w w') : ITD w' lo hi v d := IT.later h hb
theorem ITD.form {w : World} {lo hi : Nat} {v : Value} {d : ItD} (h : ITD w lo hi v d) : ∃ A c B b C f, v = .agg #[.slice A d.x.length c, .slice B d.r.length b, .slice C d.p.length f] := IT.form h
/-- The same behind a mark. -/
def ITm (w : World) (lo hi : Nat) (v : Value) (d : ItD) (k : Int) : Prop := IT w lo hi v (mkV d.x k) (mkV d.r (k + (cntV d.x : Nat))) (mkV d.p (k + (cntV d.x : Nat) + (cntV d.r : Nat)))
theorem ITm.frame {S : Nat → Prop} {w w' : World} {lo hi : Nat} {v : Value} {d : ItD} {k : Int} (h : ITm w lo hi v d k) (hf : Frame S w w') (hs : ∀ b, lo ≤ b → b < hi → ¬ S b) : ITm w' lo hi v d k := IT.frame h hf hs
theorem ITm.later {w w' : World} {lo hi : Nat} {v : Value} {d : ItD} {k : Int} (h : ITm w lo hi v d k) (hb : Below w.heap.size w w') : ITm w' lo hi v d k := IT.later h hb
/-- What a call ends in that makes an iterate and a second value. -/
def SPost (w : World) (d : ItD) (ok : Value) (e : Ending) (w' : World) : Prop := ∃ v', e = .returned (.tuple #[v', ok]) ∧ ITD w' w.heap.size w'.heap.size v' d ∧ Below w.heap.size w w'
end Go.Proofs.YtlpomcihkjiokaaGreat

namespace Go.Proofs.YtlpomcihkjiokaaGreat
open Go.RowKit Go.Joins

theorem frame3 {w : World} {g : Nat} (a b c : Value) : Frame (fun x => x = g) w (((w.setCell ⟨g, 0, none⟩ a).setCell ⟨g, 1, none⟩ b).setCell ⟨g, 2, none⟩ c) :=
  (((Frame.refl (fun x => x = g) w).setCell (p := ⟨g, 0, none⟩) rfl a).setCell (p := ⟨g, 1, none⟩) rfl b).setCell (p := ⟨g, 2, none⟩) rfl c
theorem VRes.vz {w w' : World} {rs : List RatD} {e : Ending} (h : VRes w rs e w') : ∃ A c, e = .returned (.slice A rs.length c) ∧ VZ w' w.heap.size w'.heap.size (.slice A rs.length c) rs ∧ Below w.heap.size w w' := by
  obtain ⟨v, ps, rfl, hv, ha, hb⟩ := h
  obtain ⟨A, c, rfl, hz⟩ := VZ.mk' hv ha
  exact ⟨A, c, rfl, hz, hb⟩
theorem VZ.far3 {w : World} {lo hi g : Nat} {v : Value} {rs : List RatD} (h : VZ w lo hi v rs) (hg : g < lo) (a b c : Value) : VZ (((w.setCell ⟨g, 0, none⟩ a).setCell ⟨g, 1, none⟩ b).setCell ⟨g, 2, none⟩ c) lo hi v rs :=
  h.frame (frame3 a b c) (fun x h1 _ e => by omega)
def zIt : ItD := ⟨[], [], []⟩
theorem SPost.zero {w w' : World} {ok : Value} (hb : Below w.heap.size w w') : SPost w zIt ok (.returned (.tuple #[.agg #[.slice none 0 0, .slice none 0 0, .slice none 0 0], ok])) w' := by
  refine ⟨_, rfl, ?_, hb⟩
  have := IT.nil w' w'.heap.size (Nat.le_refl _)
  obtain ⟨vx, vr, vp, l1, h1, l2, h2, l3, h3, e, hx, hr, hp, hh, b1, b2, b3, d⟩ := this
  exact ⟨vx, vr, vp, l1, h1, l2, h2, l3, h3, e, hx, hr, hp, hh, ⟨Nat.le_trans hb.size b1.1, b1.2⟩, ⟨Nat.le_trans hb.size b2.1, b2.2⟩, ⟨Nat.le_trans hb.size b3.1, b3.2⟩, d⟩
end Go.Proofs.YtlpomcihkjiokaaGreat

namespace Go.Proofs.YtlpomcihkjiokaaGreat
open Go.RowKit Go.Joins

/-- The fraction turned over. -/
def invD (y : RatD) : RatD := ⟨y.neg, y.den, y.mag⟩
theorem okR_inv {y : RatD} (h : FE.ratOk y = true) (h0 : y.mag ≠ []) : FE.OkR (invD y) (FE.nv y.den) (FE.nv y.mag) := by
  have k := FE.ratOk_iff.1 h
  have hm := k.mag
  refine ⟨k.den, k.mag, fun _ => k.q0, fun e => h0 ?_, k.ql, k.pl, by rw [Nat.gcd_comm]; exact k.gcd⟩
  rw [e, FE.toL_zero] at hm
  exact hm
theorem rdiv_inv {x y : RatD} (h1 : FE.ratOk x = true) (h2 : FE.ratOk y = true) (h0 : y.mag ≠ []) : FE.rmul x (invD y) = FE.rdiv x y := by
  have k := okR_inv h2 h0
  have h3 := k.ok
  rw [← rmul_eq h1 h3, sgnI_mul, lowI_sgn]
  unfold FE.rdiv
  rw [h1, h2]
  rfl
theorem rdiv_nil {x y : RatD} (h0 : y.mag = []) : FE.rdiv x y = zR := by
  unfold FE.rdiv
  split
  · rw [h0, FE.nv_nil, Nat.mul_zero]; rfl
  · rfl
set_option maxRecDepth 100000 in
set_option maxHeartbeats 1600000 in
theorem iRatDiv (x y : RatD) (u v : Value) (w : World) (hu : RatV w u x) (hv : RatV w v y) (fx : x.mag.length ≤ 1048576 ∧ x.den.length ≤ 1048576) (fy : y.mag.length ≤ 1048576 ∧ y.den.length ≤ 1048576) :
    Calls Tryz.prog 124 #[u, v] w (RPost w (FE.rdiv x y)) := by
  have HM := fun W (hW : Below w.heap.size w W) v' (hv' : RatV W v' (invD y)) => iRatMul x (invD y) u v' W (hu.later hW) hv' fx ⟨fy.2, fy.1⟩
  obtain ⟨A, c, B, d, rfl, hcd, ra, rb⟩ := hu
  obtain ⟨A', c', B', d', rfl, hcd', ra', rb'⟩ := hv
  have H1 := fun (W : World) (g : Nat) (hW : Below w.heap.size w W) hs => iAreRats [x, y] 2 2 rfl (few2 fx fy) (some ⟨g, 0, none⟩) W (vi2 x y A c B d A' c' B' d' hcd hcd' (ra.later hW) (rb.later hW) (ra'.later hW) (rb'.later hW) hs)
  have HI := Lib.hid (fun W (hW : Below w.heap.size w W) => show RatV W (.agg #[.bool y.neg, .slice B' y.den.length d', .slice A' y.mag.length c']) (invD y) from ⟨B', d', A', c', rfl, ⟨hcd'.2.2.1, hcd'.2.2.2, hcd'.1, hcd'.2.1⟩, rb'.later hW, ra'.later hW⟩)
  rw [vok2] at H1
  cases hq : FE.ratOk x && FE.ratOk y
  · rw [hq] at H1
    rw [show FE.rdiv x y = zR by unfold FE.rdiv; rw [hq]; rfl]
    replace H1 := Lib.hid H1
    clear HM HI hq ra rb ra' rb' hcd hcd' fx fy
    generalize x.mag.length = n at *
    generalize x.den.length = m at *
    generalize y.mag.length = n' at *
    generalize y.den.length = m' at *
    generalize x.neg = s at *
    generalize y.neg = t at *
    go_enter Tryz.func124, Tryz.ntmps124
    go_wp2_with fail
    refine (H1.out _ _ ((below_alloc3 _ _ _ _).alloc (by simp; omega) _) (Slots.newE rfl (by simp))).mono ?_
    rintro e w1 ⟨rfl, hb1⟩
    have R0 := Slots.new (below_step hb1) (g := w.heap.size + 1 + 1) (by simp)
    replace hb1 := below_trans ((below_alloc3 _ _ _ _).alloc (by simp; omega) _) hb1
    have hlt := R0.1
    obtain ⟨_, _, _, q0, q1, q2, z0, z1, z2⟩ := (AnyK.of R0).c3
    have hb := below3 hb1 (show w.heap.size ≤ w.heap.size + 1 + 1 by omega) (.bool false) (.slice none 0 0) (.slice none 0 0)
    have f6 := (RatP.zero w1 w1.heap.size).far3 (g := w.heap.size + 1 + 1) hlt (.bool false) (.slice none 0 0) (.slice none 0 0)
    clear R0
    go_wp2
    exact bodyPost_ret (v := .agg #[.bool false, .slice none 0 0, .slice none 0 0]) (by simp [results, Tryz.results124, go_sem, q0, q1, q2]) rfl ⟨_, rfl, f6.mono (by omega), hb⟩
  · rw [hq] at H1
    simp only [Bool.and_eq_true] at hq
    by_cases hz : y.mag = []
    · rw [rdiv_nil hz]
      have hz' : y.mag.length = 0 := by rw [hz]; rfl
      replace H1 := Lib.hid H1
      rw [hz'] at H1
      rw [hz']
      clear HM HI hq ra rb ra' rb' hcd hcd' fx fy hz hz'
      generalize x.mag.length = n at *
      generalize x.den.length = m at *
      generalize y.den.length = m' at *
      generalize x.neg = s at *
      generalize y.neg = t at *
      go_enter Tryz.func124, Tryz.ntmps124
      go_wp2_with fail
      refine (H1.out _ _ ((below_alloc3 _ _ _ _).alloc (by simp; omega) _) (Slots.newE rfl (by simp))).mono ?_
      rintro e w1 ⟨rfl, hb1⟩
      have R0 := Slots.new (below_step hb1) (g := w.heap.size + 1 + 1) (by simp)
      have S1 := Slots.new (below_step (below_step hb1)) (g := w.heap.size + 1) (by simp)
      replace hb1 := below_trans ((below_alloc3 _ _ _ _).alloc (by simp; omega) _) hb1
      have hlt := R0.1
      obtain ⟨b0, b1, b2, _, _, _⟩ := S1.c3
      obtain ⟨_, _, _, q0, q1, q2, z0, z1, z2⟩ := (AnyK.of R0).c3
      have hb := below3 hb1 (show w.heap.size ≤ w.heap.size + 1 + 1 by omega) (.bool false) (.slice none 0 0) (.slice none 0 0)
      have f6 := (RatP.zero w1 w1.heap.size).far3 (g := w.heap.size + 1 + 1) hlt (.bool false) (.slice none 0 0) (.slice none 0 0)
      clear R0 S1
      go_wp2
      exact bodyPost_ret (v := .agg #[.bool false, .slice none 0 0, .slice none 0 0]) (by simp [results, Tryz.results124, go_sem, q0, q1, q2]) rfl ⟨_, rfl, f6.mono (by omega), hb⟩
    · rw [rdiv_inv hq.1 hq.2 hz] at HM
      have hn' : 0 < y.mag.length := List.length_pos_iff.2 hz
      have hn2 : y.mag.length ≤ 1048576 := fy.1
      replace HM := Lib.hid HM
      replace H1 := Lib.hid H1
      clear hq ra rb ra' rb' hcd hcd' fx fy hz
      generalize FE.rdiv x y = R at *
      generalize x.mag.length = n at *
      generalize x.den.length = m at *
      generalize y.mag.length = n' at *
      generalize y.den.length = m' at *
      generalize x.neg = s at *
      generalize y.neg = t at *
      have hne : ((n' : Int) == 0) = false := by simp; omega
      have hne' : (n' == 0) = false := by simp; omega
      go_enter Tryz.func124, Tryz.ntmps124
      go_wp2_with fail
      refine (H1.out _ _ ((below_alloc3 _ _ _ _).alloc (by simp; omega) _) (Slots.newE rfl (by simp))).mono ?_
      rintro e w1 ⟨rfl, hb1⟩
      have R0 := Slots.new (below_step hb1) (g := w.heap.size + 1 + 1) (by simp)
      have S1 := Slots.new (below_step (below_step hb1)) (g := w.heap.size + 1) (by simp)
      have S0 := Slots.new (below_step (below_step (below_step hb1))) (g := w.heap.size) rfl
      replace hb1 := below_trans ((below_alloc3 _ _ _ _).alloc (by simp; omega) _) hb1
      have hlt := R0.1
      obtain ⟨a0, a1, a2, _, _, _⟩ := S0.c3
      obtain ⟨b0, b1, b2, _, _, _⟩ := S1.c3
      go_wp2_with fail
      refine (HM.out _ hb1 _ (HI.out _ hb1)).mono ?_
      rintro e w3 ⟨v3, rfl, hr3, hb3⟩
      replace R0 := R0.later hb3
      obtain ⟨_, _, _, q0, q1, q2, z0, z1, z2⟩ := (AnyK.of R0).c3
      obtain ⟨A6, n6, c6, B6, m6, d6, rfl⟩ := hr3.shape
      have hb := below3 (below_trans hb1 hb3) (show w.heap.size ≤ w.heap.size + 1 + 1 by omega) (.bool R.neg) (.slice A6 n6 c6) (.slice B6 m6 d6)
      have f6 := hr3.far3 (g := w.heap.size + 1 + 1) (by omega) (.bool R.neg) (.slice A6 n6 c6) (.slice B6 m6 d6)
      clear R0 S0 S1 a0 a1 a2 b0 b1 b2
      go_wp2
      exact bodyPost_ret (v := .agg #[.bool R.neg, .slice A6 n6 c6, .slice B6 m6 d6]) (by simp [results, Tryz.results124, go_sem, q0, q1, q2]) rfl ⟨_, rfl, f6.mono (by omega), hb⟩
end Go.Proofs.YtlpomcihkjiokaaGreat

namespace Go.Proofs.YtlpomcihkjiokaaGreat

section
variable {P : Program} {ops : Array Oper} {Q : Exit → Act → World → Prop} {md : Region.Mode} {S : World → Prop}
/-- A load (or a value) that is taken first. -/
theorem qL {i : Nat} {oi : Oper} {v : Value} {fuel : Nat} {listed : Array Bool} {a : Act} {w : World} (hi : ops[i]? = some oi)
    (hb : (Region.noSelect ops && (Region.free md ops listed i && (Region.ready md ops listed).contains i)) = true) (hQ : ∀ c a w, Q (.panic c) (a.put oi.dst v) w → Q (.panic c) a w) (hS : S w)
    (hw : Region.wanted oi (yielded ops a.tmps) = true) (hv : ∀ w, S w → (execOp a.eval oi).run P w = .ok (.value v) w)
    (h : wpAnyH P md ops Q S fuel (listed.setIfInBounds i true) (a.put oi.dst v) w) : wpAnyH P md ops Q S (fuel + 1) listed a w := by
  simp only [Bool.and_eq_true] at hb
  exact wpAnyH_take hi hb.1 hb.2.1 hb.2.2 hQ (Or.inl ⟨hw, hv⟩) hS h
theorem qR {i : Nat} {o : Oper} {fuel : Nat} {listed : Array Bool} {a : Act} {w : World} (hr : Region.ready md ops listed = [i]) (ho : ops[i]? = some o)
    (h : ∀ K' : Act → World → Prop, Shut (∀ a w, S w → (S w → wpAnyH P md ops Q S fuel (listed.setIfInBounds i true) a w) → K' a w) → if Region.wanted o (yielded ops a.tmps) = true then Oper.wp P o a w K' Q else K' (a.put o.dst undef) w) :
    wpAnyH P md ops Q S (fuel + 1) listed a w := wpAnyH_ready hr (by simp) (AllReadyH.cons ho h AllReadyH.nil)
theorem qR2 {i j : Nat} {o p : Oper} {fuel : Nat} {listed : Array Bool} {a : Act} {w : World} (hr : Region.ready md ops listed = [i, j]) (ho : ops[i]? = some o) (hp : ops[j]? = some p)
    (h : ∀ K' : Act → World → Prop, Shut (∀ a w, S w → (S w → wpAnyH P md ops Q S fuel (listed.setIfInBounds i true) a w) → K' a w) → if Region.wanted o (yielded ops a.tmps) = true then Oper.wp P o a w K' Q else K' (a.put o.dst undef) w)
    (k : ∀ K' : Act → World → Prop, Shut (∀ a w, S w → (S w → wpAnyH P md ops Q S fuel (listed.setIfInBounds j true) a w) → K' a w) → if Region.wanted p (yielded ops a.tmps) = true then Oper.wp P p a w K' Q else K' (a.put p.dst undef) w) :
    wpAnyH P md ops Q S (fuel + 1) listed a w := wpAnyH_ready hr (by simp) (AllReadyH.cons ho h (AllReadyH.cons hp k AllReadyH.nil))
end
end Go.Proofs.YtlpomcihkjiokaaGreat

namespace Go.Proofs.YtlpomcihkjiokaaGreat
open Go.RowKit Go.Joins

set_option maxHeartbeats 400000 in
theorem says_isFactor : Says 128 fun x => decide (rsgn x ≤ 0) := by
  intro x v W hv h1 h2
  have HC := Lib.hid (fun w' hb => iSign x v w' (hv.later (w' := w') hb))
  obtain ⟨A, c, B, d, rfl, _, _, _⟩ := hv
  obtain ⟨r, hr⟩ : ∃ r, rsgn x = r := ⟨_, rfl⟩
  rw [hr] at HC
  have HR := Lib.hid hr
  clear hr
  go_enter Tryz.func128, Tryz.ntmps128
  go_wp2_with fail
  refine (HC.out _ (below_alloc1 _ _)).mono ?_
  rintro e w1 ⟨rfl, hb⟩
  replace hb := box_below hb
  go_wp2
  go_ret
  exact ⟨ret_bool (by rw [HR.out]), hb⟩

def lowB (x : List RatD) (i : Nat) : Bool := decide (x.length = i) && vok x
/-- Whether a factorization is valid. -/
def FacD.ok (x : FacD) : Bool := (decide (x.lower.length = x.pivots.length) && decide (x.pivots.length ≤ 40)) && ((vok x.pivots && !(x.pivots.any fun y => decide (rsgn y ≤ 0))) && (List.range x.lower.length).all fun i => lowB (x.lower.getD i []) i)
theorem low_bad {x : FacD} {i : Nat} (hi : i < x.lower.length) (h : lowB (x.lower.getD i []) i = false) : x.ok = false := by
  have : ((List.range x.lower.length).all fun i => lowB (x.lower.getD i []) i) = false := by
    rw [List.all_eq_false]
    exact ⟨i, by simpa using hi, by simp only [h]; simp⟩
  simp only [FacD.ok, this, Bool.and_false]
theorem low_all {x : FacD} (h : ∀ i, i < x.lower.length → lowB (x.lower.getD i []) i = true) : ((List.range x.lower.length).all fun i => lowB (x.lower.getD i []) i) = true := by
  rw [List.all_eq_true]
  intro i hi
  exact h i (by simpa using hi)
theorem fac_1 {x : FacD} (h : x.lower.length ≠ x.pivots.length) : x.ok = false := by simp only [FacD.ok, decide_eq_false h, Bool.false_and]
theorem fac_2 {x : FacD} (h : ¬ x.pivots.length ≤ 40) : x.ok = false := by simp only [FacD.ok, decide_eq_false h, Bool.false_and, Bool.and_false]
theorem fac_3 {x : FacD} (h : vok x.pivots = false) : x.ok = false := by simp only [FacD.ok, h, Bool.false_and, Bool.and_false]
theorem fac_4 {x : FacD} (h1 : x.lower.length = x.pivots.length) (h2 : x.pivots.length ≤ 40) (h3 : vok x.pivots = true) (h4 : ∀ i, i < x.lower.length → lowB (x.lower.getD i []) i = true) : x.ok = !(x.pivots.any fun y => decide (rsgn y ≤ 0)) := by
  simp only [FacD.ok, decide_eq_true h1, decide_eq_true h2, h3, low_all h4, Bool.true_and, Bool.and_true]
theorem fac_5 {x : FacD} {i : Nat} (hi : i < x.pivots.length) (h : rsgn (x.pivots.getD i zR) ≤ 0) : x.ok = false := by
  have : (x.pivots.any fun y => decide (rsgn y ≤ 0)) = true := any_yes hi (decide_eq_true h)
  simp only [FacD.ok, this, Bool.not_true, Bool.and_false, Bool.false_and]
theorem lowB_len {x : List RatD} {i : Nat} (h : x.length ≠ i) : lowB x i = false := by simp only [lowB, decide_eq_false h, Bool.false_and]
theorem lowB_vok {x : List RatD} {i : Nat} (h : vok x = false) : lowB x i = false := by simp only [lowB, h, Bool.and_false]
theorem lowB_ok {x : List RatD} {i : Nat} (h : x.length = i) (h2 : vok x = true) : lowB x i = true := by simp only [lowB, decide_eq_true h, h2, Bool.and_true]
theorem lowB_int (x : List RatD) (i : Nat) : (decide ((x.length : Int) = (i : Int)) && vok x) = lowB x i := by
  have e : decide ((x.length : Int) = (i : Int)) = decide (x.length = i) := by rw [Bool.eq_iff_iff]; simp only [decide_eq_true_eq]; omega
  rw [e]; rfl

set_option maxRecDepth 100000 in
set_option maxHeartbeats 2000000 in
theorem iIsFactor (x : FacD) (u : Value) (w : World) (hu : FacV w u x) (hf : x.few) :
    Calls Tryz.prog 52 #[u] w fun e w' => e = .returned (.bool x.ok) ∧ Below w.heap.size w w' := by
  obtain ⟨A, c, B, d, rfl, hcd, hx, hy⟩ := hu
  obtain ⟨hf1, hf2⟩ := hf
  have hn1 := hf1.1
  have hm1 := hf2.1
  have HF := Lib.hid hf1.2
  have C1 := Lib.hid (fun W (hW : Below w.heap.size w W) => iAreRats x.pivots _ d rfl hf2 B W (hy.later hW))
  have C2 := Lib.hid (fun W (hW : Below w.heap.size w W) => iContainsR _ _ Tryz.call128 says_isFactor x.pivots _ d rfl hf2 B W (hy.later hW))
  have HB := Lib.hid (fun (i : Nat) (hi : i < x.lower.length) (h : lowB (x.lower.getD i []) i = false) => low_bad (x := x) hi h)
  have H1 := Lib.hid (fun h => fac_1 (x := x) h)
  have H2 := Lib.hid (fun h => fac_2 (x := x) h)
  have H3 := Lib.hid (fun h => fac_3 (x := x) h)
  have H4 := Lib.hid (fun h1 h2 h3 h4 => fac_4 (x := x) h1 h2 h3 h4)
  clear hf1 hf2 hcd hy
  generalize x.ok = res at *
  generalize vok x.pivots = q1 at *
  generalize (x.pivots.any fun y => decide (rsgn y ≤ 0)) = q2 at *
  generalize x.pivots.length = m at *
  obtain ⟨n, hn⟩ : ∃ n, x.lower.length = n := ⟨_, rfl⟩
  rw [hn] at hn1 H1 H4 HB HF ⊢
  generalize x.lower = rs at *
  have HN := Lib.hid hn; clear hn
  go_enter Tryz.func52, Tryz.ntmps52
  go_wp2_with fail
  go_loopw [8] (fun u wr => ∃ k : Nat, k ≤ n ∧ u = .int .i64 k ∧ (∀ j, j < k → lowB (rs.getD j []) j = true) ∧ Below (w.alloc (.cells #[.slice A n c, .slice B m d] 32)).heap.size (w.alloc (.cells #[.slice A n c, .slice B m d] 32)) wr) (fun u _ => n - (intOf u).toNat)
  case atStart => exact ⟨0, Nat.zero_le _, rfl, fun j hj => by omega, Below.refl _ _⟩
  case round =>
    obtain ⟨k, hk, rfl, ht, hbel0⟩ := hrel
    have S := box_lat hbel0
    have hbel := box_below hbel0
    have HB0 := Lib.hid hbel0
    have HT := Lib.hid ht; clear ht hbel0
    by_cases hkn : k = n
    · subst hkn
      have h0 : decide ((k : Int) < (k : Int)) = false := by simp
      obtain ⟨a0, a1, _, _⟩ := S.p2
      by_cases hkm : k = m
      · subst hkm
        have h1 : ((k : Int) == k) = true := by simp
        by_cases h40 : k ≤ 40
        · have h40' : (k : Int) ≤ 40 := by omega
          have HR := Lib.hid (fun h => H4.out rfl h40 h HT.out)
          clear S
          go_wp2_with fail
          refine (C1.out _ hbel).mono ?_
          rintro e w1 ⟨rfl, hb1⟩
          have S := box_lat (HB0.out.trans (below_le hb1 HB0.out.size))
          replace hbel := below_trans hbel hb1
          clear hb1 a0 a1
          cases q1
          · have HF1 := Lib.hid (H3.out (by trivial))
            clear S
            go_wp2
            go_ret
            exact ⟨ret_bool HF1.out.symm, hbel⟩
          · obtain ⟨a0, a1, _, _⟩ := S.p2
            have HR2 := Lib.hid (HR.out (by trivial))
            go_wp2_with fail
            refine (C2.out _ hbel).mono ?_
            rintro e w2 ⟨rfl, hb2⟩
            replace hbel := below_trans hbel hb2
            clear S a0 a1 hb2
            go_wp2
            go_ret
            exact ⟨ret_bool (by rw [HR2.out]), hbel⟩
        · have h40' : ¬ (k : Int) ≤ 40 := by omega
          have HF1 := Lib.hid (H2.out h40)
          clear S
          go_wp2
          go_ret
          exact ⟨ret_bool HF1.out.symm, hbel⟩
      · have h1 : ((k : Int) == m) = false := by simp; omega
        have HF1 := Lib.hid (H1.out hkm)
        clear S
        go_wp2
        go_ret
        exact ⟨ret_bool HF1.out.symm, hbel⟩
    · have hlt : (k : Int) < (n : Int) := by omega
      have hkl : k < rs.length := by rw [HN.out]; omega
      obtain ⟨b, off, rfl, hb1, hat⟩ := hx.cells k hkl
      have hat1 := VAt.stays _ _ _ _ _ hb1 hat hbel
      have f1 := HF.out k (by omega)
      have HB2 := Lib.hid (HB.out k (by omega))
      have HG := Lib.hid (show lowB (rs.getD k []) k = true → ∀ j, j < k + 1 → lowB (rs.getD j []) j = true from fun h j hj => (Nat.lt_succ_iff_lt_or_eq.1 hj).elim (HT.out j) (fun e => e ▸ h))
      clear hat hkl S
      generalize rs.getD k [] = y at *
      obtain ⟨A1, c1, g0, hcd, hr1⟩ := hat1
      have HE := fun W (hW : Below wr.heap.size wr W) => iIsVector y _ c1 (k : Int) rfl f1 A1 W (hr1.later hW)
      rw [lowB_int] at HE
      replace HE := Lib.hid HE
      clear f1 hcd hr1
      generalize lowB y k = q at *
      cases q
      · have HF1 := Lib.hid (HB2.out (by trivial))
        go_wp2_with fail
        refine (HE.out _ (Below.refl _ _)).mono ?_
        rintro e w1 ⟨rfl, hb⟩
        replace hbel := below_trans hbel hb
        clear hb g0
        go_wp2
        go_ret
        exact ⟨ret_bool HF1.out.symm, hbel⟩
      · have HF1 := Lib.hid (HG.out (by trivial))
        go_wp2_with fail
        refine (HE.out _ (Below.refl _ _)).mono ?_
        rintro e w1 ⟨rfl, hb⟩
        have hb1 := HB0.out.trans (below_le hb HB0.out.size)
        clear hb g0 HB0
        go_wp2
        go_roundw
        case rel => exact ⟨k + 1, by omega, rfl, HF1.out, hb1⟩
        case measure => simp [intOf]; omega
end Go.Proofs.YtlpomcihkjiokaaGreat

namespace Go.Proofs.YtlpomcihkjiokaaGreat
open Go.RowKit Go.Joins

/-- Three cells. -/
def R3 (w : World) (g o : Nat) (a b c : Value) : Prop := w.cell? ⟨g, o, none⟩ = some a ∧ w.cell? ⟨g, o + 1, none⟩ = some b ∧ w.cell? ⟨g, o + 2, none⟩ = some c
theorem R3.below {w w' : World} {g o B : Nat} {a b c : Value} (h : R3 w g o a b c) (hb : Below B w w') (hg : g < B) : R3 w' g o a b c :=
  ⟨(hb.cell (p := ⟨g, o, none⟩) hg).trans h.1, (hb.cell (p := ⟨g, o + 1, none⟩) hg).trans h.2.1, (hb.cell (p := ⟨g, o + 2, none⟩) hg).trans h.2.2⟩
theorem R3.lt {w : World} {g o : Nat} {a b c : Value} (h : R3 w g o a b c) : g < w.heap.size := (lt_of_cell' h.1).1
theorem R3.later {w w' : World} {g o : Nat} {a b c : Value} (h : R3 w g o a b c) (hb : Below w.heap.size w w') : R3 w' g o a b c := h.below hb h.lt
/-- Cells off those that are set. -/
theorem R3.off {w : World} {g o g' q : Nat} {a b c x y z : Value} (h : R3 w g o a b c) (hne : g ≠ g' ∨ o + 2 < q ∨ q + 2 < o) : R3 (set3 w g' q x y z) g o a b c := by
  unfold R3 set3
  refine ⟨?_, ?_, ?_⟩
  all_goals
    rw [World.cell?_setCell_other _ _ _ _ (by intro e; injection e with e1 e2; omega), World.cell?_setCell_other _ _ _ _ (by intro e; injection e with e1 e2; omega), World.cell?_setCell_other _ _ _ _ (by intro e; injection e with e1 e2; omega)]
  · exact h.1
  · exact h.2.1
  · exact h.2.2
theorem Slots.r3 {w : World} {g : Nat} {a b c : Value} (h : Slots w g [a, b, c]) : R3 w g 0 a b c := h.v3
theorem below_set3 {w W : World} {B g o : Nat} (h : Below B w W) (hg : B ≤ g) (x y z : Value) : Below B w (set3 W g o x y z) :=
  ((h.setCell (p := ⟨g, o, none⟩) hg x).setCell (p := ⟨g, o + 1, none⟩) hg y).setCell (p := ⟨g, o + 2, none⟩) hg z
theorem VZ.len {w : World} {lo hi n c : Nat} {A : Option Addr} {rs : List RatD} (h : VZ w lo hi (.slice A n c) rs) : n = rs.length := by
  obtain ⟨ps, h, _⟩ := h
  obtain ⟨_, A', c', e, _⟩ := h
  injection e
/-- Where a vector lies. -/
theorem VZ.base {w : World} {lo hi n c : Nat} {A : Option Addr} {rs : List RatD} (h : VZ w lo hi (.slice A n c) rs) (hn : 0 < n) : ∃ g, A = some ⟨g, 0, none⟩ ∧ lo ≤ g ∧ g < hi ∧ g < w.heap.size := by
  obtain ⟨ps, h, _⟩ := h
  obtain ⟨_, A', c', e, _, _, h3⟩ := h
  injection e with e1 e2 e3
  obtain ⟨g, e4, k1, k2, k3, _⟩ := h3 (by rintro rfl; simp at e2; omega)
  exact ⟨g, e1.trans e4, k1, k2, k3⟩
theorem VZ.frz {w : World} {lo hi g n c : Nat} {rs : List RatD} (h : VZ w lo hi (.slice (some ⟨g, 0, none⟩) n c) rs) (hn : 0 < n) (o : Nat) : w.frozen? ⟨g, o, none⟩ = false := by
  obtain ⟨ps, h, _⟩ := h
  obtain ⟨_, A', c', e, _, _, h3⟩ := h
  injection e with e1 e2 e3
  obtain ⟨g', e4, _, _, _, hf, _⟩ := h3 (by rintro rfl; simp at e2; omega)
  rw [← e1] at e4
  injection e4 with e4
  injection e4 with e4
  subst e4
  exact hf o
/-- An entry: its cells, and what they hold. -/
theorem VZ.at {w : World} {lo hi g n c : Nat} {rs : List RatD} (h : VZ w lo hi (.slice (some ⟨g, 0, none⟩) n c) rs) (j : Nat) (hj : j < rs.length) :
    ∃ A k B d, R3 w g (j * 3) (.bool (rs.getD j zR).neg) (.slice A (rs.getD j zR).mag.length k) (.slice B (rs.getD j zR).den.length d) ∧ RatV w (.agg #[.bool (rs.getD j zR).neg, .slice A (rs.getD j zR).mag.length k, .slice B (rs.getD j zR).den.length d]) (rs.getD j zR) := by
  obtain ⟨b, off, e, _, A, k, B, d, h0, h1, h2, hl, h3, h4⟩ := h.reads.cells j hj
  injection e with e
  injection e with e1 e2
  subst e1 e2
  rw [Nat.zero_add] at h0 h1 h2
  exact ⟨A, k, B, d, ⟨h0, h1, h2⟩, A, k, B, d, rfl, hl, h3, h4⟩
/-- **An entry replaced by a fresh fraction.** -/
theorem VZ.swap {w : World} {lo hi base g n c i : Nat} {rs : List RatD} {y : RatD} {va vb : Value} (h : VZ w lo hi (.slice (some ⟨g, 0, none⟩) n c) rs) (hi1 : i < rs.length) (hv : RatP w base (.agg #[.bool y.neg, va, vb]) y) (hl : hi ≤ base) (hll : lo ≤ base) (hh : hi ≤ w.heap.size) :
    VZ (set3 w g (i * 3) (.bool y.neg) va vb) lo w.heap.size (.slice (some ⟨g, 0, none⟩) n c) (rs.set i y) := by
  obtain ⟨ps, h, hap⟩ := h
  obtain ⟨va', vb', e, ra, rb, hab⟩ := hv
  injection e with e
  injection e with e
  injection e with _ e
  injection e with e1 e
  injection e with e2 _
  subst e1 e2
  obtain ⟨k1, k2⟩ := h.swap hi1 hap ra.io rb.io hab hl hll hh
  exact ⟨_, k1, k2⟩
theorem VZ.up {w : World} {lo hi hi' : Nat} {v : Value} {rs : List RatD} (h : VZ w lo hi v rs) (hh : hi ≤ hi') : VZ w lo hi' v rs := by
  obtain ⟨ps, h, hap⟩ := h
  exact ⟨ps, h.wide (Nat.le_refl _) hh, hap⟩
theorem VZ.res {w w' : World} {lo hi : Nat} {v : Value} {rs : List RatD} (h : VZ w' lo hi v rs) (h1 : w.heap.size ≤ lo) (h2 : hi ≤ w'.heap.size) (hb : Below w.heap.size w w') : VRes w rs (.returned v) w' := by
  obtain ⟨ps, h, hap⟩ := h
  exact ⟨v, ps, rfl, h.wide h1 h2, hap, hb⟩
theorem ok_rows {x : FacD} (h : x.ok = true) : x.lower.length = x.pivots.length ∧ x.pivots.length ≤ 40 ∧ ∀ i, i < x.lower.length → (x.lower.getD i []).length = i := by
  simp only [FacD.ok, Bool.and_eq_true, decide_eq_true_eq, List.all_eq_true, List.mem_range] at h
  refine ⟨h.1.1, h.1.2, fun i hi => ?_⟩
  have := h.2.2 i hi
  simp only [lowB, Bool.and_eq_true, decide_eq_true_eq] at this
  exact this.1
/-- A row's header, below what the call makes. -/
theorem FI.row {w : World} {A : Option Addr} {xs : List (List RatD)} (h : FI w A xs) (k : Nat) (hk : k < xs.length) : ∃ b off C e, A = some ⟨b, off, none⟩ ∧ b < w.heap.size ∧ w.cell? ⟨b, off + k, none⟩ = some (.slice C (xs.getD k []).length e) ∧ VI w C (xs.getD k []) := by
  obtain ⟨b, off, e, hb, C, d, h0, _, h1⟩ := h.cells k hk
  exact ⟨b, off, C, d, e, hb, h0, h1⟩
end Go.Proofs.YtlpomcihkjiokaaGreat
