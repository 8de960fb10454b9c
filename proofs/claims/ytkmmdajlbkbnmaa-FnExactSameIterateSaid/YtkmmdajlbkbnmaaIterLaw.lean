/-
  The walk of the law on SameIterate.
-/
import Derived.Test.YtkmmdajlbkbnmaaIterTo
import Derived.Deep.RegionHeld3
namespace Go.Proofs.Ytkmmdajlbkbnmaa
open Go.RowKit Go.Joins

theorem itSame_refl (x r p : List RatD) : itSame x r p x r p = true := by simp [itSame, vsame_refl]

theorem iterSelf (x r p : List RatD) (u v : Value) (w : World) (hu : ItV w u x r p) (hv : ItV w v x r p) (f1 : Few x) (f2 : Few r) (f3 : Few p) :
    Calls Try.prog 18 #[u, v] w fun e w' => e = .returned (.bool true) ∧ Below w.heap.size w w' := by
  have := eqIterate x r p x r p u v w hu hv f1 f2 f3 f1 f2 f3
  rw [itSame_refl] at this
  exact this
theorem below_of {w2 w' : World} {R : Prop} (h : Below w2.heap.size w2 w' ∧ R) : Below w2.heap.size w2 w' := h.1
/-- What the region's loads read stays behind a call. -/
theorem keep6 {w2 W w3 : World} {g h : Nat} {v0 v1 v2 u0 u1 u2 : Value} (hg : g < w2.heap.size) (hh : h < w2.heap.size) (hb : Below W.heap.size W w3)
    (hS : Below w2.heap.size w2 W ∧ W.cell? ⟨g, 0, none⟩ = some v0 ∧ W.cell? ⟨g, 1, none⟩ = some v1 ∧ W.cell? ⟨g, 2, none⟩ = some v2 ∧ W.cell? ⟨h, 0, none⟩ = some u0 ∧ W.cell? ⟨h, 1, none⟩ = some u1 ∧ W.cell? ⟨h, 2, none⟩ = some u2) :
    Below w2.heap.size w2 w3 ∧ w3.cell? ⟨g, 0, none⟩ = some v0 ∧ w3.cell? ⟨g, 1, none⟩ = some v1 ∧ w3.cell? ⟨g, 2, none⟩ = some v2 ∧ w3.cell? ⟨h, 0, none⟩ = some u0 ∧ w3.cell? ⟨h, 1, none⟩ = some u1 ∧ w3.cell? ⟨h, 2, none⟩ = some u2 := by
  obtain ⟨hS, e0, e1, e2, k0, k1, k2⟩ := hS
  have hg' := Nat.lt_of_lt_of_le hg hS.size
  have hh' := Nat.lt_of_lt_of_le hh hS.size
  exact ⟨below_trans hS hb, cell_later hg' e0 hb, cell_later hg' e1 hb, cell_later hg' e2 hb, cell_later hh' k0 hb, cell_later hh' k1 hb, cell_later hh' k2 hb⟩

set_option maxRecDepth 100000 in
set_option maxHeartbeats 800000 in
theorem iterLaw (x r p x' r' p' : List RatD) (u v : Value) (w : World) (hu : ItV w u x r p) (hv : ItV w v x' r' p') :
    Calls Try.prog 4 #[u, v] w fun e w' => e = .returned (.bool true) ∧ Below w.heap.size w w' := by
  obtain ⟨A, c, B, d, C, e, rfl, _, _, _, _⟩ := id hu
  obtain ⟨A', c', B', d', C', e', rfl, _, _, _, _⟩ := id hv
  have z1 := fun W hW => szIterate x r p _ 1048576 (by omega) (by omega) W (hu.later (w' := W) hW)
  have HU := Lib.hid hu
  have HV := Lib.hid hv
  clear hu hv
  have HZ1 := Lib.hid z1
  clear z1
  by_cases c1 : ((vsz x + vsz r + vsz p : Nat) : Int) ≤ 1048576
  · have s1 := szI_pos c1
    have z1 := HZ1.out
    rw [s1] at z1
    have t0 : 0 ≤ (1048576 : Int) - ((vsz x + vsz r + vsz p : Nat) : Int) := by omega
    have z2 := fun W hW => szIterate x' r' p' _ _ t0 (by omega) W (HV.out.later (w' := W) hW)
    replace z1 := Lib.hid z1
    have f1 : Few x := few_of_vsz (by omega)
    have f2 : Few r := few_of_vsz (by omega)
    have f3 : Few p := few_of_vsz (by omega)
    have HF := Lib.hid (And.intro f1 (And.intro f2 f3))
    have t1 : (1048576 : Int) - ((vsz x + vsz r + vsz p : Nat) : Int) ≤ 1048576 := by omega
    clear s1 HZ1 f1 f2 f3
    generalize (1048576 : Int) - ((vsz x + vsz r + vsz p : Nat) : Int) = L1 at *
    by_cases c2 : ((vsz x' + vsz r' + vsz p' : Nat) : Int) ≤ L1
    · have s2 := szI_pos c2
      rw [s2] at z2
      have t2 : 0 ≤ L1 - ((vsz x' + vsz r' + vsz p' : Nat) : Int) := by omega
      replace z2 := Lib.hid z2
      have f1 : Few x' := few_of_vsz (by omega)
      have f2 : Few r' := few_of_vsz (by omega)
      have f3 : Few p' := few_of_vsz (by omega)
      have HG := Lib.hid (And.intro f1 (And.intro f2 f3))
      clear s2 f1 f2 f3
      generalize L1 - ((vsz x' + vsz r' + vsz p' : Nat) : Int) = L2 at *
      clear c1 c2
      have HT1 := Lib.hid (fun W hW => toIterate x r p _ W (HU.out.later (w' := W) hW) HF.out.1 HF.out.2.1 HF.out.2.2)
      have HT2 := Lib.hid (fun W hW => toIterate x' r' p' _ W (HV.out.later (w' := W) hW) HG.out.1 HG.out.2.1 HG.out.2.2)
      have HC := Lib.hid (fun W a b ha hb => sSameIterate x r p x' r' p' a b W ha hb HF.out.1 HF.out.2.1 HF.out.2.2 HG.out.1 HG.out.2.1 HG.out.2.2)
      have HD := Lib.hid (fun W a b ha hb => iSameIterate x r p x' r' p' a b W ha hb HF.out.1 HF.out.2.1 HF.out.2.2 HG.out.1 HG.out.2.1 HG.out.2.2)
      have HQ1 := Lib.hid (fun W a b ha hb => iterSelf x r p a b W ha hb HF.out.1 HF.out.2.1 HF.out.2.2)
      have HQ2 := Lib.hid (fun W a b ha hb => iterSelf x' r' p' a b W ha hb HG.out.1 HG.out.2.1 HG.out.2.2)
      go_enter Try.func4, Try.ntmps4
      go_wp2_with fail
      refine (z1.out _ (below_alloc2 _ _ _)).mono ?_
      rintro e1 w1 ⟨rfl, hb1⟩
      have S3 := Slots.new hb1 (g := w.heap.size + 1) (by simp)
      have S2 := Slots.new (below_step hb1) (g := w.heap.size) rfl
      replace hb1 := below_trans (below_alloc2 _ _ _) hb1
      obtain ⟨a0, a1, a2, _, _, _⟩ := S3.c3
      obtain ⟨b0, b1, b2, _, _, _⟩ := S2.c3
      go_wp2_with fail
      refine (z2.out _ hb1).mono ?_
      rintro e2 w2 ⟨rfl, hb2⟩
      clear a0 a1 a2 b0 b1 b2
      replace S3 := S3.later hb2
      replace S2 := S2.later hb2
      replace hb2 := below_trans hb1 hb2
      clear hb1
      obtain ⟨a0, a1, a2, _, _, _⟩ := S3.c3
      obtain ⟨b0, b1, b2, _, _, _⟩ := S2.c3
      go_wp2_with fail
      have hS : Below w2.heap.size w2 w2.drew := ⟨rfl, rfl, rfl, Nat.le_refl _, fun _ _ => rfl⟩
      have hg3 := S3.1
      have hg2 := S2.1
      go_region_held3 (fun w' => Below w2.heap.size w2 w' ∧ w'.cell? ⟨w.heap.size + 1, 0, none⟩ = some (.slice A' x'.length c') ∧ w'.cell? ⟨w.heap.size + 1, 1, none⟩ = some (.slice B' r'.length d') ∧ w'.cell? ⟨w.heap.size + 1, 2, none⟩ = some (.slice C' p'.length e') ∧
        w'.cell? ⟨w.heap.size, 0, none⟩ = some (.slice A x.length c) ∧ w'.cell? ⟨w.heap.size, 1, none⟩ = some (.slice B r.length d) ∧ w'.cell? ⟨w.heap.size, 2, none⟩ = some (.slice C p.length e))
        (first | exact ⟨hS, a0, a1, a2, b0, b1, b2⟩ | exact keep6 hg3 hg2 (by assumption) (by assumption))
        (first
          | (go_at_call 15; refine (HC.out _ _ _ (hi3.later hb4) hi4).mono ?_; rintro e5 w5 ⟨rfl, hb5⟩)
          | (go_at_call 16; with_reducible refine (HT1.out _ (below_trans hb2 (below_of (by assumption)))).mono ?_; rintro e3 w3 ⟨v3, rfl, hi3, hb3⟩)
          | (go_at_call 16; with_reducible refine (HT2.out _ (below_trans hb2 (below_of (by assumption)))).mono ?_; rintro e4 w4 ⟨v4, rfl, hi4, hb4⟩))
      have hq : Below w2.heap.size w2 w5 ∧ w5.cell? ⟨w.heap.size + 1, 0, none⟩ = some (.slice A' x'.length c') ∧ w5.cell? ⟨w.heap.size + 1, 1, none⟩ = some (.slice B' r'.length d') ∧ w5.cell? ⟨w.heap.size + 1, 2, none⟩ = some (.slice C' p'.length e') ∧
        w5.cell? ⟨w.heap.size, 0, none⟩ = some (.slice A x.length c) ∧ w5.cell? ⟨w.heap.size, 1, none⟩ = some (.slice B r.length d) ∧ w5.cell? ⟨w.heap.size, 2, none⟩ = some (.slice C p.length e) := by assumption
      replace S3 := S3.later hq.1
      replace S2 := S2.later hq.1
      replace hb2 := below_trans hb2 hq.1
      clear hq hb3 hb4 hb5 hi3 hi4 a0 a1 a2 b0 b1 b2 hS hg3 hg2
      obtain ⟨a0, a1, a2, _, _, _⟩ := S3.c3
      obtain ⟨b0, b1, b2, _, _, _⟩ := S2.c3
      go_wp2_with fail
      refine (HT1.out _ hb2).mono ?_
      rintro e6 w6 ⟨v6, rfl, hi6, hb6⟩
      clear a0 a1 a2 b0 b1 b2
      replace S3 := S3.later hb6
      replace S2 := S2.later hb6
      replace hb2 := below_trans hb2 hb6
      clear hb6
      obtain ⟨A6, c6, B6, d6, C6, e6, rfl, _, _, _, _⟩ := id hi6
      have HI6 := Lib.hid hi6
      clear hi6
      have S3a := S3.later (below_alloc1 w6 (.cells #[.slice A6 x.length c6, .slice B6 r.length d6, .slice C6 p.length e6] 36))
      have S2a := S2.later (below_alloc1 w6 (.cells #[.slice A6 x.length c6, .slice B6 r.length d6, .slice C6 p.length e6] 36))
      have S7 := Slots.new (Below.refl _ (w6.alloc (.cells #[.slice A6 x.length c6, .slice B6 r.length d6, .slice C6 p.length e6] 36))) (g := w6.heap.size) rfl
      have hb7 := below_trans hb2 (below_alloc1 w6 (.cells #[.slice A6 x.length c6, .slice B6 r.length d6, .slice C6 p.length e6] 36))
      have HI7 := Lib.hid (HI6.out.later (below_alloc1 w6 (.cells #[.slice A6 x.length c6, .slice B6 r.length d6, .slice C6 p.length e6] 36)))
      obtain ⟨a0, a1, a2, _, _, _⟩ := S3a.c3
      go_wp2_with fail
      clear a0 a1 a2 S3 S2 hb2 HI6
      generalize w6.alloc (.cells #[.slice A6 x.length c6, .slice B6 r.length d6, .slice C6 p.length e6] 36) = w7 at *
      generalize w6.heap.size = g7 at *
      refine (HT2.out _ hb7).mono ?_
      rintro e8 w8 ⟨v8, rfl, hi8, hb8⟩
      replace S3a := S3a.later hb8
      replace S2a := S2a.later hb8
      replace S7 := S7.later hb8
      replace hb7 := below_trans hb7 hb8
      replace HI7 := Lib.hid (HI7.out.later hb8)
      clear hb8
      obtain ⟨A8, c8, B8, d8, C8, e8, rfl, _, _, _, _⟩ := id hi8
      replace S3a := S3a.later (below_alloc1 w8 (.cells #[.slice A8 x'.length c8, .slice B8 r'.length d8, .slice C8 p'.length e8] 36))
      replace S2a := S2a.later (below_alloc1 w8 (.cells #[.slice A8 x'.length c8, .slice B8 r'.length d8, .slice C8 p'.length e8] 36))
      replace S7 := S7.later (below_alloc1 w8 (.cells #[.slice A8 x'.length c8, .slice B8 r'.length d8, .slice C8 p'.length e8] 36))
      have S8 := Slots.new (Below.refl _ (w8.alloc (.cells #[.slice A8 x'.length c8, .slice B8 r'.length d8, .slice C8 p'.length e8] 36))) (g := w8.heap.size) rfl
      replace hb7 := below_trans hb7 (below_alloc1 w8 (.cells #[.slice A8 x'.length c8, .slice B8 r'.length d8, .slice C8 p'.length e8] 36))
      replace HI7 := Lib.hid (HI7.out.later (below_alloc1 w8 (.cells #[.slice A8 x'.length c8, .slice B8 r'.length d8, .slice C8 p'.length e8] 36)))
      have HI8 := Lib.hid (hi8.later (below_alloc1 w8 (.cells #[.slice A8 x'.length c8, .slice B8 r'.length d8, .slice C8 p'.length e8] 36)))
      clear hi8
      obtain ⟨a0, a1, a2, _, _, _⟩ := S7.c3
      obtain ⟨b0, b1, b2, _, _, _⟩ := S8.c3
      go_wp2_with fail
      clear a0 a1 a2 b0 b1 b2
      generalize w8.alloc (.cells #[.slice A8 x'.length c8, .slice B8 r'.length d8, .slice C8 p'.length e8] 36) = w9 at *
      generalize w8.heap.size = g8 at *
      refine (HD.out _ _ _ HI7.out HI8.out).mono ?_
      rintro e10 w10 ⟨rfl, hb10⟩
      replace S3a := S3a.later hb10
      replace S2a := S2a.later hb10
      replace S7 := S7.later hb10
      replace S8 := S8.later hb10
      replace hb7 := below_trans hb7 hb10
      replace HI7 := Lib.hid (HI7.out.later hb10)
      replace HI8 := Lib.hid (HI8.out.later hb10)
      clear hb10
      obtain ⟨a0, a1, a2, _, _, _⟩ := S7.c3
      obtain ⟨b0, b1, b2, _, _, _⟩ := S2a.c3
      have hg7 := S7.1
      have hg2 := S2a.1
      have hn : ∀ b : Bool, (b != b) = false := by simp
      go_wp2_with fail
      have hS : Below w10.heap.size w10 w10.drew := ⟨rfl, rfl, rfl, Nat.le_refl _, fun _ _ => rfl⟩
      go_region_held3 (fun w' => Below w10.heap.size w10 w' ∧ w'.cell? ⟨g7, 0, none⟩ = some (.slice A6 x.length c6) ∧ w'.cell? ⟨g7, 1, none⟩ = some (.slice B6 r.length d6) ∧ w'.cell? ⟨g7, 2, none⟩ = some (.slice C6 p.length e6) ∧ w'.cell? ⟨w.heap.size, 0, none⟩ = some (.slice A x.length c) ∧ w'.cell? ⟨w.heap.size, 1, none⟩ = some (.slice B r.length d) ∧ w'.cell? ⟨w.heap.size, 2, none⟩ = some (.slice C p.length e))
        (first | exact ⟨hS, a0, a1, a2, b0, b1, b2⟩ | exact keep6 hg7 hg2 (by assumption) (by assumption))
        (first
          | (go_at_call 18; refine (HQ1.out _ _ _ (HI7.out.later (below_of (by assumption))) hi11).mono ?_; rintro e12 w12 ⟨rfl, hb12⟩)
          | (go_at_call 16; with_reducible refine (HT1.out _ (below_trans hb7 (below_of (by assumption)))).mono ?_; rintro e11 w11 ⟨v11, rfl, hi11, hb11⟩))
      have hq : Below w10.heap.size w10 w12 ∧ w12.cell? ⟨g7, 0, none⟩ = some (.slice A6 x.length c6) ∧ w12.cell? ⟨g7, 1, none⟩ = some (.slice B6 r.length d6) ∧ w12.cell? ⟨g7, 2, none⟩ = some (.slice C6 p.length e6) ∧ w12.cell? ⟨w.heap.size, 0, none⟩ = some (.slice A x.length c) ∧ w12.cell? ⟨w.heap.size, 1, none⟩ = some (.slice B r.length d) ∧ w12.cell? ⟨w.heap.size, 2, none⟩ = some (.slice C p.length e) := by assumption
      replace S3a := S3a.later hq.1
      replace S8 := S8.later hq.1
      replace hb7 := below_trans hb7 hq.1
      replace HI8 := Lib.hid (HI8.out.later hq.1)
      clear hq hb11 hb12 hi11 a0 a1 a2 b0 b1 b2 hS hg7 hg2
      obtain ⟨a0, a1, a2, _, _, _⟩ := S8.c3
      obtain ⟨b0, b1, b2, _, _, _⟩ := S3a.c3
      have hg7 := S8.1
      have hg2 := S3a.1
      go_wp2_with fail
      have hS : Below w12.heap.size w12 w12.drew := ⟨rfl, rfl, rfl, Nat.le_refl _, fun _ _ => rfl⟩
      go_region_held3 (fun w' => Below w12.heap.size w12 w' ∧ w'.cell? ⟨g8, 0, none⟩ = some (.slice A8 x'.length c8) ∧ w'.cell? ⟨g8, 1, none⟩ = some (.slice B8 r'.length d8) ∧ w'.cell? ⟨g8, 2, none⟩ = some (.slice C8 p'.length e8) ∧ w'.cell? ⟨w.heap.size + 1, 0, none⟩ = some (.slice A' x'.length c') ∧ w'.cell? ⟨w.heap.size + 1, 1, none⟩ = some (.slice B' r'.length d') ∧ w'.cell? ⟨w.heap.size + 1, 2, none⟩ = some (.slice C' p'.length e'))
        (first | exact ⟨hS, a0, a1, a2, b0, b1, b2⟩ | exact keep6 hg7 hg2 (by assumption) (by assumption))
        (first
          | (go_at_call 18; refine (HQ2.out _ _ _ (HI8.out.later (below_of (by assumption))) hi13).mono ?_; rintro e14 w14 ⟨rfl, hb14⟩)
          | (go_at_call 16; with_reducible refine (HT2.out _ (below_trans hb7 (below_of (by assumption)))).mono ?_; rintro e13 w13 ⟨v13, rfl, hi13, hb13⟩))
      have hq : Below w12.heap.size w12 w14 ∧ w14.cell? ⟨g8, 0, none⟩ = some (.slice A8 x'.length c8) ∧ w14.cell? ⟨g8, 1, none⟩ = some (.slice B8 r'.length d8) ∧ w14.cell? ⟨g8, 2, none⟩ = some (.slice C8 p'.length e8) ∧ w14.cell? ⟨w.heap.size + 1, 0, none⟩ = some (.slice A' x'.length c') ∧ w14.cell? ⟨w.heap.size + 1, 1, none⟩ = some (.slice B' r'.length d') ∧ w14.cell? ⟨w.heap.size + 1, 2, none⟩ = some (.slice C' p'.length e') := by assumption
      replace hb7 := below_trans hb7 hq.1
      clear hq hb13 hb14 hi13 a0 a1 a2 b0 b1 b2 hS hg7 hg2
      go_wp2
      go_ret
      exact ⟨rfl, hb7⟩
    · have s2 := szI_neg (show L1 < ((vsz x' + vsz r' + vsz p' : Nat) : Int) by omega)
      rw [s2] at z2
      replace z2 := Lib.hid z2
      clear s2 c1 c2
      go_enter Try.func4, Try.ntmps4
      go_wp2_with fail
      refine (z1.out _ (below_alloc2 _ _ _)).mono ?_
      rintro e1 w1 ⟨rfl, hb1⟩
      have S3 := Slots.new hb1 (g := w.heap.size + 1) (by simp)
      replace hb1 := below_trans (below_alloc2 _ _ _) hb1
      obtain ⟨a0, a1, a2, _, _, _⟩ := S3.c3
      go_wp2_with fail
      refine (z2.out _ hb1).mono ?_
      rintro e2 w2 ⟨rfl, hb2⟩
      replace hb2 := below_trans hb1 hb2
      go_wp2
      go_ret
      exact ⟨rfl, hb2⟩
  · have s1 := szI_neg (show (1048576 : Int) < ((vsz x + vsz r + vsz p : Nat) : Int) by omega)
    have z1 := HZ1.out
    rw [s1] at z1
    replace z1 := Lib.hid z1
    clear s1 HZ1 c1
    go_enter Try.func4, Try.ntmps4
    go_wp2_with fail
    refine (z1.out _ (below_alloc2 _ _ _)).mono ?_
    rintro e1 w1 ⟨rfl, hb1⟩
    replace hb1 := below_trans (below_alloc2 _ _ _) hb1
    go_wp2
    go_ret
    exact ⟨rfl, hb1⟩
end Go.Proofs.Ytkmmdajlbkbnmaa
