/-
  For all arguments the law on EntryOf returns true: the program's EntryOf returns what the reference's returns. No condition.
  The walk of the law on EntryOf.
  An argument's vectors, opened.
  An argument's rows and matrices, opened.
-/
import Derived.Deep.RegionHeld3
import Derived.ProofKit
import Derived.Test.YtkmmdajlbkbnmaaEntryOfB14
namespace Go.Proofs.Ytkmmdajlbkbnmaa
open Go.RowKit Go.Joins

theorem entryOf_keep0 {w2 W w3 : World} {g0 g1 : Nat} {u0_0 u1_0 : Value} (h0 : g0 < w2.heap.size) (h1 : g1 < w2.heap.size) (hb : Below W.heap.size W w3)
    (hS : Below w2.heap.size w2 W ∧ W.cell? ⟨g0, 0, none⟩ = some u0_0 ∧ W.cell? ⟨g1, 0, none⟩ = some u1_0) :
    Below w2.heap.size w2 w3 ∧ w3.cell? ⟨g0, 0, none⟩ = some u0_0 ∧ w3.cell? ⟨g1, 0, none⟩ = some u1_0 := by
  obtain ⟨hS, e0, e1⟩ := hS
  exact ⟨below_trans hS hb, cell_later (Nat.lt_of_lt_of_le h0 hS.size) e0 hb, cell_later (Nat.lt_of_lt_of_le h1 hS.size) e1 hb⟩
theorem entR_few {rs : List RowD} (h : MFew rs) (i j : Int) : (entR rs i j).mag.length ≤ 1048576 ∧ (entR rs i j).den.length ≤ 1048576 := by
  unfold entR
  split
  · rename_i h1
    simp only [Bool.and_eq_true] at h1
    have h2 := inB_of h1.1.2
    exact rowAt_few (h.2 i.toNat (by omega)) j
  · exact ⟨Nat.zero_le _, Nat.zero_le _⟩

set_option maxRecDepth 100000 in
set_option maxHeartbeats 3200000 in
theorem entryOfLaw (d0 : List RowD) (v0 : Value) (i j : Int) (w : World) (hv0 : MatV w v0 d0) :
    Calls Try.prog 10 #[v0, .int .i64 i, .int .i64 j] w fun e w' => e = .returned (.bool true) ∧ Below w.heap.size w w' := by
  obtain ⟨A0, c0, rfl, _, _⟩ := id hv0
  have HV0 := Lib.hid hv0
  clear hv0
  have q0 := fun W hW => szMatrix d0 _ 1048576 (by omega) (by omega) W (HV0.out.later (w' := W) hW)
  by_cases c0 : ((msz d0 : Nat) : Int) ≤ 1048576
  · have s0 := szI_pos c0
    rw [s0] at q0
    have z0 := Lib.hid q0
    have t1 : 0 ≤ (1048576 : Int) - ((msz d0 : Nat) : Int) := by omega
    have l1 : (1048576 : Int) - ((msz d0 : Nat) : Int) ≤ 1048576 := by omega
    have f0 : MFew d0 := mfew_of (by omega)
    obtain ⟨fr1, fr2⟩ := entR_few f0 i j
    have HF0 := Lib.hid f0
    clear s0 f0 q0
    generalize (1048576 : Int) - ((msz d0 : Nat) : Int) = L1 at *
    clear c0
    have HT0 := Lib.hid (fun W hW => toMatrix d0 _ W (HV0.out.later (w' := W) hW) HF0.out)
    have HQ0 := Lib.hid (fun W a b ha hb => matSelf d0 a b W ha hb HF0.out)
    have HC := Lib.hid (fun W a0 h0 => sEntryOf d0 a0 i j W h0 HF0.out)
    have HD := Lib.hid (fun W a0 h0 => iEntryOf d0 a0 i j W h0 HF0.out)
    generalize entR d0 i j = R at *
    have HE := Lib.hid (fun W u v hu hv => show Calls Try.prog 46 #[u, v] W (fun e w' => e = .returned (.bool true) ∧ Below W.heap.size W w') from RatD.same_refl R ▸ eqRat R R u v W hu hv fr1 fr2 fr1 fr2)
    have HK := Lib.hid (fun W lo hi v h => markMS d0 1 (by decide) (by decide) HF0.out lo hi v W h)
    have HM := Lib.hid (fun W lo hi v h => markRS R 1 (by decide) (by decide) fr1 fr2 lo hi v W h)
    have HH := Lib.hid (fun W lo hi v h => heldRS R 1 (by decide) (by decide) fr1 fr2 lo hi v W h)
    clear fr1 fr2
    generalize cntM d0 = K at *
    generalize R.mag.length = p at *
    generalize R.den.length = q at *
    have h0 : decide ((1 : Int) + (K : Int) < 0) = false := by simp; omega
    have h1 : decide ((1 : Int) + (p : Int) + (q : Int) < 0) = false := by simp; omega
    go_enter Try.func10, Try.ntmps10
    go_wp2_with fail
    refine (z0.out _ (below_alloc1 _ _)).mono ?_
    rintro e0 w1 ⟨rfl, hb1⟩
    have S0 := Slots.new hb1 (g := w.heap.size) rfl
    replace hb1 := below_trans (below_alloc1 _ _) hb1
    obtain ⟨a0_0, _⟩ := S0.c1
    go_wp2_with fail
    refine (HT0.out _ hb1).mono ?_
    rintro e3 w3 ⟨v3, rfl, hi3, hb3⟩
    clear a0_0
    replace S0 := S0.later hb3
    have hb := below_trans hb1 hb3
    have HI3 := Lib.hid hi3.reads
    have o0 := hb.size
    clear hi3 hb1 hb3
    go_wp2_with fail
    refine (HC.out _ _ HI3.out).mono ?_
    rintro e5 w5 ⟨v5, rfl, hr5, hb5⟩
    replace S0 := S0.later hb5
    replace hb := below_trans hb hb5
    have r5 := hr5.rs
    have oo5 := hb5.size
    obtain ⟨A5, n5, c5, B5, m5, d5, rfl⟩ := r5.form
    clear hr5 hb5 HI3
    generalize w3.heap.size = g3 at *
    have hal := below_alloc1 w5 (.cells #[.bool R.neg, .slice A5 n5 c5, .slice B5 m5 d5] 84)
    replace S0 := S0.later hal
    replace r5 := r5.later hal
    replace hb := below_trans hb hal
    have Y8 := Slots.new (Below.refl _ (w5.alloc (.cells #[.bool R.neg, .slice A5 n5 c5, .slice B5 m5 d5] 84))) (g := w5.heap.size) rfl
    have og8 := Y8.1
    obtain ⟨a0, _⟩ := S0.c1
    go_wp2_with fail
    clear a0 hal
    generalize w5.alloc (.cells #[.bool R.neg, .slice A5 n5 c5, .slice B5 m5 d5] 84) = w6 at *
    generalize w5.heap.size = g8 at *
    refine (HT0.out _ hb).mono ?_
    rintro e7 w7 ⟨v7, rfl, ho7, hb7⟩
    obtain ⟨A7, c7, rfl, m7⟩ := ho7.mx
    have oo7 := hb7.size
    replace S0 := S0.later hb7
    replace r5 := r5.later hb7
    replace Y8 := Y8.later hb7
    replace hb := below_trans hb hb7
    clear ho7 hb7
    generalize w6.heap.size = g6 at *
    have hal := below_alloc1 w7 (.cells #[.slice A7 d0.length c7] 46)
    replace S0 := S0.later hal
    replace r5 := r5.later hal
    replace Y8 := Y8.later hal
    replace m7 := m7.later hal
    replace hb := below_trans hb hal
    have X9 := Slots.new (Below.refl _ (w7.alloc (.cells #[.slice A7 d0.length c7] 46))) (g := w7.heap.size) rfl
    have og9 := X9.1
    obtain ⟨x0, _⟩ := X9.c1
    go_wp2_with fail
    clear x0 hal
    generalize w7.alloc (.cells #[.slice A7 d0.length c7] 46) = w8 at *
    generalize w7.heap.size = g9 at *
    refine (HD.out _ _ m7.reads).mono ?_
    rintro e9 w9 ⟨v9, rfl, hr9, hb9⟩
    replace S0 := S0.later hb9
    replace r5 := r5.later hb9
    replace Y8 := Y8.later hb9
    replace m7 := m7.later hb9
    replace X9 := X9.later hb9
    replace hb := below_trans hb hb9
    have r9 := hr9.rs
    have oo9 := hb9.size
    obtain ⟨A9, n9, c9, B9, m9, d9, rfl⟩ := r9.form
    clear hr9 hb9
    generalize w8.heap.size = g88 at *
    have hal := below_alloc1 w9 (.cells #[.bool R.neg, .slice A9 n9 c9, .slice B9 m9 d9] 84)
    replace S0 := S0.later hal
    replace r5 := r5.later hal
    replace Y8 := Y8.later hal
    replace m7 := m7.later hal
    replace X9 := X9.later hal
    replace r9 := r9.later hal
    replace hb := below_trans hb hal
    have Y10 := Slots.new (Below.refl _ (w9.alloc (.cells #[.bool R.neg, .slice A9 n9 c9, .slice B9 m9 d9] 84))) (g := w9.heap.size) rfl
    have og10 := Y10.1
    obtain ⟨x0, x1, x2, _, _, _⟩ := Y10.c3
    obtain ⟨y0, y1, y2, _, _, _⟩ := Y8.c3
    go_wp2_with fail
    clear x0 x1 x2 y0 y1 y2
    clear hal
    generalize w9.alloc (.cells #[.bool R.neg, .slice A9 n9 c9, .slice B9 m9 d9] 84) = w10 at *
    generalize w9.heap.size = g10 at *
    refine (HE.out _ _ _ r9.reads r5.reads).mono ?_
    rintro e11 w11 ⟨rfl, hb11⟩
    replace S0 := S0.later hb11
    replace r5 := r5.later hb11
    replace Y8 := Y8.later hb11
    replace m7 := m7.later hb11
    replace X9 := X9.later hb11
    replace r9 := r9.later hb11
    replace Y10 := Y10.later hb11
    replace hb := below_trans hb hb11
    clear hb11
    obtain ⟨x0, _⟩ := X9.c1
    obtain ⟨a0, _⟩ := S0.c1
    have hg := X9.1
    have hh := S0.1
    go_wp2_with fail
    have hS : Below w11.heap.size w11 w11.drew := ⟨rfl, rfl, rfl, Nat.le_refl _, fun _ _ => rfl⟩
    go_region_held3 (fun w' => Below w11.heap.size w11 w' ∧ w'.cell? ⟨g9, 0, none⟩ = some (.slice A7 d0.length c7) ∧ w'.cell? ⟨w.heap.size, 0, none⟩ = some (.slice A0 d0.length c0))
      (first | exact ⟨hS, x0, a0⟩ | exact entryOf_keep0 hg hh (by assumption) (by assumption))
      (first
        | (go_at_call 23; refine (HQ0.out _ _ _ (m7.reads.later (And.left (by assumption))) hi12.reads).mono ?_; rintro e13 w13 ⟨rfl, hb13⟩)
        | (go_at_call 21; with_reducible refine (HT0.out _ (below_trans hb (And.left (by assumption)))).mono ?_; rintro e12 w12 ⟨v12, rfl, hi12, hb12⟩))
    have hq : Below w11.heap.size w11 w13 ∧ w13.cell? ⟨g9, 0, none⟩ = some (.slice A7 d0.length c7) ∧ w13.cell? ⟨w.heap.size, 0, none⟩ = some (.slice A0 d0.length c0) := by assumption
    have hq := hq.1
    replace S0 := S0.later hq
    replace r5 := r5.later hq
    replace Y8 := Y8.later hq
    replace m7 := m7.later hq
    replace X9 := X9.later hq
    replace r9 := r9.later hq
    replace Y10 := Y10.later hq
    replace hb := below_trans hb hq
    clear hq hb12 hb13 hi12 hS hg hh x0 a0
    obtain ⟨x0, _⟩ := X9.c1
    go_wp2_with fail
    clear x0
    refine (HK.out _ _ _ _ m7).mono ?_
    rintro e14 w14 ⟨rfl, hf14⟩
    have hsz := hb.size
    clear m7
    clear HK
    clear hsz
    replace S0 := S0.frame hf14 (by omega)
    replace r5 := r5.frame hf14 (by intro b _ _; omega)
    replace Y8 := Y8.frame hf14 (by omega)
    replace X9 := X9.frame hf14 (by omega)
    replace r9 := r9.frame hf14 (by intro b _ _; omega)
    replace Y10 := Y10.frame hf14 (by omega)
    replace hb := hb.trans (hf14.to_below (B := w.heap.size) hb.size (by intro b _; omega))
    clear hf14
    obtain ⟨x0, x1, x2, _, _, _⟩ := Y10.c3
    obtain ⟨y0, y1, y2, _, _, _⟩ := Y8.c3
    go_wp2_with fail
    clear x0 x1 x2 y0 y1 y2
    refine (HE.out _ _ _ r9.reads r5.reads).mono ?_
    rintro e15 w15 ⟨rfl, hb15⟩
    replace S0 := S0.later hb15
    replace r5 := r5.later hb15
    replace Y8 := Y8.later hb15
    replace X9 := X9.later hb15
    replace r9 := r9.later hb15
    replace Y10 := Y10.later hb15
    replace hb := below_trans hb hb15
    clear hb15
    obtain ⟨x0, x1, x2, _, _, _⟩ := Y10.c3
    go_wp2_with fail
    clear x0 x1 x2
    refine (HM.out _ _ _ _ r9).mono ?_
    rintro e16 w16 ⟨rfl, hf16, r16⟩
    clear r9
    replace S0 := S0.frame hf16 (by omega)
    replace r5 := r5.frame hf16 (by intro b _ _; omega)
    replace Y8 := Y8.frame hf16 (by omega)
    replace X9 := X9.frame hf16 (by omega)
    replace Y10 := Y10.frame hf16 (by omega)
    replace hb := hb.trans (hf16.to_below (B := w.heap.size) hb.size (by intro b _; omega))
    clear hf16
    obtain ⟨x0, x1, x2, _, _, _⟩ := Y10.c3
    go_wp2_with fail
    clear x0 x1 x2
    refine (HH.out _ _ _ _ r16).mono ?_
    rintro e17 w17 ⟨rfl, hb17⟩
    replace S0 := S0.later hb17
    replace r5 := r5.later hb17
    replace Y8 := Y8.later hb17
    replace X9 := X9.later hb17
    replace Y10 := Y10.later hb17
    replace r16 := r16.later hb17
    replace hb := below_trans hb hb17
    clear hb17
    obtain ⟨a0, _⟩ := S0.c1
    go_wp2_with fail
    clear a0
    refine (HT0.out _ hb).mono ?_
    rintro e18 w18 ⟨v18, rfl, hi18, hb18⟩
    replace S0 := S0.later hb18
    replace r5 := r5.later hb18
    replace Y8 := Y8.later hb18
    replace X9 := X9.later hb18
    replace Y10 := Y10.later hb18
    replace r16 := r16.later hb18
    replace hb := below_trans hb hb18
    have HI18 := Lib.hid hi18.reads
    clear hi18 hb18
    go_wp2_with fail
    refine (HD.out _ _ HI18.out).mono ?_
    rintro e19 w19 ⟨v19, rfl, hr19, hb19⟩
    replace S0 := S0.later hb19
    replace r5 := r5.later hb19
    replace Y8 := Y8.later hb19
    replace X9 := X9.later hb19
    replace Y10 := Y10.later hb19
    replace r16 := r16.later hb19
    replace hb := below_trans hb hb19
    have r19 := hr19.rs
    have oo19 := hb19.size
    obtain ⟨A19, n19, c19, B19, m19, d19, rfl⟩ := r19.form
    clear hr19 hb19 HI18
    generalize w18.heap.size = g18 at *
    have hal := below_alloc1 w19 (.cells #[.bool R.neg, .slice A19 n19 c19, .slice B19 m19 d19] 84)
    replace S0 := S0.later hal
    replace r5 := r5.later hal
    replace Y8 := Y8.later hal
    replace X9 := X9.later hal
    replace Y10 := Y10.later hal
    replace r16 := r16.later hal
    replace r19 := r19.later hal
    replace hb := below_trans hb hal
    have Y14 := Slots.new (Below.refl _ (w19.alloc (.cells #[.bool R.neg, .slice A19 n19 c19, .slice B19 m19 d19] 84))) (g := w19.heap.size) rfl
    have og14 := Y14.1
    obtain ⟨x0, x1, x2, _, _, _⟩ := Y14.c3
    obtain ⟨y0, y1, y2, _, _, _⟩ := Y8.c3
    go_wp2_with fail
    clear x0 x1 x2 y0 y1 y2
    clear hal
    generalize w19.alloc (.cells #[.bool R.neg, .slice A19 n19 c19, .slice B19 m19 d19] 84) = w20 at *
    generalize w19.heap.size = g14 at *
    refine (HE.out _ _ _ r19.reads r5.reads).mono ?_
    rintro e21 w21 ⟨rfl, hb21⟩
    replace S0 := S0.later hb21
    replace r5 := r5.later hb21
    replace Y8 := Y8.later hb21
    replace X9 := X9.later hb21
    replace Y10 := Y10.later hb21
    replace r16 := r16.later hb21
    replace r19 := r19.later hb21
    replace Y14 := Y14.later hb21
    replace hb := below_trans hb hb21
    clear hb21
    obtain ⟨x0, x1, x2, _, _, _⟩ := Y10.c3
    go_wp2_with fail
    clear x0 x1 x2
    refine (HH.out _ _ _ _ r16).mono ?_
    rintro e22 w22 ⟨rfl, hb22⟩
    replace S0 := S0.later hb22
    replace r5 := r5.later hb22
    replace Y8 := Y8.later hb22
    replace X9 := X9.later hb22
    replace Y10 := Y10.later hb22
    replace r16 := r16.later hb22
    replace r19 := r19.later hb22
    replace Y14 := Y14.later hb22
    replace hb := below_trans hb hb22
    clear hb22
    clear S0 r5 Y8 X9 Y10 r16 r19 Y14
    go_wp2
    go_ret
    exact ⟨rfl, hb⟩
  · have s0 := szI_neg (show (1048576 : Int) < ((msz d0 : Nat) : Int) by omega)
    rw [s0] at q0
    have z0 := Lib.hid q0
    clear s0 q0
    go_enter Try.func10, Try.ntmps10
    go_wp2_with fail
    refine (z0.out _ (below_alloc1 _ _)).mono ?_
    rintro e0 w1 ⟨rfl, hb1⟩
    replace hb1 := below_trans (below_alloc1 _ _) hb1
    go_wp2
    go_ret
    exact ⟨rfl, hb1⟩
end Go.Proofs.Ytkmmdajlbkbnmaa

namespace Go.Proofs.Ytkmmdajlbkbnmaa
open Go.ChangeShapes Go.RowKit Go.Joins Go.Deep

theorem list3 {α : Type} {l : List α} (h : l.length = 3) : ∃ a b c, l = [a, b, c] := by
  match l, h with
  | [a, b, c], _ => exact ⟨a, b, c, rfl⟩

section
variable {H : Type} {enc : TypeId × Value → H} {w : World}

theorem cells1 : Try.prog.cellsOf 3 = 1 := by kernel_rfl
theorem cellsB : Try.prog.cellsOf 103 = 2 := by kernel_rfl
theorem cellsR : Try.prog.cellsOf 105 = 3 := by kernel_rfl
theorem cellsS : Try.prog.cellsOf 80 = 1 := by kernel_rfl
theorem cellsBool : Try.prog.cellsOf 4 = 1 := by kernel_rfl

theorem openRat {n : Nat} {cs : List Value} {y : DataW H × List MemPlace} (h : DataW.trod enc Try.prog w 0 (fun _ => true) true n 105 cs = some y) (hl : cs.length = 3) :
    ∃ (z : RatD) (A : Option Addr) (c : Nat) (B : Option Addr) (d : Nat), cs = [.bool z.neg, .slice A z.mag.length c, .slice B z.den.length d] ∧ (z.mag.length ≤ c ∧ c ≤ maxLen ∧ z.den.length ≤ d ∧ d ≤ maxLen) ∧ RI w A z.mag ∧ RI w B z.den := by
  obtain ⟨y0, y1, n1, _, _, h0, h1⟩ := trod_struct2 Try.underlying105 h
  obtain ⟨z0, z1, n2, _, _, g0, g1⟩ := trod_struct2 Try.underlying103 h0
  obtain ⟨a, b, c, rfl⟩ := list3 hl
  simp [cellsB, cellsS, cellsBool] at h0 h1 g0 g1
  obtain ⟨s, hs, _⟩ := DataW.trod_bool Try.underlying4 g0
  obtain ⟨A, ca, xs, hA, la, ma, ra, _⟩ := openRI Try.underlying80 Try.underlying3 cells1 g1
  obtain ⟨B, cb, ys, hB, lb, mb, rb, _⟩ := openRI Try.underlying80 Try.underlying3 cells1 h1
  simp at hs hA hB
  subst hs hA hB
  exact ⟨⟨s, xs, ys⟩, A, ca, B, cb, rfl, ⟨la, ma, lb, mb⟩, ra, rb⟩


theorem openVI {n : Nat} {cs : List Value} {y : DataW H × List MemPlace} (h : DataW.trod enc Try.prog w 0 (fun _ => true) true n 29 cs = some y) :
    ∃ (A : Option Addr) (c : Nat) (rs : List RatD), cs = [.slice A rs.length c] ∧ rs.length ≤ c ∧ c ≤ maxLen ∧ VI w A rs := by
  obtain ⟨A, c, rs, h1, h2, h3, h4, _⟩ := openSI (At := RatAt) (k := 3) (d := zR) (G := fun _ => True) Try.underlying29 cellsR (by omega) (fun n cs' y hy hl => by
    obtain ⟨z, A, c, B, d, rfl, hl', ra, rb⟩ := openRat hy hl
    refine ⟨z, trivial, fun b o hc => ⟨A, c, B, d, ?_, ?_, ?_, hl', ra, rb⟩⟩
    · simpa using hc 0 (by omega)
    · simpa using hc 1 (by omega)
    · simpa using hc 2 (by omega)) h
  exact ⟨A, c, rs, h1, h2, h3, h4⟩
end
end Go.Proofs.Ytkmmdajlbkbnmaa

namespace Go.Proofs.Ytkmmdajlbkbnmaa
open Go.ChangeShapes Go.RowKit Go.Joins Go.Deep Go.WideShapes

section
variable {H : Type} {enc : TypeId × Value → H} {w : World}

/-- A struct by value, opened. -/
theorem open_agg {P : Program} {t : TypeId} {v : Value} {d : DataW H} {p : List MemPlace} (hv : ∃ cs, v = .agg cs ∧ cs.size = P.cellsOf t) (h : DataW.Trod enc P w 0 (fun _ => true) true t v d p) :
    ∃ (cs : List Value) (y : DataW H × List MemPlace) (n : Nat), v = .agg cs.toArray ∧ cs.length = P.cellsOf t ∧ DataW.trod enc P w 0 (fun _ => true) true n t cs = some y := by
  obtain ⟨cs, rfl, hsz⟩ := hv
  obtain ⟨fuel, hf⟩ := h
  exact ⟨cs.toList, _, fuel, by simp, by simpa using hsz, hf⟩

theorem list2 {α : Type} {l : List α} (h : l.length = 2) : ∃ a b, l = [a, b] := by
  match l, h with
  | [a, b], _ => exact ⟨a, b, rfl⟩
theorem list1 {α : Type} {l : List α} (h : l.length = 1) : ∃ a, l = [a] := by
  match l, h with
  | [a], _ => exact ⟨a, rfl⟩
theorem cellsRow : Try.prog.cellsOf 134 = 2 := by kernel_rfl
theorem cellsMat : Try.prog.cellsOf 41 = 1 := by kernel_rfl
theorem cellsRS : Try.prog.cellsOf 29 = 1 := by kernel_rfl
theorem cellsRowS : Try.prog.cellsOf 39 = 1 := by kernel_rfl

theorem openRow {n : Nat} {cs : List Value} {y : DataW H × List MemPlace} (h : DataW.trod enc Try.prog w 0 (fun _ => true) true n 134 cs = some y) (hl : cs.length = 2) :
    ∃ (z : RowD) (A : Option Addr) (c : Nat) (B : Option Addr) (d : Nat), cs = [.slice A z.cols.length c, .slice B z.vals.length d] ∧ (z.cols.length ≤ c ∧ c ≤ maxLen ∧ z.vals.length ≤ d ∧ d ≤ maxLen) ∧ RI w A z.cols ∧ VI w B z.vals := by
  obtain ⟨y0, y1, n1, _, _, h0, h1⟩ := trod_struct2 Try.underlying134 h
  obtain ⟨a, b, rfl⟩ := list2 hl
  simp [cellsRS, cellsS] at h0 h1
  obtain ⟨A, ca, xs, hA, la, ma, ra, _⟩ := openRI Try.underlying80 Try.underlying3 cells1 h0
  obtain ⟨B, cb, ys, hB, lb, mb, rb⟩ := openVI h1
  simp at hA hB
  subst hA hB
  exact ⟨⟨xs, ys⟩, A, ca, B, cb, rfl, ⟨la, ma, lb, mb⟩, ra, rb⟩

set_option maxRecDepth 100000 in
theorem openMI {n : Nat} {cs : List Value} {y : DataW H × List MemPlace} (h : DataW.trod enc Try.prog w 0 (fun _ => true) true n 39 cs = some y) :
    ∃ (A : Option Addr) (c : Nat) (rs : List RowD), cs = [.slice A rs.length c] ∧ rs.length ≤ c ∧ c ≤ maxLen ∧ MI w A rs := by
  obtain ⟨A, c, rs, h1, h2, h3, h4, _⟩ := openSI (At := RowAt) (k := 2) (d := zRow) (G := fun _ => True) Try.underlying39 cellsRow (by omega) (fun n cs' y hy hl => by
    obtain ⟨z, A, c, B, d, rfl, hl', ra, rb⟩ := openRow hy hl
    refine ⟨z, trivial, fun b o hc => ⟨A, c, B, d, ?_, ?_, hl', ra, rb⟩⟩
    · simpa using hc 0 (by omega)
    · simpa using hc 1 (by omega)) h
  exact ⟨A, c, rs, h1, h2, h3, h4⟩

theorem openMatrix {v : Value} {d : DataW H} {p : List MemPlace} (hv : ∃ cs, v = .agg cs ∧ cs.size = Try.prog.cellsOf 41) (h : DataW.Trod enc Try.prog w 0 (fun _ => true) true 41 v d p) : ∃ rs, MatV w v rs := by
  obtain ⟨cs, y, n, rfl, hl, h1⟩ := open_agg hv h
  rw [cellsMat] at hl
  obtain ⟨a, rfl⟩ := list1 hl
  obtain ⟨y0, n1, _, _, h0⟩ := trod_struct1 Try.underlying41 h1
  simp [cellsRowS] at h0
  obtain ⟨A, c, rs, hA, la, ma, ra⟩ := openMI h0
  simp at hA
  subst hA
  exact ⟨rs, A, c, rfl, ⟨la, ma⟩, ra⟩
end
end Go.Proofs.Ytkmmdajlbkbnmaa

namespace Go.Proofs.Ytkmmdajlbkbnmaa
open Go.ChangeShapes Go.WideShapes Go.ChangeAt Go.RowKit Go.Joins Go.WideElems Go.Deep

theorem own : ownKnob Try.prog.godebug = none := by kernel_rfl
theorem laid : laidOutB Try.prog = true := by kernel_rfl

set_option maxRecDepth 100000 in
theorem entryOf_lifted (os : Os) (started : os.Started) (H : Type) (enc : TypeId × Value → H) :
    ReturnsInHanded {} Try.checked os 10 .any (Rows.fnExactEntryOfSpec.pre6 enc Try.prog Try.f10 Rows.fnExactEntryOfRow.domain false) (Rows.fnExactEntryOfSpec.post enc Try.prog Try.f10 false true false false) := by
  refine returnsInHanded_of_change (C := Try.checked) own started (by kernel_rfl) Try.func10
    (ChangeSpec.witness6 (enc := enc) (C := Try.checked) false ⟨#[], #[.agg #[.slice none 0 0], .int .i64 0, .int .i64 0], []⟩ 8 (by kernel_rfl) (by kernel_rfl) (by kernel_rfl) (by kernel_rfl)) ?_
  intro W base args ds gs before hval0 hW _ _
  have hval : ∀ (j : Nat) t v, Try.f10.params[j]? = some t → args[j]? = some v → Value.okWide Try.prog W .any base t v := hval0
  have hW' := hW
  obtain ⟨p, q, hA0, hV, _, _, _⟩ := hW
  have hA : DataW.TrodAll enc Try.prog W 0 (fun _ => true) true Try.f10.params.toList args.toList ds p := hA0
  rw [Try.params10] at hA hval
  obtain ⟨v0, v1, v2, d0, d1, d2, p0, p1, p2, rfl, rfl, rfl, h0, h1, h2⟩ := trodAll_three hA
  obtain ⟨x0, k0⟩ := openMatrix (okWide_struct Try.underlying41 (hval 0 _ v0 rfl rfl)) h0
  obtain ⟨n1, rfl, _⟩ := open_int Try.underlying3 (hval 1 _ v1 rfl rfl) h1
  obtain ⟨n2, rfl, _⟩ := open_int Try.underlying3 (hval 2 _ v2 rfl rfl) h2
  refine (entryOfLaw x0 _ n1 n2 W k0).mono fun r W' ⟨hr, hb⟩ => ?_
  subst hr
  exact ⟨_, rfl, law_post laid rfl (by kernel_rfl) hb rfl Try.underlying4 rfl hW'⟩

theorem entryOf_holds : Rows.FnExactEntryOfSaid :=
  OpenClaim.holds_of_wide 10 Try.f10 rfl rfl rfl rfl rfl rfl rfl ⟨rfl, rfl, rfl, rfl, rfl⟩ rfl rfl rfl rfl rfl (by kernel_rfl) Try.func10 (by kernel_rfl)
    (of_decide_eq_true (by kernel_rfl)) (by unfold Func.isWrapper; rw [if_neg (by decide +kernel)]; exact ⟨rfl, rfl⟩)
    (fun os started H enc _ => entryOf_lifted os started H enc)

#print axioms entryOf_holds
end Go.Proofs.Ytkmmdajlbkbnmaa
