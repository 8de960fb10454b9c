/-
  Walks: the values at the corners of a triangle, by the program and by the reference.
-/
import Derived.Test.YtkmmdajlbkbnmaaK5
import Derived.Test.YtkmmdajlbkbnmaaK6
import Derived.Test.YtkmmdajlbkbnmaaK8
namespace Go.Proofs.Ytkmmdajlbkbnmaa
open Go.RowKit Go.Joins

def triCs (m : MeshD) (k : Nat) : List Int := [m.tris.getD (5 * k) 0, m.tris.getD (5 * k + 1) 0, m.tris.getD (5 * k + 2) 0]
def pk (us : List RatD) (cs : List Int) (j : Nat) : List RatD := (cs.take j).map fun c => us.getD c.toNat zR
def cornV (m : MeshD) (us : List RatD) (k : Int) : List RatD := if inB k 0 ((m.nt : Int) - 1) && (triCs m k.toNat).all (fun c => inB c 0 ((us.length : Int) - 1)) then pk us (triCs m k.toNat) 3 else []
theorem few_get {us : List RatD} (h : Few us) (k : Nat) : (us.getD k zR).mag.length ≤ 1048576 ∧ (us.getD k zR).den.length ≤ 1048576 := by
  by_cases hk : k < us.length
  · exact h.2 k hk
  · rw [List.getD_eq_getElem?_getD, List.getElem?_eq_none (by omega)]
    exact ⟨by decide, by decide⟩
theorem cornV_few {m : MeshD} {us : List RatD} (k : Int) (h : Few us) : Few (cornV m us k) := by
  unfold cornV
  split
  · refine ⟨by simp [pk, triCs], fun j hj => ?_⟩
    have h3 : j < 3 := by simpa [pk, triCs] using hj
    match j, h3 with
    | 0, _ => exact few_get h _
    | 1, _ => exact few_get h _
    | 2, _ => exact few_get h _
  · exact ⟨Nat.zero_le _, fun k hk => by simp at hk⟩
theorem inB_of2 {n lo hi : Int} (h : inB n lo hi = true) : lo ≤ n ∧ n ≤ hi := by simpa [inB] using h
/-- What a call ends in that makes a vector. -/
def CRes (w : World) (rs : List RatD) (e : Ending) (w' : World) : Prop := ∃ v' ps, e = .returned v' ∧ VS w' w.heap.size w'.heap.size v' ps rs ∧ Aps ps ∧ Below w.heap.size w w'
theorem CRes.nil {w w' : World} (hb : Below w.heap.size w w') : CRes w [] (.returned (.slice none 0 0)) w' := ⟨_, _, rfl, ⟨rfl, none, 0, rfl, Nat.le_refl _, Nat.zero_le _, fun h => absurd rfl h⟩, aps_nil, hb⟩

theorem run_idx3 (w : World) (a b c : Int) (i : Nat) (x : Int) (h : (i = 0 ∧ x = a) ∨ (i = 1 ∧ x = b) ∨ (i = 2 ∧ x = c)) :
    (Instr.index 90 (.agg #[.int .i64 a, .int .i64 b, .int .i64 c]) (.int .i64 (i : Int))).run Try.prog w = .ok (.int .i64 x) w := by
  have hu : Try.prog.underlying 90 = some (.array 3 3) := by kernel_rfl
  have hi := Try.intInfo
  obtain ⟨q, hq, hz0, hz1, hz2⟩ := info_parts hi
  rcases h with ⟨rfl, rfl⟩ | ⟨rfl, rfl⟩ | ⟨rfl, rfl⟩ <;>
  simp [Instr.index, run_underlying hu, asIntOf, go_sem, part, isAgg, sizeOf, typeInfo, hq, hz1]
theorem run_idx3_0 (w : World) (a b c : Int) : (Instr.index 90 (.agg #[.int .i64 a, .int .i64 b, .int .i64 c]) (.int .i64 0)).run Try.prog w = .ok (.int .i64 a) w := run_idx3 w a b c 0 a (.inl ⟨rfl, rfl⟩)
theorem run_idx3_1 (w : World) (a b c : Int) : (Instr.index 90 (.agg #[.int .i64 a, .int .i64 b, .int .i64 c]) (.int .i64 1)).run Try.prog w = .ok (.int .i64 b) w := run_idx3 w a b c 1 b (.inr (.inl ⟨rfl, rfl⟩))
theorem run_idx3_2 (w : World) (a b c : Int) : (Instr.index 90 (.agg #[.int .i64 a, .int .i64 b, .int .i64 c]) (.int .i64 2)).run Try.prog w = .ok (.int .i64 c) w := run_idx3 w a b c 2 c (.inr (.inr ⟨rfl, rfl⟩))
attribute [local go_sem] run_idx3_0 run_idx3_1 run_idx3_2

set_option maxHeartbeats 400000 in
theorem sTri3 (a b c d e : Int) (w : World) :
    Calls Try.prog 63 #[.agg #[.int .i64 a, .int .i64 b, .int .i64 c, .int .i64 d, .int .i64 e]] w fun r w' => ∃ g, r = .returned (.slice (some ⟨g, 0, none⟩) 3 3) ∧ Arr w' g 3 [a, b, c] ∧ Below w.heap.size w w' := by
  have hb := below_alloc2 w (.cells #[.int .i64 a, .int .i64 b, .int .i64 c, .int .i64 d, .int .i64 e] 26) (.cells #[.int .i64 a, .int .i64 b, .int .i64 c] 3)
  have hA : Arr ((w.alloc (.cells #[.int .i64 a, .int .i64 b, .int .i64 c, .int .i64 d, .int .i64 e] 26)).alloc (.cells #[.int .i64 a, .int .i64 b, .int .i64 c] 3)) (w.heap.size + 1) 3 [a, b, c] := by
    refine ⟨[], rfl, by decide, ?_⟩
    have := heap_alloc_new (w.alloc (.cells #[.int .i64 a, .int .i64 b, .int .i64 c, .int .i64 d, .int .i64 e] 26)) (.cells #[.int .i64 a, .int .i64 b, .int .i64 c] 3)
    rw [show (w.alloc (.cells #[.int .i64 a, .int .i64 b, .int .i64 c, .int .i64 d, .int .i64 e] 26)).heap.size = w.heap.size + 1 by simp] at this
    exact this
  have HS := Lib.hid hA
  have HB := Lib.hid hb
  clear hA hb
  go_enter Try.func63, Try.ntmps63
  go_wp2
  go_ret
  exact ⟨_, rfl, HS.out, HB.out⟩
theorem ne_arr {w : World} {base size n : Nat} {v : Value} {ys : List Value} {e : TypeId} (ho : w.ownsRow base e size v n ys) (he : e ≠ 3) {g cap : Nat} {xs : List Int} (ha : Arr w g cap xs) : ¬ v.ownBlock = some g := by
  intro h'
  obtain ⟨rest, _, _, hh⟩ := ha
  rcases ho.2 with ⟨rfl, _⟩ | ⟨g', cap', cur, rfl, _, hg, _⟩
  · cases h'
  · injection h' with h'
    simp only at h'
    subst h'
    rw [hh] at hg
    injection hg with hg
    injection hg with _ hg
    exact he hg.symm


set_option maxRecDepth 100000 in
set_option maxHeartbeats 3200000 in
theorem iCornerValues (m : MeshD) (us : List RatD) (u : Value) (A1 : Option Addr) (n c1 : Nat) (hn : us.length = n) (k : Int) (w : World) (hu : MeshV w u m) (hv : VI w A1 us) (hf : m.few) (hg : Few us) :
    Calls Try.prog 29 #[u, .slice A1 n c1, .int .i64 k] w (CRes w (cornV m us k)) := by
  obtain ⟨A, c, B, d, rfl, ⟨_, _, hd1, hd2⟩, ho, _, hr⟩ := hu
  have hnt1 := hf.2.1
  have hn1 : n ≤ 1048576 := hn ▸ hg.1
  have HR := Lib.hid hr
  have HT := Lib.hid ho.2
  have HV := Lib.hid hv
  have HG := Lib.hid hg.2
  have HN := Lib.hid hn
  have HI := Lib.hid (fun W => iWithin k 0 ((m.nt : Int) - 1) W)
  have HJ := Lib.hid (fun x W => iWithin x 0 ((n : Int) - 1) W)
  have hbad := fun (h : inB k 0 ((m.nt : Int) - 1) = false) => (show cornV m us k = [] by unfold cornV; rw [h]; rfl)
  have hE0 := fun i (hi : i < 3) (h : inB ((triCs m k.toNat).getD i 0) 0 ((n : Int) - 1) = false) => (show cornV m us k = [] by
    unfold cornV
    rw [show (triCs m k.toNat).all (fun c => inB c 0 ((us.length : Int) - 1)) = false by
      rw [List.all_eq_false]
      exact ⟨(triCs m k.toNat).getD i 0, by
        match i, hi with
        | 0, _ => simp [triCs]
        | 1, _ => simp [triCs]
        | 2, _ => simp [triCs], by rw [hn, h]; simp⟩, Bool.and_false]
    rfl)
  have hE1 := fun (h : inB k 0 ((m.nt : Int) - 1) = true) (h0 : inB ((triCs m k.toNat).getD 0 0) 0 ((n : Int) - 1) = true) (h1 : inB ((triCs m k.toNat).getD 1 0) 0 ((n : Int) - 1) = true) (h2 : inB ((triCs m k.toNat).getD 2 0) 0 ((n : Int) - 1) = true) => (show cornV m us k = pk us (triCs m k.toNat) 3 by
    unfold cornV
    rw [h, show (triCs m k.toNat).all (fun c => inB c 0 ((us.length : Int) - 1)) = true by
      rw [hn]
      simp only [triCs, List.all_cons, List.all_nil, Bool.and_true, Bool.and_eq_true]
      exact ⟨h0, h1, h2⟩]
    rfl)
  have hbk := fun (h : inB k 0 ((m.nt : Int) - 1) = true) => inB_of2 h
  generalize cornV m us k = R at *
  have HCP := Lib.hid (fun (x : RatD) v W (hv : RatV W v x) l1 l2 => iCopyRat x v W hv l1 l2)
  clear hn hr hv hf hg ho
  generalize hnp : m.np = np at *
  clear hnp
  obtain ⟨nt, hnt⟩ : ∃ nt, m.nt = nt := ⟨_, rfl⟩
  rw [hnt] at hd1 hnt1 HT HI hbad hE1 hbk ⊢
  clear hnt
  have hnt2 : nt ≤ 9223372036854775807 := Nat.le_trans hd1 hd2
  have hw1 : wrap64 ((nt : Int) - 1) = (nt : Int) - 1 := IntWalk.wrap64_in _ ⟨by omega, by omega⟩
  have hw2 : wrap64 ((n : Int) - 1) = (n : Int) - 1 := IntWalk.wrap64_in _ ⟨by omega, by omega⟩
  obtain ⟨bk, hbk0⟩ : ∃ bk, inB k 0 ((nt : Int) - 1) = bk := ⟨_, rfl⟩
  rw [hbk0] at HI hbad hE1 hbk
  have al0 := below_alloc1 w (.cells #[.slice A np c, .slice B nt d] 59)
  have S0 := Slots.new (Below.refl _ (w.alloc (.cells #[.slice A np c, .slice B nt d] 59))) (g := w.heap.size) rfl
  obtain ⟨a0, a1, _⟩ := S0.c2
  clear hbk0
  cases bk
  · rw [hbad (by trivial)]
    clear hbad hE0 hE1 hbk S0
    go_enter Try.func29, Try.ntmps29
    go_wp2_with fail
    refine (HI.out _).mono ?_
    rintro e w1 ⟨rfl, hw⟩
    subst w1
    clear a0 a1
    go_wp2
    go_ret
    exact CRes.nil al0
  obtain ⟨hk0, hk1⟩ := hbk (by trivial)
  obtain ⟨kn, rfl⟩ : ∃ kn : Nat, k = kn := ⟨k.toNat, by omega⟩
  simp only [Int.toNat_natCast] at hE0 hE1
  have hkn : (kn : Int) < (nt : Int) := by omega
  obtain ⟨b, off, rfl, hb, t0, t1, t2, t3, t4⟩ := HR.out.tri HT.out kn (by omega)
  have HE1 := Lib.hid (hE1 (by trivial))
  have HE0 := Lib.hid hE0
  have hx0 : (triCs m kn).getD 0 0 = m.tris.getD (5 * kn) 0 := rfl
  have hx1 : (triCs m kn).getD 1 0 = m.tris.getD (5 * kn + 1) 0 := rfl
  have hx2 : (triCs m kn).getD 2 0 = m.tris.getD (5 * kn + 2) 0 := rfl
  rw [← hx0] at t0
  rw [← hx1] at t1
  rw [← hx2] at t2
  have HCL := Lib.hid (show (triCs m kn).length = 3 from rfl)
  clear hbad hE0 hE1 hbk hx0 hx1 hx2
  generalize triCs m kn = cs at *
  have HPS := Lib.hid (show ∀ j, j < 3 → pk us cs (j + 1) = pk us cs j ++ [us.getD (cs.getD j 0).toNat zR] from fun j hj => by
    have hl := HCL.out
    unfold pk
    rw [List.take_succ_eq_append_getElem (by omega), List.map_append]
    simp [show j < cs.length by omega])
  have HPL := Lib.hid (show ∀ j, j ≤ 3 → (pk us cs j).length = j from fun j hj => by
    have hl := HCL.out
    simp [pk, hl]
    omega)
  have e0' := (al0.cell (p := ⟨b, off + kn * 5, none⟩) hb).trans t0
  have e1' := (al0.cell (p := ⟨b, off + kn * 5 + 1, none⟩) hb).trans t1
  have e2' := (al0.cell (p := ⟨b, off + kn * 5 + 2, none⟩) hb).trans t2
  have e3' := (al0.cell (p := ⟨b, off + kn * 5 + 3, none⟩) hb).trans t3
  have e4' := (al0.cell (p := ⟨b, off + kn * 5 + 4, none⟩) hb).trans t4
  clear t0 t1 t2 t3 t4
  have HX := Lib.hid (fun W => corners_any (cs.getD 0 0) (cs.getD 1 0) (cs.getD 2 0) (m.tris.getD (5 * kn + 3) 0) (m.tris.getD (5 * kn + 4) 0) W)
  generalize m.tris.getD (5 * kn + 3) 0 = x3 at *
  generalize m.tris.getD (5 * kn + 4) 0 = x4 at *
  obtain ⟨x0, hx0⟩ : ∃ x, cs.getD 0 0 = x := ⟨_, rfl⟩
  obtain ⟨x1, hx1⟩ : ∃ x, cs.getD 1 0 = x := ⟨_, rfl⟩
  obtain ⟨x2, hx2⟩ : ∃ x, cs.getD 2 0 = x := ⟨_, rfl⟩
  rw [hx0] at e0' HX HE1
  rw [hx1] at e1' HX HE1
  rw [hx2] at e2' HX HE1
  have HX0 := Lib.hid hx0
  have HX1 := Lib.hid hx1
  have HX2 := Lib.hid hx2
  clear hx0 hx1 hx2
  have hl0 := World.ownsRow_lit (base := w.heap.size + 1) (e := 84) (size := 3) (w.alloc (.cells #[.slice A np c, .slice (some ⟨b, off, none⟩) nt d] 59)) #[] 0 (by simp) (by unfold maxLen; omega) rfl
  have e00 : (w.alloc (.cells #[.slice A np c, .slice (some ⟨b, off, none⟩) nt d] 59)).heap.size = w.heap.size + 1 := by simp
  rw [e00] at hl0
  have al1 := below_alloc1 (w.alloc (.cells #[.slice A np c, .slice (some ⟨b, off, none⟩) nt d] 59)) (.cells #[] 84)
  have hbel0 := below_trans al0 al1
  have hsz0 : w.heap.size + 1 < ((w.alloc (.cells #[.slice A np c, .slice (some ⟨b, off, none⟩) nt d] 59)).alloc (.cells #[] 84)).heap.size := by simp
  replace S0 := S0.later al1
  obtain ⟨b0, b1, _⟩ := S0.c2
  have f0' := cell_later (by simp; omega) e0' al1
  have f1' := cell_later (by simp; omega) e1' al1
  have f2' := cell_later (by simp; omega) e2' al1
  have f3' := cell_later (by simp; omega) e3' al1
  have f4' := cell_later (by simp; omega) e4' al1
  clear e00 al0 al1 S0 e0' e1' e2' e3' e4'
  go_enter Try.func29, Try.ntmps29
  go_wp2_with fail
  refine (HI.out _).mono ?_
  rintro e w1 ⟨rfl, hw⟩
  subst w1
  go_wp2_with fail
  clear a0 a1 b0 b1 f0' f1' f2' f3' f4'
  generalize (w.alloc (.cells #[.slice A np c, .slice (some ⟨b, off, none⟩) nt d] 59)).alloc (.cells #[] 84) = w2 at *
  refine (HX.out _).mono ?_
  rintro e w3 ⟨rfl, hb3⟩
  have hbel3 := hbel0.trans (hb3.mono (by omega))
  have hl3 := (VW.nil w2 (w.heap.size + 1) w2.heap.size hl0).later hb3
  have hsz3 := hb3.size
  replace hl3 := hl3.wide (hi' := w3.heap.size) hsz3
  have hBX := hbel3
  clear hl0 hbel0 hb3
  go_wp2_with fail
  go_loopw [7, 24] (fun o z wr => ∃ j : Nat, j ≤ 3 ∧ z = .int .i64 j ∧ Below (w.heap.size + 1) w3 wr ∧ Below w3.heap.size w3 w3 ∧ (∀ i, i < j → inB (cs.getD i 0) 0 ((n : Int) - 1) = true) ∧ (True) ∧ ∃ ps, VW wr (w.heap.size + 1) wr.heap.size o ps (pk us cs j)) (fun _ z _ => 3 - (intOf z).toNat)
  case atStart => exact ⟨0, Nat.zero_le _, rfl, Below.refl _ _, Below.refl _ _, fun i hi => by omega, trivial, [], hl3⟩
  case round =>
    clear hl3
    obtain ⟨j, hj, rfl, hbel, _, hall, _, ps, hvw⟩ := hrel
    have HALL := Lib.hid hall
    clear hall
    have hbelw := hbel3.trans (hbel.mono (by omega))
    have hszr := hbel.size
    obtain ⟨Ao, co, rfl, _⟩ := hvw.form
    have hno := HPL.out j hj
    rw [hno]
    rw [hno] at hvw
    have HVW := Lib.hid hvw
    have HNO := Lib.hid hno
    clear hvw hno
    rcases (show j = 3 ∨ j = 0 ∨ j = 1 ∨ j = 2 by omega) with rfl | rfl | rfl | rfl
    · have HRE := Lib.hid (HE1.out (by rw [← HX0.out]; exact HALL.out 0 (by omega)) (by rw [← HX1.out]; exact HALL.out 1 (by omega)) (by rw [← HX2.out]; exact HALL.out 2 (by omega)))
      go_wp2
      go_ret
      rw [HRE.out]
      exact ⟨_, ps, rfl, HVW.out.parts.wide (by omega) (by simp), HVW.out.2.2.2, hbelw⟩
    · obtain ⟨bj, hbj⟩ : ∃ bj, inB x0 0 ((n : Int) - 1) = bj := ⟨_, rfl⟩
      have HJJ := fun W => HJ.out x0 W
      rw [hbj] at HJJ
      have HBJ := Lib.hid hbj
      clear hbj
      replace HJJ := Lib.hid HJJ
      cases bj
      · have HRE := Lib.hid (HE0.out 0 (by omega) (by rw [HX0.out]; exact HBJ.out))
        go_wp2_with fail
        refine (HJJ.out _).mono ?_
        rintro e w4 ⟨rfl, hw⟩
        subst w4
        go_wp2
        go_ret
        rw [HRE.out]
        exact CRes.nil hbelw
      · obtain ⟨hx0', hx1'⟩ := inB_of2 HBJ.out
        obtain ⟨ct, rfl⟩ : ∃ ct : Nat, x0 = ct := ⟨x0.toNat, by omega⟩
        have hctn : (ct : Int) < (n : Int) := by omega
        have hcu : ct < us.length := by rw [HN.out]; omega
        obtain ⟨b6, o6, rfl, hb6, hat6⟩ := HV.out.cells ct hcu
        have hat6' := RatAt.stays _ _ _ _ _ hb6 hat6 hbelw
        obtain ⟨fu1, fu2⟩ := HG.out ct hcu
        have HPK := Lib.hid (show pk us cs (0 + 1) = pk us cs 0 ++ [us.getD ct zR] by rw [HPS.out 0 (by omega), HX0.out]; rfl)
        have HALL2 := Lib.hid (show ∀ i, i < 0 + 1 → inB (cs.getD i 0) 0 ((n : Int) - 1) = true from fun i hi => (Nat.lt_succ_iff_lt_or_eq.1 hi).elim (HALL.out i) (fun e => by rw [e, HX0.out]; exact HBJ.out))
        clear hat6 hcu hx0' hx1'
        generalize us.getD ct zR = y at *
        obtain ⟨A5, c5, B5, d5, k0, k1, k2, hl5, q1, q2⟩ := hat6'
        have HC := Lib.hid (fun W (hW : Below wr.heap.size wr W) => HCP.out y (.agg #[.bool y.neg, .slice A5 y.mag.length c5, .slice B5 y.den.length d5]) W ⟨_, _, _, _, rfl, hl5, q1.later hW, q2.later hW⟩ fu1 fu2)
        have hb6r : b6 < wr.heap.size := Nat.lt_of_lt_of_le hb6 hbelw.size
        clear hl5 q1 q2 fu1 fu2
        go_wp2_with fail
        refine (HJJ.out _).mono ?_
        rintro e w4 ⟨rfl, hw⟩
        subst w4
        go_wp2_with fail
        refine (HC.out _ (Below.refl _ _)).mono ?_
        rintro e w5 ⟨v5, rfl, hr5, hb5⟩
        clear k0 k1 k2
        obtain ⟨A9, n9, c9, B9, m9, d9, rfl⟩ := hr5.shape
        have al9 := below_alloc1 w5 (.cells #[.bool y.neg, .slice A9 n9 c9, .slice B9 m9 d9] 84)
        have Z9 := Slots.new (Below.refl _ (w5.alloc (.cells #[.bool y.neg, .slice A9 n9 c9, .slice B9 m9 d9] 84))) (g := w5.heap.size) rfl
        obtain ⟨c0, c1', c2', _, _, _⟩ := Z9.c3
        have hz5 := hb5.size
        have hbx := below_trans hb5 al9
        have hbelx := hbel.trans (hbx.mono (by omega))
        have HVX := Lib.hid (HVW.out.later hbx)
        obtain ⟨va, vb, ev, ra, rb, hap⟩ := hr5
        injection ev with ev
        injection ev with ev
        injection ev with ev0 ev
        injection ev with ev1 ev
        injection ev with ev2 _
        subst ev1 ev2
        clear ev0
        have ia := (ra.io.later al9).wide (lo' := wr.heap.size) (hi' := w5.heap.size + 1) (by omega) (by omega)
        have ib := (rb.io.later al9).wide (lo' := wr.heap.size) (hi' := w5.heap.size + 1) (by omega) (by omega)
        clear Z9 al9 hbx ra rb
        go_wp2_with (at_builtin; refine appRat rfl _ _ rfl rfl HVX.out (by rw [HNO.out]; omega) (by simp; omega) y _ _ w5.heap.size rfl c0 c1' c2' ia ib hap (by omega) (by omega) ?_; intro v9 w9 hvw9 hfr9)
        have hbel9 := hbelx.trans (hfr9.to_below (B := w.heap.size + 1) (by simp; omega) (fun b hb hs => by have := (World.ownsRow.lt HVX.out.2.1 b hs).1; omega))
        rw [← HPK.out] at hvw9
        have hvw9' := hvw9.wide (hi' := w9.heap.size) (by have := hfr9.size; simp at this; omega)
        clear c0 c1' c2'
        go_roundw
        case rel => exact ⟨0 + 1, by omega, rfl, hbel9, Below.refl _ _, HALL2.out, trivial, _, hvw9'⟩
        case measure => simp [intOf]
    · obtain ⟨bj, hbj⟩ : ∃ bj, inB x1 0 ((n : Int) - 1) = bj := ⟨_, rfl⟩
      have HJJ := fun W => HJ.out x1 W
      rw [hbj] at HJJ
      have HBJ := Lib.hid hbj
      clear hbj
      replace HJJ := Lib.hid HJJ
      cases bj
      · have HRE := Lib.hid (HE0.out 1 (by omega) (by rw [HX1.out]; exact HBJ.out))
        go_wp2_with fail
        refine (HJJ.out _).mono ?_
        rintro e w4 ⟨rfl, hw⟩
        subst w4
        go_wp2
        go_ret
        rw [HRE.out]
        exact CRes.nil hbelw
      · obtain ⟨hx0', hx1'⟩ := inB_of2 HBJ.out
        obtain ⟨ct, rfl⟩ : ∃ ct : Nat, x1 = ct := ⟨x1.toNat, by omega⟩
        have hctn : (ct : Int) < (n : Int) := by omega
        have hcu : ct < us.length := by rw [HN.out]; omega
        obtain ⟨b6, o6, rfl, hb6, hat6⟩ := HV.out.cells ct hcu
        have hat6' := RatAt.stays _ _ _ _ _ hb6 hat6 hbelw
        obtain ⟨fu1, fu2⟩ := HG.out ct hcu
        have HPK := Lib.hid (show pk us cs (1 + 1) = pk us cs 1 ++ [us.getD ct zR] by rw [HPS.out 1 (by omega), HX1.out]; rfl)
        have HALL2 := Lib.hid (show ∀ i, i < 1 + 1 → inB (cs.getD i 0) 0 ((n : Int) - 1) = true from fun i hi => (Nat.lt_succ_iff_lt_or_eq.1 hi).elim (HALL.out i) (fun e => by rw [e, HX1.out]; exact HBJ.out))
        clear hat6 hcu hx0' hx1'
        generalize us.getD ct zR = y at *
        obtain ⟨A5, c5, B5, d5, k0, k1, k2, hl5, q1, q2⟩ := hat6'
        have HC := Lib.hid (fun W (hW : Below wr.heap.size wr W) => HCP.out y (.agg #[.bool y.neg, .slice A5 y.mag.length c5, .slice B5 y.den.length d5]) W ⟨_, _, _, _, rfl, hl5, q1.later hW, q2.later hW⟩ fu1 fu2)
        have hb6r : b6 < wr.heap.size := Nat.lt_of_lt_of_le hb6 hbelw.size
        clear hl5 q1 q2 fu1 fu2
        go_wp2_with fail
        refine (HJJ.out _).mono ?_
        rintro e w4 ⟨rfl, hw⟩
        subst w4
        go_wp2_with fail
        refine (HC.out _ (Below.refl _ _)).mono ?_
        rintro e w5 ⟨v5, rfl, hr5, hb5⟩
        clear k0 k1 k2
        obtain ⟨A9, n9, c9, B9, m9, d9, rfl⟩ := hr5.shape
        have al9 := below_alloc1 w5 (.cells #[.bool y.neg, .slice A9 n9 c9, .slice B9 m9 d9] 84)
        have Z9 := Slots.new (Below.refl _ (w5.alloc (.cells #[.bool y.neg, .slice A9 n9 c9, .slice B9 m9 d9] 84))) (g := w5.heap.size) rfl
        obtain ⟨c0, c1', c2', _, _, _⟩ := Z9.c3
        have hz5 := hb5.size
        have hbx := below_trans hb5 al9
        have hbelx := hbel.trans (hbx.mono (by omega))
        have HVX := Lib.hid (HVW.out.later hbx)
        obtain ⟨va, vb, ev, ra, rb, hap⟩ := hr5
        injection ev with ev
        injection ev with ev
        injection ev with ev0 ev
        injection ev with ev1 ev
        injection ev with ev2 _
        subst ev1 ev2
        clear ev0
        have ia := (ra.io.later al9).wide (lo' := wr.heap.size) (hi' := w5.heap.size + 1) (by omega) (by omega)
        have ib := (rb.io.later al9).wide (lo' := wr.heap.size) (hi' := w5.heap.size + 1) (by omega) (by omega)
        clear Z9 al9 hbx ra rb
        go_wp2_with (at_builtin; refine appRat rfl _ _ rfl rfl HVX.out (by rw [HNO.out]; omega) (by simp; omega) y _ _ w5.heap.size rfl c0 c1' c2' ia ib hap (by omega) (by omega) ?_; intro v9 w9 hvw9 hfr9)
        have hbel9 := hbelx.trans (hfr9.to_below (B := w.heap.size + 1) (by simp; omega) (fun b hb hs => by have := (World.ownsRow.lt HVX.out.2.1 b hs).1; omega))
        rw [← HPK.out] at hvw9
        have hvw9' := hvw9.wide (hi' := w9.heap.size) (by have := hfr9.size; simp at this; omega)
        clear c0 c1' c2'
        go_roundw
        case rel => exact ⟨1 + 1, by omega, rfl, hbel9, Below.refl _ _, HALL2.out, trivial, _, hvw9'⟩
        case measure => simp [intOf]
    · obtain ⟨bj, hbj⟩ : ∃ bj, inB x2 0 ((n : Int) - 1) = bj := ⟨_, rfl⟩
      have HJJ := fun W => HJ.out x2 W
      rw [hbj] at HJJ
      have HBJ := Lib.hid hbj
      clear hbj
      replace HJJ := Lib.hid HJJ
      cases bj
      · have HRE := Lib.hid (HE0.out 2 (by omega) (by rw [HX2.out]; exact HBJ.out))
        go_wp2_with fail
        refine (HJJ.out _).mono ?_
        rintro e w4 ⟨rfl, hw⟩
        subst w4
        go_wp2
        go_ret
        rw [HRE.out]
        exact CRes.nil hbelw
      · obtain ⟨hx0', hx1'⟩ := inB_of2 HBJ.out
        obtain ⟨ct, rfl⟩ : ∃ ct : Nat, x2 = ct := ⟨x2.toNat, by omega⟩
        have hctn : (ct : Int) < (n : Int) := by omega
        have hcu : ct < us.length := by rw [HN.out]; omega
        obtain ⟨b6, o6, rfl, hb6, hat6⟩ := HV.out.cells ct hcu
        have hat6' := RatAt.stays _ _ _ _ _ hb6 hat6 hbelw
        obtain ⟨fu1, fu2⟩ := HG.out ct hcu
        have HPK := Lib.hid (show pk us cs (2 + 1) = pk us cs 2 ++ [us.getD ct zR] by rw [HPS.out 2 (by omega), HX2.out]; rfl)
        have HALL2 := Lib.hid (show ∀ i, i < 2 + 1 → inB (cs.getD i 0) 0 ((n : Int) - 1) = true from fun i hi => (Nat.lt_succ_iff_lt_or_eq.1 hi).elim (HALL.out i) (fun e => by rw [e, HX2.out]; exact HBJ.out))
        clear hat6 hcu hx0' hx1'
        generalize us.getD ct zR = y at *
        obtain ⟨A5, c5, B5, d5, k0, k1, k2, hl5, q1, q2⟩ := hat6'
        have HC := Lib.hid (fun W (hW : Below wr.heap.size wr W) => HCP.out y (.agg #[.bool y.neg, .slice A5 y.mag.length c5, .slice B5 y.den.length d5]) W ⟨_, _, _, _, rfl, hl5, q1.later hW, q2.later hW⟩ fu1 fu2)
        have hb6r : b6 < wr.heap.size := Nat.lt_of_lt_of_le hb6 hbelw.size
        clear hl5 q1 q2 fu1 fu2
        go_wp2_with fail
        refine (HJJ.out _).mono ?_
        rintro e w4 ⟨rfl, hw⟩
        subst w4
        go_wp2_with fail
        refine (HC.out _ (Below.refl _ _)).mono ?_
        rintro e w5 ⟨v5, rfl, hr5, hb5⟩
        clear k0 k1 k2
        obtain ⟨A9, n9, c9, B9, m9, d9, rfl⟩ := hr5.shape
        have al9 := below_alloc1 w5 (.cells #[.bool y.neg, .slice A9 n9 c9, .slice B9 m9 d9] 84)
        have Z9 := Slots.new (Below.refl _ (w5.alloc (.cells #[.bool y.neg, .slice A9 n9 c9, .slice B9 m9 d9] 84))) (g := w5.heap.size) rfl
        obtain ⟨c0, c1', c2', _, _, _⟩ := Z9.c3
        have hz5 := hb5.size
        have hbx := below_trans hb5 al9
        have hbelx := hbel.trans (hbx.mono (by omega))
        have HVX := Lib.hid (HVW.out.later hbx)
        obtain ⟨va, vb, ev, ra, rb, hap⟩ := hr5
        injection ev with ev
        injection ev with ev
        injection ev with ev0 ev
        injection ev with ev1 ev
        injection ev with ev2 _
        subst ev1 ev2
        clear ev0
        have ia := (ra.io.later al9).wide (lo' := wr.heap.size) (hi' := w5.heap.size + 1) (by omega) (by omega)
        have ib := (rb.io.later al9).wide (lo' := wr.heap.size) (hi' := w5.heap.size + 1) (by omega) (by omega)
        clear Z9 al9 hbx ra rb
        go_wp2_with (at_builtin; refine appRat rfl _ _ rfl rfl HVX.out (by rw [HNO.out]; omega) (by simp; omega) y _ _ w5.heap.size rfl c0 c1' c2' ia ib hap (by omega) (by omega) ?_; intro v9 w9 hvw9 hfr9)
        have hbel9 := hbelx.trans (hfr9.to_below (B := w.heap.size + 1) (by simp; omega) (fun b hb hs => by have := (World.ownsRow.lt HVX.out.2.1 b hs).1; omega))
        rw [← HPK.out] at hvw9
        have hvw9' := hvw9.wide (hi' := w9.heap.size) (by have := hfr9.size; simp at this; omega)
        clear c0 c1' c2'
        go_roundw
        case rel => exact ⟨2 + 1, by omega, rfl, hbel9, Below.refl _ _, HALL2.out, trivial, _, hvw9'⟩
        case measure => simp [intOf]

set_option maxRecDepth 100000 in
set_option maxHeartbeats 3200000 in
theorem sCornerValues (m : MeshD) (us : List RatD) (u : Value) (A1 : Option Addr) (n c1 : Nat) (hn : us.length = n) (k : Int) (w : World) (hu : MeshV w u m) (hv : VI w A1 us) (hf : m.few) (hg : Few us) :
    Calls Try.prog 26 #[u, .slice A1 n c1, .int .i64 k] w (CRes w (cornV m us k)) := by
  obtain ⟨A, c, B, d, rfl, ⟨_, _, hd1, hd2⟩, ho, _, hr⟩ := hu
  have hnt1 := hf.2.1
  have hn1 : n ≤ 1048576 := hn ▸ hg.1
  have HR := Lib.hid hr
  have HT := Lib.hid ho.2
  have HV := Lib.hid hv
  have HG := Lib.hid hg.2
  have HN := Lib.hid hn
  have HI := Lib.hid (fun W => sIn k 0 ((m.nt : Int) - 1) W)
  have HJ := Lib.hid (fun x W => sIn x 0 ((n : Int) - 1) W)
  have hbad := fun (h : inB k 0 ((m.nt : Int) - 1) = false) => (show cornV m us k = [] by unfold cornV; rw [h]; rfl)
  have hE0 := fun i (hi : i < 3) (h : inB ((triCs m k.toNat).getD i 0) 0 ((n : Int) - 1) = false) => (show cornV m us k = [] by
    unfold cornV
    rw [show (triCs m k.toNat).all (fun c => inB c 0 ((us.length : Int) - 1)) = false by
      rw [List.all_eq_false]
      exact ⟨(triCs m k.toNat).getD i 0, by
        match i, hi with
        | 0, _ => simp [triCs]
        | 1, _ => simp [triCs]
        | 2, _ => simp [triCs], by rw [hn, h]; simp⟩, Bool.and_false]
    rfl)
  have hE1 := fun (h : inB k 0 ((m.nt : Int) - 1) = true) (h0 : inB ((triCs m k.toNat).getD 0 0) 0 ((n : Int) - 1) = true) (h1 : inB ((triCs m k.toNat).getD 1 0) 0 ((n : Int) - 1) = true) (h2 : inB ((triCs m k.toNat).getD 2 0) 0 ((n : Int) - 1) = true) => (show cornV m us k = pk us (triCs m k.toNat) 3 by
    unfold cornV
    rw [h, show (triCs m k.toNat).all (fun c => inB c 0 ((us.length : Int) - 1)) = true by
      rw [hn]
      simp only [triCs, List.all_cons, List.all_nil, Bool.and_true, Bool.and_eq_true]
      exact ⟨h0, h1, h2⟩]
    rfl)
  have hbk := fun (h : inB k 0 ((m.nt : Int) - 1) = true) => inB_of2 h
  generalize cornV m us k = R at *
  have HCP := Lib.hid (fun (x : RatD) v W (hv : RatV W v x) l1 l2 => sCopy x v W hv l1 l2)
  clear hn hr hv hf hg ho
  generalize hnp : m.np = np at *
  clear hnp
  obtain ⟨nt, hnt⟩ : ∃ nt, m.nt = nt := ⟨_, rfl⟩
  rw [hnt] at hd1 hnt1 HT HI hbad hE1 hbk ⊢
  clear hnt
  have hnt2 : nt ≤ 9223372036854775807 := Nat.le_trans hd1 hd2
  have hw1 : wrap64 ((nt : Int) - 1) = (nt : Int) - 1 := IntWalk.wrap64_in _ ⟨by omega, by omega⟩
  have hw2 : wrap64 ((n : Int) - 1) = (n : Int) - 1 := IntWalk.wrap64_in _ ⟨by omega, by omega⟩
  obtain ⟨bk, hbk0⟩ : ∃ bk, inB k 0 ((nt : Int) - 1) = bk := ⟨_, rfl⟩
  rw [hbk0] at HI hbad hE1 hbk
  have al0 := below_alloc1 w (.cells #[.slice A np c, .slice B nt d] 59)
  have S0 := Slots.new (Below.refl _ (w.alloc (.cells #[.slice A np c, .slice B nt d] 59))) (g := w.heap.size) rfl
  obtain ⟨a0, a1, _⟩ := S0.c2
  clear hbk0
  cases bk
  · rw [hbad (by trivial)]
    clear hbad hE0 hE1 hbk S0
    go_enter Try.func26, Try.ntmps26
    go_wp2_with fail
    refine (HI.out _).mono ?_
    rintro e w1 ⟨rfl, hw⟩
    subst w1
    clear a0 a1
    go_wp2
    go_ret
    exact CRes.nil al0
  obtain ⟨hk0, hk1⟩ := hbk (by trivial)
  obtain ⟨kn, rfl⟩ : ∃ kn : Nat, k = kn := ⟨k.toNat, by omega⟩
  simp only [Int.toNat_natCast] at hE0 hE1
  have hkn : (kn : Int) < (nt : Int) := by omega
  obtain ⟨b, off, rfl, hb, t0, t1, t2, t3, t4⟩ := HR.out.tri HT.out kn (by omega)
  have HE1 := Lib.hid (hE1 (by trivial))
  have HE0 := Lib.hid hE0
  have hx0 : (triCs m kn).getD 0 0 = m.tris.getD (5 * kn) 0 := rfl
  have hx1 : (triCs m kn).getD 1 0 = m.tris.getD (5 * kn + 1) 0 := rfl
  have hx2 : (triCs m kn).getD 2 0 = m.tris.getD (5 * kn + 2) 0 := rfl
  rw [← hx0] at t0
  rw [← hx1] at t1
  rw [← hx2] at t2
  have HCL := Lib.hid (show (triCs m kn).length = 3 from rfl)
  clear hbad hE0 hE1 hbk hx0 hx1 hx2
  generalize triCs m kn = cs at *
  have HPS := Lib.hid (show ∀ j, j < 3 → pk us cs (j + 1) = pk us cs j ++ [us.getD (cs.getD j 0).toNat zR] from fun j hj => by
    have hl := HCL.out
    unfold pk
    rw [List.take_succ_eq_append_getElem (by omega), List.map_append]
    simp [show j < cs.length by omega])
  have HPL := Lib.hid (show ∀ j, j ≤ 3 → (pk us cs j).length = j from fun j hj => by
    have hl := HCL.out
    simp [pk, hl]
    omega)
  have e0' := (al0.cell (p := ⟨b, off + kn * 5, none⟩) hb).trans t0
  have e1' := (al0.cell (p := ⟨b, off + kn * 5 + 1, none⟩) hb).trans t1
  have e2' := (al0.cell (p := ⟨b, off + kn * 5 + 2, none⟩) hb).trans t2
  have e3' := (al0.cell (p := ⟨b, off + kn * 5 + 3, none⟩) hb).trans t3
  have e4' := (al0.cell (p := ⟨b, off + kn * 5 + 4, none⟩) hb).trans t4
  clear t0 t1 t2 t3 t4
  have HX := Lib.hid (fun W => sTri3 (cs.getD 0 0) (cs.getD 1 0) (cs.getD 2 0) (m.tris.getD (5 * kn + 3) 0) (m.tris.getD (5 * kn + 4) 0) W)
  generalize m.tris.getD (5 * kn + 3) 0 = x3 at *
  generalize m.tris.getD (5 * kn + 4) 0 = x4 at *
  obtain ⟨x0, hx0⟩ : ∃ x, cs.getD 0 0 = x := ⟨_, rfl⟩
  obtain ⟨x1, hx1⟩ : ∃ x, cs.getD 1 0 = x := ⟨_, rfl⟩
  obtain ⟨x2, hx2⟩ : ∃ x, cs.getD 2 0 = x := ⟨_, rfl⟩
  rw [hx0] at e0' HX HE1
  rw [hx1] at e1' HX HE1
  rw [hx2] at e2' HX HE1
  have HX0 := Lib.hid hx0
  have HX1 := Lib.hid hx1
  have HX2 := Lib.hid hx2
  clear hx0 hx1 hx2
  have hl0 := World.ownsRow_lit (base := w.heap.size + 1) (e := 84) (size := 3) (w.alloc (.cells #[.slice A np c, .slice (some ⟨b, off, none⟩) nt d] 59)) #[] 0 (by simp) (by unfold maxLen; omega) rfl
  have e00 : (w.alloc (.cells #[.slice A np c, .slice (some ⟨b, off, none⟩) nt d] 59)).heap.size = w.heap.size + 1 := by simp
  rw [e00] at hl0
  have al1 := below_alloc1 (w.alloc (.cells #[.slice A np c, .slice (some ⟨b, off, none⟩) nt d] 59)) (.cells #[] 84)
  have hbel0 := below_trans al0 al1
  have hsz0 : w.heap.size + 1 < ((w.alloc (.cells #[.slice A np c, .slice (some ⟨b, off, none⟩) nt d] 59)).alloc (.cells #[] 84)).heap.size := by simp
  replace S0 := S0.later al1
  obtain ⟨b0, b1, _⟩ := S0.c2
  have f0' := cell_later (by simp; omega) e0' al1
  have f1' := cell_later (by simp; omega) e1' al1
  have f2' := cell_later (by simp; omega) e2' al1
  have f3' := cell_later (by simp; omega) e3' al1
  have f4' := cell_later (by simp; omega) e4' al1
  clear e00 al0 al1 S0 e0' e1' e2' e3' e4'
  go_enter Try.func26, Try.ntmps26
  go_wp2_with fail
  refine (HI.out _).mono ?_
  rintro e w1 ⟨rfl, hw⟩
  subst w1
  go_wp2_with fail
  clear a0 a1 b0 b1 f0' f1' f2' f3' f4'
  generalize (w.alloc (.cells #[.slice A np c, .slice (some ⟨b, off, none⟩) nt d] 59)).alloc (.cells #[] 84) = w2 at *
  refine (HX.out _).mono ?_
  rintro e w3 ⟨g3, rfl, hA3, hb3⟩
  have hbel3 := hbel0.trans (hb3.mono (by omega))
  have hl3 := (VW.nil w2 (w.heap.size + 1) w2.heap.size hl0).later hb3
  have hsz3 := hb3.size
  replace hl3 := hl3.wide (hi' := w3.heap.size) hsz3
  have hBX := hbel3
  clear hl0 hbel0 hb3
  go_wp2_with fail
  go_loopw [7, 25] (fun o z wr => ∃ j : Nat, j ≤ 3 ∧ z = .int .i64 j ∧ Below (w.heap.size + 1) w3 wr ∧ Below w3.heap.size w3 w3 ∧ (∀ i, i < j → inB (cs.getD i 0) 0 ((n : Int) - 1) = true) ∧ (Arr wr g3 3 [x0, x1, x2]) ∧ ∃ ps, VW wr (w.heap.size + 1) wr.heap.size o ps (pk us cs j)) (fun _ z _ => 3 - (intOf z).toNat)
  case atStart => exact ⟨0, Nat.zero_le _, rfl, Below.refl _ _, Below.refl _ _, fun i hi => by omega, hA3, [], hl3⟩
  case round =>
    clear hl3 hA3
    obtain ⟨j, hj, rfl, hbel, _, hall, hA3, ps, hvw⟩ := hrel
    have HALL := Lib.hid hall
    clear hall
    have y0 : wr.cell? ⟨g3, 0, none⟩ = some (.int .i64 x0) := hA3.cell 0 (by simp)
    have y1 : wr.cell? ⟨g3, 1, none⟩ = some (.int .i64 x1) := hA3.cell 1 (by simp)
    have y2 : wr.cell? ⟨g3, 2, none⟩ = some (.int .i64 x2) := hA3.cell 2 (by simp)
    have HA3 := Lib.hid hA3
    clear hA3
    have hbelw := hbel3.trans (hbel.mono (by omega))
    have hszr := hbel.size
    obtain ⟨Ao, co, rfl, _⟩ := hvw.form
    have hno := HPL.out j hj
    rw [hno]
    rw [hno] at hvw
    have HVW := Lib.hid hvw
    have HNO := Lib.hid hno
    clear hvw hno
    rcases (show j = 3 ∨ j = 0 ∨ j = 1 ∨ j = 2 by omega) with rfl | rfl | rfl | rfl
    · have HRE := Lib.hid (HE1.out (by rw [← HX0.out]; exact HALL.out 0 (by omega)) (by rw [← HX1.out]; exact HALL.out 1 (by omega)) (by rw [← HX2.out]; exact HALL.out 2 (by omega)))
      go_wp2
      go_ret
      rw [HRE.out]
      exact ⟨_, ps, rfl, HVW.out.parts.wide (by omega) (by simp), HVW.out.2.2.2, hbelw⟩
    · obtain ⟨bj, hbj⟩ : ∃ bj, inB x0 0 ((n : Int) - 1) = bj := ⟨_, rfl⟩
      have HJJ := fun W => HJ.out x0 W
      rw [hbj] at HJJ
      have HBJ := Lib.hid hbj
      clear hbj
      replace HJJ := Lib.hid HJJ
      cases bj
      · have HRE := Lib.hid (HE0.out 0 (by omega) (by rw [HX0.out]; exact HBJ.out))
        go_wp2_with fail
        refine (HJJ.out _).mono ?_
        rintro e w4 ⟨rfl, hw⟩
        subst w4
        go_wp2
        go_ret
        rw [HRE.out]
        exact CRes.nil hbelw
      · obtain ⟨hx0', hx1'⟩ := inB_of2 HBJ.out
        obtain ⟨ct, rfl⟩ : ∃ ct : Nat, x0 = ct := ⟨x0.toNat, by omega⟩
        have hctn : (ct : Int) < (n : Int) := by omega
        have hcu : ct < us.length := by rw [HN.out]; omega
        obtain ⟨b6, o6, rfl, hb6, hat6⟩ := HV.out.cells ct hcu
        have hat6' := RatAt.stays _ _ _ _ _ hb6 hat6 hbelw
        obtain ⟨fu1, fu2⟩ := HG.out ct hcu
        have HPK := Lib.hid (show pk us cs (0 + 1) = pk us cs 0 ++ [us.getD ct zR] by rw [HPS.out 0 (by omega), HX0.out]; rfl)
        have HALL2 := Lib.hid (show ∀ i, i < 0 + 1 → inB (cs.getD i 0) 0 ((n : Int) - 1) = true from fun i hi => (Nat.lt_succ_iff_lt_or_eq.1 hi).elim (HALL.out i) (fun e => by rw [e, HX0.out]; exact HBJ.out))
        clear hat6 hcu hx0' hx1'
        generalize us.getD ct zR = y at *
        obtain ⟨A5, c5, B5, d5, k0, k1, k2, hl5, q1, q2⟩ := hat6'
        have HC := Lib.hid (fun W (hW : Below wr.heap.size wr W) => HCP.out y (.agg #[.bool y.neg, .slice A5 y.mag.length c5, .slice B5 y.den.length d5]) W ⟨_, _, _, _, rfl, hl5, q1.later hW, q2.later hW⟩ fu1 fu2)
        have hb6r : b6 < wr.heap.size := Nat.lt_of_lt_of_le hb6 hbelw.size
        clear hl5 q1 q2 fu1 fu2
        go_wp2_with fail
        refine (HJJ.out _).mono ?_
        rintro e w4 ⟨rfl, hw⟩
        subst w4
        go_wp2_with fail
        refine (HC.out _ (Below.refl _ _)).mono ?_
        rintro e w5 ⟨v5, rfl, hr5, hb5⟩
        clear k0 k1 k2
        obtain ⟨A9, n9, c9, B9, m9, d9, rfl⟩ := hr5.shape
        have al9 := below_alloc1 w5 (.cells #[.bool y.neg, .slice A9 n9 c9, .slice B9 m9 d9] 84)
        have Z9 := Slots.new (Below.refl _ (w5.alloc (.cells #[.bool y.neg, .slice A9 n9 c9, .slice B9 m9 d9] 84))) (g := w5.heap.size) rfl
        obtain ⟨c0, c1', c2', _, _, _⟩ := Z9.c3
        have hz5 := hb5.size
        have hbx := below_trans hb5 al9
        have hbelx := hbel.trans (hbx.mono (by omega))
        have HVX := Lib.hid (HVW.out.later hbx)
        have HA9 := Lib.hid (HA3.out.later hbx)
        obtain ⟨va, vb, ev, ra, rb, hap⟩ := hr5
        injection ev with ev
        injection ev with ev
        injection ev with ev0 ev
        injection ev with ev1 ev
        injection ev with ev2 _
        subst ev1 ev2
        clear ev0
        have ia := (ra.io.later al9).wide (lo' := wr.heap.size) (hi' := w5.heap.size + 1) (by omega) (by omega)
        have ib := (rb.io.later al9).wide (lo' := wr.heap.size) (hi' := w5.heap.size + 1) (by omega) (by omega)
        clear Z9 al9 hbx ra rb
        go_wp2_with (at_builtin; refine appRat rfl _ _ rfl rfl HVX.out (by rw [HNO.out]; omega) (by simp; omega) y _ _ w5.heap.size rfl c0 c1' c2' ia ib hap (by omega) (by omega) ?_; intro v9 w9 hvw9 hfr9)
        have hbel9 := hbelx.trans (hfr9.to_below (B := w.heap.size + 1) (by simp; omega) (fun b hb hs => by have := (World.ownsRow.lt HVX.out.2.1 b hs).1; omega))
        rw [← HPK.out] at hvw9
        have hvw9' := hvw9.wide (hi' := w9.heap.size) (by have := hfr9.size; simp at this; omega)
        have hA9 := HA9.out.block (hfr9.block g3 HA9.out.lt (ne_arr HVX.out.2.1 (by decide) HA9.out))
        clear c0 c1' c2'
        go_roundw
        case rel => exact ⟨0 + 1, by omega, rfl, hbel9, Below.refl _ _, HALL2.out, hA9, _, hvw9'⟩
        case measure => simp [intOf]
    · obtain ⟨bj, hbj⟩ : ∃ bj, inB x1 0 ((n : Int) - 1) = bj := ⟨_, rfl⟩
      have HJJ := fun W => HJ.out x1 W
      rw [hbj] at HJJ
      have HBJ := Lib.hid hbj
      clear hbj
      replace HJJ := Lib.hid HJJ
      cases bj
      · have HRE := Lib.hid (HE0.out 1 (by omega) (by rw [HX1.out]; exact HBJ.out))
        go_wp2_with fail
        refine (HJJ.out _).mono ?_
        rintro e w4 ⟨rfl, hw⟩
        subst w4
        go_wp2
        go_ret
        rw [HRE.out]
        exact CRes.nil hbelw
      · obtain ⟨hx0', hx1'⟩ := inB_of2 HBJ.out
        obtain ⟨ct, rfl⟩ : ∃ ct : Nat, x1 = ct := ⟨x1.toNat, by omega⟩
        have hctn : (ct : Int) < (n : Int) := by omega
        have hcu : ct < us.length := by rw [HN.out]; omega
        obtain ⟨b6, o6, rfl, hb6, hat6⟩ := HV.out.cells ct hcu
        have hat6' := RatAt.stays _ _ _ _ _ hb6 hat6 hbelw
        obtain ⟨fu1, fu2⟩ := HG.out ct hcu
        have HPK := Lib.hid (show pk us cs (1 + 1) = pk us cs 1 ++ [us.getD ct zR] by rw [HPS.out 1 (by omega), HX1.out]; rfl)
        have HALL2 := Lib.hid (show ∀ i, i < 1 + 1 → inB (cs.getD i 0) 0 ((n : Int) - 1) = true from fun i hi => (Nat.lt_succ_iff_lt_or_eq.1 hi).elim (HALL.out i) (fun e => by rw [e, HX1.out]; exact HBJ.out))
        clear hat6 hcu hx0' hx1'
        generalize us.getD ct zR = y at *
        obtain ⟨A5, c5, B5, d5, k0, k1, k2, hl5, q1, q2⟩ := hat6'
        have HC := Lib.hid (fun W (hW : Below wr.heap.size wr W) => HCP.out y (.agg #[.bool y.neg, .slice A5 y.mag.length c5, .slice B5 y.den.length d5]) W ⟨_, _, _, _, rfl, hl5, q1.later hW, q2.later hW⟩ fu1 fu2)
        have hb6r : b6 < wr.heap.size := Nat.lt_of_lt_of_le hb6 hbelw.size
        clear hl5 q1 q2 fu1 fu2
        go_wp2_with fail
        refine (HJJ.out _).mono ?_
        rintro e w4 ⟨rfl, hw⟩
        subst w4
        go_wp2_with fail
        refine (HC.out _ (Below.refl _ _)).mono ?_
        rintro e w5 ⟨v5, rfl, hr5, hb5⟩
        clear k0 k1 k2
        obtain ⟨A9, n9, c9, B9, m9, d9, rfl⟩ := hr5.shape
        have al9 := below_alloc1 w5 (.cells #[.bool y.neg, .slice A9 n9 c9, .slice B9 m9 d9] 84)
        have Z9 := Slots.new (Below.refl _ (w5.alloc (.cells #[.bool y.neg, .slice A9 n9 c9, .slice B9 m9 d9] 84))) (g := w5.heap.size) rfl
        obtain ⟨c0, c1', c2', _, _, _⟩ := Z9.c3
        have hz5 := hb5.size
        have hbx := below_trans hb5 al9
        have hbelx := hbel.trans (hbx.mono (by omega))
        have HVX := Lib.hid (HVW.out.later hbx)
        have HA9 := Lib.hid (HA3.out.later hbx)
        obtain ⟨va, vb, ev, ra, rb, hap⟩ := hr5
        injection ev with ev
        injection ev with ev
        injection ev with ev0 ev
        injection ev with ev1 ev
        injection ev with ev2 _
        subst ev1 ev2
        clear ev0
        have ia := (ra.io.later al9).wide (lo' := wr.heap.size) (hi' := w5.heap.size + 1) (by omega) (by omega)
        have ib := (rb.io.later al9).wide (lo' := wr.heap.size) (hi' := w5.heap.size + 1) (by omega) (by omega)
        clear Z9 al9 hbx ra rb
        go_wp2_with (at_builtin; refine appRat rfl _ _ rfl rfl HVX.out (by rw [HNO.out]; omega) (by simp; omega) y _ _ w5.heap.size rfl c0 c1' c2' ia ib hap (by omega) (by omega) ?_; intro v9 w9 hvw9 hfr9)
        have hbel9 := hbelx.trans (hfr9.to_below (B := w.heap.size + 1) (by simp; omega) (fun b hb hs => by have := (World.ownsRow.lt HVX.out.2.1 b hs).1; omega))
        rw [← HPK.out] at hvw9
        have hvw9' := hvw9.wide (hi' := w9.heap.size) (by have := hfr9.size; simp at this; omega)
        have hA9 := HA9.out.block (hfr9.block g3 HA9.out.lt (ne_arr HVX.out.2.1 (by decide) HA9.out))
        clear c0 c1' c2'
        go_roundw
        case rel => exact ⟨1 + 1, by omega, rfl, hbel9, Below.refl _ _, HALL2.out, hA9, _, hvw9'⟩
        case measure => simp [intOf]
    · obtain ⟨bj, hbj⟩ : ∃ bj, inB x2 0 ((n : Int) - 1) = bj := ⟨_, rfl⟩
      have HJJ := fun W => HJ.out x2 W
      rw [hbj] at HJJ
      have HBJ := Lib.hid hbj
      clear hbj
      replace HJJ := Lib.hid HJJ
      cases bj
      · have HRE := Lib.hid (HE0.out 2 (by omega) (by rw [HX2.out]; exact HBJ.out))
        go_wp2_with fail
        refine (HJJ.out _).mono ?_
        rintro e w4 ⟨rfl, hw⟩
        subst w4
        go_wp2
        go_ret
        rw [HRE.out]
        exact CRes.nil hbelw
      · obtain ⟨hx0', hx1'⟩ := inB_of2 HBJ.out
        obtain ⟨ct, rfl⟩ : ∃ ct : Nat, x2 = ct := ⟨x2.toNat, by omega⟩
        have hctn : (ct : Int) < (n : Int) := by omega
        have hcu : ct < us.length := by rw [HN.out]; omega
        obtain ⟨b6, o6, rfl, hb6, hat6⟩ := HV.out.cells ct hcu
        have hat6' := RatAt.stays _ _ _ _ _ hb6 hat6 hbelw
        obtain ⟨fu1, fu2⟩ := HG.out ct hcu
        have HPK := Lib.hid (show pk us cs (2 + 1) = pk us cs 2 ++ [us.getD ct zR] by rw [HPS.out 2 (by omega), HX2.out]; rfl)
        have HALL2 := Lib.hid (show ∀ i, i < 2 + 1 → inB (cs.getD i 0) 0 ((n : Int) - 1) = true from fun i hi => (Nat.lt_succ_iff_lt_or_eq.1 hi).elim (HALL.out i) (fun e => by rw [e, HX2.out]; exact HBJ.out))
        clear hat6 hcu hx0' hx1'
        generalize us.getD ct zR = y at *
        obtain ⟨A5, c5, B5, d5, k0, k1, k2, hl5, q1, q2⟩ := hat6'
        have HC := Lib.hid (fun W (hW : Below wr.heap.size wr W) => HCP.out y (.agg #[.bool y.neg, .slice A5 y.mag.length c5, .slice B5 y.den.length d5]) W ⟨_, _, _, _, rfl, hl5, q1.later hW, q2.later hW⟩ fu1 fu2)
        have hb6r : b6 < wr.heap.size := Nat.lt_of_lt_of_le hb6 hbelw.size
        clear hl5 q1 q2 fu1 fu2
        go_wp2_with fail
        refine (HJJ.out _).mono ?_
        rintro e w4 ⟨rfl, hw⟩
        subst w4
        go_wp2_with fail
        refine (HC.out _ (Below.refl _ _)).mono ?_
        rintro e w5 ⟨v5, rfl, hr5, hb5⟩
        clear k0 k1 k2
        obtain ⟨A9, n9, c9, B9, m9, d9, rfl⟩ := hr5.shape
        have al9 := below_alloc1 w5 (.cells #[.bool y.neg, .slice A9 n9 c9, .slice B9 m9 d9] 84)
        have Z9 := Slots.new (Below.refl _ (w5.alloc (.cells #[.bool y.neg, .slice A9 n9 c9, .slice B9 m9 d9] 84))) (g := w5.heap.size) rfl
        obtain ⟨c0, c1', c2', _, _, _⟩ := Z9.c3
        have hz5 := hb5.size
        have hbx := below_trans hb5 al9
        have hbelx := hbel.trans (hbx.mono (by omega))
        have HVX := Lib.hid (HVW.out.later hbx)
        have HA9 := Lib.hid (HA3.out.later hbx)
        obtain ⟨va, vb, ev, ra, rb, hap⟩ := hr5
        injection ev with ev
        injection ev with ev
        injection ev with ev0 ev
        injection ev with ev1 ev
        injection ev with ev2 _
        subst ev1 ev2
        clear ev0
        have ia := (ra.io.later al9).wide (lo' := wr.heap.size) (hi' := w5.heap.size + 1) (by omega) (by omega)
        have ib := (rb.io.later al9).wide (lo' := wr.heap.size) (hi' := w5.heap.size + 1) (by omega) (by omega)
        clear Z9 al9 hbx ra rb
        go_wp2_with (at_builtin; refine appRat rfl _ _ rfl rfl HVX.out (by rw [HNO.out]; omega) (by simp; omega) y _ _ w5.heap.size rfl c0 c1' c2' ia ib hap (by omega) (by omega) ?_; intro v9 w9 hvw9 hfr9)
        have hbel9 := hbelx.trans (hfr9.to_below (B := w.heap.size + 1) (by simp; omega) (fun b hb hs => by have := (World.ownsRow.lt HVX.out.2.1 b hs).1; omega))
        rw [← HPK.out] at hvw9
        have hvw9' := hvw9.wide (hi' := w9.heap.size) (by have := hfr9.size; simp at this; omega)
        have hA9 := HA9.out.block (hfr9.block g3 HA9.out.lt (ne_arr HVX.out.2.1 (by decide) HA9.out))
        clear c0 c1' c2'
        go_roundw
        case rel => exact ⟨2 + 1, by omega, rfl, hbel9, Below.refl _ _, HALL2.out, hA9, _, hvw9'⟩
        case measure => simp [intOf]
end Go.Proofs.Ytkmmdajlbkbnmaa
