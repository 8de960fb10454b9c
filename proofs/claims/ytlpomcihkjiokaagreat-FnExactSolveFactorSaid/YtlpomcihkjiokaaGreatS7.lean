/-
  Shared texts (S7).
-/
import Derived.Test.YtlpomcihkjiokaaGreatS6
import Derived.Test.YtlpomcihkjiokaaGreatS5
import Derived.Test.YtlpomcihkjiokaaGreatS3
import Derived.Deep.DeepCutAuto
namespace Go.Proofs.YtlpomcihkjiokaaGreat
open Go.RowKit Go.Joins

theorem sTrim_toL (p : Nat) (n c : Nat) (hn : (FE.toL p).length = n) (hn1 : n ≤ 65536) (hnc : n ≤ c) (A : Option Addr) (w : World) (ha : RI w A (FE.toL p)) :
    Calls Tryz.prog 214 #[.slice A n c] w fun e w' => e = .returned (.slice A n c) ∧ w = w' := by
  have h := sTrim_any (FE.toL p) n c hn (by omega) hnc A w ha
  rw [trim_toL, hn] at h
  exact h.mono fun e w' ⟨h1, h2⟩ => ⟨h1, h2.symm⟩
theorem sOne_toL (p : Nat) (b : Bool) (hb : (p == 1) = b) (n c : Nat) (hn : (FE.toL p).length = n) (hn1 : n ≤ 65536) (A : Option Addr) (w : World) (ha : RI w A (FE.toL p)) :
    Calls Tryz.prog 151 #[.slice A n c] w fun e w' => e = .returned (.bool b) ∧ w = w' := by
  have h := sOne (FE.toL p) n c hn (by omega) A w ha
  rw [oneB_toL, hb] at h
  exact h.mono fun e w' ⟨h1, h2⟩ => ⟨h1, h2.symm⟩
theorem low_zero (s : Bool) (p : Nat) : FE.low s p 0 = zR := if_pos rfl
theorem low_few {s : Bool} {p q : Nat} (hq : q ≠ 0) (h1 : (FE.toL (p / Nat.gcd p q)).length ≤ 24) (h2 : (FE.toL (q / Nat.gcd p q)).length ≤ 24) : FE.low s p q = ⟨s && decide (p / Nat.gcd p q ≠ 0), FE.toL (p / Nat.gcd p q), FE.toL (q / Nat.gcd p q)⟩ := by
  unfold FE.low
  rw [if_neg hq, if_pos (by simp [FE.few, h1, h2])]
  rfl

set_option maxRecDepth 100000 in
set_option maxHeartbeats 1600000 in
theorem sLow_zero (s : Bool) (p q : Nat) (n m c d : Nat) (hn : (FE.toL p).length = n) (hm : (FE.toL q).length = m) (hn1 : n ≤ 50000) (hm1 : m ≤ 50000) (hnc : n ≤ c) (hmd : m ≤ d) (A B : Option Addr) (w : World) (ha : RI w A (FE.toL p)) (hb : RI w B (FE.toL q)) (h0 : q = 0) :
    Calls Tryz.prog 193 #[.bool s, .slice A n c, .slice B m d] w fun e w' => ∃ v', e = .returned v' ∧ RatP w' w.heap.size v' (FE.low s p q) ∧ Below w.heap.size w w' := by
  rw [h0, low_zero]
  have e1 : ((m : Int) == 0) = true := by rw [← hm, h0, FE.toL_zero]; rfl
  have T1 := Lib.hid (fun W (hW : Below w.heap.size w W) => sTrim_toL p n c hn (by omega) hnc A W (ha.later hW))
  have T2 := Lib.hid (fun W (hW : Below w.heap.size w W) => sTrim_toL q m d hm (by omega) hmd B W (hb.later hW))
  clear ha hb hn hm h0
  have R0 := Slots.new (Below.refl _ (w.alloc (.cells #[.bool false, .slice none 0 0, .slice none 0 0] 57))) (g := w.heap.size) rfl
  obtain ⟨q0, q1, q2, z0, z1, z2⟩ := R0.c3
  have hb' := below_alloc1 w (.cells #[.bool false, .slice none 0 0, .slice none 0 0] 57)
  go_enter Tryz.func193, Tryz.ntmps193
  go_wp2_with fail
  refine (T1.out _ (below_alloc1 _ _)).mono ?_
  rintro e w1 ⟨rfl, hw1⟩
  subst w1
  go_wp2_with fail
  refine (T2.out _ (below_alloc1 _ _)).mono ?_
  rintro e w1 ⟨rfl, hw1⟩
  subst w1
  clear R0
  go_wp2
  exact bodyPost_ret (v := .agg #[.bool false, .slice none 0 0, .slice none 0 0]) (by simp [results, Tryz.results193, go_sem, q0, q1, q2]) rfl ⟨_, rfl, RatP.zero _ _, hb'⟩

set_option maxRecDepth 100000 in
set_option maxHeartbeats 1600000 in
theorem sLow_one_ok (s : Bool) (p q : Nat) (n m c d : Nat) (hn : (FE.toL p).length = n) (hm : (FE.toL q).length = m) (hn1 : n ≤ 50000) (hm1 : m ≤ 50000) (hnc : n ≤ c) (hmd : m ≤ d) (A B : Option Addr) (w : World) (ha : RI w A (FE.toL p)) (hb : RI w B (FE.toL q)) (h1 : q = 1) (hok : (FE.toL p).length ≤ 24 ∧ (FE.toL q).length ≤ 24) :
    Calls Tryz.prog 193 #[.bool s, .slice A n c, .slice B m d] w fun e w' => ∃ v', e = .returned v' ∧ RatP w' w.heap.size v' (FE.low s p q) ∧ Below w.heap.size w w' := by
  have hg : Nat.gcd p q = 1 := by rw [h1]; exact Nat.gcd_one_right p
  have h0 : q ≠ 0 := by omega
  have hR := low_few (s := s) (p := p) (q := q) h0 (by rw [hg, Nat.div_one]; exact hok.1) (by rw [hg, Nat.div_one]; exact hok.2)
  rw [hg, Nat.div_one, Nat.div_one] at hR
  rw [hR]
  have T1 := Lib.hid (fun W (hW : Below w.heap.size w W) => sTrim_toL p n c hn (by omega) hnc A W (ha.later hW))
  have T2 := Lib.hid (fun W (hW : Below w.heap.size w W) => sTrim_toL q m d hm (by omega) hmd B W (hb.later hW))
  have e1 : ((m : Int) == 0) = false := by rw [← hm]; simp; exact fun h => h0 (FE.toL_eq_nil.1 h)
  have T3 := Lib.hid (fun W (hW : Below w.heap.size w W) => sOne_toL q true (by simp; exact h1) m d hm (by omega) B W (hb.later hW))
  have l1 : (FE.toL p).length ≤ 24 := hok.1
  have l2 : (FE.toL q).length ≤ 24 := hok.2
  have M1 := Lib.hid (fun (n c : Nat) (hn : (FE.toL p).length = n) (hc : n ≤ c) (A : Option Addr) W (ha : RI W A (FE.toL p)) => sMake s p n c hn (by omega) hc A W ha)
  have HRA := Lib.hid (fun W (hW : Below w.heap.size w W) => ha.later hW)
  have HRB := Lib.hid (fun W (hW : Below w.heap.size w W) => hb.later hW)
  have R0 := Slots.new (Below.refl _ (w.alloc (.cells #[.bool false, .slice none 0 0, .slice none 0 0] 57))) (g := w.heap.size) rfl
  have hbel := below_alloc1 w (.cells #[.bool false, .slice none 0 0, .slice none 0 0] 57)
  rw [hn] at l1
  rw [hm] at l2
  have HN := Lib.hid hn
  have HM := Lib.hid hm
  generalize (s && decide (p ≠ 0)) = st at *
  generalize FE.toL p = xs at *
  generalize FE.toL q = ys at *
  clear ha hb hn hm h0 h1 hg hR hok
  go_enter Tryz.func193, Tryz.ntmps193
  go_wp2_with fail
  refine (T1.out _ (below_alloc1 _ _)).mono ?_
  rintro e w1 ⟨rfl, hw1⟩
  subst w1
  go_wp2_with fail
  refine (T2.out _ (below_alloc1 _ _)).mono ?_
  rintro e w1 ⟨rfl, hw1⟩
  subst w1
  go_wp2_with fail
  refine (T3.out _ (below_alloc1 _ _)).mono ?_
  rintro e w1 ⟨rfl, hw1⟩
  subst w1
  generalize w.alloc (.cells #[.bool false, .slice none 0 0, .slice none 0 0] 57) = w5 at *
  have g1 : decide ((24 : Int) < (n : Int)) = false := decide_eq_false (by omega)
  have g2 : decide ((24 : Int) < (m : Int)) = false := decide_eq_false (by omega)
  go_wp2_with fail
  refine (M1.out _ _ HN.out hnc _ _ (HRA.out _ hbel)).mono ?_
  rintro e w6 ⟨v6, rfl, ⟨va, rfl, hro3⟩, hb6⟩
  have hsz := R0.1
  replace R0 := R0.later hb6
  have ry6 := (HRB.out _ hbel).later hb6
  replace hbel := below_trans hbel hb6
  obtain ⟨A3, c3, rfl, _⟩ := id hro3
  go_wp2_with (at_builtin; refine appFresh rfl _ _ _ rfl Tryz.underlying40 Tryz.intInfo _ rfl B ys m _ rfl HM.out (ry6.alloc _) (by omega) ?_; intro v4 w4 hro4 hb4; replace hb4 := box_below hb4; obtain ⟨A4, c4, rfl, _⟩ := id hro4; replace R0 := R0.later hb4; replace hbel := below_trans hbel hb4; obtain ⟨b0, b1, b2, z0, z1, z2⟩ := R0.c3)
  have hap := apart_of hro3 hro4 (by simp)
  have k3 := (hro3.later hb4).mono (base' := w.heap.size + 1) (by omega)
  have hsz6 := hb6.size
  have k4 := hro4.mono (base' := w.heap.size + 1) (by simp; omega)
  have hb := below3 hbel (Nat.le_refl w.heap.size) (.bool st) (.slice A3 xs.length c3) (.slice A4 ys.length c4)
  have f6 := (show RatP w4 (w.heap.size + 1) (.agg #[.bool st, .slice A3 xs.length c3, .slice A4 ys.length c4]) ⟨st, xs, ys⟩ from ⟨_, _, rfl, k3, k4, hap⟩).far3 (g := w.heap.size) (Nat.lt_succ_self _) (.bool st) (.slice A3 xs.length c3) (.slice A4 ys.length c4)
  exact bodyPost_ret (v := .agg #[.bool st, .slice A3 xs.length c3, .slice A4 ys.length c4]) (by simp [results, Tryz.results193, go_sem, b0, b1, b2]) rfl ⟨_, rfl, f6.mono (Nat.le_succ _), hb⟩

set_option maxRecDepth 100000 in
set_option maxHeartbeats 1600000 in
theorem sLow_one_big (s : Bool) (p q : Nat) (n m c d : Nat) (hn : (FE.toL p).length = n) (hm : (FE.toL q).length = m) (hn1 : n ≤ 50000) (hm1 : m ≤ 50000) (hnc : n ≤ c) (hmd : m ≤ d) (A B : Option Addr) (w : World) (ha : RI w A (FE.toL p)) (hb : RI w B (FE.toL q)) (h1 : q = 1) (hok : ¬ ((FE.toL p).length ≤ 24 ∧ (FE.toL q).length ≤ 24)) :
    Calls Tryz.prog 193 #[.bool s, .slice A n c, .slice B m d] w fun e w' => ∃ v', e = .returned v' ∧ RatP w' w.heap.size v' (FE.low s p q) ∧ Below w.heap.size w w' := by
  have hg : Nat.gcd p q = 1 := by rw [h1]; exact Nat.gcd_one_right p
  have h0 : q ≠ 0 := by omega
  have hR := low_big (s := s) (p := p) (q := q) (by rw [hg, Nat.div_one, Nat.div_one]; exact hok)
  rw [hR]
  have T1 := Lib.hid (fun W (hW : Below w.heap.size w W) => sTrim_toL p n c hn (by omega) hnc A W (ha.later hW))
  have T2 := Lib.hid (fun W (hW : Below w.heap.size w W) => sTrim_toL q m d hm (by omega) hmd B W (hb.later hW))
  have e1 : ((m : Int) == 0) = false := by rw [← hm]; simp; exact fun h => h0 (FE.toL_eq_nil.1 h)
  have T3 := Lib.hid (fun W (hW : Below w.heap.size w W) => sOne_toL q true (by simp; exact h1) m d hm (by omega) B W (hb.later hW))
  have HRA := Lib.hid (fun W (hW : Below w.heap.size w W) => ha.later hW)
  have HRB := Lib.hid (fun W (hW : Below w.heap.size w W) => hb.later hW)
  have R0 := Slots.new (Below.refl _ (w.alloc (.cells #[.bool false, .slice none 0 0, .slice none 0 0] 57))) (g := w.heap.size) rfl
  have hbel := below_alloc1 w (.cells #[.bool false, .slice none 0 0, .slice none 0 0] 57)
  rw [hn, hm] at hok
  have HOK := Lib.hid hok
  clear ha hb hn hm h0 h1 hg hR hok
  go_enter Tryz.func193, Tryz.ntmps193
  go_wp2_with fail
  refine (T1.out _ (below_alloc1 _ _)).mono ?_
  rintro e w1 ⟨rfl, hw1⟩
  subst w1
  go_wp2_with fail
  refine (T2.out _ (below_alloc1 _ _)).mono ?_
  rintro e w1 ⟨rfl, hw1⟩
  subst w1
  go_wp2_with fail
  refine (T3.out _ (below_alloc1 _ _)).mono ?_
  rintro e w1 ⟨rfl, hw1⟩
  subst w1
  generalize w.alloc (.cells #[.bool false, .slice none 0 0, .slice none 0 0] 57) = w5 at *
  obtain ⟨q0, q1, q2, z0, z1, z2⟩ := R0.c3
  clear R0
  have hb' := below3 hbel (Nat.le_refl w.heap.size) (.bool false) (.slice none 0 0) (.slice none 0 0)
  by_cases hx : n ≤ 24
  · have g1 : decide ((24 : Int) < (n : Int)) = false := decide_eq_false (by omega)
    have g2 : decide ((24 : Int) < (m : Int)) = true := decide_eq_true (by have := HOK.out; omega)
    go_wp2
    exact bodyPost_ret (v := .agg #[.bool false, .slice none 0 0, .slice none 0 0]) (by simp [results, Tryz.results193, go_sem, q0, q1, q2]) rfl ⟨_, rfl, RatP.zero _ _, hb'⟩
  · have g1 : decide ((24 : Int) < (n : Int)) = true := decide_eq_true (by omega)
    clear hx
    go_wp2
    exact bodyPost_ret (v := .agg #[.bool false, .slice none 0 0, .slice none 0 0]) (by simp [results, Tryz.results193, go_sem, q0, q1, q2]) rfl ⟨_, rfl, RatP.zero _ _, hb'⟩

set_option maxRecDepth 100000 in
set_option maxHeartbeats 1600000 in
theorem sLow_cop_ok (s : Bool) (p q : Nat) (n m c d : Nat) (hn : (FE.toL p).length = n) (hm : (FE.toL q).length = m) (hn1 : n ≤ 50000) (hm1 : m ≤ 50000) (hnc : n ≤ c) (hmd : m ≤ d) (A B : Option Addr) (w : World) (ha : RI w A (FE.toL p)) (hb : RI w B (FE.toL q)) (h0 : q ≠ 0) (h1 : q ≠ 1) (hg : Nat.gcd p q = 1) (hok : (FE.toL p).length ≤ 24 ∧ (FE.toL q).length ≤ 24) :
    Calls Tryz.prog 193 #[.bool s, .slice A n c, .slice B m d] w fun e w' => ∃ v', e = .returned v' ∧ RatP w' w.heap.size v' (FE.low s p q) ∧ Below w.heap.size w w' := by
  have hR := low_few (s := s) (p := p) (q := q) h0 (by rw [hg, Nat.div_one]; exact hok.1) (by rw [hg, Nat.div_one]; exact hok.2)
  rw [hg, Nat.div_one, Nat.div_one] at hR
  rw [hR]
  have T1 := Lib.hid (fun W (hW : Below w.heap.size w W) => sTrim_toL p n c hn (by omega) hnc A W (ha.later hW))
  have T2 := Lib.hid (fun W (hW : Below w.heap.size w W) => sTrim_toL q m d hm (by omega) hmd B W (hb.later hW))
  have e1 : ((m : Int) == 0) = false := by rw [← hm]; simp; exact fun h => h0 (FE.toL_eq_nil.1 h)
  have T3 := Lib.hid (fun W (hW : Below w.heap.size w W) => sOne_toL q false (by simp; exact h1) m d hm (by omega) B W (hb.later hW))
  have T4 := Lib.hid (fun W (hW : Below w.heap.size w W) => sGcd p q n m c d hn hm hn1 hm1 A B W (ha.later hW) (hb.later hW))
  have T5 := Lib.hid (fun n c hn hn1 A W ha => sOne_toL (Nat.gcd p q) true (by simp; exact hg) n c hn hn1 A W ha)
  have hg5 : (FE.toL (Nat.gcd p q)).length ≤ 50000 := gcd_len p q 50000 (by omega) (by omega)
  have l1 : (FE.toL p).length ≤ 24 := hok.1
  have l2 : (FE.toL q).length ≤ 24 := hok.2
  have M1 := Lib.hid (fun (n c : Nat) (hn : (FE.toL p).length = n) (hc : n ≤ c) (A : Option Addr) W (ha : RI W A (FE.toL p)) => sMake s p n c hn (by omega) hc A W ha)
  have HRA := Lib.hid (fun W (hW : Below w.heap.size w W) => ha.later hW)
  have HRB := Lib.hid (fun W (hW : Below w.heap.size w W) => hb.later hW)
  have R0 := Slots.new (Below.refl _ (w.alloc (.cells #[.bool false, .slice none 0 0, .slice none 0 0] 57))) (g := w.heap.size) rfl
  have hbel := below_alloc1 w (.cells #[.bool false, .slice none 0 0, .slice none 0 0] 57)
  rw [hn] at l1
  rw [hm] at l2
  have HN := Lib.hid hn
  have HM := Lib.hid hm
  generalize (s && decide (p ≠ 0)) = st at *
  generalize FE.toL p = xs at *
  generalize FE.toL q = ys at *
  generalize FE.toL (Nat.gcd p q) = gs at *
  clear ha hb hn hm h0 h1 hg hR hok
  go_enter Tryz.func193, Tryz.ntmps193
  go_wp2_with fail
  refine (T1.out _ (below_alloc1 _ _)).mono ?_
  rintro e w1 ⟨rfl, hw1⟩
  subst w1
  go_wp2_with fail
  refine (T2.out _ (below_alloc1 _ _)).mono ?_
  rintro e w1 ⟨rfl, hw1⟩
  subst w1
  go_wp2_with fail
  refine (T3.out _ (below_alloc1 _ _)).mono ?_
  rintro e w1 ⟨rfl, hw1⟩
  subst w1
  go_wp2_with fail
  refine (T4.out _ hbel).mono ?_
  rintro e w5 ⟨v2, rfl, ⟨Ag, cg, rfl, _, _, rg⟩, hb2⟩
  replace R0 := R0.later hb2
  replace hbel := below_trans hbel hb2
  clear hb2
  go_wp2_with fail
  refine (T5.out _ _ rfl (by omega) _ _ rg).mono ?_
  rintro e w1 ⟨rfl, hw1⟩
  subst w1
  have g1 : decide ((24 : Int) < (n : Int)) = false := decide_eq_false (by omega)
  have g2 : decide ((24 : Int) < (m : Int)) = false := decide_eq_false (by omega)
  go_wp2_with fail
  refine (M1.out _ _ HN.out hnc _ _ (HRA.out _ hbel)).mono ?_
  rintro e w6 ⟨v6, rfl, ⟨va, rfl, hro3⟩, hb6⟩
  have hsz := R0.1
  replace R0 := R0.later hb6
  have ry6 := (HRB.out _ hbel).later hb6
  replace hbel := below_trans hbel hb6
  obtain ⟨A3, c3, rfl, _⟩ := id hro3
  go_wp2_with (at_builtin; refine appFresh rfl _ _ _ rfl Tryz.underlying40 Tryz.intInfo _ rfl B ys m _ rfl HM.out (ry6.alloc _) (by omega) ?_; intro v4 w4 hro4 hb4; replace hb4 := box_below hb4; obtain ⟨A4, c4, rfl, _⟩ := id hro4; replace R0 := R0.later hb4; replace hbel := below_trans hbel hb4; obtain ⟨b0, b1, b2, z0, z1, z2⟩ := R0.c3)
  have hap := apart_of hro3 hro4 (by simp)
  have k3 := (hro3.later hb4).mono (base' := w.heap.size + 1) (by omega)
  have hsz6 := hb6.size
  have k4 := hro4.mono (base' := w.heap.size + 1) (by simp; omega)
  have hb := below3 hbel (Nat.le_refl w.heap.size) (.bool st) (.slice A3 xs.length c3) (.slice A4 ys.length c4)
  have f6 := (show RatP w4 (w.heap.size + 1) (.agg #[.bool st, .slice A3 xs.length c3, .slice A4 ys.length c4]) ⟨st, xs, ys⟩ from ⟨_, _, rfl, k3, k4, hap⟩).far3 (g := w.heap.size) (Nat.lt_succ_self _) (.bool st) (.slice A3 xs.length c3) (.slice A4 ys.length c4)
  exact bodyPost_ret (v := .agg #[.bool st, .slice A3 xs.length c3, .slice A4 ys.length c4]) (by simp [results, Tryz.results193, go_sem, b0, b1, b2]) rfl ⟨_, rfl, f6.mono (Nat.le_succ _), hb⟩

set_option maxRecDepth 100000 in
set_option maxHeartbeats 1600000 in
theorem sLow_cop_big (s : Bool) (p q : Nat) (n m c d : Nat) (hn : (FE.toL p).length = n) (hm : (FE.toL q).length = m) (hn1 : n ≤ 50000) (hm1 : m ≤ 50000) (hnc : n ≤ c) (hmd : m ≤ d) (A B : Option Addr) (w : World) (ha : RI w A (FE.toL p)) (hb : RI w B (FE.toL q)) (h0 : q ≠ 0) (h1 : q ≠ 1) (hg : Nat.gcd p q = 1) (hok : ¬ ((FE.toL p).length ≤ 24 ∧ (FE.toL q).length ≤ 24)) :
    Calls Tryz.prog 193 #[.bool s, .slice A n c, .slice B m d] w fun e w' => ∃ v', e = .returned v' ∧ RatP w' w.heap.size v' (FE.low s p q) ∧ Below w.heap.size w w' := by
  have hR := low_big (s := s) (p := p) (q := q) (by rw [hg, Nat.div_one, Nat.div_one]; exact hok)
  rw [hR]
  have T1 := Lib.hid (fun W (hW : Below w.heap.size w W) => sTrim_toL p n c hn (by omega) hnc A W (ha.later hW))
  have T2 := Lib.hid (fun W (hW : Below w.heap.size w W) => sTrim_toL q m d hm (by omega) hmd B W (hb.later hW))
  have e1 : ((m : Int) == 0) = false := by rw [← hm]; simp; exact fun h => h0 (FE.toL_eq_nil.1 h)
  have T3 := Lib.hid (fun W (hW : Below w.heap.size w W) => sOne_toL q false (by simp; exact h1) m d hm (by omega) B W (hb.later hW))
  have T4 := Lib.hid (fun W (hW : Below w.heap.size w W) => sGcd p q n m c d hn hm hn1 hm1 A B W (ha.later hW) (hb.later hW))
  have T5 := Lib.hid (fun n c hn hn1 A W ha => sOne_toL (Nat.gcd p q) true (by simp; exact hg) n c hn hn1 A W ha)
  have hg5 : (FE.toL (Nat.gcd p q)).length ≤ 50000 := gcd_len p q 50000 (by omega) (by omega)
  have HRA := Lib.hid (fun W (hW : Below w.heap.size w W) => ha.later hW)
  have HRB := Lib.hid (fun W (hW : Below w.heap.size w W) => hb.later hW)
  have R0 := Slots.new (Below.refl _ (w.alloc (.cells #[.bool false, .slice none 0 0, .slice none 0 0] 57))) (g := w.heap.size) rfl
  have hbel := below_alloc1 w (.cells #[.bool false, .slice none 0 0, .slice none 0 0] 57)
  rw [hn, hm] at hok
  have HOK := Lib.hid hok
  generalize FE.toL (Nat.gcd p q) = gs at *
  clear ha hb hn hm h0 h1 hg hR hok
  go_enter Tryz.func193, Tryz.ntmps193
  go_wp2_with fail
  refine (T1.out _ (below_alloc1 _ _)).mono ?_
  rintro e w1 ⟨rfl, hw1⟩
  subst w1
  go_wp2_with fail
  refine (T2.out _ (below_alloc1 _ _)).mono ?_
  rintro e w1 ⟨rfl, hw1⟩
  subst w1
  go_wp2_with fail
  refine (T3.out _ (below_alloc1 _ _)).mono ?_
  rintro e w1 ⟨rfl, hw1⟩
  subst w1
  go_wp2_with fail
  refine (T4.out _ hbel).mono ?_
  rintro e w5 ⟨v2, rfl, ⟨Ag, cg, rfl, _, _, rg⟩, hb2⟩
  replace R0 := R0.later hb2
  replace hbel := below_trans hbel hb2
  clear hb2
  go_wp2_with fail
  refine (T5.out _ _ rfl (by omega) _ _ rg).mono ?_
  rintro e w1 ⟨rfl, hw1⟩
  subst w1
  obtain ⟨q0, q1, q2, z0, z1, z2⟩ := R0.c3
  clear R0
  have hb' := below3 hbel (Nat.le_refl w.heap.size) (.bool false) (.slice none 0 0) (.slice none 0 0)
  by_cases hx : n ≤ 24
  · have g1 : decide ((24 : Int) < (n : Int)) = false := decide_eq_false (by omega)
    have g2 : decide ((24 : Int) < (m : Int)) = true := decide_eq_true (by have := HOK.out; omega)
    go_wp2
    exact bodyPost_ret (v := .agg #[.bool false, .slice none 0 0, .slice none 0 0]) (by simp [results, Tryz.results193, go_sem, q0, q1, q2]) rfl ⟨_, rfl, RatP.zero _ _, hb'⟩
  · have g1 : decide ((24 : Int) < (n : Int)) = true := decide_eq_true (by omega)
    clear hx
    go_wp2
    exact bodyPost_ret (v := .agg #[.bool false, .slice none 0 0, .slice none 0 0]) (by simp [results, Tryz.results193, go_sem, q0, q1, q2]) rfl ⟨_, rfl, RatP.zero _ _, hb'⟩

set_option maxRecDepth 100000 in
set_option maxHeartbeats 1600000 in
theorem sLow_red_ok (s : Bool) (p q : Nat) (n m c d : Nat) (hn : (FE.toL p).length = n) (hm : (FE.toL q).length = m) (hn1 : n ≤ 50000) (hm1 : m ≤ 50000) (hnc : n ≤ c) (hmd : m ≤ d) (A B : Option Addr) (w : World) (ha : RI w A (FE.toL p)) (hb : RI w B (FE.toL q)) (h0 : q ≠ 0) (hg : Nat.gcd p q ≠ 1) (hok : (FE.toL (p / Nat.gcd p q)).length ≤ 24 ∧ (FE.toL (q / Nat.gcd p q)).length ≤ 24) :
    Calls Tryz.prog 193 #[.bool s, .slice A n c, .slice B m d] w fun e w' => ∃ v', e = .returned v' ∧ RatP w' w.heap.size v' (FE.low s p q) ∧ Below w.heap.size w w' := by
  have h1 : q ≠ 1 := by rintro rfl; exact hg (Nat.gcd_one_right p)
  have hR := low_few (s := s) (p := p) (q := q) h0 hok.1 hok.2
  have hgp : Nat.gcd p q ≠ 0 := by intro h; exact h0 (Nat.gcd_eq_zero_iff.1 h).2
  have hgl := gcd_len p q 50000 (by omega) (by omega)
  rw [hR]
  have T1 := Lib.hid (fun W (hW : Below w.heap.size w W) => sTrim_toL p n c hn (by omega) hnc A W (ha.later hW))
  have T2 := Lib.hid (fun W (hW : Below w.heap.size w W) => sTrim_toL q m d hm (by omega) hmd B W (hb.later hW))
  have e1 : ((m : Int) == 0) = false := by rw [← hm]; simp; exact fun h => h0 (FE.toL_eq_nil.1 h)
  have T3 := Lib.hid (fun W (hW : Below w.heap.size w W) => sOne_toL q false (by simp; exact h1) m d hm (by omega) B W (hb.later hW))
  have T4 := Lib.hid (fun W (hW : Below w.heap.size w W) => sGcd p q n m c d hn hm hn1 hm1 A B W (ha.later hW) (hb.later hW))
  have T5 := Lib.hid (fun n c hn hn1 A W ha => sOne_toL (Nat.gcd p q) false (by simp; exact hg) n c hn hn1 A W ha)
  have hg5 : (FE.toL (Nat.gcd p q)).length ≤ 50000 := gcd_len p q 50000 (by omega) (by omega)
  have T6 := Lib.hid (fun (k : Nat) (e : Nat) (hk : (FE.toL (Nat.gcd p q)).length = k) C W (hW : Below w.heap.size w W) (hc : RI W C (FE.toL (Nat.gcd p q))) => sDiv_nat p (Nat.gcd p q) n k c e hn hk hn1 (by omega) hgp A C W (ha.later hW) hc)
  have T7 := Lib.hid (fun (k : Nat) (e : Nat) (hk : (FE.toL (Nat.gcd p q)).length = k) C W (hW : Below w.heap.size w W) (hc : RI W C (FE.toL (Nat.gcd p q))) => sDiv_nat q (Nat.gcd p q) m k d e hm hk hm1 (by omega) hgp B C W (hb.later hW) hc)
  have l1 := hok.1
  have l2 := hok.2
  have M1 := Lib.hid (fun (n c : Nat) (hn : (FE.toL (p / Nat.gcd p q)).length = n) (hc : n ≤ c) (A : Option Addr) W (ha : RI W A (FE.toL (p / Nat.gcd p q))) => sMake s (p / Nat.gcd p q) n c hn (by omega) hc A W ha)
  have HRA := Lib.hid (fun W (hW : Below w.heap.size w W) => ha.later hW)
  have HRB := Lib.hid (fun W (hW : Below w.heap.size w W) => hb.later hW)
  have R0 := Slots.new (Below.refl _ (w.alloc (.cells #[.bool false, .slice none 0 0, .slice none 0 0] 57))) (g := w.heap.size) rfl
  have hbel := below_alloc1 w (.cells #[.bool false, .slice none 0 0, .slice none 0 0] 57)
  generalize (s && decide ((p / Nat.gcd p q) ≠ 0)) = st at *
  generalize FE.toL (p / Nat.gcd p q) = xs at *
  generalize FE.toL (q / Nat.gcd p q) = ys at *
  generalize FE.toL (p % Nat.gcd p q) = zs at *
  generalize FE.toL (q % Nat.gcd p q) = zs' at *
  generalize FE.toL (Nat.gcd p q) = gs at *
  clear ha hb hn hm h0 h1 hg hR hok hgp hgl
  go_enter Tryz.func193, Tryz.ntmps193
  go_wp2_with fail
  refine (T1.out _ (below_alloc1 _ _)).mono ?_
  rintro e w1 ⟨rfl, hw1⟩
  subst w1
  go_wp2_with fail
  refine (T2.out _ (below_alloc1 _ _)).mono ?_
  rintro e w1 ⟨rfl, hw1⟩
  subst w1
  go_wp2_with fail
  refine (T3.out _ (below_alloc1 _ _)).mono ?_
  rintro e w1 ⟨rfl, hw1⟩
  subst w1
  go_wp2_with fail
  refine (T4.out _ hbel).mono ?_
  rintro e w2 ⟨v2, rfl, ⟨Ag, cg, rfl, _, _, rg⟩, hb2⟩
  replace R0 := R0.later hb2
  replace hbel := below_trans hbel hb2
  clear hb2
  go_wp2_with fail
  refine (T5.out _ _ rfl (by omega) _ _ rg).mono ?_
  rintro e w1 ⟨rfl, hw1⟩
  subst w1
  go_wp2_with fail
  refine (T6.out _ _ rfl _ _ hbel rg).mono ?_
  rintro e w3 ⟨v3, v4, rfl, hx3, _, hb3⟩
  replace R0 := R0.later hb3
  replace hbel := below_trans hbel hb3
  replace rg := rg.later hb3
  clear hb3
  obtain ⟨Ax, cx, rfl, hcx, _⟩ := id hx3
  go_wp2_with fail
  refine (T7.out _ _ rfl _ _ hbel rg).mono ?_
  rintro e w5 ⟨v5, v6, rfl, hy5, _, hb5⟩
  replace R0 := R0.later hb5
  replace hbel := below_trans hbel hb5
  have rx := (hx3.later hb5).reads
  clear hb5 hx3 rg
  obtain ⟨Bx, dx, rfl, _, _⟩ := id hy5
  have ry := hy5.reads
  clear hy5
  have g1 : decide ((24 : Int) < (xs.length : Int)) = false := decide_eq_false (by omega)
  have g2 : decide ((24 : Int) < (ys.length : Int)) = false := decide_eq_false (by omega)
  go_wp2_with fail
  refine (M1.out _ _ rfl hcx _ _ (rx)).mono ?_
  rintro e w6 ⟨v6, rfl, ⟨va, rfl, hro3⟩, hb6⟩
  have hsz := R0.1
  replace R0 := R0.later hb6
  have ry6 := (ry).later hb6
  replace hbel := below_trans hbel hb6
  obtain ⟨A3, c3, rfl, _⟩ := id hro3
  go_wp2_with (at_builtin; refine appFresh rfl _ _ _ rfl Tryz.underlying40 Tryz.intInfo _ rfl Bx ys ys.length _ rfl rfl (ry6.alloc _) (by omega) ?_; intro v4 w4 hro4 hb4; replace hb4 := box_below hb4; obtain ⟨A4, c4, rfl, _⟩ := id hro4; replace R0 := R0.later hb4; replace hbel := below_trans hbel hb4; obtain ⟨b0, b1, b2, z0, z1, z2⟩ := R0.c3)
  have hap := apart_of hro3 hro4 (by simp)
  have k3 := (hro3.later hb4).mono (base' := w.heap.size + 1) (by omega)
  have hsz6 := hb6.size
  have k4 := hro4.mono (base' := w.heap.size + 1) (by simp; omega)
  have hb := below3 hbel (Nat.le_refl w.heap.size) (.bool st) (.slice A3 xs.length c3) (.slice A4 ys.length c4)
  have f6 := (show RatP w4 (w.heap.size + 1) (.agg #[.bool st, .slice A3 xs.length c3, .slice A4 ys.length c4]) ⟨st, xs, ys⟩ from ⟨_, _, rfl, k3, k4, hap⟩).far3 (g := w.heap.size) (Nat.lt_succ_self _) (.bool st) (.slice A3 xs.length c3) (.slice A4 ys.length c4)
  exact bodyPost_ret (v := .agg #[.bool st, .slice A3 xs.length c3, .slice A4 ys.length c4]) (by simp [results, Tryz.results193, go_sem, b0, b1, b2]) rfl ⟨_, rfl, f6.mono (Nat.le_succ _), hb⟩

set_option maxRecDepth 100000 in
set_option maxHeartbeats 1600000 in
theorem sLow_red_big (s : Bool) (p q : Nat) (n m c d : Nat) (hn : (FE.toL p).length = n) (hm : (FE.toL q).length = m) (hn1 : n ≤ 50000) (hm1 : m ≤ 50000) (hnc : n ≤ c) (hmd : m ≤ d) (A B : Option Addr) (w : World) (ha : RI w A (FE.toL p)) (hb : RI w B (FE.toL q)) (h0 : q ≠ 0) (hg : Nat.gcd p q ≠ 1) (hok : ¬ ((FE.toL (p / Nat.gcd p q)).length ≤ 24 ∧ (FE.toL (q / Nat.gcd p q)).length ≤ 24)) :
    Calls Tryz.prog 193 #[.bool s, .slice A n c, .slice B m d] w fun e w' => ∃ v', e = .returned v' ∧ RatP w' w.heap.size v' (FE.low s p q) ∧ Below w.heap.size w w' := by
  have h1 : q ≠ 1 := by rintro rfl; exact hg (Nat.gcd_one_right p)
  have hR := low_big (s := s) (p := p) (q := q) hok
  have hgp : Nat.gcd p q ≠ 0 := by intro h; exact h0 (Nat.gcd_eq_zero_iff.1 h).2
  have hgl := gcd_len p q 50000 (by omega) (by omega)
  rw [hR]
  have T1 := Lib.hid (fun W (hW : Below w.heap.size w W) => sTrim_toL p n c hn (by omega) hnc A W (ha.later hW))
  have T2 := Lib.hid (fun W (hW : Below w.heap.size w W) => sTrim_toL q m d hm (by omega) hmd B W (hb.later hW))
  have e1 : ((m : Int) == 0) = false := by rw [← hm]; simp; exact fun h => h0 (FE.toL_eq_nil.1 h)
  have T3 := Lib.hid (fun W (hW : Below w.heap.size w W) => sOne_toL q false (by simp; exact h1) m d hm (by omega) B W (hb.later hW))
  have T4 := Lib.hid (fun W (hW : Below w.heap.size w W) => sGcd p q n m c d hn hm hn1 hm1 A B W (ha.later hW) (hb.later hW))
  have T5 := Lib.hid (fun n c hn hn1 A W ha => sOne_toL (Nat.gcd p q) false (by simp; exact hg) n c hn hn1 A W ha)
  have hg5 : (FE.toL (Nat.gcd p q)).length ≤ 50000 := gcd_len p q 50000 (by omega) (by omega)
  have T6 := Lib.hid (fun (k : Nat) (e : Nat) (hk : (FE.toL (Nat.gcd p q)).length = k) C W (hW : Below w.heap.size w W) (hc : RI W C (FE.toL (Nat.gcd p q))) => sDiv_nat p (Nat.gcd p q) n k c e hn hk hn1 (by omega) hgp A C W (ha.later hW) hc)
  have T7 := Lib.hid (fun (k : Nat) (e : Nat) (hk : (FE.toL (Nat.gcd p q)).length = k) C W (hW : Below w.heap.size w W) (hc : RI W C (FE.toL (Nat.gcd p q))) => sDiv_nat q (Nat.gcd p q) m k d e hm hk hm1 (by omega) hgp B C W (hb.later hW) hc)
  have HRA := Lib.hid (fun W (hW : Below w.heap.size w W) => ha.later hW)
  have HRB := Lib.hid (fun W (hW : Below w.heap.size w W) => hb.later hW)
  have R0 := Slots.new (Below.refl _ (w.alloc (.cells #[.bool false, .slice none 0 0, .slice none 0 0] 57))) (g := w.heap.size) rfl
  have hbel := below_alloc1 w (.cells #[.bool false, .slice none 0 0, .slice none 0 0] 57)
  have HOK := Lib.hid hok
  generalize FE.toL (p / Nat.gcd p q) = xs at *
  generalize FE.toL (q / Nat.gcd p q) = ys at *
  generalize FE.toL (p % Nat.gcd p q) = zs at *
  generalize FE.toL (q % Nat.gcd p q) = zs' at *
  generalize FE.toL (Nat.gcd p q) = gs at *
  clear ha hb hn hm h0 h1 hg hR hok hgp hgl
  go_enter Tryz.func193, Tryz.ntmps193
  go_wp2_with fail
  refine (T1.out _ (below_alloc1 _ _)).mono ?_
  rintro e w1 ⟨rfl, hw1⟩
  subst w1
  go_wp2_with fail
  refine (T2.out _ (below_alloc1 _ _)).mono ?_
  rintro e w1 ⟨rfl, hw1⟩
  subst w1
  go_wp2_with fail
  refine (T3.out _ (below_alloc1 _ _)).mono ?_
  rintro e w1 ⟨rfl, hw1⟩
  subst w1
  go_wp2_with fail
  refine (T4.out _ hbel).mono ?_
  rintro e w2 ⟨v2, rfl, ⟨Ag, cg, rfl, _, _, rg⟩, hb2⟩
  replace R0 := R0.later hb2
  replace hbel := below_trans hbel hb2
  clear hb2
  go_wp2_with fail
  refine (T5.out _ _ rfl (by omega) _ _ rg).mono ?_
  rintro e w1 ⟨rfl, hw1⟩
  subst w1
  go_wp2_with fail
  refine (T6.out _ _ rfl _ _ hbel rg).mono ?_
  rintro e w3 ⟨v3, v4, rfl, hx3, _, hb3⟩
  replace R0 := R0.later hb3
  replace hbel := below_trans hbel hb3
  replace rg := rg.later hb3
  clear hb3
  obtain ⟨Ax, cx, rfl, hcx, _⟩ := id hx3
  go_wp2_with fail
  refine (T7.out _ _ rfl _ _ hbel rg).mono ?_
  rintro e w5 ⟨v5, v6, rfl, hy5, _, hb5⟩
  replace R0 := R0.later hb5
  replace hbel := below_trans hbel hb5
  have rx := (hx3.later hb5).reads
  clear hb5 hx3 rg
  obtain ⟨Bx, dx, rfl, _, _⟩ := id hy5
  have ry := hy5.reads
  clear hy5
  obtain ⟨q0, q1, q2, z0, z1, z2⟩ := R0.c3
  clear R0
  have hb' := below3 hbel (Nat.le_refl w.heap.size) (.bool false) (.slice none 0 0) (.slice none 0 0)
  by_cases hx : xs.length ≤ 24
  · have g1 : decide ((24 : Int) < (xs.length : Int)) = false := decide_eq_false (by omega)
    have g2 : decide ((24 : Int) < (ys.length : Int)) = true := decide_eq_true (by have := HOK.out; omega)
    go_wp2
    exact bodyPost_ret (v := .agg #[.bool false, .slice none 0 0, .slice none 0 0]) (by simp [results, Tryz.results193, go_sem, q0, q1, q2]) rfl ⟨_, rfl, RatP.zero _ _, hb'⟩
  · have g1 : decide ((24 : Int) < (xs.length : Int)) = true := decide_eq_true (by omega)
    clear hx
    go_wp2
    exact bodyPost_ret (v := .agg #[.bool false, .slice none 0 0, .slice none 0 0]) (by simp [results, Tryz.results193, go_sem, q0, q1, q2]) rfl ⟨_, rfl, RatP.zero _ _, hb'⟩

theorem sLow (s : Bool) (p q : Nat) (n m c d : Nat) (hn : (FE.toL p).length = n) (hm : (FE.toL q).length = m) (hn1 : n ≤ 50000) (hm1 : m ≤ 50000) (hnc : n ≤ c) (hmd : m ≤ d) (A B : Option Addr) (w : World) (ha : RI w A (FE.toL p)) (hb : RI w B (FE.toL q)) :
    Calls Tryz.prog 193 #[.bool s, .slice A n c, .slice B m d] w fun e w' => ∃ v', e = .returned v' ∧ RatP w' w.heap.size v' (FE.low s p q) ∧ Below w.heap.size w w' := by
  by_cases h0 : q = 0
  · exact sLow_zero s p q n m c d hn hm hn1 hm1 hnc hmd A B w ha hb h0
  by_cases hg : Nat.gcd p q = 1
  · by_cases hok : (FE.toL p).length ≤ 24 ∧ (FE.toL q).length ≤ 24
    · by_cases h1 : q = 1
      · exact sLow_one_ok s p q n m c d hn hm hn1 hm1 hnc hmd A B w ha hb h1 hok
      · exact sLow_cop_ok s p q n m c d hn hm hn1 hm1 hnc hmd A B w ha hb h0 h1 hg hok
    · by_cases h1 : q = 1
      · exact sLow_one_big s p q n m c d hn hm hn1 hm1 hnc hmd A B w ha hb h1 hok
      · exact sLow_cop_big s p q n m c d hn hm hn1 hm1 hnc hmd A B w ha hb h0 h1 hg hok
  · by_cases hok : (FE.toL (p / Nat.gcd p q)).length ≤ 24 ∧ (FE.toL (q / Nat.gcd p q)).length ≤ 24
    · exact sLow_red_ok s p q n m c d hn hm hn1 hm1 hnc hmd A B w ha hb h0 hg hok
    · exact sLow_red_big s p q n m c d hn hm hn1 hm1 hnc hmd A B w ha hb h0 hg hok
end Go.Proofs.YtlpomcihkjiokaaGreat

namespace Go.Proofs.YtlpomcihkjiokaaGreat
open Go.RowKit Go.Joins

set_option maxRecDepth 100000 in
set_option maxHeartbeats 1600000 in
theorem sMul4 (x y : RatD) (p q p' q' : Nat) (hx : FE.OkR x p q) (hy : FE.OkR y p' q') (u v : Value) (w : World) (hu : RatV w u x) (hv : RatV w v y) :
    Calls Tryz.prog 156 #[u, v] w fun e w' => ∃ v', e = .returned v' ∧ RatP w' w.heap.size v' (FE.low (x.neg != y.neg) (p * p') (q * q')) ∧ Below w.heap.size w w' := by
  obtain ⟨A, c, B, d, rfl, hcd, ra, rb⟩ := hu
  obtain ⟨A', c', B', d', rfl, hcd', ra', rb'⟩ := hv
  have mx := hx.mag
  have my := hy.mag
  have dx := hx.den
  have dy := hy.den
  rw [mx] at ra
  rw [dx] at rb
  rw [my] at ra'
  rw [dy] at rb'
  have lp := hx.pl
  have lq := hx.ql
  have lp' := hy.pl
  have lq' := hy.ql
  have k1 := mul_len24 lp lp'
  have k3 := mul_len24 lq lq'
  have K1 := Lib.hid (fun W (hW : Below w.heap.size w W) => sMul_nat p p' _ _ c c' rfl rfl (by omega) (by omega) A A' W (ra.later hW) (ra'.later hW))
  have K2 := Lib.hid (fun W (hW : Below w.heap.size w W) => sMul_nat q q' _ _ d d' rfl rfl (by omega) (by omega) B B' W (rb.later hW) (rb'.later hW))
  have K3 := Lib.hid (fun W (n c : Nat) (hn : (FE.toL (p * p')).length = n) (hc : n ≤ c) (A : Option Addr) (m d : Nat) (hm : (FE.toL (q * q')).length = m) (hd : m ≤ d) (B : Option Addr) ha hb => sLow (!(x.neg == y.neg)) (p * p') (q * q') n m c d hn hm (by omega) (by omega) hc hd A B W ha hb)
  rw [show (x.neg != y.neg) = (!(x.neg == y.neg)) from rfl]
  rw [mx, dx, my, dy]
  clear hx hy mx my dx dy hcd hcd' ra rb ra' rb' lp lq lp' lq' k1 k3
  generalize FE.low (!(x.neg == y.neg)) (p * p') (q * q') = R at *
  generalize FE.toL (p * p') = xs at *
  generalize FE.toL (q * q') = ys at *
  generalize (FE.toL p).length = n at *
  generalize (FE.toL q).length = m at *
  generalize (FE.toL p').length = n' at *
  generalize (FE.toL q').length = m' at *
  generalize x.neg = s at *
  generalize y.neg = t at *
  have R0 := Slots.new (Below.refl _ (((w.alloc (.cells #[.bool s, .slice A n c, .slice B m d] 57)).alloc (.cells #[.bool t, .slice A' n' c', .slice B' m' d'] 57)).alloc (.cells #[.bool false, .slice none 0 0, .slice none 0 0] 57))) (g := w.heap.size + 1 + 1) (by simp)
  have S1 := Slots.new (below_step (Below.refl _ (((w.alloc (.cells #[.bool s, .slice A n c, .slice B m d] 57)).alloc (.cells #[.bool t, .slice A' n' c', .slice B' m' d'] 57)).alloc (.cells #[.bool false, .slice none 0 0, .slice none 0 0] 57)))) (g := w.heap.size + 1) (by simp)
  have S0 := Slots.new (below_step (below_step (Below.refl _ (((w.alloc (.cells #[.bool s, .slice A n c, .slice B m d] 57)).alloc (.cells #[.bool t, .slice A' n' c', .slice B' m' d'] 57)).alloc (.cells #[.bool false, .slice none 0 0, .slice none 0 0] 57))))) (g := w.heap.size) rfl
  have hb1 := below_alloc3 w (.cells #[.bool s, .slice A n c, .slice B m d] 57) (.cells #[.bool t, .slice A' n' c', .slice B' m' d'] 57) (.cells #[.bool false, .slice none 0 0, .slice none 0 0] 57)
  obtain ⟨a0, a1, a2, _, _, _⟩ := S0.c3
  obtain ⟨b0, b1, b2, _, _, _⟩ := S1.c3
  have hlt := R0.1
  have hF : ∀ p ∈ ([(w.heap.size, 0, .bool s), (w.heap.size, 1, .slice A n c), (w.heap.size, 2, .slice B m d), (w.heap.size + 1, 0, .bool t), (w.heap.size + 1, 1, .slice A' n' c'), (w.heap.size + 1, 2, .slice B' m' d')] : List (Nat × Nat × Value)), p.1 < w.heap.size + 1 + 1 + 1 := by simp; omega
  have hG : ∀ p ∈ ([(w.heap.size, 0, .bool s), (w.heap.size, 1, .slice A n c), (w.heap.size, 2, .slice B m d), (w.heap.size + 1, 0, .bool t), (w.heap.size + 1, 1, .slice A' n' c'), (w.heap.size + 1, 2, .slice B' m' d')] : List (Nat × Nat × Value)), p.1 ≠ w.heap.size + 1 + 1 := by simp; omega
  have hT := (bears_any (w.heap.size + 1 + 1) 3)
  replace hF := Lib.hid hF
  replace hG := Lib.hid hG
  replace hT := Lib.hid hT
  go_enter Tryz.func156, Tryz.ntmps156
  go_wp2_with fail
  go_region_held3 (fun w' => (Below w.heap.size w w' ∧ w.heap.size + 1 + 1 + 1 ≤ w'.heap.size) ∧ w'.cell? ⟨w.heap.size, 0, none⟩ = some (.bool s) ∧ w'.cell? ⟨w.heap.size, 1, none⟩ = some (.slice A n c) ∧ w'.cell? ⟨w.heap.size, 2, none⟩ = some (.slice B m d) ∧ w'.cell? ⟨w.heap.size + 1, 0, none⟩ = some (.bool t) ∧ w'.cell? ⟨w.heap.size + 1, 1, none⟩ = some (.slice A' n' c') ∧ w'.cell? ⟨w.heap.size + 1, 2, none⟩ = some (.slice B' m' d') ∧ AnyK w' (w.heap.size + 1 + 1) 3)
    (first | exact gD (T := fun W => AnyK W (w.heap.size + 1 + 1) 3) [(w.heap.size, 0, .bool s), (w.heap.size, 1, .slice A n c), (w.heap.size, 2, .slice B m d), (w.heap.size + 1, 0, .bool t), (w.heap.size + 1, 1, .slice A' n' c'), (w.heap.size + 1, 2, .slice B' m' d')] (fun h => h) (show (Below w.heap.size w (((w.alloc (.cells #[.bool s, .slice A n c, .slice B m d] 57)).alloc (.cells #[.bool t, .slice A' n' c', .slice B' m' d'] 57)).alloc (.cells #[.bool false, .slice none 0 0, .slice none 0 0] 57)) ∧ w.heap.size + 1 + 1 + 1 ≤ (((w.alloc (.cells #[.bool s, .slice A n c, .slice B m d] 57)).alloc (.cells #[.bool t, .slice A' n' c', .slice B' m' d'] 57)).alloc (.cells #[.bool false, .slice none 0 0, .slice none 0 0] 57)).heap.size) ∧ (((w.alloc (.cells #[.bool s, .slice A n c, .slice B m d] 57)).alloc (.cells #[.bool t, .slice A' n' c', .slice B' m' d'] 57)).alloc (.cells #[.bool false, .slice none 0 0, .slice none 0 0] 57)).cell? ⟨w.heap.size, 0, none⟩ = some (.bool s) ∧ (((w.alloc (.cells #[.bool s, .slice A n c, .slice B m d] 57)).alloc (.cells #[.bool t, .slice A' n' c', .slice B' m' d'] 57)).alloc (.cells #[.bool false, .slice none 0 0, .slice none 0 0] 57)).cell? ⟨w.heap.size, 1, none⟩ = some (.slice A n c) ∧ (((w.alloc (.cells #[.bool s, .slice A n c, .slice B m d] 57)).alloc (.cells #[.bool t, .slice A' n' c', .slice B' m' d'] 57)).alloc (.cells #[.bool false, .slice none 0 0, .slice none 0 0] 57)).cell? ⟨w.heap.size, 2, none⟩ = some (.slice B m d) ∧ (((w.alloc (.cells #[.bool s, .slice A n c, .slice B m d] 57)).alloc (.cells #[.bool t, .slice A' n' c', .slice B' m' d'] 57)).alloc (.cells #[.bool false, .slice none 0 0, .slice none 0 0] 57)).cell? ⟨w.heap.size + 1, 0, none⟩ = some (.bool t) ∧ (((w.alloc (.cells #[.bool s, .slice A n c, .slice B m d] 57)).alloc (.cells #[.bool t, .slice A' n' c', .slice B' m' d'] 57)).alloc (.cells #[.bool false, .slice none 0 0, .slice none 0 0] 57)).cell? ⟨w.heap.size + 1, 1, none⟩ = some (.slice A' n' c') ∧ (((w.alloc (.cells #[.bool s, .slice A n c, .slice B m d] 57)).alloc (.cells #[.bool t, .slice A' n' c', .slice B' m' d'] 57)).alloc (.cells #[.bool false, .slice none 0 0, .slice none 0 0] 57)).cell? ⟨w.heap.size + 1, 2, none⟩ = some (.slice B' m' d') ∧ AnyK (((w.alloc (.cells #[.bool s, .slice A n c, .slice B m d] 57)).alloc (.cells #[.bool t, .slice A' n' c', .slice B' m' d'] 57)).alloc (.cells #[.bool false, .slice none 0 0, .slice none 0 0] 57)) (w.heap.size + 1 + 1) 3 from ⟨⟨hb1, hlt⟩, a0, a1, a2, b0, b1, b2, AnyK.of R0⟩) | exact gC [(w.heap.size, 0, .bool s), (w.heap.size, 1, .slice A n c), (w.heap.size, 2, .slice B m d), (w.heap.size + 1, 0, .bool t), (w.heap.size + 1, 1, .slice A' n' c'), (w.heap.size + 1, 2, .slice B' m' d')] hF.out hT.out (by assumption) (by assumption) | exact gC [(w.heap.size, 0, .bool s), (w.heap.size, 1, .slice A n c), (w.heap.size, 2, .slice B m d), (w.heap.size + 1, 0, .bool t), (w.heap.size + 1, 1, .slice A' n' c'), (w.heap.size + 1, 2, .slice B' m' d')] hF.out hT.out (by assumption) (below_alloc1 _ _) | exact gS3 (T := fun W => AnyK W (w.heap.size + 1 + 1) 3) (h := w.heap.size + 1 + 1) [(w.heap.size, 0, .bool s), (w.heap.size, 1, .slice A n c), (w.heap.size, 2, .slice B m d), (w.heap.size + 1, 0, .bool t), (w.heap.size + 1, 1, .slice A' n' c'), (w.heap.size + 1, 2, .slice B' m' d')] (by omega) hG.out (fun h => any_set3 h) (by assumption))
    (first
      | (go_at_call 194; (with_reducible refine (K1.out _ (And.left (And.left (by assumption)))).mono ?_); rintro e3 w3 ⟨v3, rfl, hro3, hb3⟩; have hSW3 := (‹(Below w.heap.size w _ ∧ _ ≤ _) ∧ _ ∧ _ ∧ _ ∧ _ ∧ _ ∧ _ ∧ AnyK _ (w.heap.size + 1 + 1) 3›); have hB3 := hSW3.1.1.trans (below_le hb3 hSW3.1.1.size); have hM3 := Nat.le_trans hSW3.1.2 hb3.size; have hA3 := hSW3.2.2.2.2.2.2.2.later hb3; have hlt3 := hSW3.2.2.2.2.2.2.2.lt; have hlm3 := hSW3.1.2; obtain ⟨A3, c3, rfl, hl3, _⟩ := id hro3)
      | (go_at_call 194; (with_reducible refine (K2.out _ (And.left (And.left (by assumption)))).mono ?_); rintro e4 w4 ⟨v4, rfl, hro4, hb4⟩; have hSW4 := (‹(Below w.heap.size w _ ∧ _ ≤ _) ∧ _ ∧ _ ∧ _ ∧ _ ∧ _ ∧ _ ∧ AnyK _ (w.heap.size + 1 + 1) 3›); have hB4 := hSW4.1.1.trans (below_le hb4 hSW4.1.1.size); have hM4 := Nat.le_trans hSW4.1.2 hb4.size; have hA4 := hSW4.2.2.2.2.2.2.2.later hb4; have hlt4 := hSW4.2.2.2.2.2.2.2.lt; have hlm4 := hSW4.1.2; have hr3 := hro3.later hb4; obtain ⟨A4, c4, rfl, hl4, _⟩ := id hro4)
      | (go_at_call 193; (with_reducible refine (K3.out _ _ _ rfl hl3 _ _ _ rfl hl4 _ hr3.reads hro4.reads).mono ?_); rintro e6 w6 ⟨v6, rfl, hrp, hb6⟩; have hSW6 := (‹(Below w.heap.size w _ ∧ _ ≤ _) ∧ _ ∧ _ ∧ _ ∧ _ ∧ _ ∧ _ ∧ AnyK _ (w.heap.size + 1 + 1) 3›); have hB6 := hSW6.1.1.trans (below_le hb6 hSW6.1.1.size); have hM6 := Nat.le_trans hSW6.1.2 hb6.size; have hA6 := hSW6.2.2.2.2.2.2.2.later hb6; have hlt6 := hSW6.2.2.2.2.2.2.2.lt; have hlm6 := hSW6.1.2; obtain ⟨A6, n6, c6, B6, m6, d6, rfl⟩ := hrp.shape; obtain ⟨_, _, _, q0, q1, q2, _z0, _z1, _z2⟩ := hA6.c3))
  have hp := hrp.mono (base' := w.heap.size + 1 + 1 + 1) (by omega)
  have hb := below3 hB6 (show w.heap.size ≤ w.heap.size + 1 + 1 by omega) (.bool R.neg) (.slice A6 n6 c6) (.slice B6 m6 d6)
  have f6 := hp.far3 (g := w.heap.size + 1 + 1) (Nat.lt_succ_self _) (.bool R.neg) (.slice A6 n6 c6) (.slice B6 m6 d6)
  go_wp2
  refine bodyPost_ret (v := .agg #[.bool R.neg, .slice A6 n6 c6, .slice B6 m6 d6]) (by simp [results, Tryz.results156, go_sem, q0, q1, q2]) rfl ⟨_, rfl, f6.mono (by omega), hb⟩

end Go.Proofs.YtlpomcihkjiokaaGreat

namespace Go.Proofs.YtlpomcihkjiokaaGreat
open Go.RowKit Go.Joins

set_option maxRecDepth 100000 in
set_option maxHeartbeats 4000000 in
theorem sAdd4_a (x y : RatD) (p q p' q' : Nat) (hx : FE.OkR x p q) (hy : FE.OkR y p' q') (u v : Value) (w : World) (hu : RatV w u x) (hv : RatV w v y) (h1 : q ≠ 1) :
    Calls Tryz.prog 155 #[u, v] w fun e w' => ∃ v', e = .returned v' ∧ RatP w' w.heap.size v' (FE.lowI (sgnI x.neg p * q' + sgnI y.neg p' * q) (q * q')) ∧ Below w.heap.size w w' := by
  obtain ⟨A, c, B, d, rfl, hcd, ra, rb⟩ := hu
  obtain ⟨A', c', B', d', rfl, hcd', ra', rb'⟩ := hv
  have mx := hx.mag
  have my := hy.mag
  have dx := hx.den
  have dy := hy.den
  rw [mx] at ra
  rw [dx] at rb
  rw [my] at ra'
  rw [dy] at rb'
  have lp := hx.pl
  have lq := hx.ql
  have lp' := hy.pl
  have lq' := hy.ql
  have k1 := mul_len24 lp lq'
  have k2 := mul_len24 lp' lq
  have k3 := mul_len24 lq lq'
  have O1 := Lib.hid (fun W (hW : Below w.heap.size w W) => sOne_toL q false (by simp; exact h1) _ d rfl (by omega) B W (rb.later hW))
  have K1 := Lib.hid (fun W (hW : Below w.heap.size w W) => sMul_nat p q' _ _ c d' rfl rfl (by omega) (by omega) A B' W (ra.later hW) (rb'.later hW))
  have K2 := Lib.hid (fun (c : Nat) (hc : (FE.toL (p * q')).length ≤ c) (A : Option Addr) W (ha : RI W A (FE.toL (p * q'))) => sMake x.neg (p * q') _ c rfl (by omega) hc A W ha)
  have K3 := Lib.hid (fun W (hW : Below w.heap.size w W) => sMul_nat p' q _ _ c' d rfl rfl (by omega) (by omega) A' B W (ra'.later hW) (rb.later hW))
  have K4 := Lib.hid (fun (c : Nat) (hc : (FE.toL (p' * q)).length ≤ c) (A : Option Addr) W (ha : RI W A (FE.toL (p' * q))) => sMake y.neg (p' * q) _ c rfl (by omega) hc A W ha)
  have j1 : sgnI x.neg (p * q') = sgnI x.neg p * q' := by cases x.neg <;> simp [sgnI, Int.natCast_mul, Int.neg_mul]
  have j2 : sgnI y.neg (p' * q) = sgnI y.neg p' * q := by cases y.neg <;> simp [sgnI, Int.natCast_mul, Int.neg_mul]
  obtain ⟨i1, i2⟩ := addS_int (x.neg && decide (p * q' ≠ 0)) (y.neg && decide (p' * q ≠ 0)) (p * q') (p' * q)
  have k4 := sum_len k1 k2 (x.neg && decide (p * q' ≠ 0)) (y.neg && decide (p' * q ≠ 0))
  rw [sgnI_sg, sgnI_sg, j1, j2] at i1 i2 k4
  have K5 := fun W (u v : Value) hu hv => sBigAdd (x.neg && decide (p * q' ≠ 0)) (y.neg && decide (p' * q ≠ 0)) (p * q') (p' * q) u v W hu hv (by omega) (by omega) (by rw [i1]; omega)
  rw [i2, i1] at K5
  replace K5 := Lib.hid K5
  have K6 := Lib.hid (fun W (hW : Below w.heap.size w W) => sMul_nat q q' _ _ d d' rfl rfl (by omega) (by omega) B B' W (rb.later hW) (rb'.later hW))
  have K7 := Lib.hid (fun W (n c : Nat) (hn : (FE.toL (sgnI x.neg p * q' + sgnI y.neg p' * q).natAbs).length = n) (hc : n ≤ c) (A : Option Addr) (m d : Nat) (hm : (FE.toL (q * q')).length = m) (hd : m ≤ d) (B : Option Addr) ha hb => sLow (decide (sgnI x.neg p * q' + sgnI y.neg p' * q < 0)) (sgnI x.neg p * q' + sgnI y.neg p' * q).natAbs (q * q') n m c d hn hm (by omega) (by omega) hc hd A B W ha hb)
  rw [show FE.low (decide (sgnI x.neg p * q' + sgnI y.neg p' * q < 0)) (sgnI x.neg p * q' + sgnI y.neg p' * q).natAbs (q * q') = FE.lowI (sgnI x.neg p * q' + sgnI y.neg p' * q) (q * q') from rfl] at K7
  rw [mx, dx, my, dy]
  clear hx hy h1 mx my dx dy hcd hcd' ra rb ra' rb' lp lq lp' lq' k1 k2 k3 k4 i1 i2 j1 j2
  generalize FE.lowI (sgnI x.neg p * q' + sgnI y.neg p' * q) (q * q') = R at *
  generalize decide (sgnI x.neg p * q' + sgnI y.neg p' * q < 0) = sn at *
  generalize FE.toL (sgnI x.neg p * q' + sgnI y.neg p' * q).natAbs = xn at *
  generalize (x.neg && decide (p * q' ≠ 0)) = sa at *
  generalize (y.neg && decide (p' * q ≠ 0)) = sb at *
  generalize FE.toL (p * q') = xa at *
  generalize FE.toL (p' * q) = xb at *
  generalize FE.toL (q * q') = xq at *
  generalize (FE.toL p).length = n at *
  generalize (FE.toL q).length = m at *
  generalize (FE.toL p').length = n' at *
  generalize (FE.toL q').length = m' at *
  generalize x.neg = s at *
  generalize y.neg = t at *
  have R0 := Slots.new (Below.refl _ (((w.alloc (.cells #[.bool s, .slice A n c, .slice B m d] 57)).alloc (.cells #[.bool t, .slice A' n' c', .slice B' m' d'] 57)).alloc (.cells #[.bool false, .slice none 0 0, .slice none 0 0] 57))) (g := w.heap.size + 1 + 1) (by simp)
  have S1 := Slots.new (below_step (Below.refl _ (((w.alloc (.cells #[.bool s, .slice A n c, .slice B m d] 57)).alloc (.cells #[.bool t, .slice A' n' c', .slice B' m' d'] 57)).alloc (.cells #[.bool false, .slice none 0 0, .slice none 0 0] 57)))) (g := w.heap.size + 1) (by simp)
  have S0 := Slots.new (below_step (below_step (Below.refl _ (((w.alloc (.cells #[.bool s, .slice A n c, .slice B m d] 57)).alloc (.cells #[.bool t, .slice A' n' c', .slice B' m' d'] 57)).alloc (.cells #[.bool false, .slice none 0 0, .slice none 0 0] 57))))) (g := w.heap.size) rfl
  have hb1 := below_alloc3 w (.cells #[.bool s, .slice A n c, .slice B m d] 57) (.cells #[.bool t, .slice A' n' c', .slice B' m' d'] 57) (.cells #[.bool false, .slice none 0 0, .slice none 0 0] 57)
  obtain ⟨a0, a1, a2, _, _, _⟩ := S0.c3
  obtain ⟨b0, b1, b2, _, _, _⟩ := S1.c3
  have hlt := R0.1
  go_enter Tryz.func155, Tryz.ntmps155
  go_wp2_with fail
  refine (O1.out _ hb1).mono ?_
  rintro e w0 ⟨rfl, hw0⟩
  subst w0
  clear S0 S1
  have RA := AnyK.of R0
  clear R0
  generalize (((w.alloc (.cells #[.bool s, .slice A n c, .slice B m d] 57)).alloc (.cells #[.bool t, .slice A' n' c', .slice B' m' d'] 57)).alloc (.cells #[.bool false, .slice none 0 0, .slice none 0 0] 57)) = w1 at *
  have hF4 : ∀ p ∈ ([(w.heap.size, 0, .bool s), (w.heap.size, 1, .slice A n c), (w.heap.size, 2, .slice B m d), (w.heap.size + 1, 0, .bool t), (w.heap.size + 1, 1, .slice A' n' c'), (w.heap.size + 1, 2, .slice B' m' d')] : List (Nat × Nat × Value)), p.1 < w.heap.size + 1 + 1 + 1 := by simp; omega
  have hG4 : ∀ p ∈ ([(w.heap.size, 0, .bool s), (w.heap.size, 1, .slice A n c), (w.heap.size, 2, .slice B m d), (w.heap.size + 1, 0, .bool t), (w.heap.size + 1, 1, .slice A' n' c'), (w.heap.size + 1, 2, .slice B' m' d')] : List (Nat × Nat × Value)), p.1 ≠ w.heap.size + 1 + 1 := by simp; omega
  have hT4 := (bears_any (w.heap.size + 1 + 1) 3)
  replace hF4 := Lib.hid hF4
  replace hG4 := Lib.hid hG4
  replace hT4 := Lib.hid hT4
  go_wp2_with fail
  go_cut [6] (fun s6 wx => ∃ (hh : Nat) (AA : Option Addr) (cc : Nat), s6 = .pointer (some ⟨hh, 0, none⟩) ∧ w.heap.size + 1 + 1 < hh ∧ wx.cell? ⟨hh, 0, none⟩ = some (.bool sa) ∧ wx.cell? ⟨hh, 1, none⟩ = some (.slice AA xa.length cc) ∧ RO wx (w.heap.size + 1 + 1 + 1) (.slice AA xa.length cc) xa ∧ (Below w.heap.size w wx ∧ hh + 1 ≤ wx.heap.size) ∧ wx.cell? ⟨w.heap.size, 0, none⟩ = some (.bool s) ∧ wx.cell? ⟨w.heap.size, 1, none⟩ = some (.slice A n c) ∧ wx.cell? ⟨w.heap.size, 2, none⟩ = some (.slice B m d) ∧ wx.cell? ⟨w.heap.size + 1, 0, none⟩ = some (.bool t) ∧ wx.cell? ⟨w.heap.size + 1, 1, none⟩ = some (.slice A' n' c') ∧ wx.cell? ⟨w.heap.size + 1, 2, none⟩ = some (.slice B' m' d') ∧ AnyK wx (w.heap.size + 1 + 1) 3)
  case first =>
    go_region_held3 (fun w' => (Below w.heap.size w w' ∧ w.heap.size + 1 + 1 + 1 ≤ w'.heap.size) ∧ w'.cell? ⟨w.heap.size, 0, none⟩ = some (.bool s) ∧ w'.cell? ⟨w.heap.size, 1, none⟩ = some (.slice A n c) ∧ w'.cell? ⟨w.heap.size, 2, none⟩ = some (.slice B m d) ∧ w'.cell? ⟨w.heap.size + 1, 0, none⟩ = some (.bool t) ∧ w'.cell? ⟨w.heap.size + 1, 1, none⟩ = some (.slice A' n' c') ∧ w'.cell? ⟨w.heap.size + 1, 2, none⟩ = some (.slice B' m' d') ∧ AnyK w' (w.heap.size + 1 + 1) 3)
      (first | exact gD (T := fun W => AnyK W (w.heap.size + 1 + 1) 3) [(w.heap.size, 0, .bool s), (w.heap.size, 1, .slice A n c), (w.heap.size, 2, .slice B m d), (w.heap.size + 1, 0, .bool t), (w.heap.size + 1, 1, .slice A' n' c'), (w.heap.size + 1, 2, .slice B' m' d')] (fun h => h) (show (Below w.heap.size w w1 ∧ w.heap.size + 1 + 1 + 1 ≤ w1.heap.size) ∧ w1.cell? ⟨w.heap.size, 0, none⟩ = some (.bool s) ∧ w1.cell? ⟨w.heap.size, 1, none⟩ = some (.slice A n c) ∧ w1.cell? ⟨w.heap.size, 2, none⟩ = some (.slice B m d) ∧ w1.cell? ⟨w.heap.size + 1, 0, none⟩ = some (.bool t) ∧ w1.cell? ⟨w.heap.size + 1, 1, none⟩ = some (.slice A' n' c') ∧ w1.cell? ⟨w.heap.size + 1, 2, none⟩ = some (.slice B' m' d') ∧ AnyK w1 (w.heap.size + 1 + 1) 3 from ⟨⟨hb1, hlt⟩, a0, a1, a2, b0, b1, b2, RA⟩) | exact gC [(w.heap.size, 0, .bool s), (w.heap.size, 1, .slice A n c), (w.heap.size, 2, .slice B m d), (w.heap.size + 1, 0, .bool t), (w.heap.size + 1, 1, .slice A' n' c'), (w.heap.size + 1, 2, .slice B' m' d')] hF4.out hT4.out (by assumption) (by assumption) | exact gC [(w.heap.size, 0, .bool s), (w.heap.size, 1, .slice A n c), (w.heap.size, 2, .slice B m d), (w.heap.size + 1, 0, .bool t), (w.heap.size + 1, 1, .slice A' n' c'), (w.heap.size + 1, 2, .slice B' m' d')] hF4.out hT4.out (by assumption) (below_alloc1 _ _) | (have _h := hro4; exact gC [(w.heap.size, 0, .bool s), (w.heap.size, 1, .slice A n c), (w.heap.size, 2, .slice B m d), (w.heap.size + 1, 0, .bool t), (w.heap.size + 1, 1, .slice A' n' c'), (w.heap.size + 1, 2, .slice B' m' d')] hF4.out hT4.out (gC [(w.heap.size, 0, .bool s), (w.heap.size, 1, .slice A n c), (w.heap.size, 2, .slice B m d), (w.heap.size + 1, 0, .bool t), (w.heap.size + 1, 1, .slice A' n' c'), (w.heap.size + 1, 2, .slice B' m' d')] hF4.out hT4.out hSW4 hb4) (below_alloc1 _ _)) | (have _h := T4; exact gS2 (T := fun W => AnyK W (w.heap.size + 1 + 1) 3) [(w.heap.size, 0, .bool s), (w.heap.size, 1, .slice A n c), (w.heap.size, 2, .slice B m d), (w.heap.size + 1, 0, .bool t), (w.heap.size + 1, 1, .slice A' n' c'), (w.heap.size + 1, 2, .slice B' m' d')] (by omega) (fun p hp => by have := hF4.out p hp; omega) (fun h => any_far2 (by omega) h) (by assumption)))
      (first
        | (go_at_call 194; (with_reducible refine (K1.out _ (And.left (And.left (by assumption)))).mono ?_); rintro e3 w3 ⟨v3, rfl, hro3, hb3⟩; have hSW3 := (‹(Below w.heap.size w _ ∧ _ ≤ _) ∧ _ ∧ _ ∧ _ ∧ _ ∧ _ ∧ _ ∧ AnyK _ (w.heap.size + 1 + 1) 3›); have hB3 := hSW3.1.1.trans (below_le hb3 hSW3.1.1.size); have hM3 := Nat.le_trans hSW3.1.2 hb3.size; have hA3 := hSW3.2.2.2.2.2.2.2.later hb3; have hlt3 := hSW3.2.2.2.2.2.2.2.lt; have hlm3 := hSW3.1.2; obtain ⟨A3, c3, rfl, hl3, _⟩ := id hro3; (first | have T3 := Slots.new hb3 rfl | have T3 := Slots.newD hb3 rfl | skip))
        | (go_at_call 200; (first | (with_reducible refine (K2.out _ hl3 _ _ hro3.reads).mono ?_) | (with_reducible refine (K2.out _ hl3 _ _ (hro3.later (below_alloc1 _ _)).reads).mono ?_)); rintro e4 w4 ⟨v4, rfl, ⟨va4, rfl, hro4⟩, hb4⟩; have hSW4 := (‹(Below w.heap.size w _ ∧ _ ≤ _) ∧ _ ∧ _ ∧ _ ∧ _ ∧ _ ∧ _ ∧ AnyK _ (w.heap.size + 1 + 1) 3›); have hB4 := hSW4.1.1.trans (below_le hb4 hSW4.1.1.size); have hM4 := Nat.le_trans hSW4.1.2 hb4.size; have hA4 := hSW4.2.2.2.2.2.2.2.later hb4; have hlt4 := hSW4.2.2.2.2.2.2.2.lt; have hlm4 := hSW4.1.2; obtain ⟨A4, c4, rfl, _⟩ := id hro4; (first | have T4 := Slots.new hb4 rfl | have T4 := T3.later hb4 | skip); (first | obtain ⟨t0, t1, y0, y1⟩ := T4.k2 | skip)))
    all_goals (go_wp2_with fail; go_meet)
    all_goals first
      | (have S9 := Slots.newF (w := w4) (C := #[.bool sa, .slice A4 xa.length c4]) (t := 55) rfl rfl; obtain ⟨c0, c1, _, _⟩ := S9.k2; exact gMeet (T := fun W => AnyK W (w.heap.size + 1 + 1) 3) (M := w.heap.size + 1 + 1 + 1) [(w.heap.size, 0, .bool s), (w.heap.size, 1, .slice A n c), (w.heap.size, 2, .slice B m d), (w.heap.size + 1, 0, .bool t), (w.heap.size + 1, 1, .slice A' n' c'), (w.heap.size + 1, 2, .slice B' m' d')] (by omega) c0 c1 ((hro4.mono (by omega)).later (below_alloc1 _ _)) S9.1 (by assumption))
      | (have S9 := (T4.set 0 (by show 0 < 2; decide) (.bool sa)).set 1 (by show 1 < 2; decide) (.slice A4 xa.length c4); obtain ⟨c0, c1, _, _⟩ := S9.k2; exact gMeet (T := fun W => AnyK W (w.heap.size + 1 + 1) 3) (M := w.heap.size + 1 + 1 + 1) [(w.heap.size, 0, .bool s), (w.heap.size, 1, .slice A n c), (w.heap.size, 2, .slice B m d), (w.heap.size + 1, 0, .bool t), (w.heap.size + 1, 1, .slice A' n' c'), (w.heap.size + 1, 2, .slice B' m' d')] (by omega) c0 c1 (((hro4.far (p := ⟨_, 0, none⟩) (by first | exact T3.1 | simp) (.bool sa)).far (p := ⟨_, 1, none⟩) (by first | exact T3.1 | simp) (.slice A4 xa.length c4)).mono (by omega)) (by simpa using T4.1) (by assumption))
  case rest =>
    obtain ⟨h6, A5, c5, rfl, hgh, k0, k1, hro, ⟨hbx, hhx⟩, l0, l1, l2, m0, m1, m2, kA⟩ := hcut
    clear a0 a1 a2 b0 b1 b2 hb1 hlt RA hF4 hG4 hT4
    generalize wc = w5 at *
    have hio := hro.io
    have hF5 : ∀ p ∈ ([(h6, 0, .bool sa), (h6, 1, .slice A5 xa.length c5), (w.heap.size, 0, .bool s), (w.heap.size, 1, .slice A n c), (w.heap.size, 2, .slice B m d), (w.heap.size + 1, 0, .bool t), (w.heap.size + 1, 1, .slice A' n' c'), (w.heap.size + 1, 2, .slice B' m' d')] : List (Nat × Nat × Value)), p.1 < w5.heap.size := by simp; omega
    have hG5 : ∀ p ∈ ([(h6, 0, .bool sa), (h6, 1, .slice A5 xa.length c5), (w.heap.size, 0, .bool s), (w.heap.size, 1, .slice A n c), (w.heap.size, 2, .slice B m d), (w.heap.size + 1, 0, .bool t), (w.heap.size + 1, 1, .slice A' n' c'), (w.heap.size + 1, 2, .slice B' m' d')] : List (Nat × Nat × Value)), p.1 ≠ w.heap.size + 1 + 1 := by simp; omega
    have hT5 := (bears_io (bears_any (w.heap.size + 1 + 1) 3) (w.heap.size + 1 + 1 + 1) w5.heap.size (.slice A5 xa.length c5) xa)
    replace hF5 := Lib.hid hF5
    replace hG5 := Lib.hid hG5
    replace hT5 := Lib.hid hT5
    go_wp2_with fail
    go_cut [7] (fun s7 wx => ∃ (hh : Nat) (AA : Option Addr) (cc : Nat), s7 = .pointer (some ⟨hh, 0, none⟩) ∧ w.heap.size + 1 + 1 < hh ∧ wx.cell? ⟨hh, 0, none⟩ = some (.bool sb) ∧ wx.cell? ⟨hh, 1, none⟩ = some (.slice AA xb.length cc) ∧ RO wx (w.heap.size + 1 + 1 + 1) (.slice AA xb.length cc) xb ∧ (Below w.heap.size w wx ∧ hh + 1 ≤ wx.heap.size) ∧ wx.cell? ⟨h6, 0, none⟩ = some (.bool sa) ∧ wx.cell? ⟨h6, 1, none⟩ = some (.slice A5 xa.length c5) ∧ wx.cell? ⟨w.heap.size, 0, none⟩ = some (.bool s) ∧ wx.cell? ⟨w.heap.size, 1, none⟩ = some (.slice A n c) ∧ wx.cell? ⟨w.heap.size, 2, none⟩ = some (.slice B m d) ∧ wx.cell? ⟨w.heap.size + 1, 0, none⟩ = some (.bool t) ∧ wx.cell? ⟨w.heap.size + 1, 1, none⟩ = some (.slice A' n' c') ∧ wx.cell? ⟨w.heap.size + 1, 2, none⟩ = some (.slice B' m' d') ∧ (AnyK wx (w.heap.size + 1 + 1) 3) ∧ PO wx (w.heap.size + 1 + 1 + 1) w5.heap.size (.slice A5 xa.length c5) xa)
    case first =>
      go_region_held3 (fun w' => (Below w.heap.size w w' ∧ w5.heap.size ≤ w'.heap.size) ∧ w'.cell? ⟨h6, 0, none⟩ = some (.bool sa) ∧ w'.cell? ⟨h6, 1, none⟩ = some (.slice A5 xa.length c5) ∧ w'.cell? ⟨w.heap.size, 0, none⟩ = some (.bool s) ∧ w'.cell? ⟨w.heap.size, 1, none⟩ = some (.slice A n c) ∧ w'.cell? ⟨w.heap.size, 2, none⟩ = some (.slice B m d) ∧ w'.cell? ⟨w.heap.size + 1, 0, none⟩ = some (.bool t) ∧ w'.cell? ⟨w.heap.size + 1, 1, none⟩ = some (.slice A' n' c') ∧ w'.cell? ⟨w.heap.size + 1, 2, none⟩ = some (.slice B' m' d') ∧ (AnyK w' (w.heap.size + 1 + 1) 3) ∧ PO w' (w.heap.size + 1 + 1 + 1) w5.heap.size (.slice A5 xa.length c5) xa)
        (first | exact gD (T := fun W => (AnyK W (w.heap.size + 1 + 1) 3) ∧ PO W (w.heap.size + 1 + 1 + 1) w5.heap.size (.slice A5 xa.length c5) xa) [(h6, 0, .bool sa), (h6, 1, .slice A5 xa.length c5), (w.heap.size, 0, .bool s), (w.heap.size, 1, .slice A n c), (w.heap.size, 2, .slice B m d), (w.heap.size + 1, 0, .bool t), (w.heap.size + 1, 1, .slice A' n' c'), (w.heap.size + 1, 2, .slice B' m' d')] (fun h => h) (show (Below w.heap.size w w5 ∧ w5.heap.size ≤ w5.heap.size) ∧ w5.cell? ⟨h6, 0, none⟩ = some (.bool sa) ∧ w5.cell? ⟨h6, 1, none⟩ = some (.slice A5 xa.length c5) ∧ w5.cell? ⟨w.heap.size, 0, none⟩ = some (.bool s) ∧ w5.cell? ⟨w.heap.size, 1, none⟩ = some (.slice A n c) ∧ w5.cell? ⟨w.heap.size, 2, none⟩ = some (.slice B m d) ∧ w5.cell? ⟨w.heap.size + 1, 0, none⟩ = some (.bool t) ∧ w5.cell? ⟨w.heap.size + 1, 1, none⟩ = some (.slice A' n' c') ∧ w5.cell? ⟨w.heap.size + 1, 2, none⟩ = some (.slice B' m' d') ∧ (AnyK w5 (w.heap.size + 1 + 1) 3) ∧ PO w5 (w.heap.size + 1 + 1 + 1) w5.heap.size (.slice A5 xa.length c5) xa from ⟨⟨hbx, Nat.le_refl _⟩, k0, k1, l0, l1, l2, m0, m1, m2, kA, hio⟩) | exact gC [(h6, 0, .bool sa), (h6, 1, .slice A5 xa.length c5), (w.heap.size, 0, .bool s), (w.heap.size, 1, .slice A n c), (w.heap.size, 2, .slice B m d), (w.heap.size + 1, 0, .bool t), (w.heap.size + 1, 1, .slice A' n' c'), (w.heap.size + 1, 2, .slice B' m' d')] hF5.out hT5.out (by assumption) (by assumption) | exact gC [(h6, 0, .bool sa), (h6, 1, .slice A5 xa.length c5), (w.heap.size, 0, .bool s), (w.heap.size, 1, .slice A n c), (w.heap.size, 2, .slice B m d), (w.heap.size + 1, 0, .bool t), (w.heap.size + 1, 1, .slice A' n' c'), (w.heap.size + 1, 2, .slice B' m' d')] hF5.out hT5.out (by assumption) (below_alloc1 _ _) | (have _h := hro4; exact gC [(h6, 0, .bool sa), (h6, 1, .slice A5 xa.length c5), (w.heap.size, 0, .bool s), (w.heap.size, 1, .slice A n c), (w.heap.size, 2, .slice B m d), (w.heap.size + 1, 0, .bool t), (w.heap.size + 1, 1, .slice A' n' c'), (w.heap.size + 1, 2, .slice B' m' d')] hF5.out hT5.out (gC [(h6, 0, .bool sa), (h6, 1, .slice A5 xa.length c5), (w.heap.size, 0, .bool s), (w.heap.size, 1, .slice A n c), (w.heap.size, 2, .slice B m d), (w.heap.size + 1, 0, .bool t), (w.heap.size + 1, 1, .slice A' n' c'), (w.heap.size + 1, 2, .slice B' m' d')] hF5.out hT5.out hSW4 hb4) (below_alloc1 _ _)) | (have _h := T4; exact gS2 (T := fun W => (AnyK W (w.heap.size + 1 + 1) 3) ∧ PO W (w.heap.size + 1 + 1 + 1) w5.heap.size (.slice A5 xa.length c5) xa) [(h6, 0, .bool sa), (h6, 1, .slice A5 xa.length c5), (w.heap.size, 0, .bool s), (w.heap.size, 1, .slice A n c), (w.heap.size, 2, .slice B m d), (w.heap.size + 1, 0, .bool t), (w.heap.size + 1, 1, .slice A' n' c'), (w.heap.size + 1, 2, .slice B' m' d')] (by omega) (fun p hp => by have := hF5.out p hp; omega) (fun h => ⟨any_far2 (by omega) h.1, io_far2 (by omega) h.2⟩) (by assumption)))
        (first
          | (go_at_call 194; (with_reducible refine (K3.out _ (And.left (And.left (by assumption)))).mono ?_); rintro e3 w3 ⟨v3, rfl, hro3, hb3⟩; have hSW3 := (‹(Below w.heap.size w _ ∧ _ ≤ _) ∧ _ ∧ _ ∧ _ ∧ _ ∧ _ ∧ _ ∧ _ ∧ _ ∧ _›); have hB3 := hSW3.1.1.trans (below_le hb3 hSW3.1.1.size); have hM3 := Nat.le_trans hSW3.1.2 hb3.size; have hA3 := hSW3.2.2.2.2.2.2.2.2.2.1.later hb3; have hlt3 := hSW3.2.2.2.2.2.2.2.2.2.1.lt; have hlm3 := hSW3.1.2; obtain ⟨A3, c3, rfl, hl3, _⟩ := id hro3; (first | have T3 := Slots.new hb3 rfl | have T3 := Slots.newD hb3 rfl | skip))
          | (go_at_call 200; (first | (with_reducible refine (K4.out _ hl3 _ _ hro3.reads).mono ?_) | (with_reducible refine (K4.out _ hl3 _ _ (hro3.later (below_alloc1 _ _)).reads).mono ?_)); rintro e4 w4 ⟨v4, rfl, ⟨va4, rfl, hro4⟩, hb4⟩; have hSW4 := (‹(Below w.heap.size w _ ∧ _ ≤ _) ∧ _ ∧ _ ∧ _ ∧ _ ∧ _ ∧ _ ∧ _ ∧ _ ∧ _›); have hB4 := hSW4.1.1.trans (below_le hb4 hSW4.1.1.size); have hM4 := Nat.le_trans hSW4.1.2 hb4.size; have hA4 := hSW4.2.2.2.2.2.2.2.2.2.1.later hb4; have hlt4 := hSW4.2.2.2.2.2.2.2.2.2.1.lt; have hlm4 := hSW4.1.2; obtain ⟨A4, c4, rfl, _⟩ := id hro4; (first | have T4 := Slots.new hb4 rfl | have T4 := T3.later hb4 | skip); (first | obtain ⟨t0, t1, y0, y1⟩ := T4.k2 | skip)))
      all_goals (go_wp2_with fail; go_meet)
      all_goals first
        | (have S9 := Slots.newF (w := w4) (C := #[.bool sb, .slice A4 xb.length c4]) (t := 55) rfl rfl; obtain ⟨c0, c1, _, _⟩ := S9.k2; exact gMeet (T := fun W => (AnyK W (w.heap.size + 1 + 1) 3) ∧ PO W (w.heap.size + 1 + 1 + 1) w5.heap.size (.slice A5 xa.length c5) xa) (M := w5.heap.size) [(h6, 0, .bool sa), (h6, 1, .slice A5 xa.length c5), (w.heap.size, 0, .bool s), (w.heap.size, 1, .slice A n c), (w.heap.size, 2, .slice B m d), (w.heap.size + 1, 0, .bool t), (w.heap.size + 1, 1, .slice A' n' c'), (w.heap.size + 1, 2, .slice B' m' d')] (by omega) c0 c1 ((hro4.mono (by omega)).later (below_alloc1 _ _)) S9.1 (by assumption))
        | (have S9 := (T4.set 0 (by show 0 < 2; decide) (.bool sb)).set 1 (by show 1 < 2; decide) (.slice A4 xb.length c4); obtain ⟨c0, c1, _, _⟩ := S9.k2; exact gMeet (T := fun W => (AnyK W (w.heap.size + 1 + 1) 3) ∧ PO W (w.heap.size + 1 + 1 + 1) w5.heap.size (.slice A5 xa.length c5) xa) (M := w5.heap.size) [(h6, 0, .bool sa), (h6, 1, .slice A5 xa.length c5), (w.heap.size, 0, .bool s), (w.heap.size, 1, .slice A n c), (w.heap.size, 2, .slice B m d), (w.heap.size + 1, 0, .bool t), (w.heap.size + 1, 1, .slice A' n' c'), (w.heap.size + 1, 2, .slice B' m' d')] (by omega) c0 c1 (((hro4.far (p := ⟨_, 0, none⟩) (by first | exact T3.1 | simp) (.bool sb)).far (p := ⟨_, 1, none⟩) (by first | exact T3.1 | simp) (.slice A4 xb.length c4)).mono (by omega)) (by simpa using T4.1) (by assumption))
    case rest =>
      obtain ⟨h7, A7, c7, rfl, hgh7, n0, n1, hro7, ⟨hby, hhy⟩, k0', k1', _, _, l2', _, _, m2', kA', hio'⟩ := hcut
      clear k0 k1 l0 l1 l2 m0 m1 m2 kA hio hro hF5 hG5 hT5 hbx hhx
      generalize wc = w7 at *
      have ha7 := (show BigO w7 _ (.agg #[.bool sa, .slice A5 xa.length c5]) sa xa from ⟨_, rfl, hio'.1⟩).reads
      have hb7 := (show BigO w7 _ (.agg #[.bool sb, .slice A7 xb.length c7]) sb xb from ⟨_, rfl, hro7⟩).reads
      go_wp2_with fail
      refine (K5.out _ _ _ ha7 hb7).mono ?_
      rintro e w8 ⟨v8, rfl, ⟨va8, rfl, hro8⟩, hb8⟩
      have hlt7 := kA'.lt
      have l2a := cell_later (by omega) l2' hb8
      have m2a := cell_later (by omega) m2' hb8
      have kAa := kA'.later hb8
      have hbz := hby.trans (below_le hb8 hby.size)
      have hlt8 := kAa.lt
      obtain ⟨A8, c8, rfl, hl8, _⟩ := id hro8
      have al := below_alloc1 w8 (.cells #[.bool sn, .slice A8 xn.length c8] 55)
      have S8 := Slots.new (Below.refl _ (w8.alloc (.cells #[.bool sn, .slice A8 xn.length c8] 55))) (g := w8.heap.size) rfl
      obtain ⟨e0, e1, _, _⟩ := S8.k2
      have hsz8 := S8.1
      have l2b := cell_later (by omega) l2a al
      have m2b := cell_later (by omega) m2a al
      have kAb := kAa.later al
      have hbw := hbz.trans (below_le al hbz.size)
      have hro9 := (hro8.mono (base' := w.heap.size + 1 + 1 + 1) (by omega)).later al
      clear k0' k1' n0 n1 l2' m2' kA' hio' hro7 ha7 hb7 l2a m2a kAa hbz S8 al
      have hg8 : w.heap.size + 1 + 1 < w8.heap.size := hlt8
      go_wp2_with fail
      generalize w8.alloc (.cells #[.bool sn, .slice A8 xn.length c8] 55) = w9 at *
      clear hro8 hb8
      generalize w8.heap.size = h9 at *
      have hF9 : ∀ p ∈ ([(h9, 0, .bool sn), (h9, 1, .slice A8 xn.length c8), (w.heap.size, 2, .slice B m d), (w.heap.size + 1, 2, .slice B' m' d')] : List (Nat × Nat × Value)), p.1 < w9.heap.size := by simp; omega
      have hG9 : ∀ p ∈ ([(h9, 0, .bool sn), (h9, 1, .slice A8 xn.length c8), (w.heap.size, 2, .slice B m d), (w.heap.size + 1, 2, .slice B' m' d')] : List (Nat × Nat × Value)), p.1 ≠ w.heap.size + 1 + 1 := by simp; omega
      have hT9 := (bears_any (w.heap.size + 1 + 1) 3)
      replace hF9 := Lib.hid hF9
      replace hG9 := Lib.hid hG9
      replace hT9 := Lib.hid hT9
      go_region_held3 (fun w' => (Below w.heap.size w w' ∧ w9.heap.size ≤ w'.heap.size) ∧ w'.cell? ⟨h9, 0, none⟩ = some (.bool sn) ∧ w'.cell? ⟨h9, 1, none⟩ = some (.slice A8 xn.length c8) ∧ w'.cell? ⟨w.heap.size, 2, none⟩ = some (.slice B m d) ∧ w'.cell? ⟨w.heap.size + 1, 2, none⟩ = some (.slice B' m' d') ∧ AnyK w' (w.heap.size + 1 + 1) 3)
        (first | exact gD (T := fun W => AnyK W (w.heap.size + 1 + 1) 3) [(h9, 0, .bool sn), (h9, 1, .slice A8 xn.length c8), (w.heap.size, 2, .slice B m d), (w.heap.size + 1, 2, .slice B' m' d')] (fun h => h) (show (Below w.heap.size w w9 ∧ w9.heap.size ≤ w9.heap.size) ∧ w9.cell? ⟨h9, 0, none⟩ = some (.bool sn) ∧ w9.cell? ⟨h9, 1, none⟩ = some (.slice A8 xn.length c8) ∧ w9.cell? ⟨w.heap.size, 2, none⟩ = some (.slice B m d) ∧ w9.cell? ⟨w.heap.size + 1, 2, none⟩ = some (.slice B' m' d') ∧ AnyK w9 (w.heap.size + 1 + 1) 3 from ⟨⟨hbw, Nat.le_refl _⟩, e0, e1, l2b, m2b, kAb⟩) | exact gC [(h9, 0, .bool sn), (h9, 1, .slice A8 xn.length c8), (w.heap.size, 2, .slice B m d), (w.heap.size + 1, 2, .slice B' m' d')] hF9.out hT9.out (by assumption) (by assumption) | exact gC [(h9, 0, .bool sn), (h9, 1, .slice A8 xn.length c8), (w.heap.size, 2, .slice B m d), (w.heap.size + 1, 2, .slice B' m' d')] hF9.out hT9.out (by assumption) (below_alloc1 _ _) | exact gS3 (T := fun W => AnyK W (w.heap.size + 1 + 1) 3) (h := w.heap.size + 1 + 1) [(h9, 0, .bool sn), (h9, 1, .slice A8 xn.length c8), (w.heap.size, 2, .slice B m d), (w.heap.size + 1, 2, .slice B' m' d')] (by omega) hG9.out (fun h => any_set3 h) (by assumption))
        (first
          | (go_at_call 194; (with_reducible refine (K6.out _ (And.left (And.left (by assumption)))).mono ?_); rintro e3 w3 ⟨v3, rfl, hro3, hb3⟩; have hSW3 := (‹(Below w.heap.size w _ ∧ _ ≤ _) ∧ _ ∧ _ ∧ _ ∧ _ ∧ AnyK _ (w.heap.size + 1 + 1) 3›); have hB3 := hSW3.1.1.trans (below_le hb3 hSW3.1.1.size); have hM3 := Nat.le_trans hSW3.1.2 hb3.size; have hA3 := hSW3.2.2.2.2.2.later hb3; have hlt3 := hSW3.2.2.2.2.2.lt; have hlm3 := hSW3.1.2; have hr9 := hro9.later (show Below _ _ w3 from ⟨hb3.os, hb3.tape, hb3.output, hb3.size, hb3.block⟩); obtain ⟨A3, c3, rfl, hl3, _⟩ := id hro3)
          | (go_at_call 193; (with_reducible refine (K7.out _ _ _ rfl hl8 _ _ _ rfl hl3 _ hr9.reads hro3.reads).mono ?_); rintro e6 w6 ⟨v6, rfl, hrp, hb6⟩; have hSW6 := (‹(Below w.heap.size w _ ∧ _ ≤ _) ∧ _ ∧ _ ∧ _ ∧ _ ∧ AnyK _ (w.heap.size + 1 + 1) 3›); have hB6 := hSW6.1.1.trans (below_le hb6 hSW6.1.1.size); have hM6 := Nat.le_trans hSW6.1.2 hb6.size; have hA6 := hSW6.2.2.2.2.2.later hb6; have hlt6 := hSW6.2.2.2.2.2.lt; have hlm6 := hSW6.1.2; obtain ⟨A6, n6, c6, B6, m6, d6, rfl⟩ := hrp.shape; obtain ⟨_, _, _, q0, q1, q2, _z0, _z1, _z2⟩ := hA6.c3))
      have hp := hrp.mono (base' := w.heap.size + 1 + 1 + 1) (by omega)
      have hb := below3 hB6 (show w.heap.size ≤ w.heap.size + 1 + 1 by omega) (.bool R.neg) (.slice A6 n6 c6) (.slice B6 m6 d6)
      have f6 := hp.far3 (g := w.heap.size + 1 + 1) (Nat.lt_succ_self _) (.bool R.neg) (.slice A6 n6 c6) (.slice B6 m6 d6)
      go_wp2
      refine bodyPost_ret (v := .agg #[.bool R.neg, .slice A6 n6 c6, .slice B6 m6 d6]) (by simp [results, Tryz.results155, go_sem, q0, q1, q2]) rfl ⟨_, rfl, f6.mono (by omega), hb⟩

set_option maxRecDepth 100000 in
set_option maxHeartbeats 4000000 in
theorem sAdd4_b (x y : RatD) (p q p' q' : Nat) (hx : FE.OkR x p q) (hy : FE.OkR y p' q') (u v : Value) (w : World) (hu : RatV w u x) (hv : RatV w v y) (h1 : q = 1) (h2 : q' ≠ 1) :
    Calls Tryz.prog 155 #[u, v] w fun e w' => ∃ v', e = .returned v' ∧ RatP w' w.heap.size v' (FE.lowI (sgnI x.neg p * q' + sgnI y.neg p' * q) (q * q')) ∧ Below w.heap.size w w' := by
  obtain ⟨A, c, B, d, rfl, hcd, ra, rb⟩ := hu
  obtain ⟨A', c', B', d', rfl, hcd', ra', rb'⟩ := hv
  have mx := hx.mag
  have my := hy.mag
  have dx := hx.den
  have dy := hy.den
  rw [mx] at ra
  rw [dx] at rb
  rw [my] at ra'
  rw [dy] at rb'
  have lp := hx.pl
  have lq := hx.ql
  have lp' := hy.pl
  have lq' := hy.ql
  have k1 := mul_len24 lp lq'
  have k2 := mul_len24 lp' lq
  have k3 := mul_len24 lq lq'
  have O1 := Lib.hid (fun W (hW : Below w.heap.size w W) => sOne_toL q true (by simp; exact h1) _ d rfl (by omega) B W (rb.later hW))
  have O2 := Lib.hid (fun W (hW : Below w.heap.size w W) => sOne_toL q' false (by simp; exact h2) _ d' rfl (by omega) B' W (rb'.later hW))
  have K1 := Lib.hid (fun W (hW : Below w.heap.size w W) => sMul_nat p q' _ _ c d' rfl rfl (by omega) (by omega) A B' W (ra.later hW) (rb'.later hW))
  have K2 := Lib.hid (fun (c : Nat) (hc : (FE.toL (p * q')).length ≤ c) (A : Option Addr) W (ha : RI W A (FE.toL (p * q'))) => sMake x.neg (p * q') _ c rfl (by omega) hc A W ha)
  have K3 := Lib.hid (fun W (hW : Below w.heap.size w W) => sMul_nat p' q _ _ c' d rfl rfl (by omega) (by omega) A' B W (ra'.later hW) (rb.later hW))
  have K4 := Lib.hid (fun (c : Nat) (hc : (FE.toL (p' * q)).length ≤ c) (A : Option Addr) W (ha : RI W A (FE.toL (p' * q))) => sMake y.neg (p' * q) _ c rfl (by omega) hc A W ha)
  have j1 : sgnI x.neg (p * q') = sgnI x.neg p * q' := by cases x.neg <;> simp [sgnI, Int.natCast_mul, Int.neg_mul]
  have j2 : sgnI y.neg (p' * q) = sgnI y.neg p' * q := by cases y.neg <;> simp [sgnI, Int.natCast_mul, Int.neg_mul]
  obtain ⟨i1, i2⟩ := addS_int (x.neg && decide (p * q' ≠ 0)) (y.neg && decide (p' * q ≠ 0)) (p * q') (p' * q)
  have k4 := sum_len k1 k2 (x.neg && decide (p * q' ≠ 0)) (y.neg && decide (p' * q ≠ 0))
  rw [sgnI_sg, sgnI_sg, j1, j2] at i1 i2 k4
  have K5 := fun W (u v : Value) hu hv => sBigAdd (x.neg && decide (p * q' ≠ 0)) (y.neg && decide (p' * q ≠ 0)) (p * q') (p' * q) u v W hu hv (by omega) (by omega) (by rw [i1]; omega)
  rw [i2, i1] at K5
  replace K5 := Lib.hid K5
  have K6 := Lib.hid (fun W (hW : Below w.heap.size w W) => sMul_nat q q' _ _ d d' rfl rfl (by omega) (by omega) B B' W (rb.later hW) (rb'.later hW))
  have K7 := Lib.hid (fun W (n c : Nat) (hn : (FE.toL (sgnI x.neg p * q' + sgnI y.neg p' * q).natAbs).length = n) (hc : n ≤ c) (A : Option Addr) (m d : Nat) (hm : (FE.toL (q * q')).length = m) (hd : m ≤ d) (B : Option Addr) ha hb => sLow (decide (sgnI x.neg p * q' + sgnI y.neg p' * q < 0)) (sgnI x.neg p * q' + sgnI y.neg p' * q).natAbs (q * q') n m c d hn hm (by omega) (by omega) hc hd A B W ha hb)
  rw [show FE.low (decide (sgnI x.neg p * q' + sgnI y.neg p' * q < 0)) (sgnI x.neg p * q' + sgnI y.neg p' * q).natAbs (q * q') = FE.lowI (sgnI x.neg p * q' + sgnI y.neg p' * q) (q * q') from rfl] at K7
  rw [mx, dx, my, dy]
  clear hx hy h1 h2 mx my dx dy hcd hcd' ra rb ra' rb' lp lq lp' lq' k1 k2 k3 k4 i1 i2 j1 j2
  generalize FE.lowI (sgnI x.neg p * q' + sgnI y.neg p' * q) (q * q') = R at *
  generalize decide (sgnI x.neg p * q' + sgnI y.neg p' * q < 0) = sn at *
  generalize FE.toL (sgnI x.neg p * q' + sgnI y.neg p' * q).natAbs = xn at *
  generalize (x.neg && decide (p * q' ≠ 0)) = sa at *
  generalize (y.neg && decide (p' * q ≠ 0)) = sb at *
  generalize FE.toL (p * q') = xa at *
  generalize FE.toL (p' * q) = xb at *
  generalize FE.toL (q * q') = xq at *
  generalize (FE.toL p).length = n at *
  generalize (FE.toL q).length = m at *
  generalize (FE.toL p').length = n' at *
  generalize (FE.toL q').length = m' at *
  generalize x.neg = s at *
  generalize y.neg = t at *
  have R0 := Slots.new (Below.refl _ (((w.alloc (.cells #[.bool s, .slice A n c, .slice B m d] 57)).alloc (.cells #[.bool t, .slice A' n' c', .slice B' m' d'] 57)).alloc (.cells #[.bool false, .slice none 0 0, .slice none 0 0] 57))) (g := w.heap.size + 1 + 1) (by simp)
  have S1 := Slots.new (below_step (Below.refl _ (((w.alloc (.cells #[.bool s, .slice A n c, .slice B m d] 57)).alloc (.cells #[.bool t, .slice A' n' c', .slice B' m' d'] 57)).alloc (.cells #[.bool false, .slice none 0 0, .slice none 0 0] 57)))) (g := w.heap.size + 1) (by simp)
  have S0 := Slots.new (below_step (below_step (Below.refl _ (((w.alloc (.cells #[.bool s, .slice A n c, .slice B m d] 57)).alloc (.cells #[.bool t, .slice A' n' c', .slice B' m' d'] 57)).alloc (.cells #[.bool false, .slice none 0 0, .slice none 0 0] 57))))) (g := w.heap.size) rfl
  have hb1 := below_alloc3 w (.cells #[.bool s, .slice A n c, .slice B m d] 57) (.cells #[.bool t, .slice A' n' c', .slice B' m' d'] 57) (.cells #[.bool false, .slice none 0 0, .slice none 0 0] 57)
  obtain ⟨a0, a1, a2, _, _, _⟩ := S0.c3
  obtain ⟨b0, b1, b2, _, _, _⟩ := S1.c3
  have hlt := R0.1
  go_enter Tryz.func155, Tryz.ntmps155
  go_wp2_with fail
  refine (O1.out _ hb1).mono ?_
  rintro e w0 ⟨rfl, hw0⟩
  subst w0
  go_wp2_with fail
  refine (O2.out _ hb1).mono ?_
  rintro e w0 ⟨rfl, hw0⟩
  subst w0
  clear S0 S1
  have RA := AnyK.of R0
  clear R0
  generalize (((w.alloc (.cells #[.bool s, .slice A n c, .slice B m d] 57)).alloc (.cells #[.bool t, .slice A' n' c', .slice B' m' d'] 57)).alloc (.cells #[.bool false, .slice none 0 0, .slice none 0 0] 57)) = w1 at *
  have hF4 : ∀ p ∈ ([(w.heap.size, 0, .bool s), (w.heap.size, 1, .slice A n c), (w.heap.size, 2, .slice B m d), (w.heap.size + 1, 0, .bool t), (w.heap.size + 1, 1, .slice A' n' c'), (w.heap.size + 1, 2, .slice B' m' d')] : List (Nat × Nat × Value)), p.1 < w.heap.size + 1 + 1 + 1 := by simp; omega
  have hG4 : ∀ p ∈ ([(w.heap.size, 0, .bool s), (w.heap.size, 1, .slice A n c), (w.heap.size, 2, .slice B m d), (w.heap.size + 1, 0, .bool t), (w.heap.size + 1, 1, .slice A' n' c'), (w.heap.size + 1, 2, .slice B' m' d')] : List (Nat × Nat × Value)), p.1 ≠ w.heap.size + 1 + 1 := by simp; omega
  have hT4 := (bears_any (w.heap.size + 1 + 1) 3)
  replace hF4 := Lib.hid hF4
  replace hG4 := Lib.hid hG4
  replace hT4 := Lib.hid hT4
  go_wp2_with fail
  go_cut [6] (fun s6 wx => ∃ (hh : Nat) (AA : Option Addr) (cc : Nat), s6 = .pointer (some ⟨hh, 0, none⟩) ∧ w.heap.size + 1 + 1 < hh ∧ wx.cell? ⟨hh, 0, none⟩ = some (.bool sa) ∧ wx.cell? ⟨hh, 1, none⟩ = some (.slice AA xa.length cc) ∧ RO wx (w.heap.size + 1 + 1 + 1) (.slice AA xa.length cc) xa ∧ (Below w.heap.size w wx ∧ hh + 1 ≤ wx.heap.size) ∧ wx.cell? ⟨w.heap.size, 0, none⟩ = some (.bool s) ∧ wx.cell? ⟨w.heap.size, 1, none⟩ = some (.slice A n c) ∧ wx.cell? ⟨w.heap.size, 2, none⟩ = some (.slice B m d) ∧ wx.cell? ⟨w.heap.size + 1, 0, none⟩ = some (.bool t) ∧ wx.cell? ⟨w.heap.size + 1, 1, none⟩ = some (.slice A' n' c') ∧ wx.cell? ⟨w.heap.size + 1, 2, none⟩ = some (.slice B' m' d') ∧ AnyK wx (w.heap.size + 1 + 1) 3)
  case first =>
    go_region_held3 (fun w' => (Below w.heap.size w w' ∧ w.heap.size + 1 + 1 + 1 ≤ w'.heap.size) ∧ w'.cell? ⟨w.heap.size, 0, none⟩ = some (.bool s) ∧ w'.cell? ⟨w.heap.size, 1, none⟩ = some (.slice A n c) ∧ w'.cell? ⟨w.heap.size, 2, none⟩ = some (.slice B m d) ∧ w'.cell? ⟨w.heap.size + 1, 0, none⟩ = some (.bool t) ∧ w'.cell? ⟨w.heap.size + 1, 1, none⟩ = some (.slice A' n' c') ∧ w'.cell? ⟨w.heap.size + 1, 2, none⟩ = some (.slice B' m' d') ∧ AnyK w' (w.heap.size + 1 + 1) 3)
      (first | exact gD (T := fun W => AnyK W (w.heap.size + 1 + 1) 3) [(w.heap.size, 0, .bool s), (w.heap.size, 1, .slice A n c), (w.heap.size, 2, .slice B m d), (w.heap.size + 1, 0, .bool t), (w.heap.size + 1, 1, .slice A' n' c'), (w.heap.size + 1, 2, .slice B' m' d')] (fun h => h) (show (Below w.heap.size w w1 ∧ w.heap.size + 1 + 1 + 1 ≤ w1.heap.size) ∧ w1.cell? ⟨w.heap.size, 0, none⟩ = some (.bool s) ∧ w1.cell? ⟨w.heap.size, 1, none⟩ = some (.slice A n c) ∧ w1.cell? ⟨w.heap.size, 2, none⟩ = some (.slice B m d) ∧ w1.cell? ⟨w.heap.size + 1, 0, none⟩ = some (.bool t) ∧ w1.cell? ⟨w.heap.size + 1, 1, none⟩ = some (.slice A' n' c') ∧ w1.cell? ⟨w.heap.size + 1, 2, none⟩ = some (.slice B' m' d') ∧ AnyK w1 (w.heap.size + 1 + 1) 3 from ⟨⟨hb1, hlt⟩, a0, a1, a2, b0, b1, b2, RA⟩) | exact gC [(w.heap.size, 0, .bool s), (w.heap.size, 1, .slice A n c), (w.heap.size, 2, .slice B m d), (w.heap.size + 1, 0, .bool t), (w.heap.size + 1, 1, .slice A' n' c'), (w.heap.size + 1, 2, .slice B' m' d')] hF4.out hT4.out (by assumption) (by assumption) | exact gC [(w.heap.size, 0, .bool s), (w.heap.size, 1, .slice A n c), (w.heap.size, 2, .slice B m d), (w.heap.size + 1, 0, .bool t), (w.heap.size + 1, 1, .slice A' n' c'), (w.heap.size + 1, 2, .slice B' m' d')] hF4.out hT4.out (by assumption) (below_alloc1 _ _) | (have _h := hro4; exact gC [(w.heap.size, 0, .bool s), (w.heap.size, 1, .slice A n c), (w.heap.size, 2, .slice B m d), (w.heap.size + 1, 0, .bool t), (w.heap.size + 1, 1, .slice A' n' c'), (w.heap.size + 1, 2, .slice B' m' d')] hF4.out hT4.out (gC [(w.heap.size, 0, .bool s), (w.heap.size, 1, .slice A n c), (w.heap.size, 2, .slice B m d), (w.heap.size + 1, 0, .bool t), (w.heap.size + 1, 1, .slice A' n' c'), (w.heap.size + 1, 2, .slice B' m' d')] hF4.out hT4.out hSW4 hb4) (below_alloc1 _ _)) | (have _h := T4; exact gS2 (T := fun W => AnyK W (w.heap.size + 1 + 1) 3) [(w.heap.size, 0, .bool s), (w.heap.size, 1, .slice A n c), (w.heap.size, 2, .slice B m d), (w.heap.size + 1, 0, .bool t), (w.heap.size + 1, 1, .slice A' n' c'), (w.heap.size + 1, 2, .slice B' m' d')] (by omega) (fun p hp => by have := hF4.out p hp; omega) (fun h => any_far2 (by omega) h) (by assumption)))
      (first
        | (go_at_call 194; (with_reducible refine (K1.out _ (And.left (And.left (by assumption)))).mono ?_); rintro e3 w3 ⟨v3, rfl, hro3, hb3⟩; have hSW3 := (‹(Below w.heap.size w _ ∧ _ ≤ _) ∧ _ ∧ _ ∧ _ ∧ _ ∧ _ ∧ _ ∧ AnyK _ (w.heap.size + 1 + 1) 3›); have hB3 := hSW3.1.1.trans (below_le hb3 hSW3.1.1.size); have hM3 := Nat.le_trans hSW3.1.2 hb3.size; have hA3 := hSW3.2.2.2.2.2.2.2.later hb3; have hlt3 := hSW3.2.2.2.2.2.2.2.lt; have hlm3 := hSW3.1.2; obtain ⟨A3, c3, rfl, hl3, _⟩ := id hro3; (first | have T3 := Slots.new hb3 rfl | have T3 := Slots.newD hb3 rfl | skip))
        | (go_at_call 200; (first | (with_reducible refine (K2.out _ hl3 _ _ hro3.reads).mono ?_) | (with_reducible refine (K2.out _ hl3 _ _ (hro3.later (below_alloc1 _ _)).reads).mono ?_)); rintro e4 w4 ⟨v4, rfl, ⟨va4, rfl, hro4⟩, hb4⟩; have hSW4 := (‹(Below w.heap.size w _ ∧ _ ≤ _) ∧ _ ∧ _ ∧ _ ∧ _ ∧ _ ∧ _ ∧ AnyK _ (w.heap.size + 1 + 1) 3›); have hB4 := hSW4.1.1.trans (below_le hb4 hSW4.1.1.size); have hM4 := Nat.le_trans hSW4.1.2 hb4.size; have hA4 := hSW4.2.2.2.2.2.2.2.later hb4; have hlt4 := hSW4.2.2.2.2.2.2.2.lt; have hlm4 := hSW4.1.2; obtain ⟨A4, c4, rfl, _⟩ := id hro4; (first | have T4 := Slots.new hb4 rfl | have T4 := T3.later hb4 | skip); (first | obtain ⟨t0, t1, y0, y1⟩ := T4.k2 | skip)))
    all_goals (go_wp2_with fail; go_meet)
    all_goals first
      | (have S9 := Slots.newF (w := w4) (C := #[.bool sa, .slice A4 xa.length c4]) (t := 55) rfl rfl; obtain ⟨c0, c1, _, _⟩ := S9.k2; exact gMeet (T := fun W => AnyK W (w.heap.size + 1 + 1) 3) (M := w.heap.size + 1 + 1 + 1) [(w.heap.size, 0, .bool s), (w.heap.size, 1, .slice A n c), (w.heap.size, 2, .slice B m d), (w.heap.size + 1, 0, .bool t), (w.heap.size + 1, 1, .slice A' n' c'), (w.heap.size + 1, 2, .slice B' m' d')] (by omega) c0 c1 ((hro4.mono (by omega)).later (below_alloc1 _ _)) S9.1 (by assumption))
      | (have S9 := (T4.set 0 (by show 0 < 2; decide) (.bool sa)).set 1 (by show 1 < 2; decide) (.slice A4 xa.length c4); obtain ⟨c0, c1, _, _⟩ := S9.k2; exact gMeet (T := fun W => AnyK W (w.heap.size + 1 + 1) 3) (M := w.heap.size + 1 + 1 + 1) [(w.heap.size, 0, .bool s), (w.heap.size, 1, .slice A n c), (w.heap.size, 2, .slice B m d), (w.heap.size + 1, 0, .bool t), (w.heap.size + 1, 1, .slice A' n' c'), (w.heap.size + 1, 2, .slice B' m' d')] (by omega) c0 c1 (((hro4.far (p := ⟨_, 0, none⟩) (by first | exact T3.1 | simp) (.bool sa)).far (p := ⟨_, 1, none⟩) (by first | exact T3.1 | simp) (.slice A4 xa.length c4)).mono (by omega)) (by simpa using T4.1) (by assumption))
  case rest =>
    obtain ⟨h6, A5, c5, rfl, hgh, k0, k1, hro, ⟨hbx, hhx⟩, l0, l1, l2, m0, m1, m2, kA⟩ := hcut
    clear a0 a1 a2 b0 b1 b2 hb1 hlt RA hF4 hG4 hT4
    generalize wc = w5 at *
    have hio := hro.io
    have hF5 : ∀ p ∈ ([(h6, 0, .bool sa), (h6, 1, .slice A5 xa.length c5), (w.heap.size, 0, .bool s), (w.heap.size, 1, .slice A n c), (w.heap.size, 2, .slice B m d), (w.heap.size + 1, 0, .bool t), (w.heap.size + 1, 1, .slice A' n' c'), (w.heap.size + 1, 2, .slice B' m' d')] : List (Nat × Nat × Value)), p.1 < w5.heap.size := by simp; omega
    have hG5 : ∀ p ∈ ([(h6, 0, .bool sa), (h6, 1, .slice A5 xa.length c5), (w.heap.size, 0, .bool s), (w.heap.size, 1, .slice A n c), (w.heap.size, 2, .slice B m d), (w.heap.size + 1, 0, .bool t), (w.heap.size + 1, 1, .slice A' n' c'), (w.heap.size + 1, 2, .slice B' m' d')] : List (Nat × Nat × Value)), p.1 ≠ w.heap.size + 1 + 1 := by simp; omega
    have hT5 := (bears_io (bears_any (w.heap.size + 1 + 1) 3) (w.heap.size + 1 + 1 + 1) w5.heap.size (.slice A5 xa.length c5) xa)
    replace hF5 := Lib.hid hF5
    replace hG5 := Lib.hid hG5
    replace hT5 := Lib.hid hT5
    go_wp2_with fail
    go_cut [7] (fun s7 wx => ∃ (hh : Nat) (AA : Option Addr) (cc : Nat), s7 = .pointer (some ⟨hh, 0, none⟩) ∧ w.heap.size + 1 + 1 < hh ∧ wx.cell? ⟨hh, 0, none⟩ = some (.bool sb) ∧ wx.cell? ⟨hh, 1, none⟩ = some (.slice AA xb.length cc) ∧ RO wx (w.heap.size + 1 + 1 + 1) (.slice AA xb.length cc) xb ∧ (Below w.heap.size w wx ∧ hh + 1 ≤ wx.heap.size) ∧ wx.cell? ⟨h6, 0, none⟩ = some (.bool sa) ∧ wx.cell? ⟨h6, 1, none⟩ = some (.slice A5 xa.length c5) ∧ wx.cell? ⟨w.heap.size, 0, none⟩ = some (.bool s) ∧ wx.cell? ⟨w.heap.size, 1, none⟩ = some (.slice A n c) ∧ wx.cell? ⟨w.heap.size, 2, none⟩ = some (.slice B m d) ∧ wx.cell? ⟨w.heap.size + 1, 0, none⟩ = some (.bool t) ∧ wx.cell? ⟨w.heap.size + 1, 1, none⟩ = some (.slice A' n' c') ∧ wx.cell? ⟨w.heap.size + 1, 2, none⟩ = some (.slice B' m' d') ∧ (AnyK wx (w.heap.size + 1 + 1) 3) ∧ PO wx (w.heap.size + 1 + 1 + 1) w5.heap.size (.slice A5 xa.length c5) xa)
    case first =>
      go_region_held3 (fun w' => (Below w.heap.size w w' ∧ w5.heap.size ≤ w'.heap.size) ∧ w'.cell? ⟨h6, 0, none⟩ = some (.bool sa) ∧ w'.cell? ⟨h6, 1, none⟩ = some (.slice A5 xa.length c5) ∧ w'.cell? ⟨w.heap.size, 0, none⟩ = some (.bool s) ∧ w'.cell? ⟨w.heap.size, 1, none⟩ = some (.slice A n c) ∧ w'.cell? ⟨w.heap.size, 2, none⟩ = some (.slice B m d) ∧ w'.cell? ⟨w.heap.size + 1, 0, none⟩ = some (.bool t) ∧ w'.cell? ⟨w.heap.size + 1, 1, none⟩ = some (.slice A' n' c') ∧ w'.cell? ⟨w.heap.size + 1, 2, none⟩ = some (.slice B' m' d') ∧ (AnyK w' (w.heap.size + 1 + 1) 3) ∧ PO w' (w.heap.size + 1 + 1 + 1) w5.heap.size (.slice A5 xa.length c5) xa)
        (first | exact gD (T := fun W => (AnyK W (w.heap.size + 1 + 1) 3) ∧ PO W (w.heap.size + 1 + 1 + 1) w5.heap.size (.slice A5 xa.length c5) xa) [(h6, 0, .bool sa), (h6, 1, .slice A5 xa.length c5), (w.heap.size, 0, .bool s), (w.heap.size, 1, .slice A n c), (w.heap.size, 2, .slice B m d), (w.heap.size + 1, 0, .bool t), (w.heap.size + 1, 1, .slice A' n' c'), (w.heap.size + 1, 2, .slice B' m' d')] (fun h => h) (show (Below w.heap.size w w5 ∧ w5.heap.size ≤ w5.heap.size) ∧ w5.cell? ⟨h6, 0, none⟩ = some (.bool sa) ∧ w5.cell? ⟨h6, 1, none⟩ = some (.slice A5 xa.length c5) ∧ w5.cell? ⟨w.heap.size, 0, none⟩ = some (.bool s) ∧ w5.cell? ⟨w.heap.size, 1, none⟩ = some (.slice A n c) ∧ w5.cell? ⟨w.heap.size, 2, none⟩ = some (.slice B m d) ∧ w5.cell? ⟨w.heap.size + 1, 0, none⟩ = some (.bool t) ∧ w5.cell? ⟨w.heap.size + 1, 1, none⟩ = some (.slice A' n' c') ∧ w5.cell? ⟨w.heap.size + 1, 2, none⟩ = some (.slice B' m' d') ∧ (AnyK w5 (w.heap.size + 1 + 1) 3) ∧ PO w5 (w.heap.size + 1 + 1 + 1) w5.heap.size (.slice A5 xa.length c5) xa from ⟨⟨hbx, Nat.le_refl _⟩, k0, k1, l0, l1, l2, m0, m1, m2, kA, hio⟩) | exact gC [(h6, 0, .bool sa), (h6, 1, .slice A5 xa.length c5), (w.heap.size, 0, .bool s), (w.heap.size, 1, .slice A n c), (w.heap.size, 2, .slice B m d), (w.heap.size + 1, 0, .bool t), (w.heap.size + 1, 1, .slice A' n' c'), (w.heap.size + 1, 2, .slice B' m' d')] hF5.out hT5.out (by assumption) (by assumption) | exact gC [(h6, 0, .bool sa), (h6, 1, .slice A5 xa.length c5), (w.heap.size, 0, .bool s), (w.heap.size, 1, .slice A n c), (w.heap.size, 2, .slice B m d), (w.heap.size + 1, 0, .bool t), (w.heap.size + 1, 1, .slice A' n' c'), (w.heap.size + 1, 2, .slice B' m' d')] hF5.out hT5.out (by assumption) (below_alloc1 _ _) | (have _h := hro4; exact gC [(h6, 0, .bool sa), (h6, 1, .slice A5 xa.length c5), (w.heap.size, 0, .bool s), (w.heap.size, 1, .slice A n c), (w.heap.size, 2, .slice B m d), (w.heap.size + 1, 0, .bool t), (w.heap.size + 1, 1, .slice A' n' c'), (w.heap.size + 1, 2, .slice B' m' d')] hF5.out hT5.out (gC [(h6, 0, .bool sa), (h6, 1, .slice A5 xa.length c5), (w.heap.size, 0, .bool s), (w.heap.size, 1, .slice A n c), (w.heap.size, 2, .slice B m d), (w.heap.size + 1, 0, .bool t), (w.heap.size + 1, 1, .slice A' n' c'), (w.heap.size + 1, 2, .slice B' m' d')] hF5.out hT5.out hSW4 hb4) (below_alloc1 _ _)) | (have _h := T4; exact gS2 (T := fun W => (AnyK W (w.heap.size + 1 + 1) 3) ∧ PO W (w.heap.size + 1 + 1 + 1) w5.heap.size (.slice A5 xa.length c5) xa) [(h6, 0, .bool sa), (h6, 1, .slice A5 xa.length c5), (w.heap.size, 0, .bool s), (w.heap.size, 1, .slice A n c), (w.heap.size, 2, .slice B m d), (w.heap.size + 1, 0, .bool t), (w.heap.size + 1, 1, .slice A' n' c'), (w.heap.size + 1, 2, .slice B' m' d')] (by omega) (fun p hp => by have := hF5.out p hp; omega) (fun h => ⟨any_far2 (by omega) h.1, io_far2 (by omega) h.2⟩) (by assumption)))
        (first
          | (go_at_call 194; (with_reducible refine (K3.out _ (And.left (And.left (by assumption)))).mono ?_); rintro e3 w3 ⟨v3, rfl, hro3, hb3⟩; have hSW3 := (‹(Below w.heap.size w _ ∧ _ ≤ _) ∧ _ ∧ _ ∧ _ ∧ _ ∧ _ ∧ _ ∧ _ ∧ _ ∧ _›); have hB3 := hSW3.1.1.trans (below_le hb3 hSW3.1.1.size); have hM3 := Nat.le_trans hSW3.1.2 hb3.size; have hA3 := hSW3.2.2.2.2.2.2.2.2.2.1.later hb3; have hlt3 := hSW3.2.2.2.2.2.2.2.2.2.1.lt; have hlm3 := hSW3.1.2; obtain ⟨A3, c3, rfl, hl3, _⟩ := id hro3; (first | have T3 := Slots.new hb3 rfl | have T3 := Slots.newD hb3 rfl | skip))
          | (go_at_call 200; (first | (with_reducible refine (K4.out _ hl3 _ _ hro3.reads).mono ?_) | (with_reducible refine (K4.out _ hl3 _ _ (hro3.later (below_alloc1 _ _)).reads).mono ?_)); rintro e4 w4 ⟨v4, rfl, ⟨va4, rfl, hro4⟩, hb4⟩; have hSW4 := (‹(Below w.heap.size w _ ∧ _ ≤ _) ∧ _ ∧ _ ∧ _ ∧ _ ∧ _ ∧ _ ∧ _ ∧ _ ∧ _›); have hB4 := hSW4.1.1.trans (below_le hb4 hSW4.1.1.size); have hM4 := Nat.le_trans hSW4.1.2 hb4.size; have hA4 := hSW4.2.2.2.2.2.2.2.2.2.1.later hb4; have hlt4 := hSW4.2.2.2.2.2.2.2.2.2.1.lt; have hlm4 := hSW4.1.2; obtain ⟨A4, c4, rfl, _⟩ := id hro4; (first | have T4 := Slots.new hb4 rfl | have T4 := T3.later hb4 | skip); (first | obtain ⟨t0, t1, y0, y1⟩ := T4.k2 | skip)))
      all_goals (go_wp2_with fail; go_meet)
      all_goals first
        | (have S9 := Slots.newF (w := w4) (C := #[.bool sb, .slice A4 xb.length c4]) (t := 55) rfl rfl; obtain ⟨c0, c1, _, _⟩ := S9.k2; exact gMeet (T := fun W => (AnyK W (w.heap.size + 1 + 1) 3) ∧ PO W (w.heap.size + 1 + 1 + 1) w5.heap.size (.slice A5 xa.length c5) xa) (M := w5.heap.size) [(h6, 0, .bool sa), (h6, 1, .slice A5 xa.length c5), (w.heap.size, 0, .bool s), (w.heap.size, 1, .slice A n c), (w.heap.size, 2, .slice B m d), (w.heap.size + 1, 0, .bool t), (w.heap.size + 1, 1, .slice A' n' c'), (w.heap.size + 1, 2, .slice B' m' d')] (by omega) c0 c1 ((hro4.mono (by omega)).later (below_alloc1 _ _)) S9.1 (by assumption))
        | (have S9 := (T4.set 0 (by show 0 < 2; decide) (.bool sb)).set 1 (by show 1 < 2; decide) (.slice A4 xb.length c4); obtain ⟨c0, c1, _, _⟩ := S9.k2; exact gMeet (T := fun W => (AnyK W (w.heap.size + 1 + 1) 3) ∧ PO W (w.heap.size + 1 + 1 + 1) w5.heap.size (.slice A5 xa.length c5) xa) (M := w5.heap.size) [(h6, 0, .bool sa), (h6, 1, .slice A5 xa.length c5), (w.heap.size, 0, .bool s), (w.heap.size, 1, .slice A n c), (w.heap.size, 2, .slice B m d), (w.heap.size + 1, 0, .bool t), (w.heap.size + 1, 1, .slice A' n' c'), (w.heap.size + 1, 2, .slice B' m' d')] (by omega) c0 c1 (((hro4.far (p := ⟨_, 0, none⟩) (by first | exact T3.1 | simp) (.bool sb)).far (p := ⟨_, 1, none⟩) (by first | exact T3.1 | simp) (.slice A4 xb.length c4)).mono (by omega)) (by simpa using T4.1) (by assumption))
    case rest =>
      obtain ⟨h7, A7, c7, rfl, hgh7, n0, n1, hro7, ⟨hby, hhy⟩, k0', k1', _, _, l2', _, _, m2', kA', hio'⟩ := hcut
      clear k0 k1 l0 l1 l2 m0 m1 m2 kA hio hro hF5 hG5 hT5 hbx hhx
      generalize wc = w7 at *
      have ha7 := (show BigO w7 _ (.agg #[.bool sa, .slice A5 xa.length c5]) sa xa from ⟨_, rfl, hio'.1⟩).reads
      have hb7 := (show BigO w7 _ (.agg #[.bool sb, .slice A7 xb.length c7]) sb xb from ⟨_, rfl, hro7⟩).reads
      go_wp2_with fail
      refine (K5.out _ _ _ ha7 hb7).mono ?_
      rintro e w8 ⟨v8, rfl, ⟨va8, rfl, hro8⟩, hb8⟩
      have hlt7 := kA'.lt
      have l2a := cell_later (by omega) l2' hb8
      have m2a := cell_later (by omega) m2' hb8
      have kAa := kA'.later hb8
      have hbz := hby.trans (below_le hb8 hby.size)
      have hlt8 := kAa.lt
      obtain ⟨A8, c8, rfl, hl8, _⟩ := id hro8
      have al := below_alloc1 w8 (.cells #[.bool sn, .slice A8 xn.length c8] 55)
      have S8 := Slots.new (Below.refl _ (w8.alloc (.cells #[.bool sn, .slice A8 xn.length c8] 55))) (g := w8.heap.size) rfl
      obtain ⟨e0, e1, _, _⟩ := S8.k2
      have hsz8 := S8.1
      have l2b := cell_later (by omega) l2a al
      have m2b := cell_later (by omega) m2a al
      have kAb := kAa.later al
      have hbw := hbz.trans (below_le al hbz.size)
      have hro9 := (hro8.mono (base' := w.heap.size + 1 + 1 + 1) (by omega)).later al
      clear k0' k1' n0 n1 l2' m2' kA' hio' hro7 ha7 hb7 l2a m2a kAa hbz S8 al
      have hg8 : w.heap.size + 1 + 1 < w8.heap.size := hlt8
      go_wp2_with fail
      generalize w8.alloc (.cells #[.bool sn, .slice A8 xn.length c8] 55) = w9 at *
      clear hro8 hb8
      generalize w8.heap.size = h9 at *
      have hF9 : ∀ p ∈ ([(h9, 0, .bool sn), (h9, 1, .slice A8 xn.length c8), (w.heap.size, 2, .slice B m d), (w.heap.size + 1, 2, .slice B' m' d')] : List (Nat × Nat × Value)), p.1 < w9.heap.size := by simp; omega
      have hG9 : ∀ p ∈ ([(h9, 0, .bool sn), (h9, 1, .slice A8 xn.length c8), (w.heap.size, 2, .slice B m d), (w.heap.size + 1, 2, .slice B' m' d')] : List (Nat × Nat × Value)), p.1 ≠ w.heap.size + 1 + 1 := by simp; omega
      have hT9 := (bears_any (w.heap.size + 1 + 1) 3)
      replace hF9 := Lib.hid hF9
      replace hG9 := Lib.hid hG9
      replace hT9 := Lib.hid hT9
      go_region_held3 (fun w' => (Below w.heap.size w w' ∧ w9.heap.size ≤ w'.heap.size) ∧ w'.cell? ⟨h9, 0, none⟩ = some (.bool sn) ∧ w'.cell? ⟨h9, 1, none⟩ = some (.slice A8 xn.length c8) ∧ w'.cell? ⟨w.heap.size, 2, none⟩ = some (.slice B m d) ∧ w'.cell? ⟨w.heap.size + 1, 2, none⟩ = some (.slice B' m' d') ∧ AnyK w' (w.heap.size + 1 + 1) 3)
        (first | exact gD (T := fun W => AnyK W (w.heap.size + 1 + 1) 3) [(h9, 0, .bool sn), (h9, 1, .slice A8 xn.length c8), (w.heap.size, 2, .slice B m d), (w.heap.size + 1, 2, .slice B' m' d')] (fun h => h) (show (Below w.heap.size w w9 ∧ w9.heap.size ≤ w9.heap.size) ∧ w9.cell? ⟨h9, 0, none⟩ = some (.bool sn) ∧ w9.cell? ⟨h9, 1, none⟩ = some (.slice A8 xn.length c8) ∧ w9.cell? ⟨w.heap.size, 2, none⟩ = some (.slice B m d) ∧ w9.cell? ⟨w.heap.size + 1, 2, none⟩ = some (.slice B' m' d') ∧ AnyK w9 (w.heap.size + 1 + 1) 3 from ⟨⟨hbw, Nat.le_refl _⟩, e0, e1, l2b, m2b, kAb⟩) | exact gC [(h9, 0, .bool sn), (h9, 1, .slice A8 xn.length c8), (w.heap.size, 2, .slice B m d), (w.heap.size + 1, 2, .slice B' m' d')] hF9.out hT9.out (by assumption) (by assumption) | exact gC [(h9, 0, .bool sn), (h9, 1, .slice A8 xn.length c8), (w.heap.size, 2, .slice B m d), (w.heap.size + 1, 2, .slice B' m' d')] hF9.out hT9.out (by assumption) (below_alloc1 _ _) | exact gS3 (T := fun W => AnyK W (w.heap.size + 1 + 1) 3) (h := w.heap.size + 1 + 1) [(h9, 0, .bool sn), (h9, 1, .slice A8 xn.length c8), (w.heap.size, 2, .slice B m d), (w.heap.size + 1, 2, .slice B' m' d')] (by omega) hG9.out (fun h => any_set3 h) (by assumption))
        (first
          | (go_at_call 194; (with_reducible refine (K6.out _ (And.left (And.left (by assumption)))).mono ?_); rintro e3 w3 ⟨v3, rfl, hro3, hb3⟩; have hSW3 := (‹(Below w.heap.size w _ ∧ _ ≤ _) ∧ _ ∧ _ ∧ _ ∧ _ ∧ AnyK _ (w.heap.size + 1 + 1) 3›); have hB3 := hSW3.1.1.trans (below_le hb3 hSW3.1.1.size); have hM3 := Nat.le_trans hSW3.1.2 hb3.size; have hA3 := hSW3.2.2.2.2.2.later hb3; have hlt3 := hSW3.2.2.2.2.2.lt; have hlm3 := hSW3.1.2; have hr9 := hro9.later (show Below _ _ w3 from ⟨hb3.os, hb3.tape, hb3.output, hb3.size, hb3.block⟩); obtain ⟨A3, c3, rfl, hl3, _⟩ := id hro3)
          | (go_at_call 193; (with_reducible refine (K7.out _ _ _ rfl hl8 _ _ _ rfl hl3 _ hr9.reads hro3.reads).mono ?_); rintro e6 w6 ⟨v6, rfl, hrp, hb6⟩; have hSW6 := (‹(Below w.heap.size w _ ∧ _ ≤ _) ∧ _ ∧ _ ∧ _ ∧ _ ∧ AnyK _ (w.heap.size + 1 + 1) 3›); have hB6 := hSW6.1.1.trans (below_le hb6 hSW6.1.1.size); have hM6 := Nat.le_trans hSW6.1.2 hb6.size; have hA6 := hSW6.2.2.2.2.2.later hb6; have hlt6 := hSW6.2.2.2.2.2.lt; have hlm6 := hSW6.1.2; obtain ⟨A6, n6, c6, B6, m6, d6, rfl⟩ := hrp.shape; obtain ⟨_, _, _, q0, q1, q2, _z0, _z1, _z2⟩ := hA6.c3))
      have hp := hrp.mono (base' := w.heap.size + 1 + 1 + 1) (by omega)
      have hb := below3 hB6 (show w.heap.size ≤ w.heap.size + 1 + 1 by omega) (.bool R.neg) (.slice A6 n6 c6) (.slice B6 m6 d6)
      have f6 := hp.far3 (g := w.heap.size + 1 + 1) (Nat.lt_succ_self _) (.bool R.neg) (.slice A6 n6 c6) (.slice B6 m6 d6)
      go_wp2
      refine bodyPost_ret (v := .agg #[.bool R.neg, .slice A6 n6 c6, .slice B6 m6 d6]) (by simp [results, Tryz.results155, go_sem, q0, q1, q2]) rfl ⟨_, rfl, f6.mono (by omega), hb⟩

end Go.Proofs.YtlpomcihkjiokaaGreat

namespace Go.Proofs.YtlpomcihkjiokaaGreat
open Go.RowKit Go.Joins

theorem Slots.newE {w w1 : World} {C : Array Value} {t : TypeId} (h : w.alloc (.cells C t) = w1) {g : Nat} (hg : g = w.heap.size) : Slots w1 g C.toList := by
  subst h
  exact Slots.new (Below.refl _ _) hg
theorem nMeet {w W : World} {g k M h : Nat} {b0 o0 b1 o1 b2 o2 b3 o3 b4 o4 b5 o5 : Nat} {a0 a1 a2 a3 a4 a5 : Value} {A5 : Option Addr} {c5 : Nat} {S : Bool} {sums : List Int}
    (hg : g < h) (c0 : W.cell? ⟨h, 0, none⟩ = some (.bool S)) (c1 : W.cell? ⟨h, 1, none⟩ = some (.slice A5 sums.length c5)) (ro : RO W M (.slice A5 sums.length c5) sums) (hl : h < W.heap.size)
    (hS : (Below w.heap.size w W ∧ M ≤ W.heap.size) ∧ W.cell? ⟨b0, o0, none⟩ = some a0 ∧ W.cell? ⟨b1, o1, none⟩ = some a1 ∧ W.cell? ⟨b2, o2, none⟩ = some a2 ∧ W.cell? ⟨b3, o3, none⟩ = some a3 ∧ W.cell? ⟨b4, o4, none⟩ = some a4 ∧ W.cell? ⟨b5, o5, none⟩ = some a5 ∧ AnyK W g k) :
    ∃ (h' : Nat) (A' : Option Addr) (c' : Nat), Value.pointer (some ⟨h, 0, none⟩) = Value.pointer (some ⟨h', 0, none⟩) ∧ g < h' ∧ W.cell? ⟨h', 0, none⟩ = some (.bool S) ∧ W.cell? ⟨h', 1, none⟩ = some (.slice A' sums.length c') ∧ RO W M (.slice A' sums.length c') sums ∧
      (Below w.heap.size w W ∧ h' + 1 ≤ W.heap.size) ∧ W.cell? ⟨b2, o2, none⟩ = some a2 ∧ W.cell? ⟨b5, o5, none⟩ = some a5 ∧ AnyK W g k := by
  obtain ⟨⟨hS, hM⟩, e0, e1, e2, e3, e4, e5, hA⟩ := hS
  exact ⟨h, A5, c5, rfl, hg, c0, c1, ro, ⟨hS, hl⟩, e2, e5, hA⟩
end Go.Proofs.YtlpomcihkjiokaaGreat
