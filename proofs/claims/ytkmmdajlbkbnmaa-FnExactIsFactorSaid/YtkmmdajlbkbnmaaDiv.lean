/-
  Walks: division of natural numbers: the short ways.
-/
import Derived.Test.YtkmmdajlbkbnmaaDivB
import Derived.Test.YtkmmdajlbkbnmaaScale
import Derived.Test.YtkmmdajlbkbnmaaTake
import Derived.Test.YtkmmdajlbkbnmaaGcdI
namespace Go.Proofs.Ytkmmdajlbkbnmaa
open Go.RowKit

theorem natCmp_val (xs ys : List Int) (n m c d : Nat) (hn : xs.length = n) (hm : ys.length = m) (hn1 : n ≤ 1048576) (hm1 : m ≤ 1048576) (hxd : FE.Dig xs) (hxt : FE.Top xs) (hyd : FE.Dig ys) (hyt : FE.Top ys)
    (v : Int) (hv : cmpI (FE.val xs) (FE.val ys) = v) (A B : Option Addr) (w : World) (ha : RI w A xs) (hb : RI w B ys) :
    Calls Try.prog 151 #[.slice A n c, .slice B m d] w fun e w' => e = .returned (.int .i64 v) ∧ ∃ k, w' = w.drewN k := by
  have h := natCmp_any xs ys n m c d hn hm (by omega) (by omega) A B w ha hb
  rwa [FE.cmpL_spec hxd hxt hyd hyt, hv] at h

set_option maxRecDepth 100000 in
set_option maxHeartbeats 1000000 in
theorem natDiv_lt (xs ys : List Int) (n m c d : Nat) (hn : xs.length = n) (hm : ys.length = m) (hn1 : n ≤ 65536) (hm1 : m ≤ 65536) (hxd : FE.Dig xs) (hxt : FE.Top xs) (hyd : FE.Dig ys) (hyt : FE.Top ys)
    (hlt : FE.val xs < FE.val ys) (A B : Option Addr) (w : World) (ha : RI w A xs) (hb : RI w B ys) :
    Calls Try.prog 138 #[.slice A n c, .slice B m d] w fun e w' => ∃ v1 v2, e = .returned (.tuple #[v1, v2]) ∧ RO w' w.heap.size v1 (FE.toL (FE.val xs / FE.val ys).toNat) ∧ RO w' w.heap.size v2 (FE.toL (FE.val xs % FE.val ys).toNat) ∧ Below w.heap.size w w' := by
  have hx0 := FE.val_nonneg hxd
  have hq : FE.val xs / FE.val ys = 0 := Int.ediv_eq_zero_of_lt hx0 hlt
  have hr : FE.val xs % FE.val ys = FE.val xs := Int.emod_eq_of_lt hx0 hlt
  have hL : FE.toL (FE.val xs).toNat = xs := FE.toL_val hxd hxt
  rw [hq, hr, hL, show FE.toL (0 : Int).toNat = [] from FE.toL_zero]
  have C := fun W h1 h2 => natCmp_val xs ys n m c d hn hm (by omega) (by omega) hxd hxt hyd hyt (-1) (by rw [cmpI, if_pos hlt]) A B W h1 h2
  have HC := Lib.hid C
  clear C hq hr hL hx0 hlt
  go_enter Try.func138, Try.ntmps138
  go_wp2_with fail
  refine (HC.out _ ha hb).mono ?_
  rintro e w1 ⟨rfl, k, rfl⟩
  go_wp2_with (go_at_call 107; refine (clone_any xs n c hn (by omega) A _ ((ha.drewN _).alloc _)).mono ?_; rintro e w2 ⟨v2, rfl, hro, hb2⟩)
  go_ret2
  have hsz : w.heap.size ≤ ((w.drewN k).alloc (.cells #[] 3)).heap.size := by simp
  exact ⟨_, _, rfl, RO.nil _ _ _ _ (Nat.zero_le _), hro.mono hsz, (below_drewN ((Below.refl _ _).alloc (Nat.le_refl _) _) k).trans (hb2.mono hsz)⟩

set_option maxRecDepth 100000 in
set_option maxHeartbeats 1000000 in
theorem natDiv_one (xs : List Int) (y : Int) (n c d : Nat) (hn : xs.length = n) (hn1 : n ≤ 65536) (hxd : FE.Dig xs) (hxt : FE.Top xs) (hy0 : 0 < y) (hy1 : y < 1000000000)
    (hge : y ≤ FE.val xs) (A B : Option Addr) (w : World) (ha : RI w A xs) (hb : RI w B [y]) :
    Calls Try.prog 138 #[.slice A n c, .slice B 1 d] w fun e w' => ∃ v1 v2, e = .returned (.tuple #[v1, v2]) ∧ RO w' w.heap.size v1 (FE.toL (FE.val xs / y).toNat) ∧ RO w' w.heap.size v2 (FE.toL (FE.val xs % y).toNat) ∧ Below w.heap.size w w' := by
  have hvy : FE.val [y] = y := by simp [FE.val]
  have hyd : FE.Dig [y] := FE.Dig.cons (by omega) hy1 FE.Dig.nil
  have hyt : FE.Top [y] := by intro h; simp; omega
  obtain ⟨b2, o2, rfl, hb2, hc2⟩ := hb (by simp)
  have e2 := hc2 0 (by simp)
  simp only [List.getD_cons_zero, Nat.add_zero] at e2
  have hr0 := Int.emod_nonneg (FE.val xs) (show y ≠ 0 by omega)
  have hr1 := Int.emod_lt_of_pos (FE.val xs) hy0
  obtain ⟨r, hr⟩ : ∃ r : Nat, FE.val xs % y = r := ⟨(FE.val xs % y).toNat, by omega⟩
  have hDS := fun W h1 => divSmall_any xs n c y hn (by omega) hxd hy0 (by omega) A W h1
  have hNO := fun W => natOf_any r (by omega) W
  rw [hr]
  simp only [hr] at hDS
  simp only [Int.toNat_natCast]
  have hrl : r ≤ 1000000000 := by omega
  have hsgn : ∀ v : Int, v = cmpI (FE.val xs) y → (v = 0 ∨ v = 1) := by intro v hv; unfold cmpI at hv; rw [if_neg (by omega)] at hv; split at hv <;> omega
  obtain ⟨s, hs⟩ : ∃ s, cmpI (FE.val xs) y = s := ⟨_, rfl⟩
  have C := fun W h1 h2 => natCmp_val xs [y] n 1 c d hn rfl (by omega) (by omega) hxd hxt hyd hyt s (by rw [hvy]; exact hs) A (some ⟨b2, o2, none⟩) W h1 h2
  have hs0 : 0 ≤ s := by have := hsgn s hs.symm; omega
  have HC := Lib.hid C
  have HDS := Lib.hid hDS
  have HNO := Lib.hid hNO
  clear C hDS hNO hs hsgn hvy hge hr hr0 hr1
  go_enter Try.func138, Try.ntmps138
  go_wp2_with fail
  refine (HC.out _ ha hb).mono ?_
  rintro e w1 ⟨rfl, k, rfl⟩
  go_wp2_with fail
  refine (HDS.out _ (ha.drewN k)).mono ?_
  rintro e w2 ⟨v2, rfl, hro2, hb2'⟩
  go_wp2_with fail
  refine (HNO.out _).mono ?_
  rintro e w3 ⟨v3, rfl, hro3, hb3⟩
  go_wp2
  go_ret2
  exact ⟨_, _, rfl, hro2.later hb3, hro3.mono hb2'.size, (below_self_drewN w k).trans (hb2'.trans (hb3.mono hb2'.size))⟩

end Go.Proofs.Ytkmmdajlbkbnmaa
