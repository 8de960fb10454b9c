/-
  Walks over the reference: quotient by a limb.
-/
import Derived.Test.YtkmmdajlbkbnmaaSp1
namespace Go.Proofs.Ytkmmdajlbkbnmaa
open Go.RowKit

set_option maxHeartbeats 800000 in
theorem sSmall_any (xs : List Int) (n c : Nat) (d : Int) (hn : xs.length = n) (hn1 : n ≤ 1048576) (hxd : FE.Dig xs) (hd0 : 0 < d) (hd1 : d ≤ 1000000000)
    (A : Option Addr) (w : World) (ha : RI w A xs) :
    Calls Try.prog 145 #[.slice A n c, .int .i64 d] w fun e w' => ∃ v, e = .returned (.tuple #[v, .int .i64 (FE.val xs % d)]) ∧ RO w' w.heap.size v (FE.toL (FE.val xs / d).toNat) ∧ Below w.heap.size w w' := by
  go_enter Try.func145, Try.ntmps145
  go_wp2_with (at_make; refine makeInts rfl _ _ _ rfl Try.underlying80 Try.intInfo n n _ _ rfl rfl rfl rfl (Nat.le_refl _) (by omega) ?_; intro harr0)
  go_loopw [7, 8] (fun r i wr => ∃ (k : Nat) (zs : List Int) (q : Int), k ≤ n ∧ i = .int .i64 ((k : Int) - 1) ∧ r = .int .i64 q ∧ 0 ≤ q ∧ q < d ∧ zs.length = n ∧ FE.Dig zs ∧ (∀ j, j < k → zs.getD j 0 = 0) ∧
      FE.val xs = d * FE.val zs + FE.bp k * q + FE.val (xs.take k) ∧ Arr wr w.heap.size n zs ∧ Below w.heap.size w wr) (fun _ i _ => (intOf i + 1).toNat)
  case atStart => exact ⟨n, List.replicate n 0, 0, Nat.le_refl _, rfl, rfl, by omega, hd0, by simp, FE.Dig.replicate n, fun j hj => by simp [hj], by rw [FE.val_replicate, List.take_of_length_le (by omega)]; simp, harr0, (Below.refl _ _).alloc (Nat.le_refl _) _⟩
  case round =>
    obtain ⟨k, zs, q, hk, rfl, rfl, hq0, hq1, hz, hzd, hzz, hv, harr, hbel⟩ := hrel
    have HZ := Lib.hid hz; clear hz
    have HV := Lib.hid hv; clear hv
    have HZZ := Lib.hid hzz; clear hzz
    clear harr0
    by_cases hk0 : k = 0
    · subst hk0
      have hfin : FE.val xs = d * FE.val zs + q := by have := HV.out; simp [FE.bp_zero, FE.val] at this; exact this
      have hz0 := FE.val_nonneg hzd
      have hq : FE.val xs / d = FE.val zs := by
        rw [hfin, Int.add_comm, Int.add_mul_ediv_left _ _ (by omega), Int.ediv_eq_zero_of_lt hq0 hq1]; omega
      have hr : FE.val xs % d = q := by rw [hfin, Int.add_comm, Int.add_mul_emod_self_left]; exact Int.emod_eq_of_lt hq0 hq1
      have ht : FE.trim zs = FE.toL (FE.val xs / d).toNat := FE.trim_eq hzd (by rw [hq]; omega)
      have HR := Lib.hid hr
      have HT := Lib.hid ht
      clear hfin hq hr ht
      go_wp2_with (go_at_call 146; refine (sTrim_any zs n n HZ.out (by omega) (Nat.le_refl _) _ _ harr.reads).mono ?_; rintro e w' ⟨rfl, rfl⟩)
      go_ret2
      refine ⟨_, by rw [HR.out]; rfl, ?_, hbel⟩
      rw [← HT.out]
      exact RO.of_trim harr (Nat.le_refl _)
    · obtain ⟨j, rfl⟩ := Nat.exists_eq_succ_of_ne_zero hk0
      obtain ⟨b1, o1, rfl, hb1, hc1⟩ := ha (by intro h; subst h; simp at hn; omega)
      have e1 := (hbel.cell (p := ⟨b1, o1 + j, none⟩) hb1).trans (hc1 j (by omega))
      have hzl := HZ.out
      have e2 := harr.cell j (by omega)
      have e3 := harr.frozen j
      have hstep := FE.divStep hd0 hq0 hq1 hxd (by omega) (hzl.trans hn.symm) hzd (HZZ.out j (by omega)) HV.out rfl
      have hx := hxd.getD j
      clear hc1 hzl
      generalize hxe : xs.getD j 0 = x at *
      generalize hye : zs.getD j 0 = y at *
      have hs1 := hstep.1
      have hs2 := hstep.2.1
      have hm0 := Int.emod_nonneg (q * 1000000000 + x) (show d ≠ 0 by omega)
      have hm1 := Int.emod_lt_of_pos (q * 1000000000 + x) hd0
      have HS := Lib.hid hstep; clear hstep hxe hye
      go_wp2
      go_roundw
      case rel =>
        refine ⟨j, zs.set j ((q * 1000000000 + x) / d), _, by omega, by go_num, rfl, hm0, hm1, by simp; exact HZ.out, HS.out.2.2.1, ?_, HS.out.2.2.2, harr.set j (by have := HZ.out; omega) _, hbel.setCell (Nat.le_refl _) _⟩
        intro j' hj'
        rw [FE.getD_set, if_neg (by omega)]
        exact HZZ.out j' (by omega)
      case measure => simp [intOf]

end Go.Proofs.Ytkmmdajlbkbnmaa
