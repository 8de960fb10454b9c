/-
  Walks over the reference: the product.
-/
import Derived.Test.YtkmmdajlbkbnmaaSp1
namespace Go.Proofs.Ytkmmdajlbkbnmaa
open Go.RowKit

set_option maxHeartbeats 2000000 in
theorem sMul_core (xs ys : List Int) (n m c d : Nat) (hn : xs.length = n) (hm : ys.length = m) (hn1 : n ≤ 1048576) (hm1 : m ≤ 1048576) (hxd : FE.Dig xs) (hyd : FE.Dig ys) (hn0 : 0 < n) (hm0 : 0 < m)
    (A B : Option Addr) (w : World) (ha : RI w A xs) (hb : RI w B ys) :
    Calls Try.prog 149 #[.slice A n c, .slice B m d] w fun e w' => ∃ v, e = .returned v ∧ RO w' w.heap.size v (FE.toL (FE.val xs * FE.val ys).toNat) ∧ Below w.heap.size w w' := by
  have z1 : ((n : Int) == 0) = false := by simp; omega
  have z2 : ((m : Int) == 0) = false := by simp; omega
  go_enter Try.func149, Try.ntmps149
  go_wp2_with (at_make; refine makeInts rfl _ _ _ rfl Try.underlying80 Try.intInfo (n + m) (n + m) _ _ rfl rfl (by simp) (by simp) (Nat.le_refl _) (by omega) ?_; intro harr0)
  go_loopw [28] (fun i wr => ∃ (k : Nat) (zs : List Int), k ≤ n ∧ i = .int .i64 k ∧ zs.length = n + m ∧ FE.Dig zs ∧ (∀ j, k + m ≤ j → zs.getD j 0 = 0) ∧
      FE.val zs = FE.val (xs.take k) * FE.val ys ∧ Arr wr w.heap.size (n + m) zs ∧ Below w.heap.size w wr) (fun i _ => n - (intOf i).toNat)
  case atStart => exact ⟨0, List.replicate (n + m) 0, Nat.zero_le _, rfl, by simp, FE.Dig.replicate _, by intro j _; by_cases h : j < n + m <;> simp [h], by rw [FE.val_replicate]; simp [FE.val], harr0, (Below.refl _ _).alloc (Nat.le_refl _) _⟩
  case round =>
    obtain ⟨i, zs, hi, rfl, hz, hzd, hzz, hv, harr, hbel⟩ := hrel
    have HZ := Lib.hid hz; clear hz
    have HV := Lib.hid hv; clear hv
    have HZZ := Lib.hid hzz; clear hzz
    clear harr0
    by_cases hin : i < n
    · obtain ⟨b1, o1, rfl, hb1', hc1⟩ := ha (by intro h; subst h; simp at hn; omega)
      have e1 := (hbel.cell (p := ⟨b1, o1 + i, none⟩) hb1').trans (hc1 i (by omega))
      have hx := hxd.getD i
      clear hc1
      generalize hxe : xs.getD i 0 = x at *
      have HX := Lib.hid hxe; clear hxe
      go_wp2_with fail
      obtain ⟨wo, hwo⟩ : ∃ wo : World, wo = wr := ⟨_, rfl⟩
      subst hwo
      go_loopw [8, 35] (fun r kk wq => ∃ (k : Nat) (us : List Int) (cy : Int), k ≤ m ∧ kk = .int .i64 k ∧ r = .int .i64 cy ∧ 0 ≤ cy ∧ cy < 1000000000 ∧ us.length = n + m ∧ FE.Dig us ∧ (∀ j, i + m ≤ j → us.getD j 0 = 0) ∧
          FE.val us + FE.bp (i + k) * cy = FE.val (xs.take i) * FE.val ys + FE.bp i * (x * FE.val (ys.take k)) ∧ Arr wq w.heap.size (n + m) us ∧ Below w.heap.size w wq) (fun _ kk _ => m - (intOf kk).toNat)
      case atStart => exact ⟨0, zs, 0, Nat.zero_le _, rfl, rfl, by omega, by omega, HZ.out, hzd, HZZ.out, by rw [HV.out]; simp [FE.val], harr, hbel⟩
      case round =>
        clear harr hzd HZ HV HZZ hbel e1
        obtain ⟨k, us, cy, hk, rfl, rfl, hq0, hq1, hu, hud, huz, hv, harr, hbel⟩ := hrel
        have HU := Lib.hid hu; clear hu
        have HV := Lib.hid hv; clear hv
        have HUZ := Lib.hid huz; clear huz
        by_cases hkm : k < m
        · obtain ⟨b2, o2, rfl, hb2', hc2⟩ := hb (by intro h; subst h; simp at hm; omega)
          have e2 := (hbel.cell (p := ⟨b2, o2 + k, none⟩) hb2').trans (hc2 k (by omega))
          have hul := HU.out
          have e3 := harr.cell (i + k) (by omega)
          have e4 := harr.frozen (i + k)
          have hy := hyd.getD k
          have hu1 := hud.getD (i + k)
          have hmm := FE.mul_bound hx ⟨hy.1, by omega⟩
          have hstep := FE.mulStep hud (by omega) hx hyd hq0 hq1 HV.out rfl
          clear hc2 hul
          generalize hye : ys.getD k 0 = y at *
          generalize hze : us.getD (i + k) 0 = z at *
          have hp := hmm.1
          have hp1 := hmm.2.1
          generalize hpe : x * y = p at *
          have HP := Lib.hid hpe; clear hpe
          have HS := Lib.hid hstep; clear hstep hye hze
          rw [← HP.out] at hp hp1
          go_wp2
          go_roundw
          case rel =>
            refine ⟨k + 1, us.set (i + k) ((z + x * y + cy) % 1000000000), (z + x * y + cy) / 1000000000, by omega, by go_num, rfl, ?_, ?_, by simp; exact HU.out, ?_, ?_, ?_, harr.set (i + k) (by have := HU.out; omega) _, hbel.setCell (Nat.le_refl _) _⟩
            all_goals rw [HP.out]
            · exact HS.out.2.2.1
            · exact HS.out.2.2.2
            · exact HS.out.1
            · intro j' hj'
              rw [FE.getD_set, if_neg (by omega)]
              exact HUZ.out j' hj'
            · exact HS.out.2.1
          case measure => simp [intOf]; omega
        · have hkm' : k = m := by omega
          subst hkm'
          have hul := HU.out
          have e3 := harr.cell (i + k) (by omega)
          have e4 := harr.frozen (i + k)
          have hrow := FE.mulRow (xs := xs) (ys := ys) (i := i) hud (by omega) (by rw [hm]; exact HUZ.out _ (Nat.le_refl _)) hq0 hq1 (by rw [hm, HX.out]; exact HV.out)
          rw [hm] at hrow
          have hz0 : us.getD (i + k) 0 = 0 := HUZ.out _ (Nat.le_refl _)
          rw [hz0] at e3 hrow
          rw [Int.zero_add] at hrow
          clear hul hz0
          have HS := Lib.hid hrow; clear hrow
          go_wp2
          go_roundw
          case rel =>
            refine ⟨i + 1, us.set (i + k) cy, by omega, by go_num, by simp; exact HU.out, HS.out.1, ?_, HS.out.2, harr.set (i + k) (by have := HU.out; omega) _, hbel.setCell (Nat.le_refl _) _⟩
            intro j' hj'
            rw [FE.getD_set, if_neg (by omega)]
            exact HUZ.out j' (by omega)
          case measure => simp [intOf]; omega
    · have hin' : i = n := by omega
      subst hin'
      have ht : FE.trim zs = FE.toL (FE.val xs * FE.val ys).toNat := FE.trim_eq hzd (by
        rw [HV.out, List.take_of_length_le (by omega)]
        have := Int.mul_nonneg (FE.val_nonneg hxd) (FE.val_nonneg hyd)
        omega)
      have HT := Lib.hid ht
      clear ht
      go_wp2_with (go_at_call 146; refine (sTrim_any zs (i + m) (i + m) HZ.out (by omega) (Nat.le_refl _) _ _ harr.reads).mono ?_; rintro e w' ⟨rfl, rfl⟩)
      go_ret
      refine ⟨_, rfl, ?_, hbel⟩
      rw [← HT.out]
      exact RO.of_trim harr (Nat.le_refl _)

set_option maxHeartbeats 800000 in
theorem sMul_any (xs ys : List Int) (n m c d : Nat) (hn : xs.length = n) (hm : ys.length = m) (hn1 : n ≤ 1048576) (hm1 : m ≤ 1048576) (hxd : FE.Dig xs) (hyd : FE.Dig ys)
    (A B : Option Addr) (w : World) (ha : RI w A xs) (hb : RI w B ys) :
    Calls Try.prog 149 #[.slice A n c, .slice B m d] w fun e w' => ∃ v, e = .returned v ∧ RO w' w.heap.size v (FE.toL (FE.val xs * FE.val ys).toNat) ∧ Below w.heap.size w w' := by
  by_cases hn0 : n = 0
  · subst hn0
    have hx : xs = [] := List.eq_nil_of_length_eq_zero hn
    subst hx
    have e : FE.toL (FE.val [] * FE.val ys).toNat = [] := by simp [FE.val, FE.toL_zero]
    rw [e]
    clear e
    go_enter Try.func149, Try.ntmps149
    go_wp2
    go_ret
    exact ⟨_, rfl, RO.nil _ _ _ _ (Nat.zero_le _), Below.refl _ _⟩
  · by_cases hm0 : m = 0
    · subst hm0
      have hx : ys = [] := List.eq_nil_of_length_eq_zero hm
      subst hx
      have e : FE.toL (FE.val xs * FE.val []).toNat = [] := by simp [FE.val, FE.toL_zero]
      rw [e]
      clear e
      have z1 : ((n : Int) == 0) = false := by simp; omega
      have Z := Lib.hid hn0; clear hn0
      go_enter Try.func149, Try.ntmps149
      go_wp2
      go_ret
      exact ⟨_, rfl, RO.nil _ _ _ _ (Nat.zero_le _), Below.refl _ _⟩
    · exact sMul_core xs ys n m c d hn hm hn1 hm1 hxd hyd (by omega) (by omega) A B w ha hb

theorem sMul_nat (p q : Nat) (n m c d : Nat) (hn : (FE.toL p).length = n) (hm : (FE.toL q).length = m) (hn1 : n ≤ 65536) (hm1 : m ≤ 65536) (A B : Option Addr) (w : World) (ha : RI w A (FE.toL p)) (hb : RI w B (FE.toL q)) :
    Calls Try.prog 149 #[.slice A n c, .slice B m d] w fun e w' => ∃ v, e = .returned v ∧ RO w' w.heap.size v (FE.toL (p * q)) ∧ Below w.heap.size w w' := by
  have h := sMul_any _ _ n m c d hn hm (by omega) (by omega) (FE.toL_dig _) (FE.toL_dig _) A B w ha hb
  rwa [FE.val_toL, FE.val_toL, ← Int.natCast_mul, Int.toNat_natCast] at h

end Go.Proofs.Ytkmmdajlbkbnmaa
