/-
  Walks over the reference: sum and difference.
-/
import Derived.Test.YtkmmdajlbkbnmaaSp1
import Derived.Test.YtkmmdajlbkbnmaaMemB
namespace Go.Proofs.Ytkmmdajlbkbnmaa
open Go.RowKit

set_option maxRecDepth 100000 in
set_option maxHeartbeats 2000000 in
theorem sSub_any (xs ys : List Int) (n m c d : Nat) (hn : xs.length = n) (hm : ys.length = m) (hn1 : n ≤ 65536) (hmn : m ≤ n) (hxd : FE.Dig xs) (hyd : FE.Dig ys) (hle : FE.val ys ≤ FE.val xs)
    (A B : Option Addr) (w : World) (ha : RI w A xs) (hb : RI w B ys) :
    Calls Try.prog 148 #[.slice A n c, .slice B m d] w fun e w' => ∃ v, e = .returned v ∧ RO w' w.heap.size v (FE.toL (FE.val xs - FE.val ys).toNat) ∧ Below w.heap.size w w' := by
  have HLE := Lib.hid hle; clear hle
  go_enter Try.func148, Try.ntmps148
  go_wp2_with fail
  go_loopw [5, 6, 12] (fun v r i wr => ∃ (k : Nat) (zs : List Int) (bo : Int), k ≤ n ∧ i = .int .i64 k ∧ r = .int .i64 bo ∧ (bo = 0 ∨ bo = 1) ∧ zs.length = k ∧ FE.Dig zs ∧
        FE.val zs = FE.val (xs.take k) - FE.val (ys.take k) + FE.bp k * bo ∧ OI wr w.heap.size v zs ∧ Below w.heap.size w wr) (fun _ _ i _ => n - (intOf i).toNat)
  case atStart => exact ⟨0, [], 0, Nat.zero_le _, rfl, rfl, .inl rfl, rfl, FE.Dig.nil, by simp [FE.val], OI.of_arr (g := w.heap.size) (cap := 0) ⟨[], rfl, Nat.zero_le _, heap_alloc_new _ _⟩ (Nat.le_refl _), (Below.refl _ _).alloc (Nat.le_refl _) _⟩
  case round =>
      obtain ⟨k, zs, bo, hk, rfl, rfl, hbo, hz, hzd, hv, hown, hbel⟩ := hrel
      have HZ := Lib.hid hz; clear hz
      have HV := Lib.hid hv; clear hv
      have HBO := Lib.hid hbo
      have hbo1 : 0 ≤ bo ∧ bo ≤ 1 := by omega
      clear hbo
      by_cases hkn : k < n
      · obtain ⟨b1, o1, rfl, hb1', hc1⟩ := ha (by intro h; subst h; simp at hn; omega)
        have e2 := (hbel.cell (p := ⟨b1, o1 + k, none⟩) hb1').trans (hc1 k (by omega))
        clear hc1
        have hx := hxd.getD k
        have hstep := FE.subStep (xs := xs) (ys := ys) HZ.out hzd hxd hyd HBO.out HV.out rfl
        by_cases hkm : k < m
        · skip
          obtain ⟨b2, o2, rfl, hb2', hc2⟩ := hb (by intro h; subst h; simp at hm; omega)
          have e4 := (hbel.cell (p := ⟨b2, o2 + k, none⟩) hb2').trans (hc2 k (by omega))
          clear hc2
          have hy := hyd.getD k
          generalize hye : ys.getD k 0 = y at *
          generalize hxe : xs.getD k 0 = x at *
          clear hxe hye
          by_cases ht : x - bo - y < 0
          · rw [if_pos ht, if_pos ht] at hstep
            have HS := Lib.hid hstep; clear hstep
            go_wp2_with (at_builtin; refine append1 rfl _ _ _ rfl Try.underlying80 Try.intInfo w.heap.size _ zs rfl (hown.alloc _) ⟨wr.heap.size, 0, none⟩ _ rfl (cell_new1 _ _ _) (by have := HZ.out; omega) (by have := hbel.size; simp; omega) ?_)
            intro v' w1 hown1 hb1'
            go_wp2
            go_roundw
            case rel => exact ⟨k + 1, zs ++ [x - bo - y + 1000000000], 1, by omega, by go_num, rfl, .inr rfl, by simp; exact HZ.out, HS.out.1, HS.out.2, hown1, (hbel.alloc hbel.size _).trans hb1'⟩
            case measure => simp [intOf]; omega
          · rw [if_neg ht, if_neg ht] at hstep
            have HS := Lib.hid hstep; clear hstep
            go_wp2_with (at_builtin; refine append1 rfl _ _ _ rfl Try.underlying80 Try.intInfo w.heap.size _ zs rfl (hown.alloc _) ⟨wr.heap.size, 0, none⟩ _ rfl (cell_new1 _ _ _) (by have := HZ.out; omega) (by have := hbel.size; simp; omega) ?_)
            intro v' w1 hown1 hb1'
            go_wp2
            go_roundw
            case rel => exact ⟨k + 1, zs ++ [x - bo - y], 0, by omega, by go_num, rfl, .inl rfl, by simp; exact HZ.out, HS.out.1, HS.out.2, hown1, (hbel.alloc hbel.size _).trans hb1'⟩
            case measure => simp [intOf]; omega
        · skip
          have hy0 : ys.getD k 0 = 0 := by simp [List.getElem?_eq_none (show ys.length ≤ k by omega)]
          rw [hy0] at hstep
          simp only [Int.sub_zero] at hstep
          clear hy0
          generalize hxe : xs.getD k 0 = x at *
          clear hxe
          by_cases ht : x - bo < 0
          · rw [if_pos ht, if_pos ht] at hstep
            have HS := Lib.hid hstep; clear hstep
            go_wp2_with (at_builtin; refine append1 rfl _ _ _ rfl Try.underlying80 Try.intInfo w.heap.size _ zs rfl (hown.alloc _) ⟨wr.heap.size, 0, none⟩ _ rfl (cell_new1 _ _ _) (by have := HZ.out; omega) (by have := hbel.size; simp; omega) ?_)
            intro v' w1 hown1 hb1'
            go_wp2
            go_roundw
            case rel => exact ⟨k + 1, zs ++ [x - bo + 1000000000], 1, by omega, by go_num, rfl, .inr rfl, by simp; exact HZ.out, HS.out.1, HS.out.2, hown1, (hbel.alloc hbel.size _).trans hb1'⟩
            case measure => simp [intOf]; omega
          · rw [if_neg ht, if_neg ht] at hstep
            have HS := Lib.hid hstep; clear hstep
            go_wp2_with (at_builtin; refine append1 rfl _ _ _ rfl Try.underlying80 Try.intInfo w.heap.size _ zs rfl (hown.alloc _) ⟨wr.heap.size, 0, none⟩ _ rfl (cell_new1 _ _ _) (by have := HZ.out; omega) (by have := hbel.size; simp; omega) ?_)
            intro v' w1 hown1 hb1'
            go_wp2
            go_roundw
            case rel => exact ⟨k + 1, zs ++ [x - bo], 0, by omega, by go_num, rfl, .inl rfl, by simp; exact HZ.out, HS.out.1, HS.out.2, hown1, (hbel.alloc hbel.size _).trans hb1'⟩
            case measure => simp [intOf]; omega
      · have hkn' : k = n := by omega
        subst hkn'
        have hend := FE.subEnd (ys := ys) hxd (by omega) (HZ.out.trans hn.symm) hzd HBO.out (by rw [hn]; exact HV.out) HLE.out
        have HE := Lib.hid hend; clear hend
        obtain ⟨A', c', rfl, hlc, hri, hro⟩ := hown.form
        rw [HZ.out] at hlc ⊢
        go_wp2_with (go_at_call 146; refine (sTrim_any zs k c' HZ.out (by omega) hlc _ _ hri).mono ?_; rintro e w' ⟨rfl, rfl⟩)
        go_ret
        refine ⟨_, rfl, ?_, hbel⟩
        rw [← HE.out]
        exact hro

theorem sSub_nat (p q : Nat) (n m c d : Nat) (hn : (FE.toL p).length = n) (hm : (FE.toL q).length = m) (hn1 : n ≤ 65536) (hle : q ≤ p) (A B : Option Addr) (w : World) (ha : RI w A (FE.toL p)) (hb : RI w B (FE.toL q)) :
    Calls Try.prog 148 #[.slice A n c, .slice B m d] w fun e w' => ∃ v, e = .returned v ∧ RO w' w.heap.size v (FE.toL (p - q)) ∧ Below w.heap.size w w' := by
  have hl := toL_len_mono hle
  have h := sSub_any _ _ n m c d hn hm hn1 (by omega) (FE.toL_dig _) (FE.toL_dig _) (by rw [FE.val_toL, FE.val_toL]; omega) A B w ha hb
  rwa [FE.val_toL, FE.val_toL, ← Int.natCast_sub hle, Int.toNat_natCast] at h

end Go.Proofs.Ytkmmdajlbkbnmaa
