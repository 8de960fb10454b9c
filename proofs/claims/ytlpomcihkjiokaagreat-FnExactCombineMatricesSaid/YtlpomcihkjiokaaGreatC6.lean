/-
  Shared texts (C6).
-/
import Derived.Test.YtlpomcihkjiokaaGreatC1
import Derived.Test.YtlpomcihkjiokaaGreatC4
import Derived.Test.YtlpomcihkjiokaaGreatC5
import Derived.Test.YtlpomcihkjiokaaGreatC2
namespace Go.Proofs.YtlpomcihkjiokaaGreat
open Go.RowKit

set_option maxHeartbeats 1000000 in
theorem natAdd_any (xs ys : List Int) (n m c d : Nat) (hn : xs.length = n) (hm : ys.length = m) (hn1 : n ≤ 1048576) (hm1 : m ≤ 1048576) (hxd : FE.Dig xs) (hxt : FE.Top xs) (hyd : FE.Dig ys) (hyt : FE.Top ys)
    (A B : Option Addr) (w : World) (ha : RI w A xs) (hb : RI w B ys) :
    Calls Tryz.prog 211 #[.slice A n c, .slice B m d] w fun e w' => ∃ v, e = .returned v ∧ RO w' w.heap.size v (FE.toL (FE.val xs + FE.val ys).toNat) ∧ Below w.heap.size w w' := by
  by_cases hnm : n < m
  · go_enter Tryz.func211, Tryz.ntmps211
    go_wp2_with (at_make; refine makeInts rfl _ _ _ rfl Tryz.underlying40 Tryz.intInfo 0 (m + 1) _ _ rfl rfl rfl (by simp) (by omega) (by omega) ?_; intro harr0)
    go_loopw [5, 6, 22] (fun v c i wr => ∃ (k : Nat) (zs : List Int) (cy : Int), k ≤ m ∧ i = .int .i64 k ∧ c = .int .i64 cy ∧ 0 ≤ cy ∧ cy ≤ 1 ∧ zs.length = k ∧ FE.Dig zs ∧
        FE.val zs + FE.bp k * cy = FE.val (List.take k ys) + FE.val (List.take k xs) ∧ OI wr w.heap.size v zs ∧ Below w.heap.size w wr) (fun _ _ i _ => m - (intOf i).toNat)
    case atStart => exact ⟨0, [], 0, Nat.zero_le _, rfl, rfl, by omega, by omega, rfl, FE.Dig.nil, by simp [FE.val], OI.made (harr0.cut 0) (Nat.le_refl _), (Below.refl _ _).alloc (Nat.le_refl _) _⟩
    case round =>
      obtain ⟨k, zs, cy, hk, rfl, rfl, hc0, hc1, hz, hzd, hzv, hown, hbel⟩ := hrel
      have HZ := Lib.hid hz; clear hz
      have HV := Lib.hid hzv; clear hzv
      by_cases hkn : k < m
      · obtain ⟨b1, o1, rfl, hb1, hc1'⟩ := hb (by intro h; rw [h] at hm; simp at hm; omega)
        have e1 := (hbel.cell (p := ⟨b1, o1 + k, none⟩) hb1).trans (hc1' k (by omega))
        clear hc1'
        have hx := hyd.getD k
        by_cases hkm : k < n
        · obtain ⟨b2, o2, rfl, hb2, hc2'⟩ := ha (by intro h; rw [h] at hn; simp at hn; omega)
          have e2 := (hbel.cell (p := ⟨b2, o2 + k, none⟩) hb2).trans (hc2' k (by omega))
          clear hc2'
          have hy := hxd.getD k
          have hstep := FE.addStep (X := ys) (Y := xs) HZ.out hzd HV.out rfl
          generalize hxe : ys.getD k 0 = x at *
          generalize hye : xs.getD k 0 = y at *
          have HS := Lib.hid hstep; clear hstep
          clear hxe hye
          go_wp2_with (at_builtin; refine append1 rfl _ _ _ rfl Tryz.underlying40 Tryz.intInfo w.heap.size _ zs rfl (hown.alloc _) ⟨wr.heap.size, 0, none⟩ _ rfl (cell_new1 _ _ _) (by have := HZ.out; omega) (by have := hbel.size; simp; omega) ?_)
          intro v' w1 hown1 hb1'
          go_wp2
          go_roundw
          case rel => exact ⟨k + 1, _, (x + cy + y) / 1000000000, by omega, by go_num, by go_num, by omega, by omega, by simp; exact HZ.out, HS.out.1, HS.out.2, hown1, (hbel.alloc hbel.size _).trans hb1'⟩
          case measure => simp [intOf]; omega
        · have hstep := FE.addStep (X := ys) (Y := xs) HZ.out hzd HV.out rfl
          have hy0 : xs.getD k 0 = 0 := by simp [List.getElem?_eq_none (show xs.length ≤ k by omega)]
          rw [hy0, Int.add_zero] at hstep
          clear hy0
          generalize hxe : ys.getD k 0 = x at *
          have HS := Lib.hid hstep; clear hstep
          clear hxe
          go_wp2_with (at_builtin; refine append1 rfl _ _ _ rfl Tryz.underlying40 Tryz.intInfo w.heap.size _ zs rfl (hown.alloc _) ⟨wr.heap.size, 0, none⟩ _ rfl (cell_new1 _ _ _) (by have := HZ.out; omega) (by have := hbel.size; simp; omega) ?_)
          intro v' w1 hown1 hb1'
          go_wp2
          go_roundw
          case rel => exact ⟨k + 1, _, (x + cy) / 1000000000, by omega, by go_num, by go_num, by omega, by omega, by simp; exact HZ.out, HS.out.1, HS.out.2, hown1, (hbel.alloc hbel.size _).trans hb1'⟩
          case measure => simp [intOf]; omega
      · have hkn' : k = m := by omega
        subst hkn'
        have hend := FE.addEnd hyd hyt hxd (by omega) (HZ.out.trans hm.symm) hzd (cy := cy) (by rw [hm]; exact HV.out) hc0 hc1
        have HE := Lib.hid hend; clear hend
        by_cases hcy : 0 < cy
        · go_wp2_with (at_builtin; refine append1 rfl _ _ _ rfl Tryz.underlying40 Tryz.intInfo w.heap.size _ zs rfl (hown.alloc _) ⟨wr.heap.size, 0, none⟩ _ rfl (cell_new1 _ _ _) (by have := HZ.out; omega) (by have := hbel.size; simp; omega) ?_)
          intro v' w1 hown1 hb1'
          go_wp2
          go_ret
          have he := HE.out
          rw [if_pos hcy] at he
          rw [he, Int.add_comm (FE.val ys)] at hown1
          exact ⟨_, rfl, RO.of_own hown1, (hbel.alloc hbel.size _).trans hb1'⟩
        · go_wp2
          go_ret
          have he := HE.out
          rw [if_neg (by omega)] at he
          rw [he, Int.add_comm (FE.val ys)] at hown
          exact ⟨_, rfl, RO.of_own hown, hbel⟩
  · go_enter Tryz.func211, Tryz.ntmps211
    go_wp2_with (at_make; refine makeInts rfl _ _ _ rfl Tryz.underlying40 Tryz.intInfo 0 (n + 1) _ _ rfl rfl rfl (by simp) (by omega) (by omega) ?_; intro harr0)
    go_loopw [5, 6, 22] (fun v c i wr => ∃ (k : Nat) (zs : List Int) (cy : Int), k ≤ n ∧ i = .int .i64 k ∧ c = .int .i64 cy ∧ 0 ≤ cy ∧ cy ≤ 1 ∧ zs.length = k ∧ FE.Dig zs ∧
        FE.val zs + FE.bp k * cy = FE.val (List.take k xs) + FE.val (List.take k ys) ∧ OI wr w.heap.size v zs ∧ Below w.heap.size w wr) (fun _ _ i _ => n - (intOf i).toNat)
    case atStart => exact ⟨0, [], 0, Nat.zero_le _, rfl, rfl, by omega, by omega, rfl, FE.Dig.nil, by simp [FE.val], OI.made (harr0.cut 0) (Nat.le_refl _), (Below.refl _ _).alloc (Nat.le_refl _) _⟩
    case round =>
      obtain ⟨k, zs, cy, hk, rfl, rfl, hc0, hc1, hz, hzd, hzv, hown, hbel⟩ := hrel
      have HZ := Lib.hid hz; clear hz
      have HV := Lib.hid hzv; clear hzv
      by_cases hkn : k < n
      · obtain ⟨b1, o1, rfl, hb1, hc1'⟩ := ha (by intro h; rw [h] at hn; simp at hn; omega)
        have e1 := (hbel.cell (p := ⟨b1, o1 + k, none⟩) hb1).trans (hc1' k (by omega))
        clear hc1'
        have hx := hxd.getD k
        by_cases hkm : k < m
        · obtain ⟨b2, o2, rfl, hb2, hc2'⟩ := hb (by intro h; rw [h] at hm; simp at hm; omega)
          have e2 := (hbel.cell (p := ⟨b2, o2 + k, none⟩) hb2).trans (hc2' k (by omega))
          clear hc2'
          have hy := hyd.getD k
          have hstep := FE.addStep (X := xs) (Y := ys) HZ.out hzd HV.out rfl
          generalize hxe : xs.getD k 0 = x at *
          generalize hye : ys.getD k 0 = y at *
          have HS := Lib.hid hstep; clear hstep
          clear hxe hye
          go_wp2_with (at_builtin; refine append1 rfl _ _ _ rfl Tryz.underlying40 Tryz.intInfo w.heap.size _ zs rfl (hown.alloc _) ⟨wr.heap.size, 0, none⟩ _ rfl (cell_new1 _ _ _) (by have := HZ.out; omega) (by have := hbel.size; simp; omega) ?_)
          intro v' w1 hown1 hb1'
          go_wp2
          go_roundw
          case rel => exact ⟨k + 1, _, (x + cy + y) / 1000000000, by omega, by go_num, by go_num, by omega, by omega, by simp; exact HZ.out, HS.out.1, HS.out.2, hown1, (hbel.alloc hbel.size _).trans hb1'⟩
          case measure => simp [intOf]; omega
        · have hstep := FE.addStep (X := xs) (Y := ys) HZ.out hzd HV.out rfl
          have hy0 : ys.getD k 0 = 0 := by simp [List.getElem?_eq_none (show ys.length ≤ k by omega)]
          rw [hy0, Int.add_zero] at hstep
          clear hy0
          generalize hxe : xs.getD k 0 = x at *
          have HS := Lib.hid hstep; clear hstep
          clear hxe
          go_wp2_with (at_builtin; refine append1 rfl _ _ _ rfl Tryz.underlying40 Tryz.intInfo w.heap.size _ zs rfl (hown.alloc _) ⟨wr.heap.size, 0, none⟩ _ rfl (cell_new1 _ _ _) (by have := HZ.out; omega) (by have := hbel.size; simp; omega) ?_)
          intro v' w1 hown1 hb1'
          go_wp2
          go_roundw
          case rel => exact ⟨k + 1, _, (x + cy) / 1000000000, by omega, by go_num, by go_num, by omega, by omega, by simp; exact HZ.out, HS.out.1, HS.out.2, hown1, (hbel.alloc hbel.size _).trans hb1'⟩
          case measure => simp [intOf]; omega
      · have hkn' : k = n := by omega
        subst hkn'
        have hend := FE.addEnd hxd hxt hyd (by omega) (HZ.out.trans hn.symm) hzd (cy := cy) (by rw [hn]; exact HV.out) hc0 hc1
        have HE := Lib.hid hend; clear hend
        by_cases hcy : 0 < cy
        · go_wp2_with (at_builtin; refine append1 rfl _ _ _ rfl Tryz.underlying40 Tryz.intInfo w.heap.size _ zs rfl (hown.alloc _) ⟨wr.heap.size, 0, none⟩ _ rfl (cell_new1 _ _ _) (by have := HZ.out; omega) (by have := hbel.size; simp; omega) ?_)
          intro v' w1 hown1 hb1'
          go_wp2
          go_ret
          have he := HE.out
          rw [if_pos hcy] at he
          rw [he] at hown1
          exact ⟨_, rfl, RO.of_own hown1, (hbel.alloc hbel.size _).trans hb1'⟩
        · go_wp2
          go_ret
          have he := HE.out
          rw [if_neg (by omega)] at he
          rw [he] at hown
          exact ⟨_, rfl, RO.of_own hown, hbel⟩

end Go.Proofs.YtlpomcihkjiokaaGreat

namespace Go.Proofs.YtlpomcihkjiokaaGreat
open Go.RowKit

set_option maxHeartbeats 2000000 in
theorem natMul_any (xs ys : List Int) (n m c d : Nat) (hn : xs.length = n) (hm : ys.length = m) (hn1 : n ≤ 1048576) (hm1 : m ≤ 1048576) (hxd : FE.Dig xs) (hyd : FE.Dig ys)
    (A B : Option Addr) (w : World) (ha : RI w A xs) (hb : RI w B ys) :
    Calls Tryz.prog 119 #[.slice A n c, .slice B m d] w fun e w' => ∃ v, e = .returned v ∧ RO w' w.heap.size v (FE.toL (FE.val xs * FE.val ys).toNat) ∧ Below w.heap.size w w' := by
  go_enter Tryz.func119, Tryz.ntmps119
  go_wp2_with (at_make; refine makeInts rfl _ _ _ rfl Tryz.underlying40 Tryz.intInfo (n + m) (n + m) _ _ rfl rfl (by simp) (by simp) (Nat.le_refl _) (by omega) ?_; intro harr0)
  go_loopw [20] (fun i wr => ∃ (k : Nat) (zs : List Int), k ≤ n ∧ i = .int .i64 k ∧ zs.length = n + m ∧ FE.Dig zs ∧ (∀ j, k + m ≤ j → zs.getD j 0 = 0) ∧
      FE.val zs = FE.val (xs.take k) * FE.val ys ∧ Arr wr w.heap.size (n + m) zs ∧ Below w.heap.size w wr) (fun i _ => n - (intOf i).toNat)
  case atStart => exact ⟨0, List.replicate (n + m) 0, Nat.zero_le _, rfl, by simp, FE.Dig.replicate _, by intro j _; by_cases h : j < n + m <;> simp [h], by rw [FE.val_replicate]; simp [FE.val], harr0, (Below.refl _ _).alloc (Nat.le_refl _) _⟩
  case round =>
    obtain ⟨i, zs, hi, rfl, hz, hzd, hzz, hv, harr, hbel⟩ := hrel
    have HZ := Lib.hid hz; clear hz
    have HV := Lib.hid hv; clear hv
    have HZZ := Lib.hid hzz; clear hzz
    clear harr0
    by_cases hin : i < n
    · obtain ⟨b1, o1, rfl, hb1', hc1⟩ := ha (by intro h; subst h; simp at hn; omega)
      have e1 := (hbel.cell (p := ⟨b1, o1 + i, none⟩) hb1').trans (hc1 i (by omega))
      have hx := hxd.getD i
      clear hc1
      generalize hxe : xs.getD i 0 = x at *
      have HX := Lib.hid hxe; clear hxe
      go_wp2_with fail
      obtain ⟨wo, hwo⟩ : ∃ wo : World, wo = wr := ⟨_, rfl⟩
      subst hwo
      go_loopw [8, 27] (fun r kk wq => ∃ (k : Nat) (us : List Int) (cy : Int), k ≤ m ∧ kk = .int .i64 k ∧ r = .int .i64 cy ∧ 0 ≤ cy ∧ cy < 1000000000 ∧ us.length = n + m ∧ FE.Dig us ∧ (∀ j, i + m ≤ j → us.getD j 0 = 0) ∧
          FE.val us + FE.bp (i + k) * cy = FE.val (xs.take i) * FE.val ys + FE.bp i * (x * FE.val (ys.take k)) ∧ Arr wq w.heap.size (n + m) us ∧ Below w.heap.size w wq) (fun _ kk _ => m - (intOf kk).toNat)
      case atStart => exact ⟨0, zs, 0, Nat.zero_le _, rfl, rfl, by omega, by omega, HZ.out, hzd, HZZ.out, by rw [HV.out]; simp [FE.val], harr, hbel⟩
      case round =>
        clear harr hzd HZ HV HZZ hbel e1
        obtain ⟨k, us, cy, hk, rfl, rfl, hq0, hq1, hu, hud, huz, hv, harr, hbel⟩ := hrel
        have HU := Lib.hid hu; clear hu
        have HV := Lib.hid hv; clear hv
        have HUZ := Lib.hid huz; clear huz
        by_cases hkm : k < m
        · obtain ⟨b2, o2, rfl, hb2', hc2⟩ := hb (by intro h; subst h; simp at hm; omega)
          have e2 := (hbel.cell (p := ⟨b2, o2 + k, none⟩) hb2').trans (hc2 k (by omega))
          have hul := HU.out
          have e3 := harr.cell (i + k) (by omega)
          have e4 := harr.frozen (i + k)
          have hy := hyd.getD k
          have hu1 := hud.getD (i + k)
          have hmm := FE.mul_bound hx ⟨hy.1, by omega⟩
          have hstep := FE.mulStep hud (by omega) hx hyd hq0 hq1 HV.out rfl
          clear hc2 hul
          generalize hye : ys.getD k 0 = y at *
          generalize hze : us.getD (i + k) 0 = z at *
          have hp := hmm.1
          have hp1 := hmm.2.1
          generalize hpe : x * y = p at *
          have HP := Lib.hid hpe; clear hpe
          have HS := Lib.hid hstep; clear hstep hye hze
          rw [← HP.out] at hp hp1
          go_wp2
          go_roundw
          case rel =>
            refine ⟨k + 1, us.set (i + k) ((z + x * y + cy) % 1000000000), (z + x * y + cy) / 1000000000, by omega, by go_num, rfl, ?_, ?_, by simp; exact HU.out, ?_, ?_, ?_, harr.set (i + k) (by have := HU.out; omega) _, hbel.setCell (Nat.le_refl _) _⟩
            all_goals rw [HP.out]
            · exact HS.out.2.2.1
            · exact HS.out.2.2.2
            · exact HS.out.1
            · intro j' hj'
              rw [FE.getD_set, if_neg (by omega)]
              exact HUZ.out j' hj'
            · exact HS.out.2.1
          case measure => simp [intOf]; omega
        · have hkm' : k = m := by omega
          subst hkm'
          have hul := HU.out
          have e3 := harr.cell (i + k) (by omega)
          have e4 := harr.frozen (i + k)
          have hrow := FE.mulRow (xs := xs) (ys := ys) (i := i) hud (by omega) (by rw [hm]; exact HUZ.out _ (Nat.le_refl _)) hq0 hq1 (by rw [hm, HX.out]; exact HV.out)
          rw [hm] at hrow
          have hz0 : us.getD (i + k) 0 = 0 := HUZ.out _ (Nat.le_refl _)
          rw [hz0] at e3 hrow
          rw [Int.zero_add] at hrow
          clear hul hz0
          have HS := Lib.hid hrow; clear hrow
          go_wp2
          go_roundw
          case rel =>
            refine ⟨i + 1, us.set (i + k) cy, by omega, by go_num, by simp; exact HU.out, HS.out.1, ?_, HS.out.2, harr.set (i + k) (by have := HU.out; omega) _, hbel.setCell (Nat.le_refl _) _⟩
            intro j' hj'
            rw [FE.getD_set, if_neg (by omega)]
            exact HUZ.out j' (by omega)
          case measure => simp [intOf]; omega
    · have hin' : i = n := by omega
      subst hin'
      have ht : FE.trim zs = FE.toL (FE.val xs * FE.val ys).toNat := FE.trim_eq hzd (by
        rw [HV.out, List.take_of_length_le (by omega)]
        have := Int.mul_nonneg (FE.val_nonneg hxd) (FE.val_nonneg hyd)
        omega)
      have HT := Lib.hid ht
      clear ht
      go_wp2_with (go_at_call 183; refine (trimmed_any zs (i + m) (i + m) HZ.out (by omega) (Nat.le_refl _) _ _ harr.reads).mono ?_; rintro e w' ⟨rfl, rfl⟩)
      go_ret
      refine ⟨_, rfl, ?_, hbel⟩
      rw [← HT.out]
      exact RO.of_trim harr (Nat.le_refl _)

end Go.Proofs.YtlpomcihkjiokaaGreat

namespace Go.Proofs.YtlpomcihkjiokaaGreat
open Go.RowKit

set_option maxRecDepth 100000 in
set_option maxHeartbeats 2000000 in
theorem natSub_any (xs ys : List Int) (n m c d : Nat) (hn : xs.length = n) (hm : ys.length = m) (hn1 : n ≤ 1048576) (hmn : m ≤ n) (hxd : FE.Dig xs) (hyd : FE.Dig ys) (hle : FE.val ys ≤ FE.val xs)
    (A B : Option Addr) (w : World) (ha : RI w A xs) (hb : RI w B ys) :
    Calls Tryz.prog 212 #[.slice A n c, .slice B m d] w fun e w' => ∃ v, e = .returned v ∧ RO w' w.heap.size v (FE.toL (FE.val xs - FE.val ys).toNat) ∧ Below w.heap.size w w' := by
  have HLE := Lib.hid hle; clear hle
  by_cases hn0 : n = 0
  · subst hn0
    have hx : xs = [] := List.eq_nil_of_length_eq_zero hn
    have hy : ys = [] := List.eq_nil_of_length_eq_zero (by omega)
    subst hx hy
    have hm0 : m = 0 := by omega
    subst hm0
    go_enter Tryz.func212, Tryz.ntmps212
    go_wp2_with fail
    refine (clone_any [] 0 c rfl (by omega) A _ ha).mono ?_
    rintro e w1 ⟨v1, rfl, ⟨A1, c1, rfl, hl1, hm1, hr1⟩, hb1⟩
    simp only [List.length_nil]
    go_wp2_with fail
    go_loop [12] (fun i => i = .int .i64 0) (fun _ => 0)
    case atStart => rfl
    case round =>
      subst hrel
      go_wp2_with (go_at_call 183; refine (trimmed_any [] 0 c1 rfl (by omega) (by omega) _ _ (RI.nil _ _)).mono ?_; rintro e w' ⟨rfl, rfl⟩)
      go_ret
      exact ⟨_, rfl, by simp [FE.val, FE.toL_zero]; exact RO.nil _ _ _ _ hm1, hb1⟩
  · go_enter Tryz.func212, Tryz.ntmps212
    go_wp2_with fail
    refine (clone_any xs n c hn (by omega) A _ ha).mono ?_
    rintro e w1 ⟨v1, rfl, ⟨A1, c1, rfl, hl1, hm1, hr1⟩, hb1⟩
    obtain ⟨g, rfl, hg, harr1⟩ := hr1 (by intro h; subst h; simp at hn; omega)
    simp only [hn]
    rw [hn] at hl1
    clear hm1 ha
    have hgs := harr1.lt
    go_wp2_with fail
    go_loopw [6, 12] (fun r i wr => ∃ (k : Nat) (zs : List Int) (bo : Int), k ≤ n ∧ i = .int .i64 k ∧ r = .int .i64 bo ∧ (bo = 0 ∨ bo = 1) ∧ zs.length = k ∧ FE.Dig zs ∧
        FE.val zs = FE.val (xs.take k) - FE.val (ys.take k) + FE.bp k * bo ∧ Arr wr g c1 (zs ++ xs.drop k) ∧ Below w.heap.size w wr) (fun _ i _ => n - (intOf i).toNat)
    case atStart => exact ⟨0, [], 0, Nat.zero_le _, rfl, rfl, .inl rfl, rfl, FE.Dig.nil, by simp [FE.val], by simpa using harr1, hb1⟩
    case round =>
      obtain ⟨k, zs, bo, hk, rfl, rfl, hbo, hz, hzd, hv, harr, hbel⟩ := hrel
      have HZ := Lib.hid hz; clear hz
      have HV := Lib.hid hv; clear hv
      have HBO := Lib.hid hbo
      have hbo1 : 0 ≤ bo ∧ bo ≤ 1 := by omega
      clear hbo
      by_cases hkn : k < n
      · have hlen : k < (zs ++ xs.drop k).length := by simp [HZ.out]; omega
        have e2 := harr.cell k hlen
        have e3 := harr.frozen k
        rw [FE.getD_mid _ _ _ HZ.out (by omega)] at e2
        have hx := hxd.getD k
        have hstep := FE.subStep (xs := xs) (ys := ys) HZ.out hzd hxd hyd HBO.out HV.out rfl
        have hset := fun t => FE.set_mid zs xs k t HZ.out (by omega)
        have hfin : ∀ t (wz : World), Arr wz g c1 ((zs ++ xs.drop k).set k t) → Arr wz g c1 ((zs ++ [t]) ++ xs.drop (k + 1)) := fun t wz h => by rwa [hset] at h
        clear hset
        have HF := Lib.hid hfin; clear hfin
        by_cases hkm : k < m
        · obtain ⟨b2, o2, rfl, hb2', hc2⟩ := hb (by intro h; subst h; simp at hm; omega)
          have e4 := (hbel.cell (p := ⟨b2, o2 + k, none⟩) hb2').trans (hc2 k (by omega))
          have hne : b2 ≠ g := by omega
          have hy := hyd.getD k
          clear hc2
          generalize hye : ys.getD k 0 = y at *
          generalize hxe : xs.getD k 0 = x at *
          clear hxe hye
          by_cases ht : x - bo - y < 0
          · rw [if_pos ht, if_pos ht] at hstep
            have HS := Lib.hid hstep; clear hstep
            go_wp2
            refine wp_tail 10 (by kernel_rfl) (by kernel_rfl) ?_
            simp only [List.take_succ_cons, List.take_zero, List.drop_succ_cons, List.drop_zero]
            repeat still_step
            refine wpStill_nil ?_
            go_wp2
            exact ⟨⟨k + 1, zs ++ [x - bo - y + 1000000000], 1, by omega, by go_num, rfl, .inr rfl, by simp; exact HZ.out, HS.out.1, HS.out.2, HF.out _ _ (harr.set3 k hlen _ _ _).drew, (((hbel.setCell hg _).setCell hg _).setCell hg _).drew⟩, by simp [intOf]; omega⟩
          · rw [if_neg ht, if_neg ht] at hstep
            have HS := Lib.hid hstep; clear hstep
            go_wp2
            refine wp_tail 10 (by kernel_rfl) (by kernel_rfl) ?_
            simp only [List.take_succ_cons, List.take_zero, List.drop_succ_cons, List.drop_zero]
            repeat still_step
            refine wpStill_nil ?_
            go_wp2
            exact ⟨⟨k + 1, zs ++ [x - bo - y], 0, by omega, by go_num, rfl, .inl rfl, by simp; exact HZ.out, HS.out.1, HS.out.2, HF.out _ _ (harr.set2 k hlen _ _).drew, ((hbel.setCell hg _).setCell hg _).drew⟩, by simp [intOf]; omega⟩
        · have hy0 : ys.getD k 0 = 0 := by simp [List.getElem?_eq_none (show ys.length ≤ k by omega)]
          rw [hy0] at hstep
          simp only [Int.sub_zero] at hstep
          clear hy0
          generalize hxe : xs.getD k 0 = x at *
          clear hxe
          by_cases ht : x - bo < 0
          · rw [if_pos ht, if_pos ht] at hstep
            have HS := Lib.hid hstep; clear hstep
            go_wp2
            exact ⟨⟨k + 1, zs ++ [x - bo + 1000000000], 1, by omega, by go_num, rfl, .inr rfl, by simp; exact HZ.out, HS.out.1, HS.out.2, HF.out _ _ (harr.set2 k hlen _ _), (hbel.setCell hg _).setCell hg _⟩, by simp [intOf]; omega⟩
          · rw [if_neg ht, if_neg ht] at hstep
            have HS := Lib.hid hstep; clear hstep
            go_wp2
            exact ⟨⟨k + 1, zs ++ [x - bo], 0, by omega, by go_num, rfl, .inl rfl, by simp; exact HZ.out, HS.out.1, HS.out.2, HF.out _ _ (harr.set k hlen _), hbel.setCell hg _⟩, by simp [intOf]; omega⟩
      · have hkn' : k = n := by omega
        subst hkn'
        have hend := FE.subEnd (ys := ys) hxd (by omega) (HZ.out.trans hn.symm) hzd HBO.out (by rw [hn]; exact HV.out) HLE.out
        have harr' : Arr wr g c1 zs := by rw [List.drop_eq_nil_of_le (by omega), List.append_nil] at harr; exact harr
        have HE := Lib.hid hend; clear hend
        go_wp2_with (go_at_call 183; refine (trimmed_any zs k c1 HZ.out (by omega) (by omega) _ _ harr'.reads).mono ?_; rintro e w' ⟨rfl, rfl⟩)
        go_ret
        refine ⟨_, rfl, ?_, hbel⟩
        rw [← HE.out]
        exact RO.of_trim harr' hg

end Go.Proofs.YtlpomcihkjiokaaGreat

namespace Go.Proofs.YtlpomcihkjiokaaGreat
open Go.RowKit Go.Joins

def sg (s : Bool) (n : Nat) : Bool := s && decide (n ≠ 0)
theorem sg_toL (s : Bool) (n : Nat) : sg s (FE.toL n).length = (s && decide (n ≠ 0)) := by
  unfold sg
  congr 1
  rw [Bool.eq_iff_iff]
  simp only [decide_eq_true_eq, ne_eq, List.length_eq_zero_iff, FE.toL_eq_nil]
theorem iSigned' (s : Bool) (n c : Nat) (hn : n ≤ maxLen) (A : Option Addr) (w : World) :
    Calls Tryz.prog 182 #[.bool s, .slice A n c] w fun e w' => e = .returned (.agg #[.bool (sg s n), .slice A n c]) ∧ Below w.heap.size w w' := iSigned s n c hn A w

set_option maxRecDepth 100000 in
set_option maxHeartbeats 1600000 in
theorem iCopyRat (x : RatD) (v : Value) (w : World) (hv : RatV w v x) (l1 : x.mag.length ≤ 1048576) (l2 : x.den.length ≤ 1048576) :
    Calls Tryz.prog 123 #[v] w fun e w' => ∃ v', e = .returned v' ∧ RatP w' w.heap.size v' x ∧ Below w.heap.size w w' := by
  obtain ⟨A, c, B, d, rfl, hcd, ra, rb⟩ := hv
  have H1 := Lib.hid (fun W (hW : Below w.heap.size w W) => clone_any x.mag _ c rfl (by omega) A W (ra.later hW))
  have H2 := Lib.hid (fun W (hW : Below w.heap.size w W) => clone_any x.den _ d rfl (by omega) B W (rb.later hW))
  clear hcd ra rb l1 l2
  obtain ⟨s, hs⟩ : ∃ s, x.neg = s := ⟨_, rfl⟩
  rw [hs]
  have HSN := Lib.hid hs
  clear hs
  obtain ⟨n, hn⟩ : ∃ n, x.mag.length = n := ⟨_, rfl⟩
  obtain ⟨m, hm⟩ : ∃ n, x.den.length = n := ⟨_, rfl⟩
  rw [hn] at H1 ⊢
  rw [hm] at H2 ⊢
  clear hn hm
  have S0 := Slots.new (below_step (Below.refl _ ((w.alloc (.cells #[.bool s, .slice A n c, .slice B m d] 57)).alloc (.cells #[.bool false, .slice none 0 0, .slice none 0 0] 57)))) (g := w.heap.size) rfl
  have R0 := Slots.new (Below.refl _ ((w.alloc (.cells #[.bool s, .slice A n c, .slice B m d] 57)).alloc (.cells #[.bool false, .slice none 0 0, .slice none 0 0] 57))) (g := w.heap.size + 1) (by simp)
  obtain ⟨a0_0, a0_1, a0_2, _, _, _⟩ := S0.c3
  have hS := below_alloc2 w (.cells #[.bool s, .slice A n c, .slice B m d] 57) (.cells #[.bool false, .slice none 0 0, .slice none 0 0] 57)
  clear S0
  go_enter Tryz.func123, Tryz.ntmps123
  go_wp2_with fail
  go_region_held3 (fun w' => Below w.heap.size w w' ∧ w'.cell? ⟨w.heap.size, 0, none⟩ = some (.bool s) ∧ w'.cell? ⟨w.heap.size, 1, none⟩ = some (.slice A n c) ∧ w'.cell? ⟨w.heap.size, 2, none⟩ = some (.slice B m d) ∧ AnyK w' (w.heap.size + 1) 3)
    (first | exact kD_3 hS a0_0 a0_1 a0_2 (AnyK.of R0) | exact kC_3 (by omega) (by assumption) (by assumption) | exact kS_3_3 (by omega) (by omega) (by assumption))
    (first
      | (go_at_call 185; (with_reducible refine (H1.out _ (And.left (by assumption))).mono ?_); rintro e3 w3 ⟨v3, rfl, hro3, hb3⟩; have hSW3 := (‹Below w.heap.size w _ ∧ _ ∧ _ ∧ _ ∧ AnyK _ (w.heap.size + 1) 3›); have hB3 := hSW3.1.trans (below_le hb3 hSW3.1.size); have hA3 := hSW3.2.2.2.2.later hb3; have hlt3 := hSW3.2.2.2.2.lt; obtain ⟨A3, c3, rfl, _⟩ := id hro3)
      | (go_at_call 185; (with_reducible refine (H2.out _ (And.left (by assumption))).mono ?_); rintro e4 w4 ⟨v4, rfl, hro4, hb4⟩; have hSW4 := (‹Below w.heap.size w _ ∧ _ ∧ _ ∧ _ ∧ AnyK _ (w.heap.size + 1) 3›); have hB4 := hSW4.1.trans (below_le hb4 hSW4.1.size); have hA4 := hSW4.2.2.2.2.later hb4; have hlt4 := hSW4.2.2.2.2.lt; obtain ⟨A4, c4, rfl, _⟩ := id hro4; obtain ⟨_, _, _, q0, q1, q2, _z0, _z1, _z2⟩ := hA4.c3))
  have hz3 := hb3.size
  have hap := apart_of hro3 hro4 (Nat.le_refl _)
  have k3 := (hro3.later hb4).mono (base' := w.heap.size + 1 + 1) (by omega)
  have k4 := hro4.mono (base' := w.heap.size + 1 + 1) (by omega)
  have f3 := (((k3.far (p := ⟨w.heap.size + 1, 0, none⟩) (Nat.lt_succ_self _) (.bool s)).far (p := ⟨w.heap.size + 1, 1, none⟩) (Nat.lt_succ_self _) (.slice A3 x.mag.length c3)).far (p := ⟨w.heap.size + 1, 2, none⟩) (Nat.lt_succ_self _) (.slice A4 x.den.length c4))
  have f4 := (((k4.far (p := ⟨w.heap.size + 1, 0, none⟩) (Nat.lt_succ_self _) (.bool s)).far (p := ⟨w.heap.size + 1, 1, none⟩) (Nat.lt_succ_self _) (.slice A3 x.mag.length c3)).far (p := ⟨w.heap.size + 1, 2, none⟩) (Nat.lt_succ_self _) (.slice A4 x.den.length c4))
  have hb := (((hB4.setCell (p := ⟨w.heap.size + 1, 0, none⟩) (show w.heap.size ≤ w.heap.size + 1 by omega) (.bool s)).setCell (p := ⟨w.heap.size + 1, 1, none⟩) (show w.heap.size ≤ w.heap.size + 1 by omega) (.slice A3 x.mag.length c3)).setCell (p := ⟨w.heap.size + 1, 2, none⟩) (show w.heap.size ≤ w.heap.size + 1 by omega) (.slice A4 x.den.length c4))
  go_wp2
  refine bodyPost_ret (v := .agg #[.bool s, .slice A3 x.mag.length c3, .slice A4 x.den.length c4]) (by simp [results, Tryz.results123, go_sem, q0, q1, q2]) rfl ⟨_, rfl, RatP.mk' HSN.out (f3.mono (by omega)) (f4.mono (by omega)) hap, hb⟩

theorem natMul_nat (p q : Nat) (n m c d : Nat) (hn : (FE.toL p).length = n) (hm : (FE.toL q).length = m) (hn1 : n ≤ 65536) (hm1 : m ≤ 65536) (A B : Option Addr) (w : World) (ha : RI w A (FE.toL p)) (hb : RI w B (FE.toL q)) :
    Calls Tryz.prog 119 #[.slice A n c, .slice B m d] w fun e w' => ∃ v, e = .returned v ∧ RO w' w.heap.size v (FE.toL (p * q)) ∧ Below w.heap.size w w' := by
  have h := natMul_any (FE.toL p) (FE.toL q) n m c d hn hm (by omega) (by omega) (FE.toL_dig _) (FE.toL_dig _) A B w ha hb
  rwa [FE.val_toL, FE.val_toL, ← Int.natCast_mul, Int.toNat_natCast] at h
set_option maxRecDepth 100000 in
set_option maxHeartbeats 1600000 in
theorem iBigMul (s t : Bool) (p q : Nat) (u v : Value) (w : World) (hu : BigV w u s (FE.toL p)) (hv : BigV w v t (FE.toL q)) (l1 : (FE.toL p).length ≤ 65536) (l2 : (FE.toL q).length ≤ 65536) :
    Calls Tryz.prog 118 #[u, v] w fun e w' => ∃ v', e = .returned v' ∧ BigO w' w.heap.size v' ((s != t) && decide (p * q ≠ 0)) (FE.toL (p * q)) ∧ Below w.heap.size w w' := by
  obtain ⟨A, c, rfl, _, _, ra⟩ := hu
  obtain ⟨B, d, rfl, _, _, rb⟩ := hv
  have H1 := Lib.hid (fun W (hW : Below w.heap.size w W) => natMul_nat p q _ _ c d rfl rfl l1 l2 A B W (ra.later hW) (rb.later hW))
  have H2 := Lib.hid (fun (b : Bool) (n c : Nat) (hn : n ≤ maxLen) (A : Option Addr) W => iSigned' b n c hn A W)
  have H3 := Lib.hid (show sg (!(s == t)) (FE.toL (p * q)).length = ((s != t) && decide (p * q ≠ 0)) from sg_toL (s != t) (p * q))
  clear ra rb l1 l2
  generalize (FE.toL p).length = n at *
  generalize (FE.toL q).length = m at *
  generalize ((s != t) && decide (p * q ≠ 0)) = st at *
  generalize FE.toL (p * q) = xs at *
  have S0 := Slots.new (below_step (below_step (Below.refl _ (((w.alloc (.cells #[.bool s, .slice A n c] 55)).alloc (.cells #[.bool t, .slice B m d] 55)).alloc (.cells #[.bool false, .slice none 0 0] 55))))) (g := w.heap.size) rfl
  have S1 := Slots.new (below_step (Below.refl _ (((w.alloc (.cells #[.bool s, .slice A n c] 55)).alloc (.cells #[.bool t, .slice B m d] 55)).alloc (.cells #[.bool false, .slice none 0 0] 55)))) (g := w.heap.size + 1) (by simp)
  have R0 := Slots.new (Below.refl _ (((w.alloc (.cells #[.bool s, .slice A n c] 55)).alloc (.cells #[.bool t, .slice B m d] 55)).alloc (.cells #[.bool false, .slice none 0 0] 55))) (g := w.heap.size + 1 + 1) (by simp)
  obtain ⟨a0_0, a0_1, _, _⟩ := S0.k2
  obtain ⟨a1_0, a1_1, _, _⟩ := S1.k2
  have hS := below_alloc3 w (.cells #[.bool s, .slice A n c] 55) (.cells #[.bool t, .slice B m d] 55) (.cells #[.bool false, .slice none 0 0] 55)
  clear S0 S1
  go_enter Tryz.func118, Tryz.ntmps118
  go_wp2_with fail
  go_region_held3 (fun w' => Below w.heap.size w w' ∧ w'.cell? ⟨w.heap.size, 0, none⟩ = some (.bool s) ∧ w'.cell? ⟨w.heap.size, 1, none⟩ = some (.slice A n c) ∧ w'.cell? ⟨w.heap.size + 1, 0, none⟩ = some (.bool t) ∧ w'.cell? ⟨w.heap.size + 1, 1, none⟩ = some (.slice B m d) ∧ AnyK w' (w.heap.size + 1 + 1) 2)
    (first | exact kD_2_2 hS a0_0 a0_1 a1_0 a1_1 (AnyK.of R0) | exact kC_2_2 (by omega) (by omega) (by assumption) (by assumption) | exact kS_2_2_2 (by omega) (by omega) (by omega) (by assumption))
    (first
      | (go_at_call 119; (with_reducible refine (H1.out _ (And.left (by assumption))).mono ?_); rintro e3 w3 ⟨v3, rfl, hro3, hb3⟩; have hSW3 := (‹Below w.heap.size w _ ∧ _ ∧ _ ∧ _ ∧ _ ∧ AnyK _ (w.heap.size + 1 + 1) 2›); have hB3 := hSW3.1.trans (below_le hb3 hSW3.1.size); have hA3 := hSW3.2.2.2.2.2.later hb3; have hlt3 := hSW3.2.2.2.2.2.lt; obtain ⟨A3, c3, rfl, hl3, hc3, _⟩ := id hro3)
      | (go_at_call 182; (with_reducible refine (H2.out _ _ _ (Nat.le_trans hl3 hc3) _ _).mono ?_); rintro e4 w4 ⟨rfl, hb4⟩; have hSW4 := (‹Below w.heap.size w _ ∧ _ ∧ _ ∧ _ ∧ _ ∧ AnyK _ (w.heap.size + 1 + 1) 2›); have hB4 := hSW4.1.trans (below_le hb4 hSW4.1.size); have hA4 := hSW4.2.2.2.2.2.later hb4; have hlt4 := hSW4.2.2.2.2.2.lt; obtain ⟨_, _, q0, q1, _z0, _z1⟩ := hA4.c2))
  have hz3 := hb3.size
  have k3 := (hro3.later hb4).mono (base' := w.heap.size + 1 + 1 + 1) (by omega)
  have f3 := ((k3.far (p := ⟨w.heap.size + 1 + 1, 0, none⟩) (Nat.lt_succ_self _) (.bool (sg (!(s == t)) xs.length))).far (p := ⟨w.heap.size + 1 + 1, 1, none⟩) (Nat.lt_succ_self _) (.slice A3 xs.length c3))
  have hb := ((hB4.setCell (p := ⟨w.heap.size + 1 + 1, 0, none⟩) (show w.heap.size ≤ w.heap.size + 1 + 1 by omega) (.bool (sg (!(s == t)) xs.length))).setCell (p := ⟨w.heap.size + 1 + 1, 1, none⟩) (show w.heap.size ≤ w.heap.size + 1 + 1 by omega) (.slice A3 xs.length c3))
  go_wp2
  refine bodyPost_ret (v := .agg #[.bool (sg (!(s == t)) xs.length), .slice A3 xs.length c3]) (by simp [results, Tryz.results118, go_sem, q0, q1]) rfl ⟨_, rfl, ⟨_, by rw [H3.out], f3.mono (by omega)⟩, hb⟩
theorem natAdd_nat (p q : Nat) (n m c d : Nat) (hn : (FE.toL p).length = n) (hm : (FE.toL q).length = m) (hn1 : n ≤ 65536) (hm1 : m ≤ 65536) (A B : Option Addr) (w : World) (ha : RI w A (FE.toL p)) (hb : RI w B (FE.toL q)) :
    Calls Tryz.prog 211 #[.slice A n c, .slice B m d] w fun e w' => ∃ v, e = .returned v ∧ RO w' w.heap.size v (FE.toL (p + q)) ∧ Below w.heap.size w w' := by
  have h := natAdd_any (FE.toL p) (FE.toL q) n m c d hn hm (by omega) (by omega) (FE.toL_dig _) (FE.toL_top _) (FE.toL_dig _) (FE.toL_top _) A B w ha hb
  rwa [FE.val_toL, FE.val_toL, ← Int.natCast_add, Int.toNat_natCast] at h
theorem natSub_nat (p q : Nat) (n m c d : Nat) (hn : (FE.toL p).length = n) (hm : (FE.toL q).length = m) (hn1 : n ≤ 65536) (hle : q ≤ p) (A B : Option Addr) (w : World) (ha : RI w A (FE.toL p)) (hb : RI w B (FE.toL q)) :
    Calls Tryz.prog 212 #[.slice A n c, .slice B m d] w fun e w' => ∃ v, e = .returned v ∧ RO w' w.heap.size v (FE.toL (p - q)) ∧ Below w.heap.size w w' := by
  have hl : (FE.toL q).length ≤ (FE.toL p).length := toL_len_mono hle
  have h := natSub_any (FE.toL p) (FE.toL q) n m c d hn hm (by omega) (by omega) (FE.toL_dig _) (FE.toL_dig _) (by rw [FE.val_toL, FE.val_toL]; omega) A B w ha hb
  rw [FE.val_toL, FE.val_toL, show ((p : Int) - (q : Int)).toNat = p - q by omega] at h
  exact h
theorem natCmp_s (p q : Nat) (s : Int) (hs : cmpI p q = s) (n m c d : Nat) (hn : (FE.toL p).length = n) (hm : (FE.toL q).length = m) (hn1 : n ≤ 65536) (hm1 : m ≤ 65536) (A B : Option Addr) (w : World) (ha : RI w A (FE.toL p)) (hb : RI w B (FE.toL q)) :
    Calls Tryz.prog 206 #[.slice A n c, .slice B m d] w fun e w' => e = .returned (.int .i64 s) ∧ ∃ k, w' = w.drewN k :=
  natCmp_val (FE.toL p) (FE.toL q) n m c d hn hm (by omega) (by omega) (FE.toL_dig _) (FE.toL_top _) (FE.toL_dig _) (FE.toL_top _) s (by rw [FE.val_toL, FE.val_toL]; exact hs) A B w ha hb
/-- The sum of signed numbers: its sign, its magnitude. -/
def addS (s t : Bool) (p q : Nat) : Bool × Nat := if s = t then (s, p + q) else if q ≤ p then (s, p - q) else (t, q - p)
set_option maxRecDepth 100000 in
set_option maxHeartbeats 1600000 in
theorem iBigAdd_a (s : Bool) (p q : Nat) (u v : Value) (w : World) (hu : BigV w u s (FE.toL p)) (hv : BigV w v s (FE.toL q)) (l1 : (FE.toL p).length ≤ 65536) (l2 : (FE.toL q).length ≤ 65536) :
    Calls Tryz.prog 184 #[u, v] w fun e w' => ∃ v', e = .returned v' ∧ BigO w' w.heap.size v' (s && decide ((p + q) ≠ 0)) (FE.toL (p + q)) ∧ Below w.heap.size w w' := by
  obtain ⟨A, c, rfl, _, _, ra⟩ := hu
  obtain ⟨B, d, rfl, _, _, rb⟩ := hv
  have H1 := Lib.hid (fun W (hW : Below w.heap.size w W) => natAdd_nat p q _ _ c d rfl rfl l1 l2 A B W (ra.later hW) (rb.later hW))
  have H2 := Lib.hid (fun (b : Bool) (n c : Nat) (hn : n ≤ maxLen) (A : Option Addr) W => iSigned' b n c hn A W)
  have H3 := Lib.hid (sg_toL s (p + q))
  have hh : (s == s) = true := by simp
  clear ra rb l1 l2
  generalize (FE.toL p).length = n at *
  generalize (FE.toL q).length = m at *
  generalize (s && decide ((p + q) ≠ 0)) = st at *
  generalize FE.toL (p + q) = xs at *
  have S0 := Slots.new (below_step (below_step (Below.refl _ (((w.alloc (.cells #[.bool s, .slice A n c] 55)).alloc (.cells #[.bool s, .slice B m d] 55)).alloc (.cells #[.bool false, .slice none 0 0] 55))))) (g := w.heap.size) rfl
  have S1 := Slots.new (below_step (Below.refl _ (((w.alloc (.cells #[.bool s, .slice A n c] 55)).alloc (.cells #[.bool s, .slice B m d] 55)).alloc (.cells #[.bool false, .slice none 0 0] 55)))) (g := w.heap.size + 1) (by simp)
  have R0 := Slots.new (Below.refl _ (((w.alloc (.cells #[.bool s, .slice A n c] 55)).alloc (.cells #[.bool s, .slice B m d] 55)).alloc (.cells #[.bool false, .slice none 0 0] 55))) (g := w.heap.size + 1 + 1) (by simp)
  obtain ⟨a0_0, a0_1, _, _⟩ := S0.k2
  obtain ⟨a1_0, a1_1, _, _⟩ := S1.k2
  have hS := below_alloc3 w (.cells #[.bool s, .slice A n c] 55) (.cells #[.bool s, .slice B m d] 55) (.cells #[.bool false, .slice none 0 0] 55)
  clear S0 S1
  go_enter Tryz.func184, Tryz.ntmps184
  go_wp2_with fail
  go_region_held3 (fun w' => Below w.heap.size w w' ∧ w'.cell? ⟨w.heap.size, 0, none⟩ = some (.bool s) ∧ w'.cell? ⟨w.heap.size, 1, none⟩ = some (.slice A n c) ∧ w'.cell? ⟨w.heap.size + 1, 0, none⟩ = some (.bool s) ∧ w'.cell? ⟨w.heap.size + 1, 1, none⟩ = some (.slice B m d) ∧ AnyK w' (w.heap.size + 1 + 1) 2)
    (first | exact kD_2_2 hS a0_0 a0_1 a1_0 a1_1 (AnyK.of R0) | exact kC_2_2 (by omega) (by omega) (by assumption) (by assumption) | exact kS_2_2_2 (by omega) (by omega) (by omega) (by assumption))
    (first
      | (go_at_call 211; (with_reducible refine (H1.out _ (And.left (by assumption))).mono ?_); rintro e3 w3 ⟨v3, rfl, hro3, hb3⟩; have hSW3 := (‹Below w.heap.size w _ ∧ _ ∧ _ ∧ _ ∧ _ ∧ AnyK _ (w.heap.size + 1 + 1) 2›); have hB3 := hSW3.1.trans (below_le hb3 hSW3.1.size); have hA3 := hSW3.2.2.2.2.2.later hb3; have hlt3 := hSW3.2.2.2.2.2.lt; obtain ⟨A3, c3, rfl, hl3, hc3, _⟩ := id hro3)
      | (go_at_call 182; (with_reducible refine (H2.out _ _ _ (Nat.le_trans hl3 hc3) _ _).mono ?_); rintro e4 w4 ⟨rfl, hb4⟩; have hSW4 := (‹Below w.heap.size w _ ∧ _ ∧ _ ∧ _ ∧ _ ∧ AnyK _ (w.heap.size + 1 + 1) 2›); have hB4 := hSW4.1.trans (below_le hb4 hSW4.1.size); have hA4 := hSW4.2.2.2.2.2.later hb4; have hlt4 := hSW4.2.2.2.2.2.lt; obtain ⟨_, _, q0, q1, _z0, _z1⟩ := hA4.c2))
  have hz3 := hb3.size
  have k3 := (hro3.later hb4).mono (base' := w.heap.size + 1 + 1 + 1) (by omega)
  have f3 := ((k3.far (p := ⟨w.heap.size + 1 + 1, 0, none⟩) (Nat.lt_succ_self _) (.bool (sg s xs.length))).far (p := ⟨w.heap.size + 1 + 1, 1, none⟩) (Nat.lt_succ_self _) (.slice A3 xs.length c3))
  have hb := ((hB4.setCell (p := ⟨w.heap.size + 1 + 1, 0, none⟩) (show w.heap.size ≤ w.heap.size + 1 + 1 by omega) (.bool (sg s xs.length))).setCell (p := ⟨w.heap.size + 1 + 1, 1, none⟩) (show w.heap.size ≤ w.heap.size + 1 + 1 by omega) (.slice A3 xs.length c3))
  go_wp2
  refine bodyPost_ret (v := .agg #[.bool (sg s xs.length), .slice A3 xs.length c3]) (by simp [results, Tryz.results184, go_sem, q0, q1]) rfl ⟨_, rfl, ⟨_, by rw [H3.out], f3.mono (by omega)⟩, hb⟩
set_option maxRecDepth 100000 in
set_option maxHeartbeats 1600000 in
theorem iBigAdd_b (s t : Bool) (p q : Nat) (hst : s ≠ t) (hle : q ≤ p) (u v : Value) (w : World) (hu : BigV w u s (FE.toL p)) (hv : BigV w v t (FE.toL q)) (l1 : (FE.toL p).length ≤ 65536) (l2 : (FE.toL q).length ≤ 65536) :
    Calls Tryz.prog 184 #[u, v] w fun e w' => ∃ v', e = .returned v' ∧ BigO w' w.heap.size v' (s && decide ((p - q) ≠ 0)) (FE.toL (p - q)) ∧ Below w.heap.size w w' := by
  obtain ⟨A, c, rfl, _, _, ra⟩ := hu
  obtain ⟨B, d, rfl, _, _, rb⟩ := hv
  have H1 := Lib.hid (fun W (hW : Below w.heap.size w W) => natSub_nat p q _ _ c d rfl rfl l1 hle A B W (ra.later hW) (rb.later hW))
  have H2 := Lib.hid (fun (b : Bool) (n c : Nat) (hn : n ≤ maxLen) (A : Option Addr) W => iSigned' b n c hn A W)
  have H3 := Lib.hid (sg_toL s (p - q))
  have hh : (s == t) = false := by simp [hst]
  obtain ⟨cv, hcv, hcs⟩ : ∃ cv : Int, cmpI p q = cv ∧ 0 ≤ cv := ⟨_, rfl, by unfold cmpI; rw [if_neg (by omega)]; split <;> omega⟩
  have H4 := Lib.hid (fun W (hW : Below w.heap.size w W) => natCmp_s p q cv hcv _ _ c d rfl rfl l1 l2 A B W (ra.later hW) (rb.later hW))
  clear hcv hst hle
  clear ra rb l1 l2
  generalize (FE.toL p).length = n at *
  generalize (FE.toL q).length = m at *
  generalize (s && decide ((p - q) ≠ 0)) = st at *
  generalize FE.toL (p - q) = xs at *
  have S0 := Slots.new (below_step (below_step (Below.refl _ (((w.alloc (.cells #[.bool s, .slice A n c] 55)).alloc (.cells #[.bool t, .slice B m d] 55)).alloc (.cells #[.bool false, .slice none 0 0] 55))))) (g := w.heap.size) rfl
  have S1 := Slots.new (below_step (Below.refl _ (((w.alloc (.cells #[.bool s, .slice A n c] 55)).alloc (.cells #[.bool t, .slice B m d] 55)).alloc (.cells #[.bool false, .slice none 0 0] 55)))) (g := w.heap.size + 1) (by simp)
  have R0 := Slots.new (Below.refl _ (((w.alloc (.cells #[.bool s, .slice A n c] 55)).alloc (.cells #[.bool t, .slice B m d] 55)).alloc (.cells #[.bool false, .slice none 0 0] 55))) (g := w.heap.size + 1 + 1) (by simp)
  obtain ⟨a0_0, a0_1, _, _⟩ := S0.k2
  obtain ⟨a1_0, a1_1, _, _⟩ := S1.k2
  have hS := below_alloc3 w (.cells #[.bool s, .slice A n c] 55) (.cells #[.bool t, .slice B m d] 55) (.cells #[.bool false, .slice none 0 0] 55)
  clear S0 S1
  go_enter Tryz.func184, Tryz.ntmps184
  go_wp2_with fail
  refine (H4.out _ hS).mono ?_
  rintro e2 w2 ⟨rfl, kk, hw2⟩
  have b0_0 := (congrArg (fun W => World.cell? W _) hw2).trans a0_0
  have b0_1 := (congrArg (fun W => World.cell? W _) hw2).trans a0_1
  have b1_0 := (congrArg (fun W => World.cell? W _) hw2).trans a1_0
  have b1_1 := (congrArg (fun W => World.cell? W _) hw2).trans a1_1
  have RA : AnyK w2 (w.heap.size + 1 + 1) 2 := hw2 ▸ AnyK.of R0
  have hS2 : Below w.heap.size w w2 := hw2 ▸ below_drewN hS kk
  clear hw2 R0 hS a0_0 a0_1 a1_0 a1_1
  go_wp2_with fail
  go_region_held3 (fun w' => Below w.heap.size w w' ∧ w'.cell? ⟨w.heap.size, 0, none⟩ = some (.bool s) ∧ w'.cell? ⟨w.heap.size, 1, none⟩ = some (.slice A n c) ∧ w'.cell? ⟨w.heap.size + 1, 0, none⟩ = some (.bool t) ∧ w'.cell? ⟨w.heap.size + 1, 1, none⟩ = some (.slice B m d) ∧ AnyK w' (w.heap.size + 1 + 1) 2)
    (first | exact kD_2_2 hS2 b0_0 b0_1 b1_0 b1_1 RA | exact kC_2_2 (by omega) (by omega) (by assumption) (by assumption) | exact kS_2_2_2 (by omega) (by omega) (by omega) (by assumption))
    (first
      | (go_at_call 212; (with_reducible refine (H1.out _ (And.left (by assumption))).mono ?_); rintro e3 w3 ⟨v3, rfl, hro3, hb3⟩; have hSW3 := (‹Below w.heap.size w _ ∧ _ ∧ _ ∧ _ ∧ _ ∧ AnyK _ (w.heap.size + 1 + 1) 2›); have hB3 := hSW3.1.trans (below_le hb3 hSW3.1.size); have hA3 := hSW3.2.2.2.2.2.later hb3; have hlt3 := hSW3.2.2.2.2.2.lt; obtain ⟨A3, c3, rfl, hl3, hc3, _⟩ := id hro3)
      | (go_at_call 182; (with_reducible refine (H2.out _ _ _ (Nat.le_trans hl3 hc3) _ _).mono ?_); rintro e4 w4 ⟨rfl, hb4⟩; have hSW4 := (‹Below w.heap.size w _ ∧ _ ∧ _ ∧ _ ∧ _ ∧ AnyK _ (w.heap.size + 1 + 1) 2›); have hB4 := hSW4.1.trans (below_le hb4 hSW4.1.size); have hA4 := hSW4.2.2.2.2.2.later hb4; have hlt4 := hSW4.2.2.2.2.2.lt; obtain ⟨_, _, q0, q1, _z0, _z1⟩ := hA4.c2))
  have hz3 := hb3.size
  have k3 := (hro3.later hb4).mono (base' := w.heap.size + 1 + 1 + 1) (by omega)
  have f3 := ((k3.far (p := ⟨w.heap.size + 1 + 1, 0, none⟩) (Nat.lt_succ_self _) (.bool (sg s xs.length))).far (p := ⟨w.heap.size + 1 + 1, 1, none⟩) (Nat.lt_succ_self _) (.slice A3 xs.length c3))
  have hb := ((hB4.setCell (p := ⟨w.heap.size + 1 + 1, 0, none⟩) (show w.heap.size ≤ w.heap.size + 1 + 1 by omega) (.bool (sg s xs.length))).setCell (p := ⟨w.heap.size + 1 + 1, 1, none⟩) (show w.heap.size ≤ w.heap.size + 1 + 1 by omega) (.slice A3 xs.length c3))
  go_wp2
  refine bodyPost_ret (v := .agg #[.bool (sg s xs.length), .slice A3 xs.length c3]) (by simp [results, Tryz.results184, go_sem, q0, q1]) rfl ⟨_, rfl, ⟨_, by rw [H3.out], f3.mono (by omega)⟩, hb⟩
set_option maxRecDepth 100000 in
set_option maxHeartbeats 1600000 in
theorem iBigAdd_c (s t : Bool) (p q : Nat) (hst : s ≠ t) (hle : ¬ q ≤ p) (u v : Value) (w : World) (hu : BigV w u s (FE.toL p)) (hv : BigV w v t (FE.toL q)) (l1 : (FE.toL p).length ≤ 65536) (l2 : (FE.toL q).length ≤ 65536) :
    Calls Tryz.prog 184 #[u, v] w fun e w' => ∃ v', e = .returned v' ∧ BigO w' w.heap.size v' (t && decide ((q - p) ≠ 0)) (FE.toL (q - p)) ∧ Below w.heap.size w w' := by
  obtain ⟨A, c, rfl, _, _, ra⟩ := hu
  obtain ⟨B, d, rfl, _, _, rb⟩ := hv
  have H1 := Lib.hid (fun W (hW : Below w.heap.size w W) => natSub_nat q p _ _ d c rfl rfl l2 (by omega) B A W (rb.later hW) (ra.later hW))
  have H2 := Lib.hid (fun (b : Bool) (n c : Nat) (hn : n ≤ maxLen) (A : Option Addr) W => iSigned' b n c hn A W)
  have H3 := Lib.hid (sg_toL t (q - p))
  have hh : (s == t) = false := by simp [hst]
  obtain ⟨cv, hcv, hcs⟩ : ∃ cv : Int, cmpI p q = cv ∧ cv < 0 := ⟨_, rfl, by unfold cmpI; rw [if_pos (by omega)]; omega⟩
  have H4 := Lib.hid (fun W (hW : Below w.heap.size w W) => natCmp_s p q cv hcv _ _ c d rfl rfl l1 l2 A B W (ra.later hW) (rb.later hW))
  clear hcv hst hle
  clear ra rb l1 l2
  generalize (FE.toL p).length = n at *
  generalize (FE.toL q).length = m at *
  generalize (t && decide ((q - p) ≠ 0)) = st at *
  generalize FE.toL (q - p) = xs at *
  have S0 := Slots.new (below_step (below_step (Below.refl _ (((w.alloc (.cells #[.bool s, .slice A n c] 55)).alloc (.cells #[.bool t, .slice B m d] 55)).alloc (.cells #[.bool false, .slice none 0 0] 55))))) (g := w.heap.size) rfl
  have S1 := Slots.new (below_step (Below.refl _ (((w.alloc (.cells #[.bool s, .slice A n c] 55)).alloc (.cells #[.bool t, .slice B m d] 55)).alloc (.cells #[.bool false, .slice none 0 0] 55)))) (g := w.heap.size + 1) (by simp)
  have R0 := Slots.new (Below.refl _ (((w.alloc (.cells #[.bool s, .slice A n c] 55)).alloc (.cells #[.bool t, .slice B m d] 55)).alloc (.cells #[.bool false, .slice none 0 0] 55))) (g := w.heap.size + 1 + 1) (by simp)
  obtain ⟨a0_0, a0_1, _, _⟩ := S0.k2
  obtain ⟨a1_0, a1_1, _, _⟩ := S1.k2
  have hS := below_alloc3 w (.cells #[.bool s, .slice A n c] 55) (.cells #[.bool t, .slice B m d] 55) (.cells #[.bool false, .slice none 0 0] 55)
  clear S0 S1
  go_enter Tryz.func184, Tryz.ntmps184
  go_wp2_with fail
  refine (H4.out _ hS).mono ?_
  rintro e2 w2 ⟨rfl, kk, hw2⟩
  have b0_0 := (congrArg (fun W => World.cell? W _) hw2).trans a0_0
  have b0_1 := (congrArg (fun W => World.cell? W _) hw2).trans a0_1
  have b1_0 := (congrArg (fun W => World.cell? W _) hw2).trans a1_0
  have b1_1 := (congrArg (fun W => World.cell? W _) hw2).trans a1_1
  have RA : AnyK w2 (w.heap.size + 1 + 1) 2 := hw2 ▸ AnyK.of R0
  have hS2 : Below w.heap.size w w2 := hw2 ▸ below_drewN hS kk
  clear hw2 R0 hS a0_0 a0_1 a1_0 a1_1
  go_wp2_with fail
  go_region_held3 (fun w' => Below w.heap.size w w' ∧ w'.cell? ⟨w.heap.size, 0, none⟩ = some (.bool s) ∧ w'.cell? ⟨w.heap.size, 1, none⟩ = some (.slice A n c) ∧ w'.cell? ⟨w.heap.size + 1, 0, none⟩ = some (.bool t) ∧ w'.cell? ⟨w.heap.size + 1, 1, none⟩ = some (.slice B m d) ∧ AnyK w' (w.heap.size + 1 + 1) 2)
    (first | exact kD_2_2 hS2 b0_0 b0_1 b1_0 b1_1 RA | exact kC_2_2 (by omega) (by omega) (by assumption) (by assumption) | exact kS_2_2_2 (by omega) (by omega) (by omega) (by assumption))
    (first
      | (go_at_call 212; (with_reducible refine (H1.out _ (And.left (by assumption))).mono ?_); rintro e3 w3 ⟨v3, rfl, hro3, hb3⟩; have hSW3 := (‹Below w.heap.size w _ ∧ _ ∧ _ ∧ _ ∧ _ ∧ AnyK _ (w.heap.size + 1 + 1) 2›); have hB3 := hSW3.1.trans (below_le hb3 hSW3.1.size); have hA3 := hSW3.2.2.2.2.2.later hb3; have hlt3 := hSW3.2.2.2.2.2.lt; obtain ⟨A3, c3, rfl, hl3, hc3, _⟩ := id hro3)
      | (go_at_call 182; (with_reducible refine (H2.out _ _ _ (Nat.le_trans hl3 hc3) _ _).mono ?_); rintro e4 w4 ⟨rfl, hb4⟩; have hSW4 := (‹Below w.heap.size w _ ∧ _ ∧ _ ∧ _ ∧ _ ∧ AnyK _ (w.heap.size + 1 + 1) 2›); have hB4 := hSW4.1.trans (below_le hb4 hSW4.1.size); have hA4 := hSW4.2.2.2.2.2.later hb4; have hlt4 := hSW4.2.2.2.2.2.lt; obtain ⟨_, _, q0, q1, _z0, _z1⟩ := hA4.c2))
  have hz3 := hb3.size
  have k3 := (hro3.later hb4).mono (base' := w.heap.size + 1 + 1 + 1) (by omega)
  have f3 := ((k3.far (p := ⟨w.heap.size + 1 + 1, 0, none⟩) (Nat.lt_succ_self _) (.bool (sg t xs.length))).far (p := ⟨w.heap.size + 1 + 1, 1, none⟩) (Nat.lt_succ_self _) (.slice A3 xs.length c3))
  have hb := ((hB4.setCell (p := ⟨w.heap.size + 1 + 1, 0, none⟩) (show w.heap.size ≤ w.heap.size + 1 + 1 by omega) (.bool (sg t xs.length))).setCell (p := ⟨w.heap.size + 1 + 1, 1, none⟩) (show w.heap.size ≤ w.heap.size + 1 + 1 by omega) (.slice A3 xs.length c3))
  go_wp2
  refine bodyPost_ret (v := .agg #[.bool (sg t xs.length), .slice A3 xs.length c3]) (by simp [results, Tryz.results184, go_sem, q0, q1]) rfl ⟨_, rfl, ⟨_, by rw [H3.out], f3.mono (by omega)⟩, hb⟩
theorem iBigAdd (s t : Bool) (p q : Nat) (u v : Value) (w : World) (hu : BigV w u s (FE.toL p)) (hv : BigV w v t (FE.toL q)) (l1 : (FE.toL p).length ≤ 65536) (l2 : (FE.toL q).length ≤ 65536) :
    Calls Tryz.prog 184 #[u, v] w fun e w' => ∃ v', e = .returned v' ∧ BigO w' w.heap.size v' ((addS s t p q).1 && decide ((addS s t p q).2 ≠ 0)) (FE.toL (addS s t p q).2) ∧ Below w.heap.size w w' := by
  by_cases hst : s = t
  · subst hst
    rw [show addS s s p q = (s, p + q) by simp [addS]]
    exact iBigAdd_a s p q u v w hu hv l1 l2
  · by_cases hle : q ≤ p
    · rw [show addS s t p q = (s, p - q) by simp [addS, hst, hle]]
      exact iBigAdd_b s t p q hst hle u v w hu hv l1 l2
    · rw [show addS s t p q = (t, q - p) by simp [addS, hst, hle]]
      exact iBigAdd_c s t p q hst hle u v w hu hv l1 l2
end Go.Proofs.YtlpomcihkjiokaaGreat

namespace Go.Proofs.YtlpomcihkjiokaaGreat
open Go.RowKit Go.Joins

theorem low_one {s : Bool} {p q : Nat} (hq : q ≠ 0) (hg : Nat.gcd p q = 1) (hs : s = true → p ≠ 0) (h1 : (FE.toL p).length ≤ 24) (h2 : (FE.toL q).length ≤ 24) : FE.low s p q = ⟨s, FE.toL p, FE.toL q⟩ := by
  unfold FE.low
  rw [if_neg hq, hg, Nat.div_one, Nat.div_one, if_pos (by simp [FE.few, h1, h2]), FE.mkR]
  cases s
  · rfl
  · simp [hs rfl]
theorem low_big {s : Bool} {p q : Nat} (h : ¬ ((FE.toL (p / Nat.gcd p q)).length ≤ 24 ∧ (FE.toL (q / Nat.gcd p q)).length ≤ 24)) : FE.low s p q = zR := by
  unfold FE.low
  split
  · rfl
  · rw [if_neg]
    simpa [FE.few] using h
theorem low_div {s : Bool} {p q : Nat} (hq : q ≠ 0) (hs : s = true → p ≠ 0) (h1 : (FE.toL (p / Nat.gcd p q)).length ≤ 24) (h2 : (FE.toL (q / Nat.gcd p q)).length ≤ 24) : FE.low s p q = ⟨s, FE.toL (p / Nat.gcd p q), FE.toL (q / Nat.gcd p q)⟩ := by
  unfold FE.low
  rw [if_neg hq, if_pos (by simp [FE.few, h1, h2]), FE.mkR]
  cases s
  · rfl
  · have hp := hs rfl
    have hg : 0 < Nat.gcd p q := Nat.gcd_pos_of_pos_right _ (by omega)
    have : p / Nat.gcd p q ≠ 0 := by
      intro h0
      have := Nat.le_of_dvd (by omega) (Nat.gcd_dvd_left p q)
      have := Nat.div_pos this hg
      omega
    simp [this]
theorem RO.below {w w' : World} {base : Nat} {v : Value} {xs : List Int} (h : RO w base v xs) (hb : Below w.heap.size w w') : RO w' base v xs := h.later hb

set_option maxRecDepth 100000 in
set_option maxHeartbeats 1600000 in
theorem iReduced_one (s : Bool) (p q : Nat) (hq : q ≠ 0) (hg : Nat.gcd p q = 1) (hs : s = true → p ≠ 0) (base : Nat) (ua v : Value) (w : World) (_hbase : base ≤ w.heap.size)
    (hu : RO w base ua (FE.toL p)) (hv : RO w base v (FE.toL q)) (hap : Apart ua v) (l1 : (FE.toL p).length ≤ 65536) (l2 : (FE.toL q).length ≤ 65536) :
    Calls Tryz.prog 117 #[.agg #[.bool s, ua], v] w fun e w' => ∃ v', e = .returned v' ∧ RatP w' base v' (FE.low s p q) ∧ Below w.heap.size w w' := by
  have HU := Lib.hid (fun W (hW : Below w.heap.size w W) => hu.later hW)
  have HV := Lib.hid (fun W (hW : Below w.heap.size w W) => hv.later hW)
  obtain ⟨A, c, rfl, hl1, hc1, _⟩ := id hu
  obtain ⟨B, d, rfl, hl2, hc2, _⟩ := id hv
  have ra := hu.reads
  have rb := hv.reads
  have H1 := fun W (hW : Below w.heap.size w W) => natGcd_nat p q _ _ c d rfl rfl l1 l2 A B W (ra.later hW) (rb.later hW)
  rw [hg] at H1
  replace H1 := Lib.hid H1
  have h1 : FE.toL 1 = [1] := by rw [FE.toL_pos (by omega), show (1 / 1000000000 : Nat) = 0 from rfl, FE.toL_zero]; rfl
  have H2 := fun W (A : Option Addr) (c : Nat) (h : RI W A (FE.toL 1)) => iIsOne (FE.toL 1) _ c rfl (by rw [h1]; simp) A W h
  rw [show oneB (FE.toL 1) = true by rw [h1]; rfl] at H2
  replace H2 := Lib.hid H2
  have H3 := Lib.hid (fun a b => low_one (s := s) hq hg hs a b)
  have H4 := Lib.hid (fun h => low_big (s := s) (p := p) (q := q) h)
  rw [hg, Nat.div_one, Nat.div_one] at H4
  have HAP := Lib.hid hap
  clear ra rb hu hv h1 hq hg hs l1 l2 hap
  generalize FE.low s p q = R at *
  generalize FE.toL p = xs at *
  generalize FE.toL q = ys at *
  obtain ⟨n, hn⟩ : ∃ n, xs.length = n := ⟨_, rfl⟩
  obtain ⟨m, hm⟩ : ∃ n, ys.length = n := ⟨_, rfl⟩
  rw [hn] at hl1 HU HAP H1 H3 H4 ⊢
  rw [hm] at hl2 HV HAP H1 H3 H4 ⊢
  have HN := Lib.hid hn; clear hn
  have HM := Lib.hid hm; clear hm
  go_enter Tryz.func117, Tryz.ntmps117
  go_wp2_with fail
  refine (H1.out _ (below_alloc2 _ _ _)).mono ?_
  rintro e w3 ⟨v3, rfl, hro3, hb3⟩
  have S1 := Slots.new hb3 (g := w.heap.size + 1) (by simp)
  have S0 := Slots.new (below_step hb3) (g := w.heap.size) rfl
  replace hb3 := below_trans (below_alloc2 _ _ _) hb3
  obtain ⟨A3, c3, rfl, hl3, _⟩ := id hro3
  have hr3 := hro3.reads
  clear hro3
  go_wp2_with fail
  refine (H2.out _ A3 c3 hr3).mono ?_
  rintro e w4 ⟨rfl, hw4⟩
  subst w4
  clear hr3 hl3
  obtain ⟨a0, a1, _, _⟩ := S0.k2
  obtain ⟨b0, b1, b2, z0, z1, z2⟩ := S1.c3
  have hz : w.heap.size + 1 < w3.heap.size := S1.1
  by_cases hx : n ≤ 24
  · have hx' : ¬ 24 < n := by omega
    by_cases hy : m ≤ 24
    · have hy' : ¬ 24 < m := by omega
      have HR := Lib.hid (H3.out hx hy)
      have hb := ((hb3.setCell (p := ⟨w.heap.size + 1, 0, none⟩) (show w.heap.size ≤ w.heap.size + 1 by omega) (.bool s)).setCell (p := ⟨w.heap.size + 1, 1, none⟩) (show w.heap.size ≤ w.heap.size + 1 by omega) (.slice A n c)).setCell (p := ⟨w.heap.size + 1, 2, none⟩) (show w.heap.size ≤ w.heap.size + 1 by omega) (.slice B m d)
      go_wp2
      refine bodyPost_ret (v := .agg #[.bool s, .slice A n c, .slice B m d]) (by simp [results, Tryz.results117, go_sem, b0, b1, b2]) rfl ⟨_, rfl, ?_, hb⟩
      rw [HR.out]
      exact RatP.mk' rfl (HU.out _ hb) (HV.out _ hb) HAP.out
    · have hy' : 24 < m := by omega
      have HR := Lib.hid (H4.out (by omega))
      go_wp2
      refine bodyPost_ret (v := .agg #[.bool false, .slice none 0 0, .slice none 0 0]) (by simp [results, Tryz.results117, go_sem, b0, b1, b2]) rfl ⟨_, rfl, by rw [HR.out]; exact RatP.zero _ _, ?_⟩
      exact ((hb3.setCell (p := ⟨w.heap.size + 1, 0, none⟩) (show w.heap.size ≤ w.heap.size + 1 by omega) _).setCell (p := ⟨w.heap.size + 1, 1, none⟩) (show w.heap.size ≤ w.heap.size + 1 by omega) _).setCell (p := ⟨w.heap.size + 1, 2, none⟩) (show w.heap.size ≤ w.heap.size + 1 by omega) _
  · have hx' : 24 < n := by omega
    have HR := Lib.hid (H4.out (by omega))
    go_wp2
    refine bodyPost_ret (v := .agg #[.bool false, .slice none 0 0, .slice none 0 0]) (by simp [results, Tryz.results117, go_sem, b0, b1, b2]) rfl ⟨_, rfl, by rw [HR.out]; exact RatP.zero _ _, ?_⟩
    exact ((hb3.setCell (p := ⟨w.heap.size + 1, 0, none⟩) (show w.heap.size ≤ w.heap.size + 1 by omega) _).setCell (p := ⟨w.heap.size + 1, 1, none⟩) (show w.heap.size ≤ w.heap.size + 1 by omega) _).setCell (p := ⟨w.heap.size + 1, 2, none⟩) (show w.heap.size ≤ w.heap.size + 1 by omega) _

set_option maxRecDepth 100000 in
set_option maxHeartbeats 1600000 in
theorem iReduced_many (s : Bool) (p q : Nat) (hq : q ≠ 0) (hg : Nat.gcd p q ≠ 1) (hs : s = true → p ≠ 0) (base : Nat) (ua v : Value) (w : World) (hbase : base ≤ w.heap.size)
    (hu : RO w base ua (FE.toL p)) (hv : RO w base v (FE.toL q)) (l1 : (FE.toL p).length ≤ 60000) (l2 : (FE.toL q).length ≤ 60000) :
    Calls Tryz.prog 117 #[.agg #[.bool s, ua], v] w fun e w' => ∃ v', e = .returned v' ∧ RatP w' base v' (FE.low s p q) ∧ Below w.heap.size w w' := by
  obtain ⟨A, c, rfl, hl1, hc1, _⟩ := id hu
  obtain ⟨B, d, rfl, hl2, hc2, _⟩ := id hv
  have ra := hu.reads
  have rb := hv.reads
  have hgl := gcd_len p q 60000 l1 l2
  have hg0 : Nat.gcd p q ≠ 0 := by have := Nat.gcd_pos_of_pos_right p (show 0 < q by omega); omega
  have H1 := Lib.hid (fun W (hW : Below w.heap.size w W) => natGcd_nat p q _ _ c d rfl rfl (by omega) (by omega) A B W (ra.later hW) (rb.later hW))
  have H2 := fun W (A : Option Addr) (c : Nat) (h : RI W A (FE.toL (Nat.gcd p q))) => iIsOne (FE.toL (Nat.gcd p q)) _ c rfl (by omega) A W h
  rw [oneB_toL, show (Nat.gcd p q == 1) = false by simp [hg]] at H2
  replace H2 := Lib.hid H2
  have H5 := Lib.hid (fun (A3 : Option Addr) (c3 : Nat) W (hW : Below w.heap.size w W) (h : RI W A3 (FE.toL (Nat.gcd p q))) => natDiv_nat p (Nat.gcd p q) _ _ c c3 rfl rfl (by omega) (by omega) hg0 A A3 W (ra.later hW) h)
  have H6 := Lib.hid (fun (A3 : Option Addr) (c3 : Nat) W (hW : Below w.heap.size w W) (h : RI W A3 (FE.toL (Nat.gcd p q))) => natDiv_nat q (Nat.gcd p q) _ _ d c3 rfl rfl (by omega) (by omega) hg0 B A3 W (rb.later hW) h)
  have H3 := Lib.hid (fun a b => low_div (s := s) (p := p) (q := q) hq hs a b)
  have H4 := Lib.hid (fun h => low_big (s := s) (p := p) (q := q) h)
  clear ra rb hu hv hq hg hs l1 l2 hgl hg0
  generalize FE.low s p q = R at *
  generalize FE.toL p = xs at *
  generalize FE.toL q = ys at *
  generalize FE.toL (Nat.gcd p q) = gs at *
  generalize FE.toL (p / Nat.gcd p q) = ps at *
  generalize FE.toL (q / Nat.gcd p q) = qs at *
  generalize FE.toL (p % Nat.gcd p q) = pr at *
  generalize FE.toL (q % Nat.gcd p q) = qr at *
  generalize xs.length = n at *
  generalize ys.length = m at *
  go_enter Tryz.func117, Tryz.ntmps117
  go_wp2_with fail
  refine (H1.out _ (below_alloc2 _ _ _)).mono ?_
  rintro e w3 ⟨v3, rfl, hro3, hb3⟩
  have S1 := Slots.new hb3 (g := w.heap.size + 1) (by simp)
  have S0 := Slots.new (below_step hb3) (g := w.heap.size) rfl
  replace hb3 := below_trans (below_alloc2 _ _ _) hb3
  obtain ⟨A3, c3, rfl, hl3, _⟩ := id hro3
  have hr3 := hro3.reads
  replace hro3 := hro3.mono (base' := w.heap.size + 1 + 1) (by simp)
  go_wp2_with fail
  refine (H2.out _ A3 c3 hr3).mono ?_
  rintro e w4 ⟨rfl, hw4⟩
  subst w4
  have hz3 : w.heap.size + 1 < w3.heap.size := S1.1
  obtain ⟨a0, a1, _, _⟩ := S0.k2
  go_wp2_with fail
  refine (H5.out A3 c3 _ hb3 hr3).mono ?_
  rintro e w4 ⟨v4, v4', rfl, hro4, ⟨A4', c4', rfl, _⟩, hb4⟩
  replace S0 := S0.later hb4
  replace S1 := S1.later hb4
  replace hro3 := hro3.later hb4
  clear hr3
  replace hb3 := below_trans hb3 hb4
  replace hro4 := hro4.mono (base' := w.heap.size + 1 + 1) (by omega)
  clear a0 a1 hb4
  obtain ⟨A4, c4, rfl, hl4, hm4, _⟩ := id hro4
  obtain ⟨a0, a1, y0, y1⟩ := S0.k2
  have lt4 : (⟨w.heap.size, 1, none⟩ : Addr).block < w.heap.size + 1 + 1 := by show w.heap.size < _; omega
  go_wp2_with fail
  clear a0 a1 y0 y1
  replace S0 := S0.set 1 (by simp) (.slice A4 ps.length c4)
  replace S1 := S1.far (p := ⟨w.heap.size, 1, none⟩) (by simp) (.slice A4 ps.length c4)
  replace hro3 := hro3.far (p := ⟨w.heap.size, 1, none⟩) lt4 (.slice A4 ps.length c4)
  replace hro4 := hro4.far (p := ⟨w.heap.size, 1, none⟩) lt4 (.slice A4 ps.length c4)
  replace hb3 := hb3.setCell (p := ⟨w.heap.size, 1, none⟩) (Nat.le_refl _) (.slice A4 ps.length c4)
  generalize w4.setCell ⟨w.heap.size, 1, none⟩ (.slice A4 ps.length c4) = w5 at *
  have hz5 : w.heap.size + 1 < w5.heap.size := S1.1
  refine (H6.out A3 c3 _ hb3 hro3.reads).mono ?_
  rintro e w6 ⟨v6, v6', rfl, hro6, ⟨A6', c6', rfl, _⟩, hb6⟩
  have hap := apart_of hro4 hro6 (Nat.le_refl _)
  replace S0 := S0.later hb6
  replace S1 := S1.later hb6
  replace hro4 := hro4.later hb6
  replace hb3 := below_trans hb3 hb6
  replace hro6 := hro6.mono (base' := w.heap.size + 1 + 1) (by omega)
  clear hro3 hb6 lt4
  obtain ⟨A6, c6, rfl, hl6, hm6, _⟩ := id hro6
  obtain ⟨a0, a1, _, _⟩ := S0.k2
  obtain ⟨b0, b1, b2, z0, z1, z2⟩ := S1.c3
  clear S0 S1
  have HA := Lib.hid hap
  have H7 := Lib.hid hro4
  have H8 := Lib.hid hro6
  clear hap hro4 hro6
  by_cases hx : ps.length ≤ 24
  · have hx' : ¬ 24 < ps.length := by omega
    by_cases hy : qs.length ≤ 24
    · have hy' : ¬ 24 < qs.length := by omega
      have HR := Lib.hid (H3.out hx hy)
      have hb := ((hb3.setCell (p := ⟨w.heap.size + 1, 0, none⟩) (show w.heap.size ≤ w.heap.size + 1 by omega) (.bool s)).setCell (p := ⟨w.heap.size + 1, 1, none⟩) (show w.heap.size ≤ w.heap.size + 1 by omega) (.slice A4 ps.length c4)).setCell (p := ⟨w.heap.size + 1, 2, none⟩) (show w.heap.size ≤ w.heap.size + 1 by omega) (.slice A6 qs.length c6)
      have f4 := ((H7.out.far (p := ⟨w.heap.size + 1, 0, none⟩) (Nat.lt_succ_self _) (.bool s)).far (p := ⟨w.heap.size + 1, 1, none⟩) (Nat.lt_succ_self _) (.slice A4 ps.length c4)).far (p := ⟨w.heap.size + 1, 2, none⟩) (Nat.lt_succ_self _) (.slice A6 qs.length c6)
      have f6 := ((H8.out.far (p := ⟨w.heap.size + 1, 0, none⟩) (Nat.lt_succ_self _) (.bool s)).far (p := ⟨w.heap.size + 1, 1, none⟩) (Nat.lt_succ_self _) (.slice A4 ps.length c4)).far (p := ⟨w.heap.size + 1, 2, none⟩) (Nat.lt_succ_self _) (.slice A6 qs.length c6)
      go_wp2
      refine bodyPost_ret (v := .agg #[.bool s, .slice A4 ps.length c4, .slice A6 qs.length c6]) (by simp [results, Tryz.results117, go_sem, b0, b1, b2]) rfl ⟨_, rfl, ?_, hb⟩
      rw [HR.out]
      exact RatP.mk' rfl (f4.mono (by omega)) (f6.mono (by omega)) HA.out
    · have hy' : 24 < qs.length := by omega
      have HR := Lib.hid (H4.out (by omega))
      go_wp2
      refine bodyPost_ret (v := .agg #[.bool false, .slice none 0 0, .slice none 0 0]) (by simp [results, Tryz.results117, go_sem, b0, b1, b2]) rfl ⟨_, rfl, by rw [HR.out]; exact RatP.zero _ _, ?_⟩
      exact ((hb3.setCell (p := ⟨w.heap.size + 1, 0, none⟩) (show w.heap.size ≤ w.heap.size + 1 by omega) _).setCell (p := ⟨w.heap.size + 1, 1, none⟩) (show w.heap.size ≤ w.heap.size + 1 by omega) _).setCell (p := ⟨w.heap.size + 1, 2, none⟩) (show w.heap.size ≤ w.heap.size + 1 by omega) _
  · have hx' : 24 < ps.length := by omega
    have HR := Lib.hid (H4.out (by omega))
    go_wp2
    refine bodyPost_ret (v := .agg #[.bool false, .slice none 0 0, .slice none 0 0]) (by simp [results, Tryz.results117, go_sem, b0, b1, b2]) rfl ⟨_, rfl, by rw [HR.out]; exact RatP.zero _ _, ?_⟩
    exact ((hb3.setCell (p := ⟨w.heap.size + 1, 0, none⟩) (show w.heap.size ≤ w.heap.size + 1 by omega) _).setCell (p := ⟨w.heap.size + 1, 1, none⟩) (show w.heap.size ≤ w.heap.size + 1 by omega) _).setCell (p := ⟨w.heap.size + 1, 2, none⟩) (show w.heap.size ≤ w.heap.size + 1 by omega) _

theorem iReduced (s : Bool) (p q : Nat) (hq : q ≠ 0) (hs : s = true → p ≠ 0) (base : Nat) (ua v : Value) (w : World) (hbase : base ≤ w.heap.size)
    (hu : RO w base ua (FE.toL p)) (hv : RO w base v (FE.toL q)) (hap : Apart ua v) (l1 : (FE.toL p).length ≤ 60000) (l2 : (FE.toL q).length ≤ 60000) :
    Calls Tryz.prog 117 #[.agg #[.bool s, ua], v] w fun e w' => ∃ v', e = .returned v' ∧ RatP w' base v' (FE.low s p q) ∧ Below w.heap.size w w' := by
  by_cases hg : Nat.gcd p q = 1
  · exact iReduced_one s p q hq hg hs base ua v w hbase hu hv hap (by omega) (by omega)
  · exact iReduced_many s p q hq hg hs base ua v w hbase hu hv l1 l2
end Go.Proofs.YtlpomcihkjiokaaGreat

namespace Go.Proofs.YtlpomcihkjiokaaGreat
open Go.RowKit Go.Joins

set_option maxRecDepth 100000 in
set_option maxHeartbeats 800000 in
theorem iBigIntOf_pos (N : Nat) (hN : N ≤ 4611686018427387904) (w : World) :
    Calls Tryz.prog 178 #[.int .i64 N] w fun e w' => ∃ v, e = .returned v ∧ BigO w' w.heap.size v false (FE.toL N) ∧ Below w.heap.size w w' := by
  have H1 := Lib.hid (fun W => natOf_any N hN W)
  have H2 := Lib.hid (fun (n c : Nat) (hn : n ≤ maxLen) (A : Option Addr) W => iSigned' false n c hn A W)
  go_enter Tryz.func178, Tryz.ntmps178
  go_wp2_with fail
  refine (H1.out _).mono ?_
  rintro e w3 ⟨v3, rfl, hro3, hb3⟩
  have S1 := Slots.new hb3 (g := w.heap.size) rfl
  replace hb3 := below_step hb3
  replace hro3 := hro3.mono (base' := w.heap.size + 1) (by simp)
  obtain ⟨A3, c3, rfl, hl3, hm3, _⟩ := id hro3
  have hlm := Nat.le_trans hl3 hm3
  have H3 := Lib.hid (sg_toL false N)
  have HRO := Lib.hid hro3
  clear hro3
  generalize (FE.toL N).length = n at *
  go_wp2_with fail
  refine (H2.out _ _ hlm _ _).mono ?_
  rintro e w4 ⟨rfl, hb4⟩
  replace S1 := S1.later hb4
  replace hb3 := below_trans hb3 hb4
  have h4 := HRO.out.later hb4
  obtain ⟨b0, b1, z0, z1⟩ := S1.k2
  have hb := (hb3.setCell (p := ⟨w.heap.size, 0, none⟩) (Nat.le_refl _) (.bool (sg false n))).setCell (p := ⟨w.heap.size, 1, none⟩) (Nat.le_refl _) (.slice A3 n c3)
  have f4 := (h4.far (p := ⟨w.heap.size, 0, none⟩) (Nat.lt_succ_self _) (.bool (sg false n))).far (p := ⟨w.heap.size, 1, none⟩) (Nat.lt_succ_self _) (.slice A3 n c3)
  clear h4 S1
  go_wp2
  refine bodyPost_ret (v := .agg #[.bool (sg false n), .slice A3 n c3]) (by simp [results, Tryz.results178, go_sem, b0, b1]) rfl ⟨_, rfl, ⟨_, by rw [H3.out]; rfl, f4.mono (Nat.le_succ _)⟩, hb⟩
set_option maxRecDepth 100000 in
set_option maxHeartbeats 800000 in
theorem iBigIntOf_neg (N : Nat) (h0 : 0 < N) (hN : N ≤ 4611686018427387904) (w : World) :
    Calls Tryz.prog 178 #[.int .i64 (-(N : Int))] w fun e w' => ∃ v, e = .returned v ∧ BigO w' w.heap.size v true (FE.toL N) ∧ Below w.heap.size w w' := by
  have H1 := Lib.hid (fun W => natOf_any N hN W)
  have H2 := Lib.hid (fun (n c : Nat) (hn : n ≤ maxLen) (A : Option Addr) W => iSigned' true n c hn A W)
  have HN0 := Lib.hid (show N ≠ 0 by omega)
  go_enter Tryz.func178, Tryz.ntmps178
  go_wp2_with fail
  rw [show IntKind.u64.wrap (-IntKind.u64.wrap (-(N : Int))) = (N : Int) by rw [IntKind.wrap_u64, IntKind.wrap_u64]; omega]
  refine (H1.out _).mono ?_
  rintro e w3 ⟨v3, rfl, hro3, hb3⟩
  have S1 := Slots.new hb3 (g := w.heap.size) rfl
  replace hb3 := below_step hb3
  replace hro3 := hro3.mono (base' := w.heap.size + 1) (by simp)
  obtain ⟨A3, c3, rfl, hl3, hm3, _⟩ := id hro3
  have hlm := Nat.le_trans hl3 hm3
  have H3 := Lib.hid (sg_toL true N)
  have HRO := Lib.hid hro3
  clear hro3
  generalize (FE.toL N).length = n at *
  go_wp2_with fail
  refine (H2.out _ _ hlm _ _).mono ?_
  rintro e w4 ⟨rfl, hb4⟩
  replace S1 := S1.later hb4
  replace hb3 := below_trans hb3 hb4
  have h4 := HRO.out.later hb4
  obtain ⟨b0, b1, z0, z1⟩ := S1.k2
  have hb := (hb3.setCell (p := ⟨w.heap.size, 0, none⟩) (Nat.le_refl _) (.bool (sg true n))).setCell (p := ⟨w.heap.size, 1, none⟩) (Nat.le_refl _) (.slice A3 n c3)
  have f4 := (h4.far (p := ⟨w.heap.size, 0, none⟩) (Nat.lt_succ_self _) (.bool (sg true n))).far (p := ⟨w.heap.size, 1, none⟩) (Nat.lt_succ_self _) (.slice A3 n c3)
  clear h4 S1
  go_wp2
  refine bodyPost_ret (v := .agg #[.bool (sg true n), .slice A3 n c3]) (by simp [results, Tryz.results178, go_sem, b0, b1]) rfl ⟨_, rfl, ⟨_, by rw [H3.out]; exact (by simp [HN0.out]), f4.mono (Nat.le_succ _)⟩, hb⟩

/-- The parts of an int. -/
theorem iBigIntOf (n : Int) (hn : n.natAbs ≤ 4611686018427387904) (w : World) :
    Calls Tryz.prog 178 #[.int .i64 n] w fun e w' => ∃ v, e = .returned v ∧ BigO w' w.heap.size v (decide (n < 0)) (FE.toL n.natAbs) ∧ Below w.heap.size w w' := by
  by_cases h : n < 0
  · have e1 : n = -(n.natAbs : Int) := by omega
    have e2 : decide (n < 0) = true := by simp [h]
    rw [e2]
    conv => enter [3, 1]; rw [e1]
    exact iBigIntOf_neg n.natAbs (by omega) hn w
  · have e1 : n = (n.natAbs : Int) := by omega
    have e2 : decide (n < 0) = false := by simp [h]
    rw [e2]
    conv => enter [3, 1]; rw [e1]
    exact iBigIntOf_pos n.natAbs hn w
end Go.Proofs.YtlpomcihkjiokaaGreat

namespace Go.Proofs.YtlpomcihkjiokaaGreat
open Go.RowKit Go.Joins

theorem lowI_small (n : Int) (d : Nat) (hd : 0 < d) (h1 : n.natAbs ≤ 4611686018427387904) (h2 : d ≤ 4611686018427387904) : FE.lowI n d = ⟨decide (n < 0), FE.toL (n.natAbs / Nat.gcd n.natAbs d), FE.toL (d / Nat.gcd n.natAbs d)⟩ := by
  have l : ∀ k : Nat, k ≤ 4611686018427387904 → (FE.toL k).length ≤ 24 := fun k hk => (FE.toL_len_le k 24).2 (by
    have : FE.bp 3 ≤ FE.bp 24 := FE.bp_mono (by omega)
    rw [FE.bp_succ, FE.bp_succ, FE.bp_succ, FE.bp_zero] at this
    omega)
  exact low_div (by omega) (fun h => by simp at h; omega) (l _ (Nat.le_trans (Nat.div_le_self _ _) h1)) (l _ (Nat.le_trans (Nat.div_le_self _ _) h2))

theorem quo_in (N G : Nat) (h : N / G ≤ 4611686018427387904) : IntKind.i64.wrap ((N : Int) / (G : Int)) = ((N / G : Nat) : Int) := by
  rw [← Int.natCast_ediv]
  generalize N / G = M at *
  exact IntWalk.i64_in _ (by omega)
theorem quo_neg (N G : Nat) (h : N / G ≤ 4611686018427387904) : IntKind.i64.wrap (-((N : Int) / (G : Int))) = -((N / G : Nat) : Int) := by
  rw [← Int.natCast_ediv]
  generalize N / G = M at *
  exact IntWalk.i64_in _ (by omega)
theorem conv_in (M : Nat) (h : M ≤ 4611686018427387904) : IntKind.u64.wrap (M : Int) = (M : Int) := IntWalk.u64_in _ (by omega)

set_option maxRecDepth 100000 in
set_option maxHeartbeats 1600000 in
theorem iOfInts_pos (N d : Nat) (hN : N ≤ 4611686018427387904) (hd0 : 0 < d) (hd : d ≤ 4611686018427387904) (w : World) :
    Calls Tryz.prog 116 #[.int .i64 (N : Int), .int .i64 d] w fun e w' => ∃ v, e = .returned v ∧ RatP w' w.heap.size v ⟨false, FE.toL (N / Nat.gcd N d), FE.toL (d / Nat.gcd N d)⟩ ∧ Below w.heap.size w w' := by
  have H1 := Lib.hid (fun W => gcd_any N d hN hd W)
  have hgp : 0 < Nat.gcd N d := Nat.gcd_pos_of_pos_right _ hd0
  have hgd := Nat.gcd_dvd_left N d
  have hgl := Nat.le_of_dvd hd0 (Nat.gcd_dvd_right N d)
  generalize Nat.gcd N d = G at *
  have hq1 : N / G ≤ N := Nat.div_le_self _ _
  have hq2 : d / G ≤ d := Nat.div_le_self _ _
  have H2 := Lib.hid (fun W => iBigIntOf_pos (N / G) (by omega) W)
  have H3 := Lib.hid (fun W => natOf_any (d / G) (by omega) W)
  have w1 := quo_in N G (by omega)
  have w2 := quo_in d G (by omega)
  have w3 := conv_in (d / G) (by omega)
  have w4 : G ≠ 0 := by omega
  have W1 := Lib.hid w1
  have W2 := Lib.hid w2
  have W3 := Lib.hid w3
  have W4 := Lib.hid w4
  have HG := Lib.hid hgp
  clear w1 w2 w3 w4 hgp hgd hgl
  generalize N / G = N1 at *
  generalize d / G = d1 at *
  have R0 := Slots.new (Below.refl _ (w.alloc (.cells #[.bool false, .slice none 0 0, .slice none 0 0] 57))) (g := w.heap.size) rfl
  have hS := below_alloc1 w (.cells #[.bool false, .slice none 0 0, .slice none 0 0] 57)
  go_enter Tryz.func116, Tryz.ntmps116
  go_wp2_with fail
  refine (H1.out _).mono ?_
  rintro e w2 ⟨rfl, kk, hw2⟩
  have RA : AnyK w2 (w.heap.size) 3 := hw2 ▸ AnyK.of R0
  have hS2 : Below w.heap.size w w2 := hw2 ▸ below_drewN hS kk
  clear hw2 R0 hS 
  go_wp2_with fail
  have x1 := W1.out
  have x2 := W2.out
  have x3 := W3.out
  have x4 := W4.out
  have hgp := HG.out
  go_region_held3 (fun w' => Below w.heap.size w w' ∧ AnyK w' (w.heap.size) 3)
    (first | exact kD_0 hS2 RA | exact kC_0  (by assumption) (by assumption) | exact kS_0_3 (by omega)  (by assumption))
    (first
      | (go_at_call 178; (with_reducible refine (H2.out _).mono ?_); rintro e3 w3 ⟨v3, rfl, ⟨va, rfl, hro3⟩, hb3⟩; have hSW3 := (‹Below w.heap.size w _ ∧ AnyK _ (w.heap.size) 3›); have hB3 := hSW3.1.trans (below_le hb3 hSW3.1.size); have hA3 := hSW3.2.later hb3; have hlt3 := hSW3.2.lt; obtain ⟨A3, c3, rfl, hl3, hc3, _⟩ := id hro3)
      | (go_at_call 180; (with_reducible refine (H3.out _).mono ?_); rintro e4 w4 ⟨v4, rfl, hro4, hb4⟩; have hSW4 := (‹Below w.heap.size w _ ∧ AnyK _ (w.heap.size) 3›); have hB4 := hSW4.1.trans (below_le hb4 hSW4.1.size); have hA4 := hSW4.2.later hb4; have hlt4 := hSW4.2.lt; obtain ⟨A4, c4, rfl, hl4, hc4, _⟩ := id hro4; obtain ⟨_, _, _, q0, q1, q2, _z0, _z1, _z2⟩ := hA4.c3))
  have hz3 := hb3.size
  have hap := apart_of hro3 hro4 (Nat.le_refl _)
  have k3 := (hro3.later hb4).mono (base' := w.heap.size + 1) (by omega)
  have k4 := hro4.mono (base' := w.heap.size + 1) (by omega)
  have f3 := (((k3.far (p := ⟨w.heap.size, 0, none⟩) (Nat.lt_succ_self _) (.bool false)).far (p := ⟨w.heap.size, 1, none⟩) (Nat.lt_succ_self _) (.slice A3 (FE.toL N1).length c3)).far (p := ⟨w.heap.size, 2, none⟩) (Nat.lt_succ_self _) (.slice A4 (FE.toL d1).length c4))
  have f4 := (((k4.far (p := ⟨w.heap.size, 0, none⟩) (Nat.lt_succ_self _) (.bool false)).far (p := ⟨w.heap.size, 1, none⟩) (Nat.lt_succ_self _) (.slice A3 (FE.toL N1).length c3)).far (p := ⟨w.heap.size, 2, none⟩) (Nat.lt_succ_self _) (.slice A4 (FE.toL d1).length c4))
  have hb := (((hB4.setCell (p := ⟨w.heap.size, 0, none⟩) (show w.heap.size ≤ w.heap.size by omega) (.bool false)).setCell (p := ⟨w.heap.size, 1, none⟩) (show w.heap.size ≤ w.heap.size by omega) (.slice A3 (FE.toL N1).length c3)).setCell (p := ⟨w.heap.size, 2, none⟩) (show w.heap.size ≤ w.heap.size by omega) (.slice A4 (FE.toL d1).length c4))
  clear x1 x2 x3 x4
  go_wp2
  refine bodyPost_ret (v := .agg #[.bool false, .slice A3 (FE.toL N1).length c3, .slice A4 (FE.toL d1).length c4]) (by simp [results, Tryz.results116, go_sem, q0, q1, q2]) rfl ⟨_, rfl, RatP.mk' rfl (f3.mono (Nat.le_succ _)) (f4.mono (Nat.le_succ _)) hap, hb⟩

set_option maxRecDepth 100000 in
set_option maxHeartbeats 1600000 in
theorem iOfInts_neg (N d : Nat) (h0 : 0 < N) (hN : N ≤ 4611686018427387904) (hd0 : 0 < d) (hd : d ≤ 4611686018427387904) (w : World) :
    Calls Tryz.prog 116 #[.int .i64 (-(N : Int)), .int .i64 d] w fun e w' => ∃ v, e = .returned v ∧ RatP w' w.heap.size v ⟨true, FE.toL (N / Nat.gcd N d), FE.toL (d / Nat.gcd N d)⟩ ∧ Below w.heap.size w w' := by
  have H1 := Lib.hid (fun W => gcd_any N d hN hd W)
  have hgp : 0 < Nat.gcd N d := Nat.gcd_pos_of_pos_right _ hd0
  have hgd := Nat.gcd_dvd_left N d
  have hgl := Nat.le_of_dvd hd0 (Nat.gcd_dvd_right N d)
  generalize Nat.gcd N d = G at *
  have hq1 : N / G ≤ N := Nat.div_le_self _ _
  have hq2 : d / G ≤ d := Nat.div_le_self _ _
  have hq0 : 0 < N / G := Nat.div_pos (Nat.le_of_dvd h0 hgd) hgp
  have H2 := Lib.hid (fun W => iBigIntOf_neg (N / G) hq0 (by omega) W)
  have H3 := Lib.hid (fun W => natOf_any (d / G) (by omega) W)
  have w1 := quo_neg N G (by omega)
  have w2 := quo_in d G (by omega)
  have w3 := conv_in (d / G) (by omega)
  have w4 : G ≠ 0 := by omega
  have W1 := Lib.hid w1
  have W2 := Lib.hid w2
  have W3 := Lib.hid w3
  have W4 := Lib.hid w4
  have HG := Lib.hid hgp
  clear w1 w2 w3 w4 hgp hgd hgl
  generalize N / G = N1 at *
  generalize d / G = d1 at *
  have R0 := Slots.new (Below.refl _ (w.alloc (.cells #[.bool false, .slice none 0 0, .slice none 0 0] 57))) (g := w.heap.size) rfl
  have hS := below_alloc1 w (.cells #[.bool false, .slice none 0 0, .slice none 0 0] 57)
  go_enter Tryz.func116, Tryz.ntmps116
  go_wp2_with fail
  refine (H1.out _).mono ?_
  rintro e w2 ⟨rfl, kk, hw2⟩
  have RA : AnyK w2 (w.heap.size) 3 := hw2 ▸ AnyK.of R0
  have hS2 : Below w.heap.size w w2 := hw2 ▸ below_drewN hS kk
  clear hw2 R0 hS 
  go_wp2_with fail
  have x1 := W1.out
  have x2 := W2.out
  have x3 := W3.out
  have x4 := W4.out
  have hgp := HG.out
  go_region_held3 (fun w' => Below w.heap.size w w' ∧ AnyK w' (w.heap.size) 3)
    (first | exact kD_0 hS2 RA | exact kC_0  (by assumption) (by assumption) | exact kS_0_3 (by omega)  (by assumption))
    (first
      | (go_at_call 178; (with_reducible refine (H2.out _).mono ?_); rintro e3 w3 ⟨v3, rfl, ⟨va, rfl, hro3⟩, hb3⟩; have hSW3 := (‹Below w.heap.size w _ ∧ AnyK _ (w.heap.size) 3›); have hB3 := hSW3.1.trans (below_le hb3 hSW3.1.size); have hA3 := hSW3.2.later hb3; have hlt3 := hSW3.2.lt; obtain ⟨A3, c3, rfl, hl3, hc3, _⟩ := id hro3)
      | (go_at_call 180; (with_reducible refine (H3.out _).mono ?_); rintro e4 w4 ⟨v4, rfl, hro4, hb4⟩; have hSW4 := (‹Below w.heap.size w _ ∧ AnyK _ (w.heap.size) 3›); have hB4 := hSW4.1.trans (below_le hb4 hSW4.1.size); have hA4 := hSW4.2.later hb4; have hlt4 := hSW4.2.lt; obtain ⟨A4, c4, rfl, hl4, hc4, _⟩ := id hro4; obtain ⟨_, _, _, q0, q1, q2, _z0, _z1, _z2⟩ := hA4.c3))
  have hz3 := hb3.size
  have hap := apart_of hro3 hro4 (Nat.le_refl _)
  have k3 := (hro3.later hb4).mono (base' := w.heap.size + 1) (by omega)
  have k4 := hro4.mono (base' := w.heap.size + 1) (by omega)
  have f3 := (((k3.far (p := ⟨w.heap.size, 0, none⟩) (Nat.lt_succ_self _) (.bool true)).far (p := ⟨w.heap.size, 1, none⟩) (Nat.lt_succ_self _) (.slice A3 (FE.toL N1).length c3)).far (p := ⟨w.heap.size, 2, none⟩) (Nat.lt_succ_self _) (.slice A4 (FE.toL d1).length c4))
  have f4 := (((k4.far (p := ⟨w.heap.size, 0, none⟩) (Nat.lt_succ_self _) (.bool true)).far (p := ⟨w.heap.size, 1, none⟩) (Nat.lt_succ_self _) (.slice A3 (FE.toL N1).length c3)).far (p := ⟨w.heap.size, 2, none⟩) (Nat.lt_succ_self _) (.slice A4 (FE.toL d1).length c4))
  have hb := (((hB4.setCell (p := ⟨w.heap.size, 0, none⟩) (show w.heap.size ≤ w.heap.size by omega) (.bool true)).setCell (p := ⟨w.heap.size, 1, none⟩) (show w.heap.size ≤ w.heap.size by omega) (.slice A3 (FE.toL N1).length c3)).setCell (p := ⟨w.heap.size, 2, none⟩) (show w.heap.size ≤ w.heap.size by omega) (.slice A4 (FE.toL d1).length c4))
  clear x1 x2 x3 x4
  go_wp2
  refine bodyPost_ret (v := .agg #[.bool true, .slice A3 (FE.toL N1).length c3, .slice A4 (FE.toL d1).length c4]) (by simp [results, Tryz.results116, go_sem, q0, q1, q2]) rfl ⟨_, rfl, RatP.mk' rfl (f3.mono (Nat.le_succ _)) (f4.mono (Nat.le_succ _)) hap, hb⟩

theorem iOfInts (n : Int) (d : Nat) (h1 : n.natAbs ≤ 4611686018427387904) (hd0 : 0 < d) (h2 : d ≤ 4611686018427387904) (w : World) :
    Calls Tryz.prog 116 #[.int .i64 n, .int .i64 d] w fun e w' => ∃ v, e = .returned v ∧ RatP w' w.heap.size v (FE.lowI n d) ∧ Below w.heap.size w w' := by
  rw [lowI_small n d hd0 h1 h2]
  by_cases h : n < 0
  · have e1 : n = -(n.natAbs : Int) := by omega
    have e2 : decide (n < 0) = true := by simp [h]
    rw [e2]
    conv => enter [3, 1]; rw [e1]
    exact iOfInts_neg n.natAbs d (by omega) h1 hd0 h2 w
  · have e1 : n = (n.natAbs : Int) := by omega
    have e2 : decide (n < 0) = false := by simp [h]
    rw [e2]
    conv => enter [3, 1]; rw [e1]
    exact iOfInts_pos n.natAbs d h1 hd0 h2 w
end Go.Proofs.YtlpomcihkjiokaaGreat

namespace Go.Proofs.YtlpomcihkjiokaaGreat
open Go.RowKit Go.Joins

theorem low_sg (b : Bool) (p q : Nat) : FE.low (b && decide (p ≠ 0)) p q = FE.low b p q := by
  unfold FE.low FE.mkR
  split
  · rfl
  · split
    · congr 1
      by_cases hp : p = 0
      · subst hp; simp
      · simp [hp]
    · rfl
theorem bigOk_of {s : Bool} {p : Nat} (hs : s = true → p ≠ 0) (hl : (FE.toL p).length ≤ 60) : FE.bigOk s (FE.toL p) = true := by
  simp only [FE.bigOk, FE.natOk_of_toL hl, Bool.true_and, Bool.or_eq_true, Bool.not_eq_true', List.isEmpty_eq_false_iff]
  cases s
  · exact .inl rfl
  · exact .inr (fun h => hs rfl (FE.toL_eq_nil.1 h))
theorem RatP.shape {w : World} {base : Nat} {v : Value} {r : RatD} (h : RatP w base v r) : ∃ A n c B m d, v = .agg #[.bool r.neg, .slice A n c, .slice B m d] := by
  obtain ⟨A, c, B, d, rfl, _⟩ := h.form
  exact ⟨A, _, c, B, _, d, rfl⟩
theorem RatP.far3 {w : World} {base g : Nat} {v : Value} {r : RatD} (h : RatP w base v r) (hg : g < base) (x y z : Value) : RatP (((w.setCell ⟨g, 0, none⟩ x).setCell ⟨g, 1, none⟩ y).setCell ⟨g, 2, none⟩ z) base v r :=
  ((h.far (p := ⟨g, 0, none⟩) hg x).far (p := ⟨g, 1, none⟩) hg y).far (p := ⟨g, 2, none⟩) hg z
theorem below3 {w W : World} {B g : Nat} (h : Below B w W) (hg : B ≤ g) (x y z : Value) : Below B w (((W.setCell ⟨g, 0, none⟩ x).setCell ⟨g, 1, none⟩ y).setCell ⟨g, 2, none⟩ z) :=
  ((h.setCell (p := ⟨g, 0, none⟩) hg x).setCell (p := ⟨g, 1, none⟩) hg y).setCell (p := ⟨g, 2, none⟩) hg z

set_option maxRecDepth 100000 in
set_option maxHeartbeats 3000000 in
theorem iRatMake (s t : Bool) (p q : Nat) (hs : s = true → p ≠ 0) (hq : q ≠ 0) (u v : Value) (w : World) (hu : BigV w u s (FE.toL p)) (hv : BigV w v t (FE.toL q)) (l1 : (FE.toL p).length ≤ 60) (l2 : (FE.toL q).length ≤ 60) :
    Calls Tryz.prog 177 #[u, v] w fun e w' => ∃ v', e = .returned v' ∧ RatP w' w.heap.size v' (FE.low (s != t) p q) ∧ Below w.heap.size w w' := by
  obtain ⟨A, c, rfl, _, _, ra⟩ := hu
  obtain ⟨B, d, rfl, _, _, rb⟩ := hv
  have K1 := fun W (hW : Below w.heap.size w W) => iBigIntOk s (FE.toL p) _ c rfl (by omega) A W (ra.later hW)
  have K2 := fun W (hW : Below w.heap.size w W) => iBigIntOk t (FE.toL q) _ d rfl (by omega) B W (rb.later hW)
  rw [bigOk_of hs l1] at K1
  rw [bigOk_of (fun _ => hq) l2] at K2
  replace K1 := Lib.hid K1
  replace K2 := Lib.hid K2
  have H1 := Lib.hid (fun W (hW : Below w.heap.size w W) => clone_any (FE.toL p) _ c rfl (by omega) A W (ra.later hW))
  have H2 := Lib.hid (fun (b : Bool) (n c : Nat) (hn : n ≤ maxLen) (A : Option Addr) W => iSigned' b n c hn A W)
  have H3 := Lib.hid (fun W (hW : Below w.heap.size w W) => clone_any (FE.toL q) _ d rfl (by omega) B W (rb.later hW))
  have H4 := Lib.hid (fun W (base : Nat) (ua v : Value) (hb : base ≤ W.heap.size) (h1 : RO W base ua (FE.toL p)) (h2 : RO W base v (FE.toL q)) (h3 : Apart ua v) => iReduced ((s != t) && decide (p ≠ 0)) p q hq (by simp) base ua v W hb h1 h2 h3 (by omega) (by omega))
  have hsg : sg (!(s == t)) (FE.toL p).length = ((s != t) && decide (p ≠ 0)) := sg_toL (s != t) p
  rw [← hsg, hsg, low_sg, ← hsg] at H4
  have hq0 : 0 < (FE.toL q).length := List.length_pos_iff.2 (fun h => hq (FE.toL_eq_nil.1 h))
  have hnm : (FE.toL p).length ≤ maxLen := by unfold maxLen; omega
  have z0 : (((FE.toL q).length : Int) == 0) = false := by simp; exact fun h => hq (FE.toL_eq_nil.1 h)
  clear ra rb l1 l2 hsg hs hq
  generalize FE.low (s != t) p q = R at *
  generalize FE.toL p = xs at *
  generalize FE.toL q = ys at *
  obtain ⟨n, hn⟩ : ∃ n, xs.length = n := ⟨_, rfl⟩
  obtain ⟨m, hm⟩ : ∃ n, ys.length = n := ⟨_, rfl⟩
  rw [hn] at K1 H1 H4 hnm ⊢
  rw [hm] at K2 H3 hq0 z0 ⊢
  have HN := Lib.hid hn
  have HM := Lib.hid hm
  clear hn hm
  go_enter Tryz.func177, Tryz.ntmps177
  go_wp2_with fail
  refine (K1.out _ (below_alloc3 _ _ _ _)).mono ?_
  rintro e w1 ⟨rfl, hb1⟩
  have R0 := Slots.new hb1 (g := w.heap.size + 1 + 1) (by simp)
  have S1 := Slots.new (below_step hb1) (g := w.heap.size + 1) (by simp)
  have S0 := Slots.new (below_step (below_step hb1)) (g := w.heap.size) rfl
  have hS := below_trans (below_alloc3 _ _ _ _) hb1
  clear hb1
  obtain ⟨a0, a1, _, _⟩ := S1.k2
  go_wp2_with fail
  refine (K2.out _ hS).mono ?_
  rintro e w2 ⟨rfl, hb2⟩
  replace R0 := R0.later hb2
  replace S1 := S1.later hb2
  replace S0 := S0.later hb2
  replace hS := below_trans hS hb2
  clear hb2 a0 a1
  obtain ⟨a0_0, a0_1, _, _⟩ := S0.k2
  obtain ⟨a1_0, a1_1, _, _⟩ := S1.k2
  clear S0 S1
  go_wp2_with fail
  go_region_held3 (fun w' => Below w.heap.size w w' ∧ w'.cell? ⟨w.heap.size, 0, none⟩ = some (.bool s) ∧ w'.cell? ⟨w.heap.size, 1, none⟩ = some (.slice A n c) ∧ w'.cell? ⟨w.heap.size + 1, 0, none⟩ = some (.bool t) ∧ w'.cell? ⟨w.heap.size + 1, 1, none⟩ = some (.slice B m d) ∧ AnyK w' (w.heap.size + 1 + 1) 3)
    (first | exact kD_2_2 hS a0_0 a0_1 a1_0 a1_1 (AnyK.of R0) | exact kC_2_2 (by omega) (by omega) (by assumption) (by assumption) | exact kS_2_2_3 (by omega) (by omega) (by omega) (by assumption))
    (first
      | (go_at_call 185; (with_reducible refine (H1.out _ (And.left (by assumption))).mono ?_); rintro e3 w3 ⟨v3, rfl, hro3, hb3⟩; have hSW3 := (‹Below w.heap.size w _ ∧ _ ∧ _ ∧ _ ∧ _ ∧ AnyK _ (w.heap.size + 1 + 1) 3›); have hB3 := hSW3.1.trans (below_le hb3 hSW3.1.size); have hA3 := hSW3.2.2.2.2.2.later hb3; have hlt3 := hSW3.2.2.2.2.2.lt; replace hro3 := hro3.mono (base' := w.heap.size + 1 + 1 + 1) (by omega); obtain ⟨A3, c3, rfl, _⟩ := id hro3; rw [HN.out]; rw [HN.out] at hro3)
      | (go_at_call 182; (with_reducible refine (H2.out _ _ _ hnm _ _).mono ?_); rintro e4 w4 ⟨rfl, hb4⟩; have hSW4 := (‹Below w.heap.size w _ ∧ _ ∧ _ ∧ _ ∧ _ ∧ AnyK _ (w.heap.size + 1 + 1) 3›); have hB4 := hSW4.1.trans (below_le hb4 hSW4.1.size); have hA4 := hSW4.2.2.2.2.2.later hb4; have hlt4 := hSW4.2.2.2.2.2.lt; replace hro3 := hro3.later hb4)
      | (go_at_call 185; (with_reducible refine (H3.out _ (And.left (by assumption))).mono ?_); rintro e5 w5 ⟨v5, rfl, hro5, hb5⟩; have hSW5 := (‹Below w.heap.size w _ ∧ _ ∧ _ ∧ _ ∧ _ ∧ AnyK _ (w.heap.size + 1 + 1) 3›); have hB5 := hSW5.1.trans (below_le hb5 hSW5.1.size); have hA5 := hSW5.2.2.2.2.2.later hb5; have hlt5 := hSW5.2.2.2.2.2.lt; have hap := apart_of hro3 hro5 (Nat.le_refl _); replace hro3 := hro3.later hb5; replace hro5 := hro5.mono (base' := w.heap.size + 1 + 1 + 1) (by omega); obtain ⟨A5, c5, rfl, _⟩ := id hro5; rw [HM.out]; rw [HM.out] at hro5 hap)
      | (go_at_call 117; (with_reducible refine (H4.out _ (w.heap.size + 1 + 1 + 1) _ _ (Nat.succ_le_of_lt hA5.lt) hro3 hro5 hap).mono ?_); rintro e6 w6 ⟨v6, rfl, hrp, hb6⟩; have hSW6 := (‹Below w.heap.size w _ ∧ _ ∧ _ ∧ _ ∧ _ ∧ AnyK _ (w.heap.size + 1 + 1) 3›); have hB6 := hSW6.1.trans (below_le hb6 hSW6.1.size); have hA6 := hSW6.2.2.2.2.2.later hb6; have hlt6 := hSW6.2.2.2.2.2.lt; obtain ⟨A6, n6, c6, B6, m6, d6, rfl⟩ := hrp.shape; obtain ⟨_, _, _, q0, q1, q2, _z0, _z1, _z2⟩ := hA6.c3))
  have hb := below3 hB6 (show w.heap.size ≤ w.heap.size + 1 + 1 by omega) (.bool R.neg) (.slice A6 n6 c6) (.slice B6 m6 d6)
  have f6 := hrp.far3 (g := w.heap.size + 1 + 1) (Nat.lt_succ_self _) (.bool R.neg) (.slice A6 n6 c6) (.slice B6 m6 d6)
  go_wp2
  refine bodyPost_ret (v := .agg #[.bool R.neg, .slice A6 n6 c6, .slice B6 m6 d6]) (by simp [results, Tryz.results177, go_sem, q0, q1, q2]) rfl ⟨_, rfl, f6.mono (by omega), hb⟩
end Go.Proofs.YtlpomcihkjiokaaGreat

namespace Go.Proofs.YtlpomcihkjiokaaGreat
open Go.RowKit Go.Joins

theorem toL_small3 {k : Nat} (hk : k ≤ 4611686018427387904) : (FE.toL k).length ≤ 3 := (FE.toL_len_le k 3).2 (by
  rw [FE.bp_succ, FE.bp_succ, FE.bp_succ, FE.bp_zero]; omega)
set_option maxRecDepth 100000 in
set_option maxHeartbeats 1600000 in
theorem sBigIntOf_pos (N : Nat) (hN : N ≤ 4611686018427387904) (w : World) :
    Calls Tryz.prog 204 #[.int .i64 N] w fun e w' => ∃ v, e = .returned v ∧ BigO w' w.heap.size v false (FE.toL N) ∧ Below w.heap.size w w' := by
  have eqB : (false && decide (N ≠ 0)) = false := by simp
  have H1 := Lib.hid (fun W => sNatOf_any N hN W)
  have H2 := Lib.hid (fun (n c : Nat) (hn : (FE.toL N).length = n) (hn1 : n ≤ 60) (hnc : n ≤ c) A W (ha : RI W A (FE.toL N)) => (show _ from eqB ▸ sMake false N n c hn hn1 hnc A W ha : Calls Tryz.prog 200 #[.bool false, .slice A n c] W fun e w' => ∃ v, e = .returned v ∧ BigO w' W.heap.size v false (FE.toL N) ∧ Below W.heap.size W w'))
  have HL := Lib.hid (toL_small3 hN)
  clear eqB
  have e1 : ((N : Int) == -9223372036854775808) = false := by simp
  go_enter Tryz.func204, Tryz.ntmps204
  go_wp2_with fail
  refine (H1.out _).mono ?_
  rintro e w3 ⟨v3, rfl, hro3, hb3⟩
  have S1 := Slots.new hb3 (g := w.heap.size) rfl
  replace hb3 := below_step hb3
  replace hro3 := hro3.mono (base' := w.heap.size + 1) (by simp)
  obtain ⟨A3, c3, rfl, hl3, hm3, _⟩ := id hro3
  go_wp2_with fail
  refine (H2.out _ _ rfl (Nat.le_trans HL.out (by decide)) hl3 _ _ hro3.reads).mono ?_
  rintro e w4 ⟨v4, rfl, ho4, hb4⟩
  have hsz : w.heap.size < w3.heap.size := S1.1
  replace S1 := S1.later hb4
  replace hb3 := below_trans hb3 hb4
  obtain ⟨va4, rfl, hr4⟩ := ho4
  obtain ⟨b0, b1, z0, z1⟩ := S1.k2
  have hb := (hb3.setCell (p := ⟨w.heap.size, 0, none⟩) (Nat.le_refl _) (.bool false)).setCell (p := ⟨w.heap.size, 1, none⟩) (Nat.le_refl _) va4
  have f4 := (hr4.far (p := ⟨w.heap.size, 0, none⟩) hsz (.bool false)).far (p := ⟨w.heap.size, 1, none⟩) hsz va4
  obtain ⟨A4, c4, rfl, _⟩ := id hr4
  go_wp2
  refine bodyPost_ret (v := .agg #[.bool false, .slice A4 (FE.toL N).length c4]) (by simp [results, Tryz.results204, go_sem, b0, b1]) rfl ⟨_, rfl, ⟨_, rfl, f4.mono (Nat.le_of_lt hsz)⟩, hb⟩
set_option maxRecDepth 100000 in
set_option maxHeartbeats 1600000 in
/-- An int as a fraction, once it is a signed number. -/
theorem sRatFromInt_at (n : Int) (s : Bool) (xs : List Int) (H0 : ∀ W, Calls Tryz.prog 204 #[.int .i64 n] W fun e w' => ∃ v, e = .returned v ∧ BigO w' W.heap.size v s xs ∧ Below W.heap.size W w') (w : World) :
    Calls Tryz.prog 173 #[.int .i64 n] w fun e w' => ∃ v, e = .returned v ∧ RatP w' w.heap.size v ⟨s, xs, [1]⟩ ∧ Below w.heap.size w w' := by
  have H1 := Lib.hid H0
  clear H0
  go_enter Tryz.func173, Tryz.ntmps173
  go_wp2_with fail
  refine (H1.out _).mono ?_
  rintro e w3 ⟨v3, rfl, ⟨va, rfl, hr3⟩, hb3⟩
  have S1 := Slots.new hb3 (g := w.heap.size) rfl
  replace hb3 := below_step hb3
  have hsz : w.heap.size < w3.heap.size := S1.1
  replace hr3 := hr3.mono (base' := w.heap.size + 1) (by simp)
  obtain ⟨A3, c3, rfl, _⟩ := id hr3
  obtain ⟨b0, b1, b2, z0, z1, z2⟩ := Slots.c3 S1
  go_wp2
  have S2 : Slots (((w3.setCell ⟨w.heap.size, 0, none⟩ (.bool s)).setCell ⟨w.heap.size, 1, none⟩ (.slice A3 xs.length c3)).setCell ⟨w.heap.size, 2, none⟩ (.slice (some ⟨w3.heap.size, 0, none⟩) 1 1)) w.heap.size [.bool s, .slice A3 xs.length c3, .slice (some ⟨w3.heap.size, 0, none⟩) 1 1] :=
    ((S1.set 0 (by decide) _).set 1 (by show 1 < 3; decide) _).set 2 (by show 2 < 3; decide) _
  have hb := below3 hb3 (Nat.le_refl w.heap.size) (.bool s) (.slice A3 xs.length c3) (.slice (some ⟨w3.heap.size, 0, none⟩) 1 1)
  have f3 := ((hr3.far (p := ⟨w.heap.size, 0, none⟩) (Nat.lt_succ_self _) (.bool s)).far (p := ⟨w.heap.size, 1, none⟩) (Nat.lt_succ_self _) (.slice A3 xs.length c3)).far (p := ⟨w.heap.size, 2, none⟩) (Nat.lt_succ_self _) (.slice (some ⟨w3.heap.size, 0, none⟩) 1 1)
  have hX : (((w3.setCell ⟨w.heap.size, 0, none⟩ (.bool s)).setCell ⟨w.heap.size, 1, none⟩ (.slice A3 xs.length c3)).setCell ⟨w.heap.size, 2, none⟩ (.slice (some ⟨w3.heap.size, 0, none⟩) 1 1)).heap.size = w3.heap.size := by simp
  generalize ((w3.setCell ⟨w.heap.size, 0, none⟩ (.bool s)).setCell ⟨w.heap.size, 1, none⟩ (.slice A3 xs.length c3)).setCell ⟨w.heap.size, 2, none⟩ (.slice (some ⟨w3.heap.size, 0, none⟩) 1 1) = X at *
  have hA : Arr (X.alloc (.cells #[.int .i64 1] 3)) w3.heap.size 1 [1] := ⟨[], rfl, by decide, by rw [← hX]; exact heap_alloc_new _ _⟩
  have hr4 := RO.of_own (OI.of_arr hA (Nat.le_refl _))
  have hap := apart_of hr3 hr4 (Nat.le_refl _)
  obtain ⟨q0, q1, q2, _⟩ := Slots.c3 (S2.later (below_alloc1 X (.cells #[.int .i64 1] 3)))
  have hb4 := hb.trans (below_le (below_alloc1 X (.cells #[.int .i64 1] 3)) hb.size)
  refine bodyPost_ret (v := .agg #[.bool s, .slice A3 xs.length c3, .slice (some ⟨w3.heap.size, 0, none⟩) 1 1]) (by simp only [results, Tryz.results173]; simp [go_sem, q0, q1, q2]) rfl
    ⟨_, rfl, ⟨_, _, rfl, (f3.later (below_alloc1 X _)).mono (by omega), hr4.mono (by omega), hap⟩, hb4⟩
theorem sRatFromInt_pos (N : Nat) (hN : N ≤ 4611686018427387904) (w : World) :
    Calls Tryz.prog 173 #[.int .i64 N] w fun e w' => ∃ v, e = .returned v ∧ RatP w' w.heap.size v (FE.rint N) ∧ Below w.heap.size w w' := by
  have h := sRatFromInt_at N false (FE.toL N) (fun W => sBigIntOf_pos N hN W) w
  rw [show FE.rint (N : Int) = ⟨false, FE.toL N, [1]⟩ by unfold FE.rint; simp]
  exact h
end Go.Proofs.YtlpomcihkjiokaaGreat

namespace Go.Proofs.YtlpomcihkjiokaaGreat
open Go.RowKit Go.Joins

theorem toL_small {k : Nat} (hk : k ≤ 4611686018427387904) : (FE.toL k).length ≤ 3 := (FE.toL_len_le k 3).2 (by
  rw [FE.bp_succ, FE.bp_succ, FE.bp_succ, FE.bp_zero]; omega)
theorem bne_false (b : Bool) : (b != false) = b := by cases b <;> rfl

set_option maxRecDepth 100000 in
set_option maxHeartbeats 800000 in
theorem iRatOf (n d : Int) (hn : n.natAbs ≤ 4611686018427387904) (hd : d.natAbs ≤ 4611686018427387904) (h0 : d ≠ 0) (w : World) :
    Calls Tryz.prog 108 #[.int .i64 n, .int .i64 d] w fun e w' => ∃ v, e = .returned v ∧ RatP w' w.heap.size v (FE.low (decide (n < 0) != decide (d < 0)) n.natAbs d.natAbs) ∧ Below w.heap.size w w' := by
  have H1 := Lib.hid (fun W => iBigIntOf n hn W)
  have H2 := Lib.hid (fun W => iBigIntOf d hd W)
  have H3 := Lib.hid (fun (u v : Value) W (hu : BigV W u (decide (n < 0)) (FE.toL n.natAbs)) (hv : BigV W v (decide (d < 0)) (FE.toL d.natAbs)) => iRatMake (decide (n < 0)) (decide (d < 0)) n.natAbs d.natAbs (by intro h; simp at h; omega) (by omega) u v W hu hv (by have := toL_small hn; omega) (by have := toL_small hd; omega))
  clear h0 hn hd
  generalize FE.low (decide (n < 0) != decide (d < 0)) n.natAbs d.natAbs = R at *
  generalize decide (n < 0) = sn at *
  generalize decide (d < 0) = sd at *
  generalize FE.toL n.natAbs = xs at *
  generalize FE.toL d.natAbs = ys at *
  go_enter Tryz.func108, Tryz.ntmps108
  go_wp2_with fail
  refine (H1.out _).mono ?_
  rintro e w3 ⟨v3, rfl, ho3, hb3⟩
  have R0 := Slots.new hb3 (g := w.heap.size) rfl
  replace hb3 := below_step hb3
  go_wp2_with fail
  refine (H2.out _).mono ?_
  rintro e w4 ⟨v4, rfl, ho4, hb4⟩
  replace R0 := R0.later hb4
  replace hb3 := below_trans hb3 hb4
  have hu := (ho3.later hb4).reads
  have hv := ho4.reads
  clear hb4 ho3 ho4
  go_wp2_with fail
  refine (H3.out v3 v4 _ hu hv).mono ?_
  rintro e w5 ⟨v5, rfl, hrp, hb5⟩
  have hz := R0.1
  replace R0 := R0.later hb5
  replace hb3 := below_trans hb3 hb5
  replace hrp := hrp.mono (base' := w.heap.size + 1) (by omega)
  obtain ⟨A6, n6, c6, B6, m6, d6, rfl⟩ := hrp.shape
  obtain ⟨b0, b1, b2, z0, z1, z2⟩ := R0.c3
  have hb := below3 hb3 (Nat.le_refl w.heap.size) (.bool R.neg) (.slice A6 n6 c6) (.slice B6 m6 d6)
  have f6 := hrp.far3 (g := w.heap.size) (Nat.lt_succ_self _) (.bool R.neg) (.slice A6 n6 c6) (.slice B6 m6 d6)
  clear R0 hrp hu hv
  go_wp2
  exact bodyPost_ret (v := .agg #[.bool R.neg, .slice A6 n6 c6, .slice B6 m6 d6]) (by simp [results, Tryz.results108, go_sem, b0, b1, b2]) rfl ⟨_, rfl, f6.mono (Nat.le_succ _), hb⟩

theorem low_int (s : Bool) (n : Nat) (hs : s = true → n ≠ 0) (hn : n ≤ 4611686018427387904) : FE.low s n 1 = ⟨s, FE.toL n, [1]⟩ := by
  have h1 : FE.toL 1 = [1] := by rw [FE.toL_pos (by omega), show (1 / 1000000000 : Nat) = 0 from rfl, FE.toL_zero]; rfl
  rw [low_one (by omega) (Nat.gcd_one_right n) hs (by have := toL_small hn; omega) (by rw [h1]; simp), h1]

set_option maxRecDepth 100000 in
set_option maxHeartbeats 800000 in
theorem iRatFromInt (n : Int) (hn : n.natAbs ≤ 4611686018427387904) (w : World) :
    Calls Tryz.prog 40 #[.int .i64 n] w fun e w' => ∃ v, e = .returned v ∧ RatP w' w.heap.size v (FE.rint n) ∧ Below w.heap.size w w' := by
  have H1 := fun W => iRatOf n 1 hn (by simp) (by omega) W
  rw [show (decide ((1 : Int) < 0)) = false from rfl, bne_false, show (1 : Int).natAbs = 1 from rfl, low_int _ _ (by intro h; simp at h; omega) hn] at H1
  rw [show FE.rint n = ⟨decide (n < 0), FE.toL n.natAbs, [1]⟩ from rfl]
  replace H1 := Lib.hid H1
  generalize (⟨decide (n < 0), FE.toL n.natAbs, [1]⟩ : RatD) = R at *
  go_enter Tryz.func40, Tryz.ntmps40
  go_wp2_with fail
  refine (H1.out _).mono ?_
  rintro e w5 ⟨v5, rfl, hrp, hb5⟩
  have R0 := Slots.new hb5 (g := w.heap.size) rfl
  replace hb5 := below_step hb5
  replace hrp := hrp.mono (base' := w.heap.size + 1) (by simp)
  obtain ⟨A6, n6, c6, B6, m6, d6, rfl⟩ := hrp.shape
  obtain ⟨b0, b1, b2, z0, z1, z2⟩ := R0.c3
  have hb := below3 hb5 (Nat.le_refl w.heap.size) (.bool R.neg) (.slice A6 n6 c6) (.slice B6 m6 d6)
  have f6 := hrp.far3 (g := w.heap.size) (Nat.lt_succ_self _) (.bool R.neg) (.slice A6 n6 c6) (.slice B6 m6 d6)
  clear R0 hrp
  go_wp2
  exact bodyPost_ret (v := .agg #[.bool R.neg, .slice A6 n6 c6, .slice B6 m6 d6]) (by simp [results, Tryz.results40, go_sem, b0, b1, b2]) rfl ⟨_, rfl, f6.mono (Nat.le_succ _), hb⟩
end Go.Proofs.YtlpomcihkjiokaaGreat
