/-
  Walks over the reference: division.
-/
import Derived.Test.YtkmmdajlbkbnmaaSp5
namespace Go.Proofs.Ytkmmdajlbkbnmaa
open Go.RowKit

theorem cons_trim (x R : Nat) (hx : x < 1000000000) : FE.trim (((x : Nat) : Int) :: FE.toL R) = FE.toL (x + 1000000000 * R) := by
  refine FE.trim_eq (FE.Dig.cons (by omega) (by omega) (FE.toL_dig _)) ?_
  rw [FE.val_cons, FE.val_toL]; omega

set_option maxRecDepth 100000 in
set_option maxHeartbeats 1000000 in
theorem sDiv_one (xs : List Int) (y : Nat) (n c d : Nat) (hn : xs.length = n) (hn1 : n ≤ 60000) (hxd : FE.Dig xs) (hy0 : 0 < y) (hy1 : y < 1000000000)
    (A B : Option Addr) (w : World) (ha : RI w A xs) (hb : RI w B [(y : Int)]) :
    Calls Try.prog 135 #[.slice A n c, .slice B 1 d] w fun e w' => ∃ v1 v2, e = .returned (.tuple #[v1, v2]) ∧ RO w' w.heap.size v1 (FE.toL (FE.val xs / y).toNat) ∧ RO w' w.heap.size v2 (FE.toL (FE.val xs % y).toNat) ∧ Below w.heap.size w w' := by
  obtain ⟨b2, o2, rfl, hb2, hc2⟩ := hb (by simp)
  have e2 := hc2 0 (by simp)
  simp only [List.getD_cons_zero, Nat.add_zero] at e2
  have hr0 := Int.emod_nonneg (FE.val xs) (show (y : Int) ≠ 0 by omega)
  have hr1 := Int.emod_lt_of_pos (FE.val xs) (show (0 : Int) < y by omega)
  obtain ⟨r, hr⟩ : ∃ r : Nat, FE.val xs % y = r := ⟨(FE.val xs % y).toNat, by omega⟩
  have hDS := fun W h1 => sSmall_any xs n c y hn (by omega) hxd (by omega) (by omega) A W h1
  have hNO := fun W => sNatOf_any r (by omega) W
  rw [hr]
  simp only [hr] at hDS
  simp only [Int.toNat_natCast]
  have HDS := Lib.hid hDS
  have HNO := Lib.hid hNO
  clear hDS hNO hr hr0 hr1
  go_enter Try.func135, Try.ntmps135
  go_wp2_with fail
  refine (HDS.out _ ha).mono ?_
  rintro e w2 ⟨v2, rfl, hro2, hb2'⟩
  go_wp2_with fail
  refine (HNO.out _).mono ?_
  rintro e w3 ⟨v3, rfl, hro3, hb3⟩
  go_wp2
  go_ret2
  exact ⟨_, _, rfl, hro2.later hb3, hro3.mono hb2'.size, hb2'.trans (hb3.mono hb2'.size)⟩

theorem set_self {l : List Int} {j : Nat} {v : Int} (hj : j < l.length) (h : l.getD j 0 = v) : l.set j v = l := by
  apply List.ext_getElem
  · simp
  · intro i h1 h2
    rw [List.getElem_set]
    split
    · rename_i e
      subst e
      rw [← h]; simp [hj]
    · rfl
theorem RO.drewN' {w : World} {base : Nat} {v : Value} {xs : List Int} (h : RO w base v xs) (n : Nat) : RO (w.drewN n) base v xs := h

set_option maxRecDepth 100000 in
set_option maxHeartbeats 2000000 in
theorem sDiv_many (xs : List Int) (y : Nat) (n m c d : Nat) (hn : xs.length = n) (hm : (FE.toL y).length = m + 2) (hn1 : n ≤ 50000) (hm1 : m ≤ 50000) (hxd : FE.Dig xs) (hy0 : 0 < y)
    (A B : Option Addr) (w : World) (ha : RI w A xs) (hb : RI w B (FE.toL y)) :
    Calls Try.prog 135 #[.slice A n c, .slice B (m + 2) d] w fun e w' => ∃ v1 v2, e = .returned (.tuple #[v1, v2]) ∧ RO w' w.heap.size v1 (FE.toL (FE.val xs / y).toNat) ∧ RO w' w.heap.size v2 (FE.toL (FE.val xs % y).toNat) ∧ Below w.heap.size w w' := by
  have hmb : (((m : Int) + 2) == 1) = false := by simp; omega
  go_enter Try.func135, Try.ntmps135
  go_wp2_with (at_make; refine makeInts rfl _ _ _ rfl Try.underlying80 Try.intInfo n n _ _ rfl rfl (by omega) (by omega) (Nat.le_refl _) (by omega) ?_; intro harr0)
  go_loopw [9, 10] (fun v i wr => ∃ (k : Nat) (zs : List Int) (R : Nat) (A' : Option Addr) (n' c' : Nat), k ≤ n ∧ i = .int .i64 ((k : Int) - 1) ∧ v = .slice A' n' c' ∧ (FE.toL R).length = n' ∧ RO wr w.heap.size (.slice A' n' c') (FE.toL R) ∧ R < y ∧ zs.length = n ∧ FE.Dig zs ∧ (∀ j, j < k → zs.getD j 0 = 0) ∧
      FE.val xs = y * FE.val zs + FE.bp k * R + FE.val (xs.take k) ∧ Arr wr w.heap.size n zs ∧ Below w.heap.size w wr) (fun _ i _ => (intOf i + 1).toNat)
  case atStart =>
    refine ⟨n, List.replicate n 0, 0, _, 0, 0, Nat.le_refl _, rfl, rfl, by rw [FE.toL_zero]; rfl, by rw [FE.toL_zero]; exact RO.nil _ _ _ _ (Nat.zero_le _), hy0, by simp, FE.Dig.replicate n, fun j hj => by simp [hj], by rw [FE.val_replicate, List.take_of_length_le (by omega)]; simp, harr0.alloc _, ((Below.refl _ _).alloc (Nat.le_refl _) _).alloc (by simp) _⟩
  case round =>
    obtain ⟨k, zs, R, A', n', c', hk, rfl, rfl, hRl, hRo, hRy, hz, hzd, hzz, hv, harr, hbel⟩ := hrel
    have HZ := Lib.hid hz; clear hz
    have HV := Lib.hid hv; clear hv
    have HZZ := Lib.hid hzz; clear hzz
    clear harr0
    by_cases hk0 : k = 0
    · subst hk0
      have hfin : FE.val xs = y * FE.val zs + R := by have := HV.out; simp [FE.bp_zero, FE.val] at this; exact this
      have hz0 := FE.val_nonneg hzd
      have hq : FE.val xs / y = FE.val zs := by
        rw [hfin, Int.add_comm, Int.add_mul_ediv_left _ _ (by omega), Int.ediv_eq_zero_of_lt (by omega) (by omega)]; omega
      have hr : FE.val xs % y = R := by rw [hfin, Int.add_comm, Int.add_mul_emod_self_left]; exact Int.emod_eq_of_lt (by omega) (by omega)
      have ht : FE.trim zs = FE.toL (FE.val xs / y).toNat := FE.trim_eq hzd (by rw [hq]; omega)
      have HR := Lib.hid hr
      have HT := Lib.hid ht
      clear hfin hq hr ht
      go_wp2_with (go_at_call 146; refine (sTrim_any zs n n HZ.out (by omega) (Nat.le_refl _) _ _ harr.reads).mono ?_; rintro e w' ⟨rfl, rfl⟩)
      go_ret2
      refine ⟨_, _, rfl, ?_, ?_, hbel⟩
      · rw [← HT.out]
        exact RO.of_trim harr (Nat.le_refl _)
      · rw [HR.out, Int.toNat_natCast]
        exact hRo
    · obtain ⟨j, rfl⟩ : ∃ j, k = j + 1 := ⟨k - 1, by omega⟩
      rw [show ((j + 1 : Nat) : Int) - 1 = (j : Int) by omega]
      obtain ⟨b1, o1, rfl, hb1, hc1⟩ := ha (by intro h; subst h; simp at hn; omega)
      have e1 := (hbel.cell (p := ⟨b1, o1 + j, none⟩) hb1).trans (hc1 j (by omega))
      have hx := hxd.getD j
      have hstep := FE.divStep (d := (y : Int)) (r := (R : Int)) (by omega) (by omega) (by omega) hxd (by omega) (HZ.out.trans hn.symm) hzd (HZZ.out j (by omega)) HV.out rfl
      clear hc1
      obtain ⟨x, hxe⟩ : ∃ x : Nat, xs.getD j 0 = x := ⟨(xs.getD j 0).toNat, by omega⟩
      rw [hxe] at e1 hx hstep
      have hT : ((R : Int) * 1000000000 + (x : Int)) = ((x + 1000000000 * R : Nat) : Int) := by omega
      rw [hT] at hstep
      have hct := cons_trim x R (by omega)
      obtain ⟨T, hTe⟩ : ∃ T, T = x + 1000000000 * R := ⟨_, rfl⟩
      rw [← hTe] at hstep hct
      have hTy : T < y * 1000000000 := by
        have : (R + 1) * 1000000000 ≤ y * 1000000000 := Nat.mul_le_mul_right _ (by omega)
        omega
      have hlenR : n' ≤ m + 2 := by rw [← hRl, ← hm]; exact toL_len_mono (by omega)
      have hlenT : (FE.toL T).length ≤ m + 3 := by
        have h1 := FE.val_lt (FE.toL_dig y)
        rw [FE.val_toL, hm] at h1
        refine (FE.toL_len_le _ _).2 ?_
        rw [FE.bp_succ]; omega
      have HSTEP := Lib.hid hstep
      have HCT := Lib.hid hct
      have HTE := Lib.hid hTe
      have HTY := Lib.hid hTy
      have hy1 : ((x : Int) :: FE.toL R).length = n' + 1 := by simp [hRl]
      have HL := Lib.hid hy1
      clear hstep hct hTe hTy hT hxe hy1
      go_wp2_with (at_builtin; refine appendAll rfl _ _ _ rfl Try.underlying80 Try.intInfo wr.heap.size _ [(x : Int)] rfl (OI.of_arr (g := wr.heap.size) (cap := 1) ⟨[], rfl, by simp [maxLen], heap_alloc_new _ _⟩ (Nat.le_refl _)) A' (FE.toL R) n' c' rfl hRl (hRo.reads.alloc _) (by simp; omega) (by simp) ?_)
      intro v1 w1 hown1 hb1'
      have hown1' : OI w1 wr.heap.size v1 ((x : Int) :: FE.toL R) := hown1
      clear hown1
      obtain ⟨A1, c1, rfl, hlc, hri, hro⟩ := hown1'.form
      rw [HCT.out] at hro
      rw [HL.out] at hlc ⊢
      have hbw : Below wr.heap.size wr w1 := ((Below.refl _ _).alloc (Nat.le_refl _) _).trans hb1'
      have hbe1 : Below w.heap.size w w1 := hbel.trans (hbw.mono hbel.size)
      have harr1 : Arr w1 w.heap.size n zs := harr.later hbw
      have hgsz := harr.lt
      clear hown1' hb1' hbw harr hRo
      go_wp2_with fail
      refine (sTrim_any ((x : Int) :: FE.toL R) (n' + 1) c1 HL.out (by omega) hlc A1 _ hri).mono ?_
      rintro e w2 ⟨rfl, rfl⟩
      rw [HCT.out]
      obtain ⟨s, hs⟩ : ∃ s, cmpI (T : Int) (y : Int) = s := ⟨_, rfl⟩
      have HS := Lib.hid hs; clear hs
      go_wp2_with fail
      refine (sCmp_s T y s HS.out _ (m + 2) c1 d rfl hm (by omega) (by omega) A1 B _ hro.reads (hb.later hbe1)).mono ?_
      rintro e w3 ⟨rfl, k3, rfl⟩
      by_cases hlt : T < y
      · have hs0 : s < 0 := by rw [← HS.out, cmpI, if_pos (by omega)]; omega
        have hq0 : T / y = 0 := Nat.div_eq_of_lt hlt
        have hm0 : T % y = T := Nat.mod_eq_of_lt hlt
        have hst := HSTEP.out
        rw [← Int.natCast_ediv, ← Int.natCast_emod, hq0, hm0] at hst
        have hset : zs.set j ((0 : Nat) : Int) = zs := set_self (by have := HZ.out; omega) (HZZ.out j (by omega))
        rw [hset] at hst
        have HST := Lib.hid hst
        have HLT := Lib.hid hlt
        clear hst hset hq0 hm0 hlt
        go_wp2
        go_roundw
        case rel => exact ⟨j, zs, T, A1, _, c1, by omega, rfl, rfl, rfl, (hro.mono hbel.size).drewN' _, HLT.out, HZ.out, hzd, fun j' hj' => HZZ.out j' (by omega), HST.out.2.2.2, harr1.drewN _, below_drewN hbe1 _⟩
        case measure => simp [intOf]
      · have hs0 : 0 ≤ s := by rw [← HS.out, cmpI, if_neg (by omega)]; split <;> omega
        have hst := HSTEP.out
        rw [← Int.natCast_ediv, ← Int.natCast_emod] at hst
        have hqb : T / y < 1000000000 := Nat.div_lt_of_lt_mul (by have := HTY.out; omega)
        have hmul : y * (T / y) ≤ T := Nat.mul_div_le T y
        have hmod : T - y * (T / y) = T % y := by have := Nat.div_add_mod T y; omega
        have hmlt := Nat.mod_lt T hy0
        obtain ⟨q, hq⟩ : ∃ q, T / y = q := ⟨_, rfl⟩
        rw [hq] at hst hqb hmul hmod
        have HST := Lib.hid hst
        have HQ := Lib.hid hq
        have HMUL := Lib.hid hmul
        have HMOD := Lib.hid hmod
        have HMLT := Lib.hid hmlt
        have hl1 := mul_len hm hqb
        have hl2 := digit_len hqb
        have c1' := harr1.cell j (by have := HZ.out; omega)
        have c2' := harr1.frozen j
        have hset := (harr1.drewN k3)
        have hsetj := fun (W : World) (h : Arr W w.heap.size n zs) => h.set j (by have := HZ.out; omega) ((q : Nat) : Int)
        have HSET := Lib.hid hsetj
        clear hst hq hmul hmod hlt hset hsetj hmlt
        go_wp2_with fail
        refine (sDigit_any T y _ (m + 2) c1 d rfl hm (by omega) (by omega) hy0 HTY.out A1 B _ (hro.reads.drewN _) ((hb.later hbe1).drewN _)).mono ?_
        rintro e w4 ⟨rfl, hb4⟩
        rw [HQ.out]
        have harr4 := (harr1.drewN k3).later hb4
        have hro4 := (RO.drewN' hro k3).later hb4
        have hbe4 := (below_drewN hbe1 k3).trans (hb4.mono hbe1.size)
        have d1 := harr4.cell j (by have := HZ.out; omega)
        have d2 := harr4.frozen j
        have harr5 := HSET.out _ harr4
        have hbe5 : Below w.heap.size w (w4.setCell ⟨w.heap.size, j, none⟩ (.int .i64 ((q : Nat) : Int))) := hbe4.setCell (Nat.le_refl _) _
        have hgf : ∀ a, A1 = some a → FE.toL T ≠ [] → a.block ≠ w.heap.size := fun a h1 h2 => by
          obtain ⟨A2, c2, h3, _, _, h4⟩ := hro4
          obtain ⟨g, h5, h6, _⟩ := h4 h2
          injection h3 with h3 _ _
          rw [h1] at h3
          rw [← h3] at h5
          injection h5 with h5
          subst h5
          show g ≠ w.heap.size
          omega
        have hri5 : RI (w4.setCell ⟨w.heap.size, j, none⟩ (.int .i64 ((q : Nat) : Int))) A1 (FE.toL T) := ((Only.refl w.heap.size w4).set j _).reads hro4.reads hgf
        clear c1' c2' hgf hro4 hro harr1 HSET hb4
        go_wp2_with fail
        refine (sNatOf_any q (by omega) _).mono ?_
        rintro e w6 ⟨v6, rfl, hro6, hb6⟩
        obtain ⟨A6, c6, rfl, hc6⟩ := hro6.form
        have hbe6 := hbe5.trans (hb6.mono hbe5.size)
        have harr6 := harr5.later hb6
        have hri6 := hri5.later hb6
        clear d1 d2 harr4
        go_wp2_with fail
        refine (sMul_nat y q (m + 2) _ d c6 hm rfl (by omega) (by omega) B A6 _ (hb.later hbe6) hro6.reads).mono ?_
        rintro e w7 ⟨v7, rfl, hro7, hb7⟩
        obtain ⟨A7, c7, rfl, hc7⟩ := hro7.form
        have hbe7 := hbe6.trans (hb7.mono hbe6.size)
        have harr7 := harr6.later hb7
        have hri7 := hri6.later hb7
        go_wp2_with fail
        refine (sSub_nat T (y * q) _ _ c1 c7 rfl rfl (by omega) HMUL.out A1 A7 _ hri7 hro7.reads).mono ?_
        rintro e w8 ⟨v8, rfl, hro8, hb8⟩
        obtain ⟨A8, c8, rfl, hc8⟩ := hro8.form
        have hbe8 := hbe7.trans (hb8.mono hbe7.size)
        have harr8 := harr7.later hb8
        rw [HMOD.out] at hro8
        have hl8 : (FE.toL (T - y * q)).length = (FE.toL (T % y)).length := by rw [HMOD.out]
        rw [hl8]
        have hro9 := hro8.mono hbe7.size
        clear hbe5 hbe6 hbe4 hb6 hb7 hb8 harr5 harr6 harr7 hri5 hri6 hri7 hro6 hro7 hro8 hl8
        go_wp2
        go_roundw
        case rel =>
          refine ⟨j, zs.set j ((q : Nat) : Int), T % y, A8, _, c8, by omega, rfl, rfl, rfl, hro9, HMLT.out, by simp; exact HZ.out, HST.out.2.2.1, ?_, HST.out.2.2.2, harr8, hbe8⟩
          intro j' hj'
          rw [FE.getD_set, if_neg (by omega)]
          exact HZZ.out j' (by omega)
        case measure => simp [intOf]

theorem sDiv_nat (p q : Nat) (n m c d : Nat) (hn : (FE.toL p).length = n) (hm : (FE.toL q).length = m) (hn1 : n ≤ 50000) (hm1 : m ≤ 50000) (hq : q ≠ 0)
    (A B : Option Addr) (w : World) (ha : RI w A (FE.toL p)) (hb : RI w B (FE.toL q)) :
    Calls Try.prog 135 #[.slice A n c, .slice B m d] w fun e w' => ∃ v1 v2, e = .returned (.tuple #[v1, v2]) ∧ RO w' w.heap.size v1 (FE.toL (p / q)) ∧ RO w' w.heap.size v2 (FE.toL (p % q)) ∧ Below w.heap.size w w' := by
  have e1 : (FE.val (FE.toL p) / (q : Int)).toNat = p / q := by rw [FE.val_toL, ← Int.natCast_ediv, Int.toNat_natCast]
  have e2 : (FE.val (FE.toL p) % (q : Int)).toNat = p % q := by rw [FE.val_toL, ← Int.natCast_emod, Int.toNat_natCast]
  match m, hm with
  | 0, hm => exact absurd (FE.toL_eq_nil.1 (List.eq_nil_of_length_eq_zero hm)) hq
  | 1, hm =>
    obtain ⟨y, hy⟩ := List.length_eq_one_iff.1 hm
    have h1 := FE.val_toL q
    rw [hy] at h1
    have h2 : y = (q : Int) := by simpa [FE.val] using h1
    have h3 := (FE.toL_dig q).get 0 (by omega)
    simp only [hy, List.getElem_cons_zero] at h3
    rw [hy, h2] at hb
    have h := sDiv_one (FE.toL p) q n c d hn (by omega) (FE.toL_dig _) (by omega) (by omega) A B w ha hb
    rwa [e1, e2] at h
  | m + 2, hm =>
    have h := sDiv_many (FE.toL p) q n m c d hn hm (by omega) (by omega) (FE.toL_dig _) (by omega) A B w ha hb
    rwa [e1, e2] at h

end Go.Proofs.Ytkmmdajlbkbnmaa
