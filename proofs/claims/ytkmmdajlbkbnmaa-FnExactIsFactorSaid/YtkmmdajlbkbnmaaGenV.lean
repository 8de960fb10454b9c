/-
  Walks: the law's own functions on vectors: size, copy, comparison.
-/
import Derived.Test.YtkmmdajlbkbnmaaGenR
import Derived.Lib.QuietBelow
namespace Go.Proofs.Ytkmmdajlbkbnmaa
open Go.RowKit Go.Joins

def sumSz (rs : List RatD) : Nat := (rs.map RatD.size).sum
def vsz (rs : List RatD) : Nat := rs.length + sumSz rs
theorem sumSz_step (rs : List RatD) (k : Nat) (h : k < rs.length) : sumSz (rs.take (k + 1)) = sumSz (rs.take k) + (rs.getD k zR).size := by
  rw [List.take_succ_eq_append_getElem h]
  simp only [sumSz, List.map_append, List.sum_append, List.map_cons, List.map_nil, List.sum_cons, List.sum_nil]
  simp [h]
theorem sumSz_le (rs : List RatD) (k : Nat) : sumSz (rs.take k) ≤ sumSz rs := by
  conv => rhs; rw [← List.take_append_drop k rs]
  simp only [sumSz, List.map_append, List.sum_append]
  omega

theorem VI.cells {w : World} {A : Option Addr} {rs : List RatD} (h : VI w A rs) (k : Nat) (hk : k < rs.length) : ∃ b off, A = some ⟨b, off, none⟩ ∧ b < w.heap.size ∧ RatAt w b (off + k * 3) (rs.getD k zR) := by
  obtain ⟨b, off, rfl, hb, hc⟩ := h (by intro h; subst h; simp at hk)
  exact ⟨b, off, rfl, hb, hc k hk⟩

set_option maxHeartbeats 800000 in
theorem szRatS (rs : List RatD) (n c : Nat) (hn : rs.length = n) (hnc : n ≤ maxLen) (left : Int) (h0 : 0 ≤ left) (h1 : left ≤ 1048576) (A : Option Addr) (w : World) (hv : VI w A rs) :
    Calls Try.prog 25 #[.slice A n c, .int .i64 left] w fun r w' => r = .returned (.int .i64 (szI (vsz rs) left)) ∧ Below w.heap.size w w' := by
  have hm : n ≤ 9223372036854775807 := hnc
  have hw : wrap64 (left - n) = left - n := IntWalk.wrap64_in _ ⟨by omega, by omega⟩
  by_cases hl : (n : Int) ≤ left
  · have HN := Lib.hid hn; clear hn
    have hd : ¬ (left - n < 0) := by omega
    have hd' : 0 ≤ left - n := by omega
    go_enter Try.func25, Try.ntmps25
    go_wp2_with fail
    go_loopw [1, 5] (fun l i wr => ∃ (k : Nat) (m : Int), k ≤ n ∧ i = .int .i64 k ∧ l = .int .i64 m ∧ 0 ≤ m ∧ m ≤ 1048576 ∧ m = left - n - sumSz (rs.take k) ∧ Below w.heap.size w wr) (fun _ i _ => n - (intOf i).toNat)
    case atStart => exact ⟨0, _, Nat.zero_le _, rfl, rfl, hd', by omega, by simp [sumSz], Below.refl _ _⟩
    case round =>
      obtain ⟨k, m, hk, rfl, rfl, hm0, hm1, hms, hbel⟩ := hrel
      have HM := Lib.hid hms; clear hms
      by_cases hkn : k = n
      · subst hkn
        have h0 : decide ((k : Int) < (k : Int)) = false := by simp
        have hF : szI (vsz rs) left = m := by
          have e := HM.out
          rw [List.take_of_length_le (by rw [HN.out]; exact Nat.le_refl _)] at e
          have hN := HN.out
          rw [szI_pos (by simp only [vsz]; omega), vsz]
          omega
        have HF := Lib.hid hF; clear hF
        go_wp2
        go_ret
        exact ⟨ret_int (by rw [HF.out]), hbel⟩
      · have hlt : (k : Int) < (n : Int) := by omega
        have hkl : k < rs.length := by rw [HN.out]; omega
        obtain ⟨b, off, rfl, hb, hat⟩ := hv.cells k hkl
        have hat1 := RatAt.stays _ _ _ _ _ hb hat hbel
        have HS := Lib.hid (sumSz_step rs k hkl)
        have HL := Lib.hid (sumSz_le rs (k + 1))
        generalize rs.getD k zR = x at *
        clear hat hkl
        obtain ⟨A1, c1, B1, d1, g0, g1, g2, hcd, hr1, hr2⟩ := hat1
        go_wp2_with fail
        have hrv : RatV wr (.agg #[.bool x.neg, .slice A1 x.mag.length c1, .slice B1 x.den.length d1]) x := ⟨_, _, _, _, rfl, hcd, hr1, hr2⟩
        refine (szRat x _ m hm0 hm1 wr hrv).mono ?_
        by_cases hxm : (x.size : Int) ≤ m
        · have hz := szI_pos hxm
          have hz0 : 0 ≤ szI x.size m := by omega
          have hz1 : szI x.size m ≤ 1048576 := by omega
          replace hz := Lib.hid hz
          rintro r w2 ⟨rfl, hb2⟩
          replace hb2 := hbel.trans (below_le hb2 hbel.size)
          clear hrv hr1 hr2 hcd g0 g1 g2
          go_wp2
          go_roundw
          case rel => exact ⟨k + 1, _, by omega, rfl, rfl, hz0, hz1, by rw [hz.out, HM.out, HS.out]; omega, hb2⟩
          case measure => simp [intOf]; omega
        · have hz := szI_neg (show m < x.size by omega)
          rw [hz]
          rintro r w2 ⟨rfl, hb2⟩
          have hF : szI (vsz rs) left = -1 := szI_neg (by have := HM.out; have := HS.out; have := HL.out; have := HN.out; simp only [vsz]; omega)
          have HF := Lib.hid hF; clear hF
          replace hb2 := hbel.trans (below_le hb2 hbel.size)
          clear hrv hr1 hr2 hcd g0 g1 g2 hz
          go_wp2
          go_ret
          exact ⟨ret_int (by rw [HF.out]), hb2⟩
  · have hF : szI (vsz rs) left = -1 := szI_neg (by simp only [vsz]; omega)
    have HF := Lib.hid hF; clear hF
    have hd : left - n < 0 := by omega
    clear hl hn
    go_enter Try.func25, Try.ntmps25
    go_wp2
    go_ret
    exact ⟨ret_int (by rw [HF.out]), Below.refl _ _⟩
def vsame : List RatD → List RatD → Bool
  | [], [] => true
  | x :: r, y :: s => x.same y && vsame r s
  | _, _ => false
theorem vsame_iff : ∀ (rs ss : List RatD), vsame rs ss = true ↔ rs.length = ss.length ∧ ∀ j, j < rs.length → (rs.getD j zR).same (ss.getD j zR) = true
  | [], [] => by simp [vsame]
  | [], _ :: _ => by simp [vsame]
  | _ :: _, [] => by simp [vsame]
  | x :: r, y :: s => by
    simp only [vsame, Bool.and_eq_true, vsame_iff r s, List.length_cons]
    constructor
    · rintro ⟨h1, h2, h3⟩
      refine ⟨by omega, fun j hj => ?_⟩
      cases j with
      | zero => simpa using h1
      | succ j => simpa using h3 j (by omega)
    · rintro ⟨h1, h2⟩
      exact ⟨by simpa using h2 0 (by omega), by omega, fun j hj => by simpa using h2 (j + 1) (by omega)⟩
theorem RatD.same_refl (x : RatD) : x.same x = true := by simp [RatD.same]
theorem vsame_refl (rs : List RatD) : vsame rs rs = true := (vsame_iff rs rs).2 ⟨rfl, fun _ _ => RatD.same_refl _⟩
theorem vsame_no {rs ss : List RatD} (j : Nat) (hj : j < rs.length) (h : (rs.getD j zR).same (ss.getD j zR) = false) : vsame rs ss = false := by
  cases hv : vsame rs ss
  · rfl
  · have := ((vsame_iff rs ss).1 hv).2 j hj
    rw [h] at this; cases this
/-- The lengths of a fraction's parts are small. -/
def Few (rs : List RatD) : Prop := rs.length ≤ 1048576 ∧ ∀ k, k < rs.length → (rs.getD k zR).mag.length ≤ 1048576 ∧ (rs.getD k zR).den.length ≤ 1048576

set_option maxHeartbeats 800000 in
theorem eqRatS (rs ss : List RatD) (n m c d : Nat) (hn : rs.length = n) (hm : ss.length = m) (hf : Few rs) (hg : Few ss) (A B : Option Addr) (w : World) (ha : VI w A rs) (hb : VI w B ss) :
    Calls Try.prog 30 #[.slice A n c, .slice B m d] w fun r w' => r = .returned (.bool (vsame rs ss)) ∧ Below w.heap.size w w' := by
  have hn1 : n ≤ 1048576 := hn ▸ hf.1
  have hm1 : m ≤ 1048576 := hm ▸ hg.1
  have HF := Lib.hid hf.2
  have HG := Lib.hid hg.2
  clear hf hg
  by_cases hnm : n = m
  · subst hnm
    have hh : ((n : Int) != n) = false := by simp
    have HN := Lib.hid hn; clear hn
    have HM := Lib.hid hm; clear hm
    go_enter Try.func30, Try.ntmps30
    go_wp2_with fail
    go_loopw [5] (fun u wr => ∃ k : Nat, k ≤ n ∧ u = .int .i64 k ∧ (∀ j, j < k → (rs.getD j zR).same (ss.getD j zR) = true) ∧ Below w.heap.size w wr) (fun u _ => n - (intOf u).toNat)
    case atStart => exact ⟨0, Nat.zero_le _, rfl, fun j hj => by omega, Below.refl _ _⟩
    case round =>
      obtain ⟨k, hk, rfl, ht, hbel⟩ := hrel
      have HT := Lib.hid ht; clear ht
      by_cases hkn : k = n
      · subst hkn
        have h0 : decide ((k : Int) < (k : Int)) = false := by simp
        go_wp2
        go_ret
        exact ⟨ret_bool ((vsame_iff rs ss).2 ⟨HN.out.trans HM.out.symm, fun j hj => HT.out j (by have := HN.out; omega)⟩).symm, hbel⟩
      · have hlt : (k : Int) < (n : Int) := by omega
        have hkl : k < rs.length := by rw [HN.out]; omega
        have hkl2 : k < ss.length := by rw [HM.out]; omega
        obtain ⟨b, off, rfl, hb1, hat⟩ := ha.cells k hkl
        obtain ⟨b2, off2, rfl, hb2, hat2⟩ := hb.cells k hkl2
        have hat1 := RatAt.stays _ _ _ _ _ hb1 hat hbel
        have hat3 := RatAt.stays _ _ _ _ _ hb2 hat2 hbel
        obtain ⟨f1, f2⟩ := HF.out k hkl
        obtain ⟨f3, f4⟩ := HG.out k hkl2
        clear hat hat2 hkl hkl2
        obtain ⟨A1, c1, B1, d1, g0, g1, g2, hcd, hr1, hr2⟩ := hat1
        obtain ⟨A2, c2, B2, d2, k0, k1, k2, hcd2, hs1, hs2⟩ := hat3
        have hE : ∀ W, Below wr.heap.size wr W → Calls Try.prog 46 #[.agg #[.bool (rs.getD k zR).neg, .slice A1 (rs.getD k zR).mag.length c1, .slice B1 (rs.getD k zR).den.length d1], .agg #[.bool (ss.getD k zR).neg, .slice A2 (ss.getD k zR).mag.length c2, .slice B2 (ss.getD k zR).den.length d2]] W fun r w' => r = .returned (.bool ((rs.getD k zR).same (ss.getD k zR))) ∧ Below W.heap.size W w' := fun W hW =>
          eqRat (rs.getD k zR) (ss.getD k zR) _ _ W ⟨_, _, _, _, rfl, hcd, hr1.later hW, hr2.later hW⟩ ⟨_, _, _, _, rfl, hcd2, hs1.later hW, hs2.later hW⟩ f1 f2 f3 f4
        have g0' := fun d os => cell_regrown g0 d os
        have g1' := fun d os => cell_regrown g1 d os
        have g2' := fun d os => cell_regrown g2 d os
        have k0' := fun d os => cell_regrown k0 d os
        have k1' := fun d os => cell_regrown k1 d os
        have k2' := fun d os => cell_regrown k2 d os
        have HE := Lib.hid hE
        clear hE hr1 hr2 hs1 hs2 hcd hcd2 f1 f2 f3 f4
        generalize hqe : (rs.getD k zR).same (ss.getD k zR) = q at *
        have HQ := Lib.hid hqe; clear hqe
        have HK := Lib.hid (show k < rs.length by have := HN.out; omega)
        have HV := Lib.hid (show q = false → vsame rs ss = false from fun h => vsame_no k HK.out (HQ.out.trans h))
        have HT2 := Lib.hid (show q = true → ∀ j, j < k + 1 → (rs.getD j zR).same (ss.getD j zR) = true from fun h j hj => (Nat.lt_succ_iff_lt_or_eq.1 hj).elim (HT.out j) (fun e => e ▸ HQ.out.trans h))
        clear HQ
        generalize rs.getD k zR = x at *
        generalize ss.getD k zR = y at *
        cases q
        · go_wp2
          refine wp_region_quiet_below (by kernel_rfl) (by kernel_rfl) ?_
          repeat (go_big_quiet_step (exact Calls.regrown_of (HE.out _ (below_regrown _ _ _))))
          refine wpQuiet_nil ?_
          intro w5 hw5
          obtain ⟨⟨dq, osq⟩, rfl⟩ := hw5
          have hb5 := hbel.trans (below_le (below_regrown wr dq osq) hbel.size)
          generalize Sort.grow (redrawn wr dq) osq = w5 at *
          clear g0' g1' g2' k0' k1' k2'
          go_wp2
          go_ret
          exact ⟨ret_bool (HV.out trivial).symm, hb5⟩
        · go_wp2
          refine wp_region_quiet_below (by kernel_rfl) (by kernel_rfl) ?_
          repeat (go_big_quiet_step (exact Calls.regrown_of (HE.out _ (below_regrown _ _ _))))
          refine wpQuiet_nil ?_
          intro w5 hw5
          obtain ⟨⟨dq, osq⟩, rfl⟩ := hw5
          have hb5 := hbel.trans (below_le (below_regrown wr dq osq) hbel.size)
          generalize Sort.grow (redrawn wr dq) osq = w5 at *
          clear g0' g1' g2' k0' k1' k2'
          go_wp2
          go_roundw
          case rel => exact ⟨k + 1, by omega, rfl, HT2.out trivial, hb5⟩
          case measure => simp [intOf]; omega
  · have hh : ((n : Int) != m) = true := by simp; omega
    have HV := Lib.hid (show vsame rs ss = false by
      cases hv : vsame rs ss
      · rfl
      · exact absurd (((vsame_iff rs ss).1 hv).1) (by omega))
    clear hnm hn hm
    go_enter Try.func30, Try.ntmps30
    go_wp2
    go_ret
    exact ⟨ret_bool HV.out.symm, Below.refl _ _⟩
end Go.Proofs.Ytkmmdajlbkbnmaa
