/-
  Walks: comparison of vectors, the program's.
-/
import Derived.Test.YtkmmdajlbkbnmaaSame
namespace Go.Proofs.Ytkmmdajlbkbnmaa
open Go.RowKit Go.Joins

set_option maxHeartbeats 800000 in
theorem slEqualFunc (rs ss : List RatD) (n m c d : Nat) (hn : rs.length = n) (hm : ss.length = m) (hf : Few rs) (hg : Few ss) (A B : Option Addr) (w : World) (ha : VI w A rs) (hb : VI w B ss) :
    Calls Try.prog 96 #[.slice A n c, .slice B m d, .func (.func 89) #[] #[]] w fun r w' => r = .returned (.bool (vsame rs ss)) ∧ Below w.heap.size w w' := by
  have hn1 : n ≤ 1048576 := hn ▸ hf.1
  have hm1 : m ≤ 1048576 := hm ▸ hg.1
  have HF := Lib.hid hf.2
  have HG := Lib.hid hg.2
  clear hf hg
  by_cases hnm : n = m
  · subst hnm
    have hh : ((n : Int) != n) = false := by simp
    have HN := Lib.hid hn; clear hn
    have HM := Lib.hid hm; clear hm
    go_enter Try.func96, Try.ntmps96
    go_wp2_with fail
    go_loopw [17] (fun u wr => ∃ k : Nat, k ≤ n ∧ u = .int .i64 k ∧ (∀ j, j < k → (rs.getD j zR).same (ss.getD j zR) = true) ∧ Below w.heap.size w wr) (fun u _ => n - (intOf u).toNat)
    case atStart => exact ⟨0, Nat.zero_le _, rfl, fun j hj => by omega, Below.refl _ _⟩
    case round =>
      obtain ⟨k, hk, rfl, ht, hbel⟩ := hrel
      have HT := Lib.hid ht; clear ht
      by_cases hkn : k = n
      · subst hkn
        have h0 : decide ((k : Int) < (k : Int)) = false := by simp
        go_wp2
        go_ret
        exact ⟨ret_bool ((vsame_iff rs ss).2 ⟨HN.out.trans HM.out.symm, fun j hj => HT.out j (by have := HN.out; omega)⟩).symm, hbel⟩
      · have hlt : (k : Int) < (n : Int) := by omega
        have hkl : k < rs.length := by rw [HN.out]; omega
        have hkl2 : k < ss.length := by rw [HM.out]; omega
        obtain ⟨b, off, rfl, hb1, hat⟩ := ha.cells k hkl
        obtain ⟨b2, off2, rfl, hb2, hat2⟩ := hb.cells k hkl2
        have hat1 := RatAt.stays _ _ _ _ _ hb1 hat hbel
        have hat3 := RatAt.stays _ _ _ _ _ hb2 hat2 hbel
        obtain ⟨f1, f2⟩ := HF.out k hkl
        obtain ⟨f3, f4⟩ := HG.out k hkl2
        clear hat hat2 hkl hkl2
        obtain ⟨A1, c1, B1, d1, g0, g1, g2, hcd, hr1, hr2⟩ := hat1
        obtain ⟨A2, c2, B2, d2, k0, k1, k2, hcd2, hs1, hs2⟩ := hat3
        have hE : ∀ W, Below wr.heap.size wr W → Calls Try.prog 89 #[.agg #[.bool (rs.getD k zR).neg, .slice A1 (rs.getD k zR).mag.length c1, .slice B1 (rs.getD k zR).den.length d1], .agg #[.bool (ss.getD k zR).neg, .slice A2 (ss.getD k zR).mag.length c2, .slice B2 (ss.getD k zR).den.length d2]] W fun r w' => r = .returned (.bool ((rs.getD k zR).same (ss.getD k zR))) ∧ Below W.heap.size W w' := fun W hW =>
          iRatEqual (rs.getD k zR) (ss.getD k zR) _ _ W ⟨_, _, _, _, rfl, hcd, hr1.later hW, hr2.later hW⟩ ⟨_, _, _, _, rfl, hcd2, hs1.later hW, hs2.later hW⟩ f1 f2 f3 f4
        have HE := Lib.hid hE
        clear hE hr1 hr2 hs1 hs2 hcd hcd2 f1 f2 f3 f4
        generalize hqe : (rs.getD k zR).same (ss.getD k zR) = q at *
        have HQ := Lib.hid hqe; clear hqe
        have HK := Lib.hid (show k < rs.length by have := HN.out; omega)
        have HV := Lib.hid (show q = false → vsame rs ss = false from fun h => vsame_no k HK.out (HQ.out.trans h))
        have HT2 := Lib.hid (show q = true → ∀ j, j < k + 1 → (rs.getD j zR).same (ss.getD j zR) = true from fun h j hj => (Nat.lt_succ_iff_lt_or_eq.1 hj).elim (HT.out j) (fun e => e ▸ HQ.out.trans h))
        clear HQ
        generalize rs.getD k zR = x at *
        generalize ss.getD k zR = y at *
        have hb2w := Nat.lt_of_lt_of_le hb2 hbel.size
        have k0a := fun o => cell_later hb2w k0 (below_alloc1 wr o)
        have k1a := fun o => cell_later hb2w k1 (below_alloc1 wr o)
        have k2a := fun o => cell_later hb2w k2 (below_alloc1 wr o)
        cases q
        · skip
          go_wp2_with fail
          refine (HE.out _ (below_alloc2 _ _ _)).mono ?_
          rintro r w5 ⟨rfl, hb5'⟩
          have hb5 := hbel.trans (below_le (below_trans (below_alloc2 _ _ _) hb5') hbel.size)
          clear hb5' g0 g1 g2 k0 k1 k2 k0a k1a k2a
          go_wp2
          go_ret
          exact ⟨ret_bool (HV.out trivial).symm, hb5⟩
        · skip
          go_wp2_with fail
          refine (HE.out _ (below_alloc2 _ _ _)).mono ?_
          rintro r w5 ⟨rfl, hb5'⟩
          have hb5 := hbel.trans (below_le (below_trans (below_alloc2 _ _ _) hb5') hbel.size)
          clear hb5' g0 g1 g2 k0 k1 k2 k0a k1a k2a
          go_wp2
          go_roundw
          case rel => exact ⟨k + 1, by omega, rfl, HT2.out trivial, hb5⟩
          case measure => simp [intOf]; omega
  · have hh : ((n : Int) != m) = true := by simp; omega
    have HV := Lib.hid (show vsame rs ss = false by
      cases hv : vsame rs ss
      · rfl
      · exact absurd (((vsame_iff rs ss).1 hv).1) (by omega))
    clear hnm hn hm
    go_enter Try.func96, Try.ntmps96
    go_wp2
    go_ret
    exact ⟨ret_bool HV.out.symm, Below.refl _ _⟩
set_option maxHeartbeats 800000 in
theorem iSame (rs ss : List RatD) (n m c d : Nat) (hn : rs.length = n) (hm : ss.length = m) (hf : Few rs) (hg : Few ss) (A B : Option Addr) (w : World) (ha : VI w A rs) (hb : VI w B ss) :
    Calls Try.prog 53 #[.slice A n c, .slice B m d] w fun r w' => r = .returned (.bool (vsame rs ss)) ∧ Below w.heap.size w w' := by
  go_enter Try.func53, Try.ntmps53
  go_wp2_with fail
  refine (slEqualFunc rs ss n m c d hn hm hf hg A B w ha hb).mono ?_
  rintro r w' ⟨rfl, hb'⟩
  go_wp2
  go_ret
  exact ⟨rfl, hb'⟩
end Go.Proofs.Ytkmmdajlbkbnmaa
