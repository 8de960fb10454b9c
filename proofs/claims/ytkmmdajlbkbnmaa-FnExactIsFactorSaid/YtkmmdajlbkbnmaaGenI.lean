/-
  Walks: the law's own functions on slices of ints: size, copy, comparison.
-/
import Derived.Test.YtkmmdajlbkbnmaaVec
import Derived.Test.YtkmmdajlbkbnmaaNatB
namespace Go.Proofs.Ytkmmdajlbkbnmaa
open Go.RowKit Go.Joins

/-- What is left of a budget. -/
def szI (n : Nat) (left : Int) : Int := if (n : Int) ≤ left then left - n else -1

set_option maxHeartbeats 400000 in
theorem szIntS (n c : Nat) (hn : n ≤ maxLen) (left : Int) (h0 : 0 ≤ left) (h1 : left ≤ 1048576) (A : Option Addr) (w : World) :
    Calls Try.prog 103 #[.slice A n c, .int .i64 left] w fun r w' => r = .returned (.int .i64 (szI n left)) ∧ w' = w := by
  have hm : n ≤ 9223372036854775807 := hn
  have HS := Lib.hid (show szI n left = if (n : Int) ≤ left then left - n else -1 from rfl)
  have hw : wrap64 (left - n) = left - n := IntWalk.wrap64_in _ ⟨by omega, by omega⟩
  by_cases hl : (n : Int) ≤ left
  · have hd : ¬ (left - n < 0) := by omega
    go_enter Try.func103, Try.ntmps103
    go_wp2
    go_ret
    exact ⟨ret_int (by rw [HS.out, if_pos hl]), rfl⟩
  · have hd : left - n < 0 := by omega
    replace hl := Lib.hid hl
    go_enter Try.func103, Try.ntmps103
    go_wp2
    go_ret
    exact ⟨ret_int (by have := hl.out; rw [HS.out, if_neg (by omega)]), rfl⟩

theorem list_same {xs zs : List Int} (h : zs.length = xs.length) (hj : ∀ j, j < xs.length → zs.getD j 0 = xs.getD j 0) : zs = xs := by
  apply List.ext_getElem h
  intro i h1 h2
  have := hj i h2
  simpa [h1, h2] using this

set_option maxHeartbeats 400000 in
theorem toIntS (xs : List Int) (n c : Nat) (hn : xs.length = n) (hn1 : n ≤ 1048576) (A : Option Addr) (w : World) (ha : RI w A xs) :
    Calls Try.prog 106 #[.slice A n c] w fun r w' => ∃ v, r = .returned v ∧ RO w' w.heap.size v xs ∧ Below w.heap.size w w' := by
  have HN := Lib.hid hn; clear hn
  go_enter Try.func106, Try.ntmps106
  go_wp2_with (at_make; refine makeInts rfl _ _ _ rfl Try.underlying80 Try.intInfo n n _ _ rfl rfl rfl rfl (Nat.le_refl _) (by omega) ?_; intro harr0)
  go_loopw [4] (fun u wr => ∃ (k : Nat) (zs : List Int), k ≤ n ∧ u = .int .i64 k ∧ zs.length = n ∧ (∀ j, j < k → zs.getD j 0 = xs.getD j 0) ∧ Arr wr w.heap.size n zs ∧ Below w.heap.size w wr) (fun u _ => n - (intOf u).toNat)
  case atStart => exact ⟨0, List.replicate n 0, Nat.zero_le _, rfl, by simp, fun j hj => by omega, harr0, (Below.refl _ _).alloc (Nat.le_refl _) _⟩
  case round =>
    obtain ⟨k, zs, hk, rfl, hz, hzz, harr, hbel⟩ := hrel
    have HZ := Lib.hid hz; clear hz
    have HZZ := Lib.hid hzz; clear hzz
    clear harr0
    by_cases hkn : k = n
    · subst hkn
      have h0 : decide ((k : Int) < (k : Int)) = false := by simp
      go_wp2
      go_ret
      have hzx : zs = xs := list_same (HZ.out.trans HN.out.symm) (fun j hj => HZZ.out j (by have := HN.out; omega))
      subst hzx
      refine ⟨_, rfl, ⟨some ⟨w.heap.size, 0, none⟩, k, by rw [HN.out]; rfl, by rw [HN.out]; exact Nat.le_refl _, harr.len.2, fun _ => ⟨_, rfl, Nat.le_refl _, harr⟩⟩, hbel⟩
    · have hlt : (k : Int) < (n : Int) := by omega
      obtain ⟨b1, o1, rfl, hb1, hc1⟩ := ha (by intro h; have := HN.out; subst h; simp at this; omega)
      have e1 := (hbel.cell (p := ⟨b1, o1 + k, none⟩) hb1).trans (hc1 k (by have := HN.out; omega))
      have e2 := harr.cell k (by have := HZ.out; omega)
      have e3 := harr.frozen k
      clear hc1
      generalize hxe : xs.getD k 0 = x at *
      generalize zs.getD k 0 = y at *
      have HX := Lib.hid hxe; clear hxe
      go_wp2
      go_roundw
      case rel =>
        refine ⟨k + 1, zs.set k x, by omega, rfl, by simp; exact HZ.out, ?_, harr.set k (by have := HZ.out; omega) _, hbel.setCell (Nat.le_refl _) _⟩
        intro j hj
        rw [FE.getD_set]
        have := HZ.out
        split
        · rename_i h; rw [← HX.out]; congr 1; omega
        · exact HZZ.out j (by omega)
      case measure => simp [intOf]; omega

theorem eq_take {xs ys : List Int} {k : Nat} (h : xs.take k = ys.take k) (hx : k < xs.length) (hy : k < ys.length) (he : xs.getD k 0 = ys.getD k 0) : xs.take (k + 1) = ys.take (k + 1) := by
  rw [List.take_succ_eq_append_getElem hx, List.take_succ_eq_append_getElem hy, h]
  have : xs[k] = ys[k] := by simpa [hx, hy] using he
  rw [this]

set_option maxHeartbeats 400000 in
theorem eqIntS (xs ys : List Int) (n m c d : Nat) (hn : xs.length = n) (hm : ys.length = m) (hn1 : n ≤ 1048576) (hm1 : m ≤ 1048576) (A B : Option Addr) (w : World) (ha : RI w A xs) (hb : RI w B ys) :
    Calls Try.prog 92 #[.slice A n c, .slice B m d] w fun r w' => r = .returned (.bool (xs == ys)) ∧ ∃ k, w' = w.drewN k := by
  by_cases hnm : n = m
  · subst hnm
    have hh : ((n : Int) != n) = false := by simp
    have HN := Lib.hid hn; clear hn
    have HM := Lib.hid hm; clear hm
    go_enter Try.func92, Try.ntmps92
    go_wp2_with fail
    go_loopw [5] (fun u wr => ∃ k : Nat, k ≤ n ∧ u = .int .i64 k ∧ xs.take k = ys.take k ∧ ∃ q, wr = w.drewN q) (fun u _ => n - (intOf u).toNat)
    case atStart => exact ⟨0, Nat.zero_le _, rfl, rfl, 0, rfl⟩
    case round =>
      obtain ⟨k, hk, rfl, ht, q, rfl⟩ := hrel
      have HT := Lib.hid ht; clear ht
      by_cases hkn : k = n
      · subst hkn
        have h0 : decide ((k : Int) < (k : Int)) = false := by simp
        go_wp2
        go_ret
        refine ⟨ret_bool ?_, q, rfl⟩
        have := HT.out
        rw [List.take_of_length_le (by rw [HN.out]; exact Nat.le_refl _), List.take_of_length_le (by rw [HM.out]; exact Nat.le_refl _)] at this
        subst this
        simp
      · have hlt : (k : Int) < (n : Int) := by omega
        have hnx := HN.out
        have hny := HM.out
        obtain ⟨b1, o1, rfl, hb1, hc1⟩ := ha (by intro h; subst h; simp at hnx; omega)
        obtain ⟨b2, o2, rfl, hb2, hc2⟩ := hb (by intro h; subst h; simp at hny; omega)
        have e1 := hc1 k (by omega)
        have e2 := hc2 k (by omega)
        clear hc1 hc2 hnx hny
        generalize hxe : xs.getD k 0 = x at *
        generalize hye : ys.getD k 0 = y at *
        have HX := Lib.hid hxe; clear hxe
        have HY := Lib.hid hye; clear hye
        by_cases hxy : x = y
        · subst hxy
          have h1 : (x != x) = false := by simp
          go_wp2
          go_quiet (fail)
          simp only [World.drewN_drewN]
          generalize q + nq = q2
          go_wp2
          go_roundw
          case rel => exact ⟨k + 1, by omega, rfl, eq_take HT.out (by have := HN.out; omega) (by have := HM.out; omega) (HX.out.trans HY.out.symm), q2, rfl⟩
          case measure => simp [intOf]; omega
        · have h1 : (x != y) = true := by simp [hxy]
          replace hxy := Lib.hid hxy
          go_wp2
          go_quiet (fail)
          simp only [World.drewN_drewN]
          generalize q + nq = q2
          go_wp2
          go_ret
          refine ⟨ret_bool ?_, q2, rfl⟩
          have : xs ≠ ys := by
            intro h
            subst h
            exact hxy.out (HX.out.symm.trans HY.out)
          simp [this]
  · have hh : ((n : Int) != m) = true := by simp; omega
    have HE := Lib.hid (show xs ≠ ys from fun h => hnm (by rw [← hn, ← hm, h]))
    clear hnm hn hm
    go_enter Try.func92, Try.ntmps92
    go_wp2
    go_ret
    exact ⟨ret_bool (by simp [HE.out]), 0, rfl⟩
end Go.Proofs.Ytkmmdajlbkbnmaa
