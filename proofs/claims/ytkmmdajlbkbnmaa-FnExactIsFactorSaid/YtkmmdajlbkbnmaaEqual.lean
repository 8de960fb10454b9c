/-
  Walks: comparison of slices and of fractions, the program's and the reference's.
-/
import Derived.Test.YtkmmdajlbkbnmaaGenW
namespace Go.Proofs.Ytkmmdajlbkbnmaa
open Go.RowKit Go.Joins

set_option maxHeartbeats 400000 in
theorem slEqual (xs ys : List Int) (n m c d : Nat) (hn : xs.length = n) (hm : ys.length = m) (hn1 : n ≤ 1048576) (hm1 : m ≤ 1048576) (A B : Option Addr) (w : World) (ha : RI w A xs) (hb : RI w B ys) :
    Calls Try.prog 99 #[.slice A n c, .slice B m d] w fun r w' => r = .returned (.bool (xs == ys)) ∧ ∃ k, w' = w.drewN k := by
  by_cases hnm : n = m
  · subst hnm
    have hh : ((n : Int) != n) = false := by simp
    have HN := Lib.hid hn; clear hn
    have HM := Lib.hid hm; clear hm
    go_enter Try.func99, Try.ntmps99
    go_wp2_with fail
    go_loopw [13] (fun u wr => ∃ k : Nat, k ≤ n ∧ u = .int .i64 k ∧ xs.take k = ys.take k ∧ ∃ q, wr = w.drewN q) (fun u _ => n - (intOf u).toNat)
    case atStart => exact ⟨0, Nat.zero_le _, rfl, rfl, 0, rfl⟩
    case round =>
      obtain ⟨k, hk, rfl, ht, q, rfl⟩ := hrel
      have HT := Lib.hid ht; clear ht
      by_cases hkn : k = n
      · subst hkn
        have h0 : decide ((k : Int) < (k : Int)) = false := by simp
        go_wp2
        go_ret
        refine ⟨ret_bool ?_, q, rfl⟩
        have := HT.out
        rw [List.take_of_length_le (by rw [HN.out]; exact Nat.le_refl _), List.take_of_length_le (by rw [HM.out]; exact Nat.le_refl _)] at this
        subst this
        simp
      · have hlt : (k : Int) < (n : Int) := by omega
        have hnx := HN.out
        have hny := HM.out
        obtain ⟨b1, o1, rfl, hb1, hc1⟩ := ha (by intro h; subst h; simp at hnx; omega)
        obtain ⟨b2, o2, rfl, hb2, hc2⟩ := hb (by intro h; subst h; simp at hny; omega)
        have e1 := hc1 k (by omega)
        have e2 := hc2 k (by omega)
        clear hc1 hc2 hnx hny
        generalize hxe : xs.getD k 0 = x at *
        generalize hye : ys.getD k 0 = y at *
        have HX := Lib.hid hxe; clear hxe
        have HY := Lib.hid hye; clear hye
        by_cases hxy : x = y
        · subst hxy
          have h1 : (x != x) = false := by simp
          go_wp2
          go_quiet (fail)
          simp only [World.drewN_drewN]
          generalize q + nq = q2
          go_wp2
          go_roundw
          case rel => exact ⟨k + 1, by omega, rfl, eq_take HT.out (by have := HN.out; omega) (by have := HM.out; omega) (HX.out.trans HY.out.symm), q2, rfl⟩
          case measure => simp [intOf]; omega
        · have h1 : (x != y) = true := by simp [hxy]
          replace hxy := Lib.hid hxy
          go_wp2
          go_quiet (fail)
          simp only [World.drewN_drewN]
          generalize q + nq = q2
          go_wp2
          go_ret
          refine ⟨ret_bool ?_, q2, rfl⟩
          have : xs ≠ ys := by
            intro h
            subst h
            exact hxy.out (HX.out.symm.trans HY.out)
          simp [this]
  · have hh : ((n : Int) != m) = true := by simp; omega
    have HE := Lib.hid (show xs ≠ ys from fun h => hnm (by rw [← hn, ← hm, h]))
    clear hnm hn hm
    go_enter Try.func99, Try.ntmps99
    go_wp2
    go_ret
    exact ⟨ret_bool (by simp [HE.out]), 0, rfl⟩
set_option maxHeartbeats 400000 in
theorem sList (xs ys : List Int) (n m c d : Nat) (hn : xs.length = n) (hm : ys.length = m) (hn1 : n ≤ 1048576) (hm1 : m ≤ 1048576) (A B : Option Addr) (w : World) (ha : RI w A xs) (hb : RI w B ys) :
    Calls Try.prog 114 #[.slice A n c, .slice B m d] w fun r w' => r = .returned (.bool (xs == ys)) ∧ ∃ k, w' = w.drewN k := by
  by_cases hnm : n = m
  · subst hnm
    have hh : ((n : Int) != n) = false := by simp
    have HN := Lib.hid hn; clear hn
    have HM := Lib.hid hm; clear hm
    go_enter Try.func114, Try.ntmps114
    go_wp2_with fail
    go_loopw [13] (fun u wr => ∃ k : Nat, k ≤ n ∧ u = .int .i64 k ∧ xs.take k = ys.take k ∧ ∃ q, wr = w.drewN q) (fun u _ => n - (intOf u).toNat)
    case atStart => exact ⟨0, Nat.zero_le _, rfl, rfl, 0, rfl⟩
    case round =>
      obtain ⟨k, hk, rfl, ht, q, rfl⟩ := hrel
      have HT := Lib.hid ht; clear ht
      by_cases hkn : k = n
      · subst hkn
        have h0 : decide ((k : Int) < (k : Int)) = false := by simp
        go_wp2
        go_ret
        refine ⟨ret_bool ?_, q, rfl⟩
        have := HT.out
        rw [List.take_of_length_le (by rw [HN.out]; exact Nat.le_refl _), List.take_of_length_le (by rw [HM.out]; exact Nat.le_refl _)] at this
        subst this
        simp
      · have hlt : (k : Int) < (n : Int) := by omega
        have hnx := HN.out
        have hny := HM.out
        obtain ⟨b1, o1, rfl, hb1, hc1⟩ := ha (by intro h; subst h; simp at hnx; omega)
        obtain ⟨b2, o2, rfl, hb2, hc2⟩ := hb (by intro h; subst h; simp at hny; omega)
        have e1 := hc1 k (by omega)
        have e2 := hc2 k (by omega)
        clear hc1 hc2 hnx hny
        generalize hxe : xs.getD k 0 = x at *
        generalize hye : ys.getD k 0 = y at *
        have HX := Lib.hid hxe; clear hxe
        have HY := Lib.hid hye; clear hye
        by_cases hxy : x = y
        · subst hxy
          have h1 : (x != x) = false := by simp
          go_wp2
          go_quiet (fail)
          simp only [World.drewN_drewN]
          generalize q + nq = q2
          go_wp2
          go_roundw
          case rel => exact ⟨k + 1, by omega, rfl, eq_take HT.out (by have := HN.out; omega) (by have := HM.out; omega) (HX.out.trans HY.out.symm), q2, rfl⟩
          case measure => simp [intOf]; omega
        · have h1 : (x != y) = true := by simp [hxy]
          replace hxy := Lib.hid hxy
          go_wp2
          go_quiet (fail)
          simp only [World.drewN_drewN]
          generalize q + nq = q2
          go_wp2
          go_ret
          refine ⟨ret_bool ?_, q2, rfl⟩
          have : xs ≠ ys := by
            intro h
            subst h
            exact hxy.out (HX.out.symm.trans HY.out)
          simp [this]
  · have hh : ((n : Int) != m) = true := by simp; omega
    have HE := Lib.hid (show xs ≠ ys from fun h => hnm (by rw [← hn, ← hm, h]))
    clear hnm hn hm
    go_enter Try.func114, Try.ntmps114
    go_wp2
    go_ret
    exact ⟨ret_bool (by simp [HE.out]), 0, rfl⟩
set_option maxHeartbeats 800000 in
theorem iRatEqual (x y : RatD) (u v : Value) (w : World) (hu : RatV w u x) (hv : RatV w v y) (hx1 : x.mag.length ≤ 1048576) (hx2 : x.den.length ≤ 1048576) (hy1 : y.mag.length ≤ 1048576) (hy2 : y.den.length ≤ 1048576) :
    Calls Try.prog 89 #[u, v] w fun r w' => r = .returned (.bool (x.same y)) ∧ Below w.heap.size w w' := by
  obtain ⟨s, xs, xt⟩ := x
  obtain ⟨t, ys, yt⟩ := y
  obtain ⟨A, c, B, d, rfl, _, ha, ha'⟩ := hu
  obtain ⟨A2, c2, B2, d2, rfl, _, hb, hb'⟩ := hv
  simp only at hx1 hx2 hy1 hy2 ha ha' hb hb' ⊢
  have hba := below_alloc2 w (.cells #[.bool s, .slice A xs.length c, .slice B xt.length d] 84) (.cells #[.bool t, .slice A2 ys.length c2, .slice B2 yt.length d2] 84)
  have ra := ha.later hba
  have ra' := ha'.later hba
  have rb := hb.later hba
  have rb' := hb'.later hba
  have HR := Lib.hid (show RatD.same ⟨s, xs, xt⟩ ⟨t, ys, yt⟩ = (s == t && (xs == ys && xt == yt)) from rfl)
  by_cases hst : s = t
  · subst hst
    have h1 : (s == s) = true := by simp
    cases hp : (xs == ys)
    · have HP := Lib.hid hp
      go_enter Try.func89, Try.ntmps89
      go_wp2_with fail
      refine (slEqual xs ys _ _ c c2 rfl rfl hx1 hy1 A A2 _ ra rb).mono ?_
      rw [HP.out]
      rintro r w1 ⟨rfl, k, rfl⟩
      go_wp2
      go_ret
      exact ⟨ret_bool (by rw [HR.out, HP.out]; simp), hba.trans (below_draws _ _ _)⟩
    · have HP := Lib.hid hp
      cases hq : (xt == yt)
      · have HQ := Lib.hid hq
        clear hq
        go_enter Try.func89, Try.ntmps89
        go_wp2_with fail
        refine (slEqual xs ys _ _ c c2 rfl rfl hx1 hy1 A A2 _ ra rb).mono ?_
        rw [HP.out]
        rintro r w1 ⟨rfl, k, rfl⟩
        go_wp2_with fail
        refine (slEqual xt yt _ _ d d2 rfl rfl hx2 hy2 B B2 _ (ra'.drewN k) (rb'.drewN k)).mono ?_
        rw [HQ.out]
        rintro r w1 ⟨rfl, k2, rfl⟩
        go_wp2
        go_ret
        exact ⟨ret_bool (by rw [HR.out, HP.out, HQ.out]; simp), hba.trans (below_draws _ _ _)⟩
      · have HQ := Lib.hid hq
        clear hq
        go_enter Try.func89, Try.ntmps89
        go_wp2_with fail
        refine (slEqual xs ys _ _ c c2 rfl rfl hx1 hy1 A A2 _ ra rb).mono ?_
        rw [HP.out]
        rintro r w1 ⟨rfl, k, rfl⟩
        go_wp2_with fail
        refine (slEqual xt yt _ _ d d2 rfl rfl hx2 hy2 B B2 _ (ra'.drewN k) (rb'.drewN k)).mono ?_
        rw [HQ.out]
        rintro r w1 ⟨rfl, k2, rfl⟩
        go_wp2
        go_ret
        exact ⟨ret_bool (by rw [HR.out, HP.out, HQ.out]; simp), hba.trans (below_draws _ _ _)⟩
  · have h1 : (s == t) = false := by simp [hst]
    go_enter Try.func89, Try.ntmps89
    go_wp2
    go_ret
    exact ⟨ret_bool (by rw [HR.out]; simp [hst]), hba⟩

set_option maxHeartbeats 800000 in
theorem sRatEqual (x y : RatD) (u v : Value) (w : World) (hu : RatV w u x) (hv : RatV w v y) (hx1 : x.mag.length ≤ 1048576) (hx2 : x.den.length ≤ 1048576) (hy1 : y.mag.length ≤ 1048576) (hy2 : y.den.length ≤ 1048576) :
    Calls Try.prog 87 #[u, v] w fun r w' => r = .returned (.bool (x.same y)) ∧ Below w.heap.size w w' := by
  obtain ⟨s, xs, xt⟩ := x
  obtain ⟨t, ys, yt⟩ := y
  obtain ⟨A, c, B, d, rfl, _, ha, ha'⟩ := hu
  obtain ⟨A2, c2, B2, d2, rfl, _, hb, hb'⟩ := hv
  simp only at hx1 hx2 hy1 hy2 ha ha' hb hb' ⊢
  have hba := below_alloc2 w (.cells #[.bool s, .slice A xs.length c, .slice B xt.length d] 84) (.cells #[.bool t, .slice A2 ys.length c2, .slice B2 yt.length d2] 84)
  have ra := ha.later hba
  have ra' := ha'.later hba
  have rb := hb.later hba
  have rb' := hb'.later hba
  have HR := Lib.hid (show RatD.same ⟨s, xs, xt⟩ ⟨t, ys, yt⟩ = (s == t && (xs == ys && xt == yt)) from rfl)
  by_cases hst : s = t
  · subst hst
    have h1 : (s == s) = true := by simp
    cases hp : (xs == ys)
    · have HP := Lib.hid hp
      go_enter Try.func87, Try.ntmps87
      go_wp2_with fail
      refine (sList xs ys _ _ c c2 rfl rfl hx1 hy1 A A2 _ ra rb).mono ?_
      rw [HP.out]
      rintro r w1 ⟨rfl, k, rfl⟩
      go_wp2
      go_ret
      exact ⟨ret_bool (by rw [HR.out, HP.out]; simp), hba.trans (below_draws _ _ _)⟩
    · have HP := Lib.hid hp
      cases hq : (xt == yt)
      · have HQ := Lib.hid hq
        clear hq
        go_enter Try.func87, Try.ntmps87
        go_wp2_with fail
        refine (sList xs ys _ _ c c2 rfl rfl hx1 hy1 A A2 _ ra rb).mono ?_
        rw [HP.out]
        rintro r w1 ⟨rfl, k, rfl⟩
        go_wp2_with fail
        refine (sList xt yt _ _ d d2 rfl rfl hx2 hy2 B B2 _ (ra'.drewN k) (rb'.drewN k)).mono ?_
        rw [HQ.out]
        rintro r w1 ⟨rfl, k2, rfl⟩
        go_wp2
        go_ret
        exact ⟨ret_bool (by rw [HR.out, HP.out, HQ.out]; simp), hba.trans (below_draws _ _ _)⟩
      · have HQ := Lib.hid hq
        clear hq
        go_enter Try.func87, Try.ntmps87
        go_wp2_with fail
        refine (sList xs ys _ _ c c2 rfl rfl hx1 hy1 A A2 _ ra rb).mono ?_
        rw [HP.out]
        rintro r w1 ⟨rfl, k, rfl⟩
        go_wp2_with fail
        refine (sList xt yt _ _ d d2 rfl rfl hx2 hy2 B B2 _ (ra'.drewN k) (rb'.drewN k)).mono ?_
        rw [HQ.out]
        rintro r w1 ⟨rfl, k2, rfl⟩
        go_wp2
        go_ret
        exact ⟨ret_bool (by rw [HR.out, HP.out, HQ.out]; simp), hba.trans (below_draws _ _ _)⟩
  · have h1 : (s == t) = false := by simp [hst]
    go_enter Try.func87, Try.ntmps87
    go_wp2
    go_ret
    exact ⟨ret_bool (by rw [HR.out]; simp [hst]), hba⟩

end Go.Proofs.Ytkmmdajlbkbnmaa
