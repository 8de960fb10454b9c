/-
  Walks: comparison of vectors, the program's.
  Walks: iterates: size, copy, comparison.
  Walks: comparison of iterates: the law's, the program's, the reference's.
  Walks: the law's copy of an iterate.
  Walks: whether a fraction is valid, by the program.
  Walks: whether a fraction is valid, by the program.
  Walks over the reference: cutting, comparing, the limbs of a number, quotient by a limb, product.
-/
import Derived.Test.YtkmmdajlbkbnmaaEntryOfB5
namespace Go.Proofs.Ytkmmdajlbkbnmaa
open Go.RowKit Go.Joins

set_option maxHeartbeats 800000 in
theorem slEqualFunc (rs ss : List RatD) (n m c d : Nat) (hn : rs.length = n) (hm : ss.length = m) (hf : Few rs) (hg : Few ss) (A B : Option Addr) (w : World) (ha : VI w A rs) (hb : VI w B ss) :
    Calls Try.prog 96 #[.slice A n c, .slice B m d, .func (.func 89) #[] #[]] w fun r w' => r = .returned (.bool (vsame rs ss)) ∧ Below w.heap.size w w' := by
  have hn1 : n ≤ 1048576 := hn ▸ hf.1
  have hm1 : m ≤ 1048576 := hm ▸ hg.1
  have HF := Lib.hid hf.2
  have HG := Lib.hid hg.2
  clear hf hg
  by_cases hnm : n = m
  · subst hnm
    have hh : ((n : Int) != n) = false := by simp
    have HN := Lib.hid hn; clear hn
    have HM := Lib.hid hm; clear hm
    go_enter Try.func96, Try.ntmps96
    go_wp2_with fail
    go_loopw [17] (fun u wr => ∃ k : Nat, k ≤ n ∧ u = .int .i64 k ∧ (∀ j, j < k → (rs.getD j zR).same (ss.getD j zR) = true) ∧ Below w.heap.size w wr) (fun u _ => n - (intOf u).toNat)
    case atStart => exact ⟨0, Nat.zero_le _, rfl, fun j hj => by omega, Below.refl _ _⟩
    case round =>
      obtain ⟨k, hk, rfl, ht, hbel⟩ := hrel
      have HT := Lib.hid ht; clear ht
      by_cases hkn : k = n
      · subst hkn
        have h0 : decide ((k : Int) < (k : Int)) = false := by simp
        go_wp2
        go_ret
        exact ⟨ret_bool ((vsame_iff rs ss).2 ⟨HN.out.trans HM.out.symm, fun j hj => HT.out j (by have := HN.out; omega)⟩).symm, hbel⟩
      · have hlt : (k : Int) < (n : Int) := by omega
        have hkl : k < rs.length := by rw [HN.out]; omega
        have hkl2 : k < ss.length := by rw [HM.out]; omega
        obtain ⟨b, off, rfl, hb1, hat⟩ := ha.cells k hkl
        obtain ⟨b2, off2, rfl, hb2, hat2⟩ := hb.cells k hkl2
        have hat1 := RatAt.stays _ _ _ _ _ hb1 hat hbel
        have hat3 := RatAt.stays _ _ _ _ _ hb2 hat2 hbel
        obtain ⟨f1, f2⟩ := HF.out k hkl
        obtain ⟨f3, f4⟩ := HG.out k hkl2
        clear hat hat2 hkl hkl2
        obtain ⟨A1, c1, B1, d1, g0, g1, g2, hcd, hr1, hr2⟩ := hat1
        obtain ⟨A2, c2, B2, d2, k0, k1, k2, hcd2, hs1, hs2⟩ := hat3
        have hE : ∀ W, Below wr.heap.size wr W → Calls Try.prog 89 #[.agg #[.bool (rs.getD k zR).neg, .slice A1 (rs.getD k zR).mag.length c1, .slice B1 (rs.getD k zR).den.length d1], .agg #[.bool (ss.getD k zR).neg, .slice A2 (ss.getD k zR).mag.length c2, .slice B2 (ss.getD k zR).den.length d2]] W fun r w' => r = .returned (.bool ((rs.getD k zR).same (ss.getD k zR))) ∧ Below W.heap.size W w' := fun W hW =>
          iRatEqual (rs.getD k zR) (ss.getD k zR) _ _ W ⟨_, _, _, _, rfl, hcd, hr1.later hW, hr2.later hW⟩ ⟨_, _, _, _, rfl, hcd2, hs1.later hW, hs2.later hW⟩ f1 f2 f3 f4
        have HE := Lib.hid hE
        clear hE hr1 hr2 hs1 hs2 hcd hcd2 f1 f2 f3 f4
        generalize hqe : (rs.getD k zR).same (ss.getD k zR) = q at *
        have HQ := Lib.hid hqe; clear hqe
        have HK := Lib.hid (show k < rs.length by have := HN.out; omega)
        have HV := Lib.hid (show q = false → vsame rs ss = false from fun h => vsame_no k HK.out (HQ.out.trans h))
        have HT2 := Lib.hid (show q = true → ∀ j, j < k + 1 → (rs.getD j zR).same (ss.getD j zR) = true from fun h j hj => (Nat.lt_succ_iff_lt_or_eq.1 hj).elim (HT.out j) (fun e => e ▸ HQ.out.trans h))
        clear HQ
        generalize rs.getD k zR = x at *
        generalize ss.getD k zR = y at *
        have hb2w := Nat.lt_of_lt_of_le hb2 hbel.size
        have k0a := fun o => cell_later hb2w k0 (below_alloc1 wr o)
        have k1a := fun o => cell_later hb2w k1 (below_alloc1 wr o)
        have k2a := fun o => cell_later hb2w k2 (below_alloc1 wr o)
        cases q
        · skip
          go_wp2_with fail
          refine (HE.out _ (below_alloc2 _ _ _)).mono ?_
          rintro r w5 ⟨rfl, hb5'⟩
          have hb5 := hbel.trans (below_le (below_trans (below_alloc2 _ _ _) hb5') hbel.size)
          clear hb5' g0 g1 g2 k0 k1 k2 k0a k1a k2a
          go_wp2
          go_ret
          exact ⟨ret_bool (HV.out trivial).symm, hb5⟩
        · skip
          go_wp2_with fail
          refine (HE.out _ (below_alloc2 _ _ _)).mono ?_
          rintro r w5 ⟨rfl, hb5'⟩
          have hb5 := hbel.trans (below_le (below_trans (below_alloc2 _ _ _) hb5') hbel.size)
          clear hb5' g0 g1 g2 k0 k1 k2 k0a k1a k2a
          go_wp2
          go_roundw
          case rel => exact ⟨k + 1, by omega, rfl, HT2.out trivial, hb5⟩
          case measure => simp [intOf]; omega
  · have hh : ((n : Int) != m) = true := by simp; omega
    have HV := Lib.hid (show vsame rs ss = false by
      cases hv : vsame rs ss
      · rfl
      · exact absurd (((vsame_iff rs ss).1 hv).1) (by omega))
    clear hnm hn hm
    go_enter Try.func96, Try.ntmps96
    go_wp2
    go_ret
    exact ⟨ret_bool HV.out.symm, Below.refl _ _⟩
set_option maxHeartbeats 800000 in
theorem iSame (rs ss : List RatD) (n m c d : Nat) (hn : rs.length = n) (hm : ss.length = m) (hf : Few rs) (hg : Few ss) (A B : Option Addr) (w : World) (ha : VI w A rs) (hb : VI w B ss) :
    Calls Try.prog 53 #[.slice A n c, .slice B m d] w fun r w' => r = .returned (.bool (vsame rs ss)) ∧ Below w.heap.size w w' := by
  go_enter Try.func53, Try.ntmps53
  go_wp2_with fail
  refine (slEqualFunc rs ss n m c d hn hm hf hg A B w ha hb).mono ?_
  rintro r w' ⟨rfl, hb'⟩
  go_wp2
  go_ret
  exact ⟨rfl, hb'⟩
end Go.Proofs.Ytkmmdajlbkbnmaa

namespace Go.Proofs.Ytkmmdajlbkbnmaa
open Go.RowKit Go.Joins

theorem few_of_vsz {rs : List RatD} (h : vsz rs ≤ 1048576) : Few rs := by
  have h1 := h
  simp only [vsz] at h1
  refine ⟨by omega, fun k hk => ?_⟩
  have h2 := sumSz_step rs k hk
  have h3 := sumSz_le rs (k + 1)
  simp only [RatD.size] at h2
  exact ⟨by omega, by omega⟩

theorem box_lt {w w2 : World} {o : Obj} (hb : Below (w.alloc o).heap.size (w.alloc o) w2) : w.heap.size < w2.heap.size := by
  have := hb.size
  simp only [World.size_alloc] at this
  omega

/-- An iterate as a value. -/
def ItV (w : World) (v : Value) (x r p : List RatD) : Prop :=
  ∃ A c B d C e, v = .agg #[.slice A x.length c, .slice B r.length d, .slice C p.length e] ∧ (x.length ≤ maxLen ∧ r.length ≤ maxLen ∧ p.length ≤ maxLen) ∧ VI w A x ∧ VI w B r ∧ VI w C p
theorem ItV.later {w w' : World} {v : Value} {x r p : List RatD} (h : ItV w v x r p) (hb : Below w.heap.size w w') : ItV w' v x r p := by
  obtain ⟨A, c, B, d, C, e, rfl, hl, h1, h2, h3⟩ := h
  exact ⟨A, c, B, d, C, e, rfl, hl, h1.later hb, h2.later hb, h3.later hb⟩

set_option maxHeartbeats 800000 in
theorem szIterate (x r p : List RatD) (v : Value) (left : Int) (h0 : 0 ≤ left) (h1 : left ≤ 1048576) (w : World) (hv : ItV w v x r p) :
    Calls Try.prog 14 #[v, .int .i64 left] w fun e w' => e = .returned (.int .i64 (szI (vsz x + vsz r + vsz p) left)) ∧ Below w.heap.size w w' := by
  obtain ⟨A, c, B, d, C, e, rfl, ⟨hl1, hl2, hl3⟩, hx, hr, hp⟩ := hv
  have q1 := fun left h0 h1 W hW => szRatS x _ c rfl hl1 left h0 h1 A W (hx.later (w' := W) hW)
  have q2 := fun left h0 h1 W hW => szRatS r _ d rfl hl2 left h0 h1 B W (hr.later (w' := W) hW)
  have q3 := fun left h0 h1 W hW => szRatS p _ e rfl hl3 left h0 h1 C W (hp.later (w' := W) hW)
  replace q1 := Lib.hid q1
  replace q2 := Lib.hid q2
  replace q3 := Lib.hid q3
  clear hx hr hp hl1 hl2 hl3
  generalize x.length = nx at *
  generalize r.length = nr at *
  generalize p.length = np at *
  generalize vsz x = vx at *
  generalize vsz r = vr at *
  generalize vsz p = vp at *
  by_cases c1 : (vx : Int) ≤ left
  · have s1 : szI vx left = left - vx := szI_pos c1
    have t0 : ¬ (left - vx < 0) := by omega
    have t1 : 0 ≤ left - vx := by omega
    by_cases c2 : (vr : Int) ≤ left - vx
    · have s2 : szI vr (left - vx) = left - vx - vr := szI_pos c2
      have t2 : 0 ≤ left - vx - vr := by omega
      by_cases c3 : (vp : Int) ≤ left - vx - vr
      · have s3 : szI vp (left - vx - vr) = left - vx - vr - vp := szI_pos c3
        have t3 : 0 ≤ left - vx - vr - vp := by omega
        have HZ := Lib.hid (show szI (vx + vr + vp) left = left - vx - vr - vp by rw [szI_pos (by omega)]; omega)
        have z1 := q1.out left h0 h1
        have z2 := q2.out (left - vx) t1 (by omega)
        have z3 := q3.out (left - vx - vr) t2 (by omega)
        rw [s1] at z1
        rw [s2] at z2
        rw [s3] at z3
        replace z1 := Lib.hid z1
        replace z2 := Lib.hid z2
        replace z3 := Lib.hid z3
        clear s1 s2 s3 q1 q2 q3
        go_enter Try.func14, Try.ntmps14
        go_wp2_with fail
        refine (z1.out _ (below_alloc1 _ _)).mono ?_
        rintro r1 w1 ⟨rfl, hb1⟩
        have e1 := box_cell hb1 1 rfl
        have e2 := box_cell hb1 2 rfl
        have hg := box_lt hb1
        replace hb1 := box_below hb1
        go_wp2_with fail
        refine (z2.out _ hb1).mono ?_
        rintro r1 w2 ⟨rfl, hb2⟩
        have e3 := cell_later hg e2 hb2
        replace hb2 := below_trans hb1 hb2
        clear e1 e2
        go_wp2_with fail
        refine (z3.out _ hb2).mono ?_
        rintro r1 w3 ⟨rfl, hb3⟩
        replace hb3 := below_trans hb2 hb3
        go_wp2
        go_ret
        exact ⟨ret_int HZ.out.symm, hb3⟩
      · have s3 : szI vp (left - vx - vr) = -1 := szI_neg (by omega)
        have HZ := Lib.hid (show szI (vx + vr + vp) left = -1 from szI_neg (by omega))
        have z1 := q1.out left h0 h1
        have z2 := q2.out (left - vx) t1 (by omega)
        have z3 := q3.out (left - vx - vr) t2 (by omega)
        rw [s1] at z1
        rw [s2] at z2
        rw [s3] at z3
        replace z1 := Lib.hid z1
        replace z2 := Lib.hid z2
        replace z3 := Lib.hid z3
        clear s1 s2 s3 q1 q2 q3
        go_enter Try.func14, Try.ntmps14
        go_wp2_with fail
        refine (z1.out _ (below_alloc1 _ _)).mono ?_
        rintro r1 w1 ⟨rfl, hb1⟩
        have e1 := box_cell hb1 1 rfl
        have e2 := box_cell hb1 2 rfl
        have hg := box_lt hb1
        replace hb1 := box_below hb1
        go_wp2_with fail
        refine (z2.out _ hb1).mono ?_
        rintro r1 w2 ⟨rfl, hb2⟩
        have e3 := cell_later hg e2 hb2
        replace hb2 := below_trans hb1 hb2
        clear e1 e2
        go_wp2_with fail
        refine (z3.out _ hb2).mono ?_
        rintro r1 w3 ⟨rfl, hb3⟩
        replace hb3 := below_trans hb2 hb3
        go_wp2
        go_ret
        exact ⟨ret_int HZ.out.symm, hb3⟩
    · have s2 : szI vr (left - vx) = -1 := szI_neg (by omega)
      have HZ := Lib.hid (show szI (vx + vr + vp) left = -1 from szI_neg (by omega))
      have z1 := q1.out left h0 h1
      have z2 := q2.out (left - vx) t1 (by omega)
      rw [s1] at z1
      rw [s2] at z2
      replace z1 := Lib.hid z1
      replace z2 := Lib.hid z2
      clear s1 s2 q1 q2 q3
      go_enter Try.func14, Try.ntmps14
      go_wp2_with fail
      refine (z1.out _ (below_alloc1 _ _)).mono ?_
      rintro r1 w1 ⟨rfl, hb1⟩
      have e1 := box_cell hb1 1 rfl
      replace hb1 := box_below hb1
      go_wp2_with fail
      refine (z2.out _ hb1).mono ?_
      rintro r1 w2 ⟨rfl, hb2⟩
      replace hb2 := below_trans hb1 hb2
      go_wp2
      go_ret
      exact ⟨ret_int HZ.out.symm, hb2⟩
  · have s1 : szI vx left = -1 := szI_neg (by omega)
    have HZ := Lib.hid (show szI (vx + vr + vp) left = -1 from szI_neg (by omega))
    have z1 := q1.out left h0 h1
    rw [s1] at z1
    replace z1 := Lib.hid z1
    clear s1 q1 q2 q3
    go_enter Try.func14, Try.ntmps14
    go_wp2_with fail
    refine (z1.out _ (below_alloc1 _ _)).mono ?_
    rintro r1 w1 ⟨rfl, hb1⟩
    replace hb1 := box_below hb1
    go_wp2
    go_ret
    exact ⟨ret_int HZ.out.symm, hb1⟩

/-- Whether two iterates are the same. -/
def itSame (x r p x' r' p' : List RatD) : Bool := vsame x x' && (vsame r r' && vsame p p')
end Go.Proofs.Ytkmmdajlbkbnmaa

namespace Go.Proofs.Ytkmmdajlbkbnmaa
open Go.RowKit Go.Joins

set_option maxHeartbeats 800000 in
theorem eqIterate (x r p x' r' p' : List RatD) (u v : Value) (w : World) (hu : ItV w u x r p) (hv : ItV w v x' r' p') (f1 : Few x) (f2 : Few r) (f3 : Few p) (g1 : Few x') (g2 : Few r') (g3 : Few p') :
    Calls Try.prog 18 #[u, v] w fun e w' => e = .returned (.bool (itSame x r p x' r' p')) ∧ Below w.heap.size w w' := by
  obtain ⟨A, c, B, d, C, e, rfl, _, hx, hr, hp⟩ := hu
  obtain ⟨A', c', B', d', C', e', rfl, _, hx', hr', hp'⟩ := hv
  have q1 := Lib.hid (fun W hW => eqRatS x x' _ _ c c' rfl rfl f1 g1 A A' W (hx.later (w' := W) hW) (hx'.later hW))
  have q2 := Lib.hid (fun W hW => eqRatS r r' _ _ d d' rfl rfl f2 g2 B B' W (hr.later (w' := W) hW) (hr'.later hW))
  have q3 := Lib.hid (fun W hW => eqRatS p p' _ _ e e' rfl rfl f3 g3 C C' W (hp.later (w' := W) hW) (hp'.later hW))
  have HS := Lib.hid (show itSame x r p x' r' p' = (vsame x x' && (vsame r r' && vsame p p')) from rfl)
  clear hx hr hp hx' hr' hp' f1 f2 f3 g1 g2 g3
  generalize itSame x r p x' r' p' = res at *
  generalize vsame x x' = b1 at *
  generalize vsame r r' = b2 at *
  generalize vsame p p' = b3 at *
  generalize x.length = n1 at *
  generalize r.length = n2 at *
  generalize p.length = n3 at *
  generalize x'.length = m1 at *
  generalize r'.length = m2 at *
  generalize p'.length = m3 at *
  cases b1
  · skip
    go_enter Try.func18, Try.ntmps18
    go_wp2_with fail
    refine (q1.out _ (below_alloc2 _ _ _)).mono ?_
    rintro z w1 ⟨rfl, hb1⟩
    replace hb1 := below_trans (below_alloc2 _ _ _) hb1
    go_wp2
    go_ret
    exact ⟨ret_bool (by rw [HS.out]; rfl), hb1⟩
  · cases b2
    · skip
      go_enter Try.func18, Try.ntmps18
      go_wp2_with fail
      refine (q1.out _ (below_alloc2 _ _ _)).mono ?_
      rintro z w1 ⟨rfl, hb1⟩
      have hi := own_cell hb1 (g := w.heap.size + 1) (by simp)
      have hj := own_cell (below_step hb1) (g := w.heap.size) rfl
      have i1 := hi.1 1 _ rfl
      have j1 := hj.1 1 _ rfl
      have hsz : w.heap.size + 1 < w1.heap.size := (by have := hb1.size; simp only [World.size_alloc] at this; omega)
      clear hi hj
      replace hb1 := below_trans (below_alloc2 _ _ _) hb1
      go_wp2_with fail
      refine (q2.out _ hb1).mono ?_
      rintro z w2 ⟨rfl, hb2⟩
      replace hb2 := below_trans hb1 hb2
      go_wp2
      go_ret
      exact ⟨ret_bool (by rw [HS.out]; rfl), hb2⟩
    · cases b3
      · skip
        go_enter Try.func18, Try.ntmps18
        go_wp2_with fail
        refine (q1.out _ (below_alloc2 _ _ _)).mono ?_
        rintro z w1 ⟨rfl, hb1⟩
        have hi := own_cell hb1 (g := w.heap.size + 1) (by simp)
        have hj := own_cell (below_step hb1) (g := w.heap.size) rfl
        have i1 := hi.1 1 _ rfl
        have j1 := hj.1 1 _ rfl
        have i2 := hi.1 2 _ rfl
        have j2 := hj.1 2 _ rfl
        have hsz : w.heap.size + 1 < w1.heap.size := (by have := hb1.size; simp only [World.size_alloc] at this; omega)
        clear hi hj
        replace hb1 := below_trans (below_alloc2 _ _ _) hb1
        go_wp2_with fail
        refine (q2.out _ hb1).mono ?_
        rintro z w2 ⟨rfl, hb2⟩
        have i3 := cell_later hsz i2 hb2
        have j3 := cell_later (Nat.lt_of_succ_lt hsz) j2 hb2
        clear i1 j1 i2 j2
        replace hb2 := below_trans hb1 hb2
        go_wp2_with fail
        refine (q3.out _ hb2).mono ?_
        rintro z w3 ⟨rfl, hb3⟩
        replace hb3 := below_trans hb2 hb3
        go_wp2
        go_ret
        exact ⟨ret_bool (by rw [HS.out]; rfl), hb3⟩
      · skip
        go_enter Try.func18, Try.ntmps18
        go_wp2_with fail
        refine (q1.out _ (below_alloc2 _ _ _)).mono ?_
        rintro z w1 ⟨rfl, hb1⟩
        have hi := own_cell hb1 (g := w.heap.size + 1) (by simp)
        have hj := own_cell (below_step hb1) (g := w.heap.size) rfl
        have i1 := hi.1 1 _ rfl
        have j1 := hj.1 1 _ rfl
        have i2 := hi.1 2 _ rfl
        have j2 := hj.1 2 _ rfl
        have hsz : w.heap.size + 1 < w1.heap.size := (by have := hb1.size; simp only [World.size_alloc] at this; omega)
        clear hi hj
        replace hb1 := below_trans (below_alloc2 _ _ _) hb1
        go_wp2_with fail
        refine (q2.out _ hb1).mono ?_
        rintro z w2 ⟨rfl, hb2⟩
        have i3 := cell_later hsz i2 hb2
        have j3 := cell_later (Nat.lt_of_succ_lt hsz) j2 hb2
        clear i1 j1 i2 j2
        replace hb2 := below_trans hb1 hb2
        go_wp2_with fail
        refine (q3.out _ hb2).mono ?_
        rintro z w3 ⟨rfl, hb3⟩
        replace hb3 := below_trans hb2 hb3
        go_wp2
        go_ret
        exact ⟨ret_bool (by rw [HS.out]; rfl), hb3⟩

set_option maxHeartbeats 800000 in
theorem iSameIterate (x r p x' r' p' : List RatD) (u v : Value) (w : World) (hu : ItV w u x r p) (hv : ItV w v x' r' p') (f1 : Few x) (f2 : Few r) (f3 : Few p) (g1 : Few x') (g2 : Few r') (g3 : Few p') :
    Calls Try.prog 17 #[u, v] w fun e w' => e = .returned (.bool (itSame x r p x' r' p')) ∧ Below w.heap.size w w' := by
  obtain ⟨A, c, B, d, C, e, rfl, _, hx, hr, hp⟩ := hu
  obtain ⟨A', c', B', d', C', e', rfl, _, hx', hr', hp'⟩ := hv
  have q1 := Lib.hid (fun W hW => iSame x x' _ _ c c' rfl rfl f1 g1 A A' W (hx.later (w' := W) hW) (hx'.later hW))
  have q2 := Lib.hid (fun W hW => iSame r r' _ _ d d' rfl rfl f2 g2 B B' W (hr.later (w' := W) hW) (hr'.later hW))
  have q3 := Lib.hid (fun W hW => iSame p p' _ _ e e' rfl rfl f3 g3 C C' W (hp.later (w' := W) hW) (hp'.later hW))
  have HS := Lib.hid (show itSame x r p x' r' p' = (vsame x x' && (vsame r r' && vsame p p')) from rfl)
  clear hx hr hp hx' hr' hp' f1 f2 f3 g1 g2 g3
  generalize itSame x r p x' r' p' = res at *
  generalize vsame x x' = b1 at *
  generalize vsame r r' = b2 at *
  generalize vsame p p' = b3 at *
  generalize x.length = n1 at *
  generalize r.length = n2 at *
  generalize p.length = n3 at *
  generalize x'.length = m1 at *
  generalize r'.length = m2 at *
  generalize p'.length = m3 at *
  cases b1
  · skip
    go_enter Try.func17, Try.ntmps17
    go_wp2_with fail
    refine (q1.out _ (below_alloc2 _ _ _)).mono ?_
    rintro z w1 ⟨rfl, hb1⟩
    replace hb1 := below_trans (below_alloc2 _ _ _) hb1
    go_wp2
    go_ret
    exact ⟨ret_bool (by rw [HS.out]; rfl), hb1⟩
  · cases b2
    · skip
      go_enter Try.func17, Try.ntmps17
      go_wp2_with fail
      refine (q1.out _ (below_alloc2 _ _ _)).mono ?_
      rintro z w1 ⟨rfl, hb1⟩
      have hi := own_cell hb1 (g := w.heap.size + 1) (by simp)
      have hj := own_cell (below_step hb1) (g := w.heap.size) rfl
      have i1 := hi.1 1 _ rfl
      have j1 := hj.1 1 _ rfl
      have hsz : w.heap.size + 1 < w1.heap.size := (by have := hb1.size; simp only [World.size_alloc] at this; omega)
      clear hi hj
      replace hb1 := below_trans (below_alloc2 _ _ _) hb1
      go_wp2_with fail
      refine (q2.out _ hb1).mono ?_
      rintro z w2 ⟨rfl, hb2⟩
      replace hb2 := below_trans hb1 hb2
      go_wp2
      go_ret
      exact ⟨ret_bool (by rw [HS.out]; rfl), hb2⟩
    · cases b3
      · skip
        go_enter Try.func17, Try.ntmps17
        go_wp2_with fail
        refine (q1.out _ (below_alloc2 _ _ _)).mono ?_
        rintro z w1 ⟨rfl, hb1⟩
        have hi := own_cell hb1 (g := w.heap.size + 1) (by simp)
        have hj := own_cell (below_step hb1) (g := w.heap.size) rfl
        have i1 := hi.1 1 _ rfl
        have j1 := hj.1 1 _ rfl
        have i2 := hi.1 2 _ rfl
        have j2 := hj.1 2 _ rfl
        have hsz : w.heap.size + 1 < w1.heap.size := (by have := hb1.size; simp only [World.size_alloc] at this; omega)
        clear hi hj
        replace hb1 := below_trans (below_alloc2 _ _ _) hb1
        go_wp2_with fail
        refine (q2.out _ hb1).mono ?_
        rintro z w2 ⟨rfl, hb2⟩
        have i3 := cell_later hsz i2 hb2
        have j3 := cell_later (Nat.lt_of_succ_lt hsz) j2 hb2
        clear i1 j1 i2 j2
        replace hb2 := below_trans hb1 hb2
        go_wp2_with fail
        refine (q3.out _ hb2).mono ?_
        rintro z w3 ⟨rfl, hb3⟩
        replace hb3 := below_trans hb2 hb3
        go_wp2
        go_ret
        exact ⟨ret_bool (by rw [HS.out]; rfl), hb3⟩
      · skip
        go_enter Try.func17, Try.ntmps17
        go_wp2_with fail
        refine (q1.out _ (below_alloc2 _ _ _)).mono ?_
        rintro z w1 ⟨rfl, hb1⟩
        have hi := own_cell hb1 (g := w.heap.size + 1) (by simp)
        have hj := own_cell (below_step hb1) (g := w.heap.size) rfl
        have i1 := hi.1 1 _ rfl
        have j1 := hj.1 1 _ rfl
        have i2 := hi.1 2 _ rfl
        have j2 := hj.1 2 _ rfl
        have hsz : w.heap.size + 1 < w1.heap.size := (by have := hb1.size; simp only [World.size_alloc] at this; omega)
        clear hi hj
        replace hb1 := below_trans (below_alloc2 _ _ _) hb1
        go_wp2_with fail
        refine (q2.out _ hb1).mono ?_
        rintro z w2 ⟨rfl, hb2⟩
        have i3 := cell_later hsz i2 hb2
        have j3 := cell_later (Nat.lt_of_succ_lt hsz) j2 hb2
        clear i1 j1 i2 j2
        replace hb2 := below_trans hb1 hb2
        go_wp2_with fail
        refine (q3.out _ hb2).mono ?_
        rintro z w3 ⟨rfl, hb3⟩
        replace hb3 := below_trans hb2 hb3
        go_wp2
        go_ret
        exact ⟨ret_bool (by rw [HS.out]; rfl), hb3⟩

set_option maxHeartbeats 800000 in
theorem sSameIterate (x r p x' r' p' : List RatD) (u v : Value) (w : World) (hu : ItV w u x r p) (hv : ItV w v x' r' p') (f1 : Few x) (f2 : Few r) (f3 : Few p) (g1 : Few x') (g2 : Few r') (g3 : Few p') :
    Calls Try.prog 15 #[u, v] w fun e w' => e = .returned (.bool (itSame x r p x' r' p')) ∧ Below w.heap.size w w' := by
  obtain ⟨A, c, B, d, C, e, rfl, _, hx, hr, hp⟩ := hu
  obtain ⟨A', c', B', d', C', e', rfl, _, hx', hr', hp'⟩ := hv
  have q1 := Lib.hid (fun W hW => sSame x x' _ _ c c' rfl rfl f1 g1 A A' W (hx.later (w' := W) hW) (hx'.later hW))
  have q2 := Lib.hid (fun W hW => sSame r r' _ _ d d' rfl rfl f2 g2 B B' W (hr.later (w' := W) hW) (hr'.later hW))
  have q3 := Lib.hid (fun W hW => sSame p p' _ _ e e' rfl rfl f3 g3 C C' W (hp.later (w' := W) hW) (hp'.later hW))
  have HS := Lib.hid (show itSame x r p x' r' p' = (vsame x x' && (vsame r r' && vsame p p')) from rfl)
  clear hx hr hp hx' hr' hp' f1 f2 f3 g1 g2 g3
  generalize itSame x r p x' r' p' = res at *
  generalize vsame x x' = b1 at *
  generalize vsame r r' = b2 at *
  generalize vsame p p' = b3 at *
  generalize x.length = n1 at *
  generalize r.length = n2 at *
  generalize p.length = n3 at *
  generalize x'.length = m1 at *
  generalize r'.length = m2 at *
  generalize p'.length = m3 at *
  cases b1
  · skip
    go_enter Try.func15, Try.ntmps15
    go_wp2_with fail
    refine (q1.out _ (below_alloc2 _ _ _)).mono ?_
    rintro z w1 ⟨rfl, hb1⟩
    replace hb1 := below_trans (below_alloc2 _ _ _) hb1
    go_wp2
    go_ret
    exact ⟨ret_bool (by rw [HS.out]; rfl), hb1⟩
  · cases b2
    · skip
      go_enter Try.func15, Try.ntmps15
      go_wp2_with fail
      refine (q1.out _ (below_alloc2 _ _ _)).mono ?_
      rintro z w1 ⟨rfl, hb1⟩
      have hi := own_cell hb1 (g := w.heap.size + 1) (by simp)
      have hj := own_cell (below_step hb1) (g := w.heap.size) rfl
      have i1 := hi.1 1 _ rfl
      have j1 := hj.1 1 _ rfl
      have hsz : w.heap.size + 1 < w1.heap.size := (by have := hb1.size; simp only [World.size_alloc] at this; omega)
      clear hi hj
      replace hb1 := below_trans (below_alloc2 _ _ _) hb1
      go_wp2_with fail
      refine (q2.out _ hb1).mono ?_
      rintro z w2 ⟨rfl, hb2⟩
      replace hb2 := below_trans hb1 hb2
      go_wp2
      go_ret
      exact ⟨ret_bool (by rw [HS.out]; rfl), hb2⟩
    · cases b3
      · skip
        go_enter Try.func15, Try.ntmps15
        go_wp2_with fail
        refine (q1.out _ (below_alloc2 _ _ _)).mono ?_
        rintro z w1 ⟨rfl, hb1⟩
        have hi := own_cell hb1 (g := w.heap.size + 1) (by simp)
        have hj := own_cell (below_step hb1) (g := w.heap.size) rfl
        have i1 := hi.1 1 _ rfl
        have j1 := hj.1 1 _ rfl
        have i2 := hi.1 2 _ rfl
        have j2 := hj.1 2 _ rfl
        have hsz : w.heap.size + 1 < w1.heap.size := (by have := hb1.size; simp only [World.size_alloc] at this; omega)
        clear hi hj
        replace hb1 := below_trans (below_alloc2 _ _ _) hb1
        go_wp2_with fail
        refine (q2.out _ hb1).mono ?_
        rintro z w2 ⟨rfl, hb2⟩
        have i3 := cell_later hsz i2 hb2
        have j3 := cell_later (Nat.lt_of_succ_lt hsz) j2 hb2
        clear i1 j1 i2 j2
        replace hb2 := below_trans hb1 hb2
        go_wp2_with fail
        refine (q3.out _ hb2).mono ?_
        rintro z w3 ⟨rfl, hb3⟩
        replace hb3 := below_trans hb2 hb3
        go_wp2
        go_ret
        exact ⟨ret_bool (by rw [HS.out]; rfl), hb3⟩
      · skip
        go_enter Try.func15, Try.ntmps15
        go_wp2_with fail
        refine (q1.out _ (below_alloc2 _ _ _)).mono ?_
        rintro z w1 ⟨rfl, hb1⟩
        have hi := own_cell hb1 (g := w.heap.size + 1) (by simp)
        have hj := own_cell (below_step hb1) (g := w.heap.size) rfl
        have i1 := hi.1 1 _ rfl
        have j1 := hj.1 1 _ rfl
        have i2 := hi.1 2 _ rfl
        have j2 := hj.1 2 _ rfl
        have hsz : w.heap.size + 1 < w1.heap.size := (by have := hb1.size; simp only [World.size_alloc] at this; omega)
        clear hi hj
        replace hb1 := below_trans (below_alloc2 _ _ _) hb1
        go_wp2_with fail
        refine (q2.out _ hb1).mono ?_
        rintro z w2 ⟨rfl, hb2⟩
        have i3 := cell_later hsz i2 hb2
        have j3 := cell_later (Nat.lt_of_succ_lt hsz) j2 hb2
        clear i1 j1 i2 j2
        replace hb2 := below_trans hb1 hb2
        go_wp2_with fail
        refine (q3.out _ hb2).mono ?_
        rintro z w3 ⟨rfl, hb3⟩
        replace hb3 := below_trans hb2 hb3
        go_wp2
        go_ret
        exact ⟨ret_bool (by rw [HS.out]; rfl), hb3⟩
end Go.Proofs.Ytkmmdajlbkbnmaa

namespace Go.Proofs.Ytkmmdajlbkbnmaa
open Go.RowKit Go.Joins

/-- A variable of the call's own with its cells. -/
def Slots (w : World) (g : Nat) (cs : List Value) : Prop := g < w.heap.size ∧ (∀ i, i < cs.length → w.cell? ⟨g, i, none⟩ = cs[i]?) ∧ ∀ i, w.frozen? ⟨g, i, none⟩ = false
theorem Slots.later {w w' : World} {g : Nat} {cs : List Value} (h : Slots w g cs) (hb : Below w.heap.size w w') : Slots w' g cs :=
  ⟨Nat.lt_of_lt_of_le h.1 hb.size, fun i hi => by rw [hb.cell (p := ⟨g, i, none⟩) h.1]; exact h.2.1 i hi, fun i => by rw [hb.frozen (p := ⟨g, i, none⟩) h.1]; exact h.2.2 i⟩
theorem Slots.far {w : World} {g : Nat} {cs : List Value} (h : Slots w g cs) {p : Addr} (hp : p.block ≠ g) (u : Value) : Slots (w.setCell p u) g cs :=
  ⟨by simpa using h.1, fun i hi => by rw [World.cell?_setCell_other _ _ _ _ (by intro e; subst e; exact hp rfl)]; exact h.2.1 i hi, fun i => by simpa using h.2.2 i⟩
theorem Slots.set {w : World} {g : Nat} {cs : List Value} (h : Slots w g cs) (j : Nat) (hj : j < cs.length) (u : Value) : Slots (w.setCell ⟨g, j, none⟩ u) g (cs.set j u) := by
  refine ⟨by simpa using h.1, fun i hi => ?_, fun i => by simpa using h.2.2 i⟩
  rw [List.length_set] at hi
  by_cases hij : j = i
  · subst hij
    have := h.2.1 j hj
    rw [List.getElem?_eq_getElem hj] at this
    rw [World.cell?_setCell_same _ _ _ this]
    simp [hj]
  · rw [World.cell?_setCell_other _ _ _ _ (by intro e; injection e with _ e; exact hij e), h.2.1 i hi]
    simp [List.getElem?_set, hij]
theorem Slots.new {w w2 : World} {C : Array Value} {t : TypeId} (hb : Below (w.alloc (.cells C t)).heap.size (w.alloc (.cells C t)) w2) {g : Nat} (hg : g = w.heap.size) : Slots w2 g C.toList := by
  have h := own_cell hb hg
  refine ⟨by subst hg; exact box_lt hb, fun i hi => ?_, h.2⟩
  have hi' : i < C.size := by simpa using hi
  rw [h.1 i _ (Array.getElem?_eq_getElem hi')]
  simp [hi']
theorem Slots.c3 {w : World} {g : Nat} {a b c : Value} (h : Slots w g [a, b, c]) : w.cell? ⟨g, 0, none⟩ = some a ∧ w.cell? ⟨g, 1, none⟩ = some b ∧ w.cell? ⟨g, 2, none⟩ = some c ∧
    w.frozen? ⟨g, 0, none⟩ = false ∧ w.frozen? ⟨g, 1, none⟩ = false ∧ w.frozen? ⟨g, 2, none⟩ = false :=
  ⟨h.2.1 0 (by simp), h.2.1 1 (by simp), h.2.1 2 (by simp), h.2.2 0, h.2.2 1, h.2.2 2⟩

theorem ROAt.far {w : World} {base b off : Nat} {r : RatD} (h : ROAt w base b off r) {p : Addr} (hp : p.block < base) (hq : p.block ≠ b) (u : Value) : ROAt (w.setCell p u) base b off r := by
  obtain ⟨va, vb, h0, h1, h2, h3, h4⟩ := h
  have hc : ∀ i, (w.setCell p u).cell? ⟨b, i, none⟩ = w.cell? ⟨b, i, none⟩ := fun i => World.cell?_setCell_other _ _ _ _ (by intro e; subst e; exact hq rfl)
  exact ⟨va, vb, by rw [hc]; exact h0, by rw [hc]; exact h1, by rw [hc]; exact h2, h3.far hp u, h4.far hp u⟩
theorem VO.far {w : World} {base : Nat} {v : Value} {rs : List RatD} (h : VO w base v rs) {p : Addr} (hp : p.block < base) (u : Value) : VO (w.setCell p u) base v rs := by
  obtain ⟨A, c, rfl, hl, hc, h⟩ := h
  refine ⟨A, c, rfl, hl, hc, fun hx => ?_⟩
  obtain ⟨g, rfl, hg, hs, hf, h⟩ := h hx
  exact ⟨g, rfl, hg, by simpa using hs, fun i => by simpa using hf i, fun j hj => (h j hj).far (by omega) (by omega) u⟩
theorem VO.later {w w' : World} {base : Nat} {v : Value} {rs : List RatD} (h : VO w base v rs) (hb : Below w.heap.size w w') : VO w' base v rs := by
  obtain ⟨A, c, rfl, hl, hc, h⟩ := h
  refine ⟨A, c, rfl, hl, hc, fun hx => ?_⟩
  obtain ⟨g, rfl, hg, hs, hf, h⟩ := h hx
  exact ⟨g, rfl, hg, Nat.lt_of_lt_of_le hs hb.size, fun i => by rw [hb.frozen (p := ⟨g, i, none⟩) hs]; exact hf i, fun j hj => (h j hj).later hs hb⟩
theorem VO.mono {w : World} {base base' : Nat} {v : Value} {rs : List RatD} (h : VO w base v rs) (hb : base' ≤ base) : VO w base' v rs := by
  obtain ⟨A, c, rfl, hl, hc, h⟩ := h
  refine ⟨A, c, rfl, hl, hc, fun hx => ?_⟩
  obtain ⟨g, rfl, hg, hs⟩ := h hx
  exact ⟨g, rfl, by omega, hs⟩

set_option maxHeartbeats 800000 in
theorem toIterate (x r p : List RatD) (v : Value) (w : World) (hv : ItV w v x r p) (f1 : Few x) (f2 : Few r) (f3 : Few p) :
    Calls Try.prog 16 #[v] w fun e w' => ∃ v', e = .returned v' ∧ ItV w' v' x r p ∧ Below w.heap.size w w' := by
  obtain ⟨A, c, B, d, C, e, rfl, ⟨hl1, hl2, hl3⟩, hx, hr, hp⟩ := hv
  have HV := Lib.hid (fun (A : Option Addr) => (rfl : A = A))
  have q1 := Lib.hid (fun W hW => toRatS x _ c rfl f1 A W (hx.later (w' := W) hW))
  have q2 := Lib.hid (fun W hW => toRatS r _ d rfl f2 B W (hr.later (w' := W) hW))
  have q3 := Lib.hid (fun W hW => toRatS p _ e rfl f3 C W (hp.later (w' := W) hW))
  clear hx hr hp f1 f2 f3 HV
  go_enter Try.func16, Try.ntmps16
  go_wp2_with fail
  refine (q1.out _ (below_alloc3 _ _ _ _)).mono ?_
  rintro z w1 ⟨v1, rfl, hv1, hb1⟩
  have S3 := Slots.new hb1 (g := w.heap.size + 1 + 1) (by simp)
  have S2 := Slots.new (below_step hb1) (g := w.heap.size + 1) (by simp)
  have S1 := Slots.new (below_step (below_step hb1)) (g := w.heap.size) (by simp)
  replace hb1 := below_trans (below_alloc3 _ _ _ _) hb1
  replace hv1 := hv1.mono (base' := w.heap.size + 1 + 1 + 1) (by simp)
  obtain ⟨A1, c1, rfl, hc1, hc1'⟩ := hv1.form
  obtain ⟨a0, a1, a2, y0, y1, y2⟩ := S3.c3
  obtain ⟨_, d1, d2, _, _, _⟩ := S1.c3
  go_wp2_with fail
  clear a0 a1 a2 y0 y1 y2 d1 d2
  replace S3 := S3.set 0 (by simp) (.slice A1 x.length c1)
  replace S2 := S2.far (p := ⟨w.heap.size + 1 + 1, 0, none⟩) (by simp) (.slice A1 x.length c1)
  replace S1 := S1.far (p := ⟨w.heap.size + 1 + 1, 0, none⟩) (by simp; omega) (.slice A1 x.length c1)
  replace hv1 := hv1.far (p := ⟨w.heap.size + 1 + 1, 0, none⟩) (by simp) (.slice A1 x.length c1)
  replace hb1 := hb1.setCell (p := ⟨w.heap.size + 1 + 1, 0, none⟩) (by simp; omega) (.slice A1 x.length c1)
  generalize w1.setCell ⟨w.heap.size + 1 + 1, 0, none⟩ (.slice A1 x.length c1) = w2 at *
  have hz2 : w.heap.size + 1 + 1 < w2.heap.size := S3.1
  refine (q2.out _ hb1).mono ?_
  rintro z w3 ⟨v2, rfl, hv2, hb2⟩
  replace S3 := S3.later hb2
  replace S2 := S2.later hb2
  replace S1 := S1.later hb2
  replace hv1 := hv1.later hb2
  replace hv2 := hv2.mono (base' := w.heap.size + 1 + 1 + 1) (by omega)
  replace hb1 := below_trans hb1 hb2
  clear hb2
  obtain ⟨A2, c2, rfl, hc2, hc2'⟩ := hv2.form
  obtain ⟨a0, a1, a2, y0, y1, y2⟩ := S3.c3
  obtain ⟨_, d1, d2, _, _, _⟩ := S1.c3
  go_wp2_with fail
  clear a0 a1 a2 y0 y1 y2 d1 d2
  replace S3 := S3.set 1 (by simp) (.slice A2 r.length c2)
  replace S2 := S2.far (p := ⟨w.heap.size + 1 + 1, 1, none⟩) (by simp) (.slice A2 r.length c2)
  replace S1 := S1.far (p := ⟨w.heap.size + 1 + 1, 1, none⟩) (by simp; omega) (.slice A2 r.length c2)
  replace hv1 := hv1.far (p := ⟨w.heap.size + 1 + 1, 1, none⟩) (by simp) (.slice A2 r.length c2)
  replace hv2 := hv2.far (p := ⟨w.heap.size + 1 + 1, 1, none⟩) (by simp) (.slice A2 r.length c2)
  replace hb1 := hb1.setCell (p := ⟨w.heap.size + 1 + 1, 1, none⟩) (by simp; omega) (.slice A2 r.length c2)
  generalize w3.setCell ⟨w.heap.size + 1 + 1, 1, none⟩ (.slice A2 r.length c2) = w4 at *
  have hz4 : w.heap.size + 1 + 1 < w4.heap.size := S3.1
  refine (q3.out _ hb1).mono ?_
  rintro z w5 ⟨v3, rfl, hv3, hb3⟩
  replace S3 := S3.later hb3
  replace S2 := S2.later hb3
  replace hv1 := hv1.later hb3
  replace hv2 := hv2.later hb3
  replace hv3 := hv3.mono (base' := w.heap.size + 1 + 1 + 1) (by omega)
  replace hb1 := below_trans hb1 hb3
  clear hb3 S1
  obtain ⟨A3, c3, rfl, hc3, hc3'⟩ := hv3.form
  obtain ⟨a0, a1, a2, y0, y1, y2⟩ := S3.c3
  obtain ⟨b0, b1, b2, x0, x1, x2⟩ := S2.c3
  go_wp2
  refine bodyPost_ret (v := .agg #[.slice A1 x.length c1, .slice A2 r.length c2, .slice A3 p.length c3]) (by simp [results, Try.results16, go_sem, b0, b1, b2]) rfl
    ⟨_, rfl, ⟨_, _, _, _, _, _, rfl, ⟨by omega, by omega, by omega⟩, ?_, ?_, ?_⟩, ?_⟩
  · exact ((((hv1.far (by simp) _).far (by simp) _).far (by simp) _).far (by simp) _).reads
  · exact ((((hv2.far (by simp) _).far (by simp) _).far (by simp) _).far (by simp) _).reads
  · exact ((((hv3.far (by simp) _).far (by simp) _).far (by simp) _).far (by simp) _).reads
  · exact (((hb1.setCell (by simp; omega) _).setCell (by simp) _).setCell (by simp) _).setCell (by simp) _
end Go.Proofs.Ytkmmdajlbkbnmaa

namespace Go.Proofs.Ytkmmdajlbkbnmaa
open Go.RowKit Go.Joins

theorem box_lat {w w2 : World} {C : Array Value} {t : TypeId} (hb : Below (w.alloc (.cells C t)).heap.size (w.alloc (.cells C t)) w2) : Slots w2 w.heap.size C.toList := Slots.new hb rfl
theorem ri_alloc {w : World} {A : Option Addr} {xs : List Int} (h : RI w A xs) (o : Obj) : RI (w.alloc o) A xs := h.alloc o

set_option maxHeartbeats 400000 in
theorem iBigIntOk (s : Bool) (xs : List Int) (n c : Nat) (hn : xs.length = n) (hn1 : n ≤ 4611686018427387904) (A : Option Addr) (w : World) (ha : RI w A xs) :
    Calls Try.prog 122 #[.agg #[.bool s, .slice A n c]] w fun e w' => e = .returned (.bool (FE.bigOk s xs)) ∧ Below w.heap.size w w' := by
  have HC := Lib.hid (fun o => iNatOk xs n c hn hn1 A (w.alloc o) (ha.alloc o))
  have HQ := Lib.hid (show FE.bigOk s xs = (FE.natOk xs && (!s || !xs.isEmpty)) from rfl)
  have HN := Lib.hid hn; clear hn
  generalize FE.bigOk s xs = res at *
  obtain ⟨q, hq⟩ : ∃ q, FE.natOk xs = q := ⟨_, rfl⟩
  rw [hq] at HC HQ
  clear hq
  cases q
  · go_enter Try.func122, Try.ntmps122
    go_wp2_with fail
    refine (HC.out _).mono ?_
    rintro e w1 ⟨rfl, rfl⟩
    go_wp2
    go_ret
    exact ⟨ret_bool (by rw [HQ.out]; rfl), below_alloc1 _ _⟩
  · cases s
    · go_enter Try.func122, Try.ntmps122
      go_wp2_with fail
      refine (HC.out _).mono ?_
      rintro e w1 ⟨rfl, rfl⟩
      go_wp2
      go_ret
      exact ⟨ret_bool (by rw [HQ.out]; rfl), below_alloc1 _ _⟩
    · by_cases hn0 : 0 < n
      · have HR := Lib.hid (show res = true by
          rw [HQ.out]
          have h0 : xs ≠ [] := (by intro h; have := HN.out; rw [h] at this; simp at this; omega)
          simp [h0])
        go_enter Try.func122, Try.ntmps122
        go_wp2_with fail
        refine (HC.out _).mono ?_
        rintro e w1 ⟨rfl, rfl⟩
        go_wp2
        go_ret
        exact ⟨ret_bool HR.out.symm, below_alloc1 _ _⟩
      · have HR := Lib.hid (show res = false by
          rw [HQ.out]
          have h0 : xs = [] := List.eq_nil_of_length_eq_zero (by have := HN.out; omega)
          simp [h0])
        go_enter Try.func122, Try.ntmps122
        go_wp2_with fail
        refine (HC.out _).mono ?_
        rintro e w1 ⟨rfl, rfl⟩
        go_wp2
        go_ret
        exact ⟨ret_bool HR.out.symm, below_alloc1 _ _⟩

def oneB (xs : List Int) : Bool := xs == [1]
theorem oneB_toL (n : Nat) : oneB (FE.toL n) = (n == 1) := by
  have h1 : FE.toL 1 = [1] := by rw [FE.toL_pos (by omega), show (1 / 1000000000 : Nat) = 0 from rfl, FE.toL_zero]; rfl
  unfold oneB
  rw [← h1, Bool.eq_iff_iff]
  simp only [beq_iff_eq]
  constructor
  · intro h
    have := congrArg FE.nv h
    rwa [FE.nv_toL, FE.nv_toL] at this
  · rintro rfl; rfl

set_option maxHeartbeats 400000 in
theorem iIsOne (xs : List Int) (n c : Nat) (hn : xs.length = n) (hn1 : n ≤ 4611686018427387904) (A : Option Addr) (w : World) (ha : RI w A xs) :
    Calls Try.prog 127 #[.slice A n c] w fun e w' => e = .returned (.bool (oneB xs)) ∧ w' = w := by
  by_cases h1 : n = 1
  · subst h1
    obtain ⟨x, rfl⟩ := List.length_eq_one_iff.1 hn
    obtain ⟨b, off, rfl, hb, hc⟩ := ha (by simp)
    have e1 := hc 0 (by simp)
    simp only [List.getD_cons_zero, Nat.add_zero] at e1
    by_cases hx : x = 1
    · subst hx
      go_enter Try.func127, Try.ntmps127
      go_wp2
      go_ret
      exact ⟨ret_bool (by simp [oneB]), rfl⟩
    · have HR := Lib.hid (show oneB [x] = false by simp [oneB, hx])
      have hx1 : (x == 1) = false := by simp [hx]
      go_enter Try.func127, Try.ntmps127
      go_wp2
      go_ret
      exact ⟨ret_bool HR.out.symm, rfl⟩
  · have HR := Lib.hid (show oneB xs = false by simp only [oneB, beq_eq_false_iff_ne, ne_eq]; intro h; rw [h] at hn; simp at hn; omega)
    have hx1 : ((n : Int) == 1) = false := by simp; omega
    clear hn h1
    go_enter Try.func127, Try.ntmps127
    go_wp2
    go_ret
    exact ⟨ret_bool HR.out.symm, rfl⟩

def smallB (x : RatD) : Bool := decide (x.mag.length ≤ 1) && (x.den.length == 1)
set_option maxHeartbeats 400000 in
theorem iIsSmall (x : RatD) (v : Value) (w : World) (hv : RatV w v x) :
    Calls Try.prog 124 #[v] w fun e w' => e = .returned (.bool (smallB x)) ∧ Below w.heap.size w w' := by
  obtain ⟨A, c, B, d, rfl, ⟨h1, h2, h3, h4⟩, _, _⟩ := hv
  have HR := Lib.hid (show smallB x = (decide (x.mag.length ≤ 1) && (x.den.length == 1)) from rfl)
  generalize smallB x = res at *
  generalize x.mag.length = n at *
  generalize x.den.length = m at *
  generalize x.neg = s at *
  have l1 : n ≤ 9223372036854775807 := by unfold maxLen at h2; omega
  have l2 : m ≤ 9223372036854775807 := by unfold maxLen at h4; omega
  clear h1 h2 h3 h4
  by_cases hn : n ≤ 1
  · by_cases hm : m = 1
    · subst hm
      have HF := Lib.hid (show res = true by rw [HR.out]; simp [hn])
      go_enter Try.func124, Try.ntmps124
      go_wp2
      go_ret
      exact ⟨ret_bool HF.out.symm, below_alloc1 _ _⟩
    · have HF := Lib.hid (show res = false by rw [HR.out]; simp [hm])
      have hm1 : ((m : Int) == 1) = false := by simp; omega
      go_enter Try.func124, Try.ntmps124
      go_wp2
      go_ret
      exact ⟨ret_bool HF.out.symm, below_alloc1 _ _⟩
  · have HF := Lib.hid (show res = false by rw [HR.out]; simp [hn])
    go_enter Try.func124, Try.ntmps124
    go_wp2
    go_ret
    exact ⟨ret_bool HF.out.symm, below_alloc1 _ _⟩

/-- The parts of a small fraction. -/
structure SmallR (x : RatD) (p q : Nat) : Prop where
  mag : x.mag = FE.toL p
  den : x.den = FE.toL q
  p1 : p < 1000000000
  q0 : 0 < q
  q1 : q < 1000000000
def sgnI (s : Bool) (p : Nat) : Int := if s then -(p : Int) else p
theorem toL_one {q : Nat} (h0 : 0 < q) (h1 : q < 1000000000) : FE.toL q = [(q : Int)] := by
  rw [FE.toL_pos (by omega), show q / 1000000000 = 0 by omega, FE.toL_zero]
  simp; omega

set_option maxHeartbeats 800000 in
theorem iSmall (x : RatD) (p q : Nat) (hx : SmallR x p q) (v : Value) (w : World) (hv : RatV w v x) :
    Calls Try.prog 125 #[v] w fun e w' => e = .returned (.tuple #[.int .i64 (sgnI x.neg p), .int .i64 q]) ∧ Below w.heap.size w w' := by
  obtain ⟨A, c, B, d, rfl, ⟨h1, h2, h3, h4⟩, ra, rb⟩ := hv
  obtain ⟨hm, hd, p1, q0, q1⟩ := hx
  rw [hm] at h1 ra
  rw [hd, toL_one q0 q1] at h3 rb
  rw [hm, hd, toL_one q0 q1]
  obtain ⟨b2, o2, rfl, hb2, hc2⟩ := rb (by simp)
  have e2 := hc2 0 (by simp)
  simp only [List.getD_cons_zero, Nat.add_zero] at e2
  have lb2 := Nat.lt_of_lt_of_le hb2 (Nat.le_succ _)
  clear hc2 h3 h4 hm hd h2
  generalize x.neg = s at *
  simp only [List.length_singleton]
  by_cases hp0 : p = 0
  · subst hp0
    rw [FE.toL_zero] at h1 ra ⊢
    simp only [List.length_nil]
    clear ra
    cases s
    · go_enter Try.func125, Try.ntmps125
      go_wp2
      go_quiet (fail)
      go_wp2
      go_ret2
      exact ⟨rfl, (below_alloc1 _ _).trans (below_draws _ _ _)⟩
    · go_enter Try.func125, Try.ntmps125
      go_wp2
      go_quiet (fail)
      go_wp2
      go_ret2
      exact ⟨rfl, (below_alloc1 _ _).trans (below_draws _ _ _)⟩
  · rw [toL_one (by omega) p1] at h1 ra ⊢
    obtain ⟨b1, o1, rfl, hb1, hc1⟩ := ra (by simp)
    have e1 := hc1 0 (by simp)
    simp only [List.getD_cons_zero, Nat.add_zero] at e1
    have lb1 := Nat.lt_of_lt_of_le hb1 (Nat.le_succ _)
    simp only [List.length_singleton]
    clear hc1
    have hp1 : 0 < p := by omega
    clear hp0
    cases s
    · go_enter Try.func125, Try.ntmps125
      go_wp2
      go_quiet (fail)
      go_wp2
      go_ret2
      exact ⟨rfl, (below_alloc1 _ _).trans (below_draws _ _ _)⟩
    · go_enter Try.func125, Try.ntmps125
      go_wp2
      go_quiet (fail)
      go_wp2
      go_ret2
      exact ⟨rfl, (below_alloc1 _ _).trans (below_draws _ _ _)⟩
end Go.Proofs.Ytkmmdajlbkbnmaa

namespace Go.Proofs.Ytkmmdajlbkbnmaa
open Go.RowKit Go.Joins

theorem smallR_of {x : RatD} (h1 : FE.natOk x.mag = true) (h2 : FE.natOk x.den = true) (hs : smallB x = true) : SmallR x (FE.nv x.mag) (FE.nv x.den) := by
  simp only [smallB, Bool.and_eq_true, decide_eq_true_eq, beq_iff_eq] at hs
  have e1 := FE.toL_nv h1
  have e2 := FE.toL_nv h2
  have b1 : ((FE.nv x.mag : Nat) : Int) < FE.bp 1 := (FE.toL_len_le _ _).1 (by rw [e1]; exact hs.1)
  have b2 : ((FE.nv x.den : Nat) : Int) < FE.bp 1 := (FE.toL_len_le _ _).1 (by rw [e2]; omega)
  rw [FE.bp_succ, FE.bp_zero] at b1 b2
  refine ⟨e1.symm, e2.symm, by omega, ?_, by omega⟩
  rcases Nat.eq_zero_or_pos (FE.nv x.den) with h | h
  · rw [h, FE.toL_zero] at e2
    rw [← e2] at hs
    simp at hs
  · exact h
theorem bigOk_nat {s : Bool} {l : List Int} (h : FE.bigOk s l = true) : FE.natOk l = true := by
  simp only [FE.bigOk, Bool.and_eq_true] at h
  exact h.1
theorem gcd_len (p q k : Nat) (h1 : (FE.toL p).length ≤ k) (h2 : (FE.toL q).length ≤ k) : (FE.toL (Nat.gcd p q)).length ≤ k := by
  rcases Nat.eq_zero_or_pos q with h | h
  · rw [h, Nat.gcd_zero_right]; exact h1
  · exact Nat.le_trans (toL_len_mono (Nat.gcd_le_right p h)) h2
theorem beq_cast (a b : Nat) : ((a : Int) == (b : Int)) = (a == b) := by
  rw [Bool.eq_iff_iff]; simp only [beq_iff_eq]; omega
theorem sgnI_or (s : Bool) (p : Nat) : sgnI s p = p ∨ sgnI s p = -(p : Int) := by cases s <;> simp [sgnI]

set_option maxRecDepth 100000 in
set_option maxHeartbeats 1600000 in
theorem iRatOk (x : RatD) (v : Value) (w : World) (hv : RatV w v x) (l1 : x.mag.length ≤ 1048576) (l2 : x.den.length ≤ 1048576) :
    Calls Try.prog 112 #[v] w fun e w' => e = .returned (.bool (FE.ratOk x)) ∧ Below w.heap.size w w' := by
  obtain ⟨A, c, B, d, rfl, hcd, ra, rb⟩ := hv
  have HQ := Lib.hid (show FE.ratOk x = ((FE.bigOk x.neg x.mag && (FE.natOk x.den && !x.den.isEmpty)) && ((decide (x.mag.length ≤ 24) && decide (x.den.length ≤ 24)) && Nat.gcd (FE.nv x.mag) (FE.nv x.den) == 1)) from rfl)
  have C1 := Lib.hid (fun W hW => iBigIntOk x.neg x.mag _ c rfl (by omega) A W (ra.later (w' := W) hW))
  have C2 := Lib.hid (fun W hW => iNatOk x.den _ d rfl (by omega) B W (rb.later (w' := W) hW))
  have C3 := Lib.hid (fun W hW => iIsSmall x _ W ⟨A, c, B, d, rfl, hcd, ra.later (w' := W) hW, rb.later hW⟩)
  have C4 := Lib.hid (fun p q (h : SmallR x p q) W hW => iSmall x p q h _ W ⟨A, c, B, d, rfl, hcd, ra.later (w' := W) hW, rb.later hW⟩)
  have C5 := Lib.hid (fun (h1 : FE.natOk x.mag = true) (h2 : FE.natOk x.den = true) (W : World) (hW : Below w.heap.size w W) => natGcd_nat (FE.nv x.mag) (FE.nv x.den) x.mag.length x.den.length c d (by rw [FE.toL_nv h1]) (by rw [FE.toL_nv h2]) (by have := FE.natOk_len h1; omega) (by have := FE.natOk_len h2; omega) A B W (by rw [FE.toL_nv h1]; exact ra.later (w' := W) hW) (by rw [FE.toL_nv h2]; exact rb.later hW))
  have HL := Lib.hid (fun (h1 : FE.natOk x.mag = true) (h2 : FE.natOk x.den = true) => gcd_len (FE.nv x.mag) (FE.nv x.den) 60 (by rw [FE.toL_nv h1]; exact FE.natOk_len h1) (by rw [FE.toL_nv h2]; exact FE.natOk_len h2))
  have HS := Lib.hid (fun (h1 : FE.natOk x.mag = true) (h2 : FE.natOk x.den = true) (hs : smallB x = true) => smallR_of h1 h2 hs)
  have HE := Lib.hid (show x.den.isEmpty = decide (x.den.length = 0) by rw [Bool.eq_iff_iff]; simp)
  have HK := Lib.hid (fun h => bigOk_nat (s := x.neg) (l := x.mag) h)
  clear hcd ra rb
  generalize FE.ratOk x = res at *
  generalize x.den.isEmpty = emp at *
  generalize smallB x = sm at *
  generalize FE.nv x.mag = p at *
  generalize FE.nv x.den = q at *
  generalize x.mag.length = n at *
  generalize x.den.length = m at *
  generalize x.neg = s at *
  generalize FE.bigOk s x.mag = q1 at *
  obtain ⟨q3, hq3⟩ : ∃ q, FE.natOk x.mag = q := ⟨_, rfl⟩
  rw [hq3] at C5 HS HK HL
  clear hq3
  generalize FE.natOk x.den = q2 at *
  go_enter Try.func112, Try.ntmps112
  go_wp2_with fail
  refine (C1.out _ (below_alloc1 _ _)).mono ?_
  rintro e w1 ⟨rfl, hb1⟩
  have S := box_lat hb1
  replace hb1 := box_below hb1
  cases q1
  · have HF := Lib.hid (show res = false by rw [HQ.out]; rfl)
    clear S
    go_wp2
    go_ret
    exact ⟨ret_bool HF.out.symm, hb1⟩
  · obtain ⟨a0, a1, a2, _, _, _⟩ := S.c3
    go_wp2_with fail
    refine (C2.out _ hb1).mono ?_
    rintro e w2 ⟨rfl, rfl⟩
    cases q2
    · have HF := Lib.hid (show res = false by rw [HQ.out]; rfl)
      clear S a0 a1 a2
      go_wp2
      go_ret
      exact ⟨ret_bool HF.out.symm, hb1⟩
    · have h3 : q3 = true := HK.out (by trivial)
      subst h3
      by_cases hm0 : m = 0
      · subst hm0
        have HF := Lib.hid (show res = false by rw [HQ.out, HE.out]; simp)
        go_wp2
        go_ret
        exact ⟨ret_bool HF.out.symm, hb1⟩
      · have he : emp = false := by rw [HE.out]; simp [hm0]
        subst he
        have z0 : ((m : Int) == 0) = false := by simp; omega
        by_cases hn24 : n ≤ 24
        · by_cases hm24 : m ≤ 24
          · have HR := Lib.hid (show res = (Nat.gcd p q == 1) by rw [HQ.out]; simp [hn24, hm24])
            have g1 : ¬ (24 < n) := by omega
            have g2 : ¬ (24 < m) := by omega
            clear hm0
            go_wp2_with fail
            refine (C3.out _ hb1).mono ?_
            rintro e w2 ⟨rfl, hb2⟩
            replace S := S.later hb2
            replace hb1 := below_trans hb1 hb2
            clear hb2 a0 a1 a2 z0 HQ
            obtain ⟨a0, a1, a2, _, _, _⟩ := S.c3
            cases sm
            · go_wp2_with fail
              refine (C5.out (by trivial) (by trivial) _ hb1).mono ?_
              rintro e w3 ⟨v3, rfl, hro, hb3⟩
              replace hb1 := below_trans hb1 hb3
              obtain ⟨A3, c3, rfl, hl3⟩ := hro.form
              have hgl := HL.out (by trivial) (by trivial)
              have HG := Lib.hid (fun W hW => iIsOne (FE.toL (Nat.gcd p q)) _ c3 rfl (by omega) A3 W (hro.reads.later (w' := W) hW))
              clear hro hb3 S a0 a1 a2 hl3 hgl
              go_wp2_with fail
              refine (HG.out _ (Below.refl _ _)).mono ?_
              rintro e w4 ⟨rfl, rfl⟩
              go_wp2
              go_ret
              exact ⟨ret_bool (by rw [HR.out, oneB_toL]), hb1⟩
            · have hS := HS.out (by trivial) (by trivial) (by trivial)
              have h4 := C4.out p q hS
              have hp1 := hS.p1
              have hq0 := hS.q0
              have hq1 := hS.q1
              have HX := Lib.hid hS
              clear hS
              have HG := Lib.hid (fun W => gcd_any p q (by omega) (by omega) W)
              by_cases hp0 : p = 0
              · have hh : sgnI s p = p := by subst hp0; cases s <;> rfl
                rw [hh] at h4
                have H4 := Lib.hid h4
                clear hh h4
                subst hp0
                go_wp2_with fail
                refine (H4.out _ hb1).mono ?_
                rintro e w3 ⟨rfl, hb3⟩
                replace hb1 := below_trans hb1 hb3
                clear hb3 S a0 a1 a2
                go_wp2_with fail
                refine (HG.out _).mono ?_
                rintro e w4 ⟨rfl, k4, rfl⟩
                go_wp2
                go_ret
                exact ⟨ret_bool (by rw [HR.out, Nat.gcd_zero_left]; exact beq_cast _ 1), hb1.trans (below_draws _ _ _)⟩
              have hp2 : 0 < p := by omega
              clear hp0
              rcases sgnI_or s p with hh | hh
              · rw [hh] at h4
                have H4 := Lib.hid h4
                clear hh h4
                go_wp2_with fail
                refine (H4.out _ hb1).mono ?_
                rintro e w3 ⟨rfl, hb3⟩
                replace hb1 := below_trans hb1 hb3
                clear hb3 S a0 a1 a2
                go_wp2_with fail
                refine (HG.out _).mono ?_
                rintro e w4 ⟨rfl, k4, rfl⟩
                go_wp2
                go_ret
                exact ⟨ret_bool (by rw [HR.out]; exact beq_cast _ 1), hb1.trans (below_draws _ _ _)⟩
              · rw [hh] at h4
                have H4 := Lib.hid h4
                clear hh h4
                go_wp2_with fail
                refine (H4.out _ hb1).mono ?_
                rintro e w3 ⟨rfl, hb3⟩
                replace hb1 := below_trans hb1 hb3
                clear hb3 S a0 a1 a2
                go_wp2_with fail
                refine (HG.out _).mono ?_
                rintro e w4 ⟨rfl, k4, rfl⟩
                go_wp2
                go_ret
                exact ⟨ret_bool (by rw [HR.out]; exact beq_cast _ 1), hb1.trans (below_draws _ _ _)⟩
          · have HF := Lib.hid (show res = false by rw [HQ.out]; simp [hm24])
            have g1 : ¬ (24 < n) := by omega
            have g2 : 24 < m := by omega
            go_wp2
            go_ret
            exact ⟨ret_bool HF.out.symm, hb1⟩
        · have HF := Lib.hid (show res = false by rw [HQ.out]; simp [hn24])
          have g1 : 24 < n := by omega
          go_wp2
          go_ret
          exact ⟨ret_bool HF.out.symm, hb1⟩
end Go.Proofs.Ytkmmdajlbkbnmaa

namespace Go.Proofs.Ytkmmdajlbkbnmaa
open Go.RowKit

set_option maxHeartbeats 400000 in
theorem sTrim_any (xs : List Int) (n c : Nat) (hn : xs.length = n) (hn1 : n ≤ 1073741824) (hnc : n ≤ c) (A : Option Addr) (w : World) (ha : RI w A xs) :
    Calls Try.prog 146 #[.slice A n c] w fun e w' => e = .returned (.slice A (FE.trim xs).length c) ∧ w' = w := by
  go_enter Try.func146, Try.ntmps146
  go_wp2_with fail
  go_loop [3] (fun v => ∃ k : Nat, k ≤ n ∧ v = .int .i64 k ∧ FE.trim xs = FE.trim (xs.take k)) (fun v => (intOf v).toNat)
  case atStart => exact ⟨n, Nat.le_refl _, rfl, by rw [List.take_of_length_le (by omega)]⟩
  case round =>
    obtain ⟨k, hk, rfl, ht⟩ := hrel
    have HT := Lib.hid ht; clear ht
    by_cases hk0 : k = 0
    · subst hk0
      have h0 : decide ((0 : Int) < ((0 : Nat) : Int)) = false := by simp
      go_wp2
      go_ret
      exact ⟨by rw [HT.out]; rfl, rfl⟩
    · obtain ⟨j, rfl⟩ : ∃ j, k = j + 1 := ⟨k - 1, by omega⟩
      obtain ⟨b, o, rfl, hb, hc⟩ := ha (by intro h; subst h; simp at hn; omega)
      have e1 := hc j (by omega)
      clear hc
      have h0 : (0 : Int) < ((j + 1 : Nat) : Int) := by omega
      by_cases hx : xs.getD j 0 = 0
      · have hz := trim_zero xs j (by omega) hx
        have HZ := Lib.hid hz; clear hz
        rw [hx] at e1
        clear hx
        go_wp2
        go_round
        case rel => exact ⟨j, by omega, by go_num, by rw [HT.out]; exact HZ.out⟩
        case measure => simp [intOf]
      · have hz := trim_ne xs j (by omega) hx
        have HZ := Lib.hid hz; clear hz
        generalize xs.getD j 0 = x at *
        have hx0 : (x == 0) = false := by simpa using hx
        have HX := Lib.hid hx; clear hx
        go_wp2
        go_ret
        exact ⟨by rw [HT.out, HZ.out]; rfl, rfl⟩

set_option maxHeartbeats 800000 in
theorem sCmp_any (xs ys : List Int) (n m c d : Nat) (hn : xs.length = n) (hm : ys.length = m) (hn1 : n ≤ 4611686018427387904) (hm1 : m ≤ 4611686018427387904) (A B : Option Addr) (w : World) (ha : RI w A xs) (hb : RI w B ys) :
    Calls Try.prog 144 #[.slice A n c, .slice B m d] w fun e w' => e = .returned (.int .i64 (cmpL xs ys)) ∧ ∃ k, w' = w.drewN k := by
  by_cases hnm : n = m
  · subst hnm
    have hh : ((n : Int) != n) = false := by simp
    have hL : cmpL xs ys = cmpAt xs ys n := by rw [cmpL, hn, hm, if_pos rfl]
    rw [hL]
    clear hL
    go_enter Try.func144, Try.ntmps144
    go_wp2_with fail
    go_loopw [5] (fun i wr => ∃ k : Nat, k ≤ n ∧ i = .int .i64 ((k : Int) - 1) ∧ cmpAt xs ys n = cmpAt xs ys k ∧ ∃ q, wr = w.drewN q) (fun i _ => (intOf i + 1).toNat)
    case atStart => exact ⟨n, Nat.le_refl _, rfl, rfl, 0, rfl⟩
    case round =>
      obtain ⟨k, hk, rfl, hc, q, rfl⟩ := hrel
      have HC := Lib.hid hc; clear hc
      by_cases hk0 : k = 0
      · subst hk0
        go_wp2
        go_ret
        exact ⟨ret_int (by rw [HC.out]; rfl), q, rfl⟩
      · obtain ⟨j, rfl⟩ : ∃ j, k = j + 1 := ⟨k - 1, by omega⟩
        rw [show ((j + 1 : Nat) : Int) - 1 = (j : Int) by omega]
        obtain ⟨b1, o1, rfl, hb1, hc1⟩ := ha (by intro h; subst h; simp at hn; omega)
        obtain ⟨b2, o2, rfl, hb2, hc2⟩ := hb (by intro h; subst h; simp at hm; omega)
        have e1 := hc1 j (by omega)
        have e2 := hc2 j (by omega)
        clear hc1 hc2
        have hj : cmpAt xs ys (j + 1) = if xs.getD j 0 = ys.getD j 0 then cmpAt xs ys j else cmpI (xs.getD j 0) (ys.getD j 0) := rfl
        generalize xs.getD j 0 = x at *
        generalize ys.getD j 0 = y at *
        have Hj := Lib.hid hj; clear hj
        rcases Int.lt_trichotomy x y with hxy | hxy | hxy
        · have hd : decide (x < y) = true := by simpa using hxy
          go_wp2
          go_quiet (fail)
          go_wp2
          go_ret
          exact ⟨ret_int (by rw [HC.out, Hj.out, if_neg (by omega), cmpI, if_pos hxy]), q + nq, World.drewN_drewN _ _ _⟩
        · subst hxy
          have hd : decide (x < x) = false := by simp
          go_wp2
          go_quiet (fail)
          simp only [World.drewN_drewN]
          generalize q + nq = q2
          go_wp2
          go_quiet (fail)
          go_wp2
          go_roundw
          case rel => exact ⟨j, by omega, rfl, by rw [HC.out, Hj.out, if_pos trivial], q2 + nq, rfl⟩
          case measure => simp [intOf]
        · have hd : decide (x < y) = false := by simp; omega
          have hd2 : decide (y < x) = true := by simpa using hxy
          go_wp2
          go_quiet (fail)
          simp only [World.drewN_drewN]
          generalize q + nq = q2
          go_wp2
          go_quiet (fail)
          go_wp2
          go_ret
          exact ⟨ret_int (by rw [HC.out, Hj.out, if_neg (by omega), cmpI, if_neg (by omega), if_pos hxy]), q2 + nq, World.drewN_drewN _ _ _⟩
  · have hh : ((n : Int) != m) = true := by simp; omega
    have hL : cmpL xs ys = cmpI n m := by rw [cmpL, hn, hm, if_neg hnm]
    rw [hL]
    clear hL
    rcases Nat.lt_or_ge n m with hlt | hge
    · have hd : decide (n < m) = true := by simpa using hlt
      go_enter Try.func144, Try.ntmps144
      go_wp2
      go_ret
      exact ⟨ret_int (by rw [cmpI, if_pos (by omega)]), 0, rfl⟩
    · have hd : decide (n < m) = false := by simp; omega
      go_enter Try.func144, Try.ntmps144
      go_wp2
      go_ret
      exact ⟨ret_int (by rw [cmpI, if_neg (by omega), if_pos (by omega)]), 0, rfl⟩

theorem sCmp_nat (p q : Nat) (n m c d : Nat) (hn : (FE.toL p).length = n) (hm : (FE.toL q).length = m) (hn1 : n ≤ 65536) (hm1 : m ≤ 65536) (A B : Option Addr) (w : World) (ha : RI w A (FE.toL p)) (hb : RI w B (FE.toL q)) :
    Calls Try.prog 144 #[.slice A n c, .slice B m d] w fun e w' => e = .returned (.int .i64 (cmpI p q)) ∧ ∃ k, w' = w.drewN k := by
  have h := sCmp_any _ _ n m c d hn hm (by omega) (by omega) A B w ha hb
  rwa [FE.cmpL_spec (FE.toL_dig _) (FE.toL_top _) (FE.toL_dig _) (FE.toL_top _), FE.val_toL, FE.val_toL] at h

set_option maxRecDepth 100000 in
set_option maxHeartbeats 800000 in
theorem sNatOf_any (N : Nat) (hN : N ≤ 4611686018427387904) (w : World) :
    Calls Try.prog 140 #[.int .i64 N] w fun e w' => ∃ v, e = .returned v ∧ RO w' w.heap.size v (FE.toL N) ∧ Below w.heap.size w w' := by
  go_enter Try.func140, Try.ntmps140
  go_wp2_with fail
  go_loopw [0, 3] (fun r v wr => ∃ (q : Nat) (zs : List Int), q ≤ N ∧ r = .int .i64 q ∧ 1000000000 ^ zs.length * q ≤ N ∧ FE.toL N = zs ++ FE.toL q ∧ OI wr w.heap.size v zs ∧ Below w.heap.size w wr) (fun r _ _ => (intOf r).toNat)
  case atStart => exact ⟨N, [], Nat.le_refl _, rfl, by simp, by simp, OI.of_arr (g := w.heap.size) (cap := 0) ⟨[], rfl, Nat.zero_le _, heap_alloc_new _ _⟩ (Nat.le_refl _), (Below.refl _ _).alloc (Nat.le_refl _) _⟩
  case round =>
    obtain ⟨q, zs, hq, rfl, hl1, hL, hown, hbel⟩ := hrel
    have HL := Lib.hid hL; clear hL
    by_cases hq0 : q = 0
    · subst hq0
      go_wp2
      go_ret
      exact ⟨_, rfl, RO.of_own (by rw [HL.out, FE.toL_zero, List.append_nil]; exact hown), hbel⟩
    · have hlen := natOf_len hq0 hl1 hN
      have HL1 := Lib.hid hl1; clear hl1
      go_wp2_with (at_builtin; refine append1 rfl _ _ _ rfl Try.underlying80 Try.intInfo w.heap.size _ zs rfl (hown.alloc _) ⟨wr.heap.size, 0, none⟩ _ rfl (cell_new1 _ _ _) (by omega) (by have := hbel.size; simp; omega) ?_)
      intro v' w1 hown1 hb1'
      go_wp2
      go_roundw
      case rel => exact ⟨q / 1000000000, zs ++ [((q % 1000000000 : Nat) : Int)], by omega, by go_num, natOf_step HL1.out, by rw [HL.out]; exact toL_step zs q hq0, by simpa using hown1, (hbel.alloc hbel.size _).trans hb1'⟩
      case measure => simp [intOf]; omega

end Go.Proofs.Ytkmmdajlbkbnmaa
