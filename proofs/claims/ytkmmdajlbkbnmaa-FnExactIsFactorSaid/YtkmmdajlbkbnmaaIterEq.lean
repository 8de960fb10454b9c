/-
  Walks: comparison of iterates: the law's, the program's, the reference's.
-/
import Derived.Test.YtkmmdajlbkbnmaaIter
namespace Go.Proofs.Ytkmmdajlbkbnmaa
open Go.RowKit Go.Joins

set_option maxHeartbeats 800000 in
theorem eqIterate (x r p x' r' p' : List RatD) (u v : Value) (w : World) (hu : ItV w u x r p) (hv : ItV w v x' r' p') (f1 : Few x) (f2 : Few r) (f3 : Few p) (g1 : Few x') (g2 : Few r') (g3 : Few p') :
    Calls Try.prog 18 #[u, v] w fun e w' => e = .returned (.bool (itSame x r p x' r' p')) ∧ Below w.heap.size w w' := by
  obtain ⟨A, c, B, d, C, e, rfl, _, hx, hr, hp⟩ := hu
  obtain ⟨A', c', B', d', C', e', rfl, _, hx', hr', hp'⟩ := hv
  have q1 := Lib.hid (fun W hW => eqRatS x x' _ _ c c' rfl rfl f1 g1 A A' W (hx.later (w' := W) hW) (hx'.later hW))
  have q2 := Lib.hid (fun W hW => eqRatS r r' _ _ d d' rfl rfl f2 g2 B B' W (hr.later (w' := W) hW) (hr'.later hW))
  have q3 := Lib.hid (fun W hW => eqRatS p p' _ _ e e' rfl rfl f3 g3 C C' W (hp.later (w' := W) hW) (hp'.later hW))
  have HS := Lib.hid (show itSame x r p x' r' p' = (vsame x x' && (vsame r r' && vsame p p')) from rfl)
  clear hx hr hp hx' hr' hp' f1 f2 f3 g1 g2 g3
  generalize itSame x r p x' r' p' = res at *
  generalize vsame x x' = b1 at *
  generalize vsame r r' = b2 at *
  generalize vsame p p' = b3 at *
  generalize x.length = n1 at *
  generalize r.length = n2 at *
  generalize p.length = n3 at *
  generalize x'.length = m1 at *
  generalize r'.length = m2 at *
  generalize p'.length = m3 at *
  cases b1
  · skip
    go_enter Try.func18, Try.ntmps18
    go_wp2_with fail
    refine (q1.out _ (below_alloc2 _ _ _)).mono ?_
    rintro z w1 ⟨rfl, hb1⟩
    replace hb1 := below_trans (below_alloc2 _ _ _) hb1
    go_wp2
    go_ret
    exact ⟨ret_bool (by rw [HS.out]; rfl), hb1⟩
  · cases b2
    · skip
      go_enter Try.func18, Try.ntmps18
      go_wp2_with fail
      refine (q1.out _ (below_alloc2 _ _ _)).mono ?_
      rintro z w1 ⟨rfl, hb1⟩
      have hi := own_cell hb1 (g := w.heap.size + 1) (by simp)
      have hj := own_cell (below_step hb1) (g := w.heap.size) rfl
      have i1 := hi.1 1 _ rfl
      have j1 := hj.1 1 _ rfl
      have hsz : w.heap.size + 1 < w1.heap.size := (by have := hb1.size; simp only [World.size_alloc] at this; omega)
      clear hi hj
      replace hb1 := below_trans (below_alloc2 _ _ _) hb1
      go_wp2_with fail
      refine (q2.out _ hb1).mono ?_
      rintro z w2 ⟨rfl, hb2⟩
      replace hb2 := below_trans hb1 hb2
      go_wp2
      go_ret
      exact ⟨ret_bool (by rw [HS.out]; rfl), hb2⟩
    · cases b3
      · skip
        go_enter Try.func18, Try.ntmps18
        go_wp2_with fail
        refine (q1.out _ (below_alloc2 _ _ _)).mono ?_
        rintro z w1 ⟨rfl, hb1⟩
        have hi := own_cell hb1 (g := w.heap.size + 1) (by simp)
        have hj := own_cell (below_step hb1) (g := w.heap.size) rfl
        have i1 := hi.1 1 _ rfl
        have j1 := hj.1 1 _ rfl
        have i2 := hi.1 2 _ rfl
        have j2 := hj.1 2 _ rfl
        have hsz : w.heap.size + 1 < w1.heap.size := (by have := hb1.size; simp only [World.size_alloc] at this; omega)
        clear hi hj
        replace hb1 := below_trans (below_alloc2 _ _ _) hb1
        go_wp2_with fail
        refine (q2.out _ hb1).mono ?_
        rintro z w2 ⟨rfl, hb2⟩
        have i3 := cell_later hsz i2 hb2
        have j3 := cell_later (Nat.lt_of_succ_lt hsz) j2 hb2
        clear i1 j1 i2 j2
        replace hb2 := below_trans hb1 hb2
        go_wp2_with fail
        refine (q3.out _ hb2).mono ?_
        rintro z w3 ⟨rfl, hb3⟩
        replace hb3 := below_trans hb2 hb3
        go_wp2
        go_ret
        exact ⟨ret_bool (by rw [HS.out]; rfl), hb3⟩
      · skip
        go_enter Try.func18, Try.ntmps18
        go_wp2_with fail
        refine (q1.out _ (below_alloc2 _ _ _)).mono ?_
        rintro z w1 ⟨rfl, hb1⟩
        have hi := own_cell hb1 (g := w.heap.size + 1) (by simp)
        have hj := own_cell (below_step hb1) (g := w.heap.size) rfl
        have i1 := hi.1 1 _ rfl
        have j1 := hj.1 1 _ rfl
        have i2 := hi.1 2 _ rfl
        have j2 := hj.1 2 _ rfl
        have hsz : w.heap.size + 1 < w1.heap.size := (by have := hb1.size; simp only [World.size_alloc] at this; omega)
        clear hi hj
        replace hb1 := below_trans (below_alloc2 _ _ _) hb1
        go_wp2_with fail
        refine (q2.out _ hb1).mono ?_
        rintro z w2 ⟨rfl, hb2⟩
        have i3 := cell_later hsz i2 hb2
        have j3 := cell_later (Nat.lt_of_succ_lt hsz) j2 hb2
        clear i1 j1 i2 j2
        replace hb2 := below_trans hb1 hb2
        go_wp2_with fail
        refine (q3.out _ hb2).mono ?_
        rintro z w3 ⟨rfl, hb3⟩
        replace hb3 := below_trans hb2 hb3
        go_wp2
        go_ret
        exact ⟨ret_bool (by rw [HS.out]; rfl), hb3⟩

set_option maxHeartbeats 800000 in
theorem iSameIterate (x r p x' r' p' : List RatD) (u v : Value) (w : World) (hu : ItV w u x r p) (hv : ItV w v x' r' p') (f1 : Few x) (f2 : Few r) (f3 : Few p) (g1 : Few x') (g2 : Few r') (g3 : Few p') :
    Calls Try.prog 17 #[u, v] w fun e w' => e = .returned (.bool (itSame x r p x' r' p')) ∧ Below w.heap.size w w' := by
  obtain ⟨A, c, B, d, C, e, rfl, _, hx, hr, hp⟩ := hu
  obtain ⟨A', c', B', d', C', e', rfl, _, hx', hr', hp'⟩ := hv
  have q1 := Lib.hid (fun W hW => iSame x x' _ _ c c' rfl rfl f1 g1 A A' W (hx.later (w' := W) hW) (hx'.later hW))
  have q2 := Lib.hid (fun W hW => iSame r r' _ _ d d' rfl rfl f2 g2 B B' W (hr.later (w' := W) hW) (hr'.later hW))
  have q3 := Lib.hid (fun W hW => iSame p p' _ _ e e' rfl rfl f3 g3 C C' W (hp.later (w' := W) hW) (hp'.later hW))
  have HS := Lib.hid (show itSame x r p x' r' p' = (vsame x x' && (vsame r r' && vsame p p')) from rfl)
  clear hx hr hp hx' hr' hp' f1 f2 f3 g1 g2 g3
  generalize itSame x r p x' r' p' = res at *
  generalize vsame x x' = b1 at *
  generalize vsame r r' = b2 at *
  generalize vsame p p' = b3 at *
  generalize x.length = n1 at *
  generalize r.length = n2 at *
  generalize p.length = n3 at *
  generalize x'.length = m1 at *
  generalize r'.length = m2 at *
  generalize p'.length = m3 at *
  cases b1
  · skip
    go_enter Try.func17, Try.ntmps17
    go_wp2_with fail
    refine (q1.out _ (below_alloc2 _ _ _)).mono ?_
    rintro z w1 ⟨rfl, hb1⟩
    replace hb1 := below_trans (below_alloc2 _ _ _) hb1
    go_wp2
    go_ret
    exact ⟨ret_bool (by rw [HS.out]; rfl), hb1⟩
  · cases b2
    · skip
      go_enter Try.func17, Try.ntmps17
      go_wp2_with fail
      refine (q1.out _ (below_alloc2 _ _ _)).mono ?_
      rintro z w1 ⟨rfl, hb1⟩
      have hi := own_cell hb1 (g := w.heap.size + 1) (by simp)
      have hj := own_cell (below_step hb1) (g := w.heap.size) rfl
      have i1 := hi.1 1 _ rfl
      have j1 := hj.1 1 _ rfl
      have hsz : w.heap.size + 1 < w1.heap.size := (by have := hb1.size; simp only [World.size_alloc] at this; omega)
      clear hi hj
      replace hb1 := below_trans (below_alloc2 _ _ _) hb1
      go_wp2_with fail
      refine (q2.out _ hb1).mono ?_
      rintro z w2 ⟨rfl, hb2⟩
      replace hb2 := below_trans hb1 hb2
      go_wp2
      go_ret
      exact ⟨ret_bool (by rw [HS.out]; rfl), hb2⟩
    · cases b3
      · skip
        go_enter Try.func17, Try.ntmps17
        go_wp2_with fail
        refine (q1.out _ (below_alloc2 _ _ _)).mono ?_
        rintro z w1 ⟨rfl, hb1⟩
        have hi := own_cell hb1 (g := w.heap.size + 1) (by simp)
        have hj := own_cell (below_step hb1) (g := w.heap.size) rfl
        have i1 := hi.1 1 _ rfl
        have j1 := hj.1 1 _ rfl
        have i2 := hi.1 2 _ rfl
        have j2 := hj.1 2 _ rfl
        have hsz : w.heap.size + 1 < w1.heap.size := (by have := hb1.size; simp only [World.size_alloc] at this; omega)
        clear hi hj
        replace hb1 := below_trans (below_alloc2 _ _ _) hb1
        go_wp2_with fail
        refine (q2.out _ hb1).mono ?_
        rintro z w2 ⟨rfl, hb2⟩
        have i3 := cell_later hsz i2 hb2
        have j3 := cell_later (Nat.lt_of_succ_lt hsz) j2 hb2
        clear i1 j1 i2 j2
        replace hb2 := below_trans hb1 hb2
        go_wp2_with fail
        refine (q3.out _ hb2).mono ?_
        rintro z w3 ⟨rfl, hb3⟩
        replace hb3 := below_trans hb2 hb3
        go_wp2
        go_ret
        exact ⟨ret_bool (by rw [HS.out]; rfl), hb3⟩
      · skip
        go_enter Try.func17, Try.ntmps17
        go_wp2_with fail
        refine (q1.out _ (below_alloc2 _ _ _)).mono ?_
        rintro z w1 ⟨rfl, hb1⟩
        have hi := own_cell hb1 (g := w.heap.size + 1) (by simp)
        have hj := own_cell (below_step hb1) (g := w.heap.size) rfl
        have i1 := hi.1 1 _ rfl
        have j1 := hj.1 1 _ rfl
        have i2 := hi.1 2 _ rfl
        have j2 := hj.1 2 _ rfl
        have hsz : w.heap.size + 1 < w1.heap.size := (by have := hb1.size; simp only [World.size_alloc] at this; omega)
        clear hi hj
        replace hb1 := below_trans (below_alloc2 _ _ _) hb1
        go_wp2_with fail
        refine (q2.out _ hb1).mono ?_
        rintro z w2 ⟨rfl, hb2⟩
        have i3 := cell_later hsz i2 hb2
        have j3 := cell_later (Nat.lt_of_succ_lt hsz) j2 hb2
        clear i1 j1 i2 j2
        replace hb2 := below_trans hb1 hb2
        go_wp2_with fail
        refine (q3.out _ hb2).mono ?_
        rintro z w3 ⟨rfl, hb3⟩
        replace hb3 := below_trans hb2 hb3
        go_wp2
        go_ret
        exact ⟨ret_bool (by rw [HS.out]; rfl), hb3⟩

set_option maxHeartbeats 800000 in
theorem sSameIterate (x r p x' r' p' : List RatD) (u v : Value) (w : World) (hu : ItV w u x r p) (hv : ItV w v x' r' p') (f1 : Few x) (f2 : Few r) (f3 : Few p) (g1 : Few x') (g2 : Few r') (g3 : Few p') :
    Calls Try.prog 15 #[u, v] w fun e w' => e = .returned (.bool (itSame x r p x' r' p')) ∧ Below w.heap.size w w' := by
  obtain ⟨A, c, B, d, C, e, rfl, _, hx, hr, hp⟩ := hu
  obtain ⟨A', c', B', d', C', e', rfl, _, hx', hr', hp'⟩ := hv
  have q1 := Lib.hid (fun W hW => sSame x x' _ _ c c' rfl rfl f1 g1 A A' W (hx.later (w' := W) hW) (hx'.later hW))
  have q2 := Lib.hid (fun W hW => sSame r r' _ _ d d' rfl rfl f2 g2 B B' W (hr.later (w' := W) hW) (hr'.later hW))
  have q3 := Lib.hid (fun W hW => sSame p p' _ _ e e' rfl rfl f3 g3 C C' W (hp.later (w' := W) hW) (hp'.later hW))
  have HS := Lib.hid (show itSame x r p x' r' p' = (vsame x x' && (vsame r r' && vsame p p')) from rfl)
  clear hx hr hp hx' hr' hp' f1 f2 f3 g1 g2 g3
  generalize itSame x r p x' r' p' = res at *
  generalize vsame x x' = b1 at *
  generalize vsame r r' = b2 at *
  generalize vsame p p' = b3 at *
  generalize x.length = n1 at *
  generalize r.length = n2 at *
  generalize p.length = n3 at *
  generalize x'.length = m1 at *
  generalize r'.length = m2 at *
  generalize p'.length = m3 at *
  cases b1
  · skip
    go_enter Try.func15, Try.ntmps15
    go_wp2_with fail
    refine (q1.out _ (below_alloc2 _ _ _)).mono ?_
    rintro z w1 ⟨rfl, hb1⟩
    replace hb1 := below_trans (below_alloc2 _ _ _) hb1
    go_wp2
    go_ret
    exact ⟨ret_bool (by rw [HS.out]; rfl), hb1⟩
  · cases b2
    · skip
      go_enter Try.func15, Try.ntmps15
      go_wp2_with fail
      refine (q1.out _ (below_alloc2 _ _ _)).mono ?_
      rintro z w1 ⟨rfl, hb1⟩
      have hi := own_cell hb1 (g := w.heap.size + 1) (by simp)
      have hj := own_cell (below_step hb1) (g := w.heap.size) rfl
      have i1 := hi.1 1 _ rfl
      have j1 := hj.1 1 _ rfl
      have hsz : w.heap.size + 1 < w1.heap.size := (by have := hb1.size; simp only [World.size_alloc] at this; omega)
      clear hi hj
      replace hb1 := below_trans (below_alloc2 _ _ _) hb1
      go_wp2_with fail
      refine (q2.out _ hb1).mono ?_
      rintro z w2 ⟨rfl, hb2⟩
      replace hb2 := below_trans hb1 hb2
      go_wp2
      go_ret
      exact ⟨ret_bool (by rw [HS.out]; rfl), hb2⟩
    · cases b3
      · skip
        go_enter Try.func15, Try.ntmps15
        go_wp2_with fail
        refine (q1.out _ (below_alloc2 _ _ _)).mono ?_
        rintro z w1 ⟨rfl, hb1⟩
        have hi := own_cell hb1 (g := w.heap.size + 1) (by simp)
        have hj := own_cell (below_step hb1) (g := w.heap.size) rfl
        have i1 := hi.1 1 _ rfl
        have j1 := hj.1 1 _ rfl
        have i2 := hi.1 2 _ rfl
        have j2 := hj.1 2 _ rfl
        have hsz : w.heap.size + 1 < w1.heap.size := (by have := hb1.size; simp only [World.size_alloc] at this; omega)
        clear hi hj
        replace hb1 := below_trans (below_alloc2 _ _ _) hb1
        go_wp2_with fail
        refine (q2.out _ hb1).mono ?_
        rintro z w2 ⟨rfl, hb2⟩
        have i3 := cell_later hsz i2 hb2
        have j3 := cell_later (Nat.lt_of_succ_lt hsz) j2 hb2
        clear i1 j1 i2 j2
        replace hb2 := below_trans hb1 hb2
        go_wp2_with fail
        refine (q3.out _ hb2).mono ?_
        rintro z w3 ⟨rfl, hb3⟩
        replace hb3 := below_trans hb2 hb3
        go_wp2
        go_ret
        exact ⟨ret_bool (by rw [HS.out]; rfl), hb3⟩
      · skip
        go_enter Try.func15, Try.ntmps15
        go_wp2_with fail
        refine (q1.out _ (below_alloc2 _ _ _)).mono ?_
        rintro z w1 ⟨rfl, hb1⟩
        have hi := own_cell hb1 (g := w.heap.size + 1) (by simp)
        have hj := own_cell (below_step hb1) (g := w.heap.size) rfl
        have i1 := hi.1 1 _ rfl
        have j1 := hj.1 1 _ rfl
        have i2 := hi.1 2 _ rfl
        have j2 := hj.1 2 _ rfl
        have hsz : w.heap.size + 1 < w1.heap.size := (by have := hb1.size; simp only [World.size_alloc] at this; omega)
        clear hi hj
        replace hb1 := below_trans (below_alloc2 _ _ _) hb1
        go_wp2_with fail
        refine (q2.out _ hb1).mono ?_
        rintro z w2 ⟨rfl, hb2⟩
        have i3 := cell_later hsz i2 hb2
        have j3 := cell_later (Nat.lt_of_succ_lt hsz) j2 hb2
        clear i1 j1 i2 j2
        replace hb2 := below_trans hb1 hb2
        go_wp2_with fail
        refine (q3.out _ hb2).mono ?_
        rintro z w3 ⟨rfl, hb3⟩
        replace hb3 := below_trans hb2 hb3
        go_wp2
        go_ret
        exact ⟨ret_bool (by rw [HS.out]; rfl), hb3⟩
end Go.Proofs.Ytkmmdajlbkbnmaa
