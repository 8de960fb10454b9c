/-
  Walks: comparison of rows.
-/
import Derived.Test.YtkmmdajlbkbnmaaRow
namespace Go.Proofs.Ytkmmdajlbkbnmaa
open Go.RowKit Go.Joins

set_option maxHeartbeats 800000 in
theorem eqRow (x y : RowD) (u v : Value) (w : World) (hu : RowV w u x) (hv : RowV w v y) (hf : x.few) (hg : y.few) :
    Calls Try.prog 100 #[u, v] w fun e w' => e = .returned (.bool (x.same y)) ∧ Below w.heap.size w w' := by
  obtain ⟨A, c, B, d, rfl, _, hx, hr⟩ := hu
  obtain ⟨A', c', B', d', rfl, _, hx', hr'⟩ := hv
  have q1 := Lib.hid (fun W hW => eqIntS x.cols y.cols _ _ c c' rfl rfl hf.1 hg.1 A A' W (hx.later (w' := W) hW) (hx'.later hW))
  have q2 := Lib.hid (fun W hW => eqRatS x.vals y.vals _ _ d d' rfl rfl hf.2 hg.2 B B' W (hr.later (w' := W) hW) (hr'.later hW))
  have HS := Lib.hid (show x.same y = (x.cols == y.cols && vsame x.vals y.vals) from rfl)
  clear hx hr hx' hr' hf hg
  generalize x.same y = res at *
  generalize (x.cols == y.cols) = b1 at *
  generalize vsame x.vals y.vals = b2 at *
  generalize x.cols.length = n1 at *
  generalize x.vals.length = n2 at *
  generalize y.cols.length = m1 at *
  generalize y.vals.length = m2 at *
  cases b1
  · skip
    go_enter Try.func100, Try.ntmps100
    go_wp2_with fail
    refine (q1.out _ (below_alloc2 _ _ _)).mono ?_
    rintro z w1 ⟨rfl, k, rfl⟩
    go_wp2
    go_ret
    exact ⟨ret_bool (by rw [HS.out]; rfl), (below_alloc2 _ _ _).trans (below_draws _ _ _)⟩
  · cases b2
    · skip
      go_enter Try.func100, Try.ntmps100
      go_wp2_with fail
      refine (q1.out _ (below_alloc2 _ _ _)).mono ?_
      rintro z w1 ⟨rfl, k, rfl⟩
      go_wp2_with fail
      refine (q2.out _ ((below_alloc2 _ _ _).trans (below_draws _ _ _))).mono ?_
      rintro z w2 ⟨rfl, hb2⟩
      replace hb2 := below_trans ((below_alloc2 _ _ _).trans (below_draws _ _ _)) hb2
      go_wp2
      go_ret
      exact ⟨ret_bool (by rw [HS.out]; rfl), hb2⟩
    · skip
      go_enter Try.func100, Try.ntmps100
      go_wp2_with fail
      refine (q1.out _ (below_alloc2 _ _ _)).mono ?_
      rintro z w1 ⟨rfl, k, rfl⟩
      go_wp2_with fail
      refine (q2.out _ ((below_alloc2 _ _ _).trans (below_draws _ _ _))).mono ?_
      rintro z w2 ⟨rfl, hb2⟩
      replace hb2 := below_trans ((below_alloc2 _ _ _).trans (below_draws _ _ _)) hb2
      go_wp2
      go_ret
      exact ⟨ret_bool (by rw [HS.out]; rfl), hb2⟩

set_option maxHeartbeats 800000 in
theorem iSameRow (x y : RowD) (u v : Value) (w : World) (hu : RowV w u x) (hv : RowV w v y) (hf : x.few) (hg : y.few) :
    Calls Try.prog 57 #[u, v] w fun e w' => e = .returned (.bool (x.same y)) ∧ Below w.heap.size w w' := by
  obtain ⟨A, c, B, d, rfl, _, hx, hr⟩ := hu
  obtain ⟨A', c', B', d', rfl, _, hx', hr'⟩ := hv
  have q1 := Lib.hid (fun W hW => slEqual x.cols y.cols _ _ c c' rfl rfl hf.1 hg.1 A A' W (hx.later (w' := W) hW) (hx'.later hW))
  have q2 := Lib.hid (fun W hW => iSame x.vals y.vals _ _ d d' rfl rfl hf.2 hg.2 B B' W (hr.later (w' := W) hW) (hr'.later hW))
  have HS := Lib.hid (show x.same y = (x.cols == y.cols && vsame x.vals y.vals) from rfl)
  clear hx hr hx' hr' hf hg
  generalize x.same y = res at *
  generalize (x.cols == y.cols) = b1 at *
  generalize vsame x.vals y.vals = b2 at *
  generalize x.cols.length = n1 at *
  generalize x.vals.length = n2 at *
  generalize y.cols.length = m1 at *
  generalize y.vals.length = m2 at *
  cases b1
  · skip
    go_enter Try.func57, Try.ntmps57
    go_wp2_with fail
    refine (q1.out _ (below_alloc2 _ _ _)).mono ?_
    rintro z w1 ⟨rfl, k, rfl⟩
    go_wp2
    go_ret
    exact ⟨ret_bool (by rw [HS.out]; rfl), (below_alloc2 _ _ _).trans (below_draws _ _ _)⟩
  · cases b2
    · skip
      go_enter Try.func57, Try.ntmps57
      go_wp2_with fail
      refine (q1.out _ (below_alloc2 _ _ _)).mono ?_
      rintro z w1 ⟨rfl, k, rfl⟩
      go_wp2_with fail
      refine (q2.out _ ((below_alloc2 _ _ _).trans (below_draws _ _ _))).mono ?_
      rintro z w2 ⟨rfl, hb2⟩
      replace hb2 := below_trans ((below_alloc2 _ _ _).trans (below_draws _ _ _)) hb2
      go_wp2
      go_ret
      exact ⟨ret_bool (by rw [HS.out]; rfl), hb2⟩
    · skip
      go_enter Try.func57, Try.ntmps57
      go_wp2_with fail
      refine (q1.out _ (below_alloc2 _ _ _)).mono ?_
      rintro z w1 ⟨rfl, k, rfl⟩
      go_wp2_with fail
      refine (q2.out _ ((below_alloc2 _ _ _).trans (below_draws _ _ _))).mono ?_
      rintro z w2 ⟨rfl, hb2⟩
      replace hb2 := below_trans ((below_alloc2 _ _ _).trans (below_draws _ _ _)) hb2
      go_wp2
      go_ret
      exact ⟨ret_bool (by rw [HS.out]; rfl), hb2⟩
end Go.Proofs.Ytkmmdajlbkbnmaa
