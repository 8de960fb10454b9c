/-
  Walks: iterates: size, copy, comparison.
-/
import Derived.Test.YtkmmdajlbkbnmaaSameI
namespace Go.Proofs.Ytkmmdajlbkbnmaa
open Go.RowKit Go.Joins

theorem few_of_vsz {rs : List RatD} (h : vsz rs ≤ 1048576) : Few rs := by
  have h1 := h
  simp only [vsz] at h1
  refine ⟨by omega, fun k hk => ?_⟩
  have h2 := sumSz_step rs k hk
  have h3 := sumSz_le rs (k + 1)
  simp only [RatD.size] at h2
  exact ⟨by omega, by omega⟩

theorem box_lt {w w2 : World} {o : Obj} (hb : Below (w.alloc o).heap.size (w.alloc o) w2) : w.heap.size < w2.heap.size := by
  have := hb.size
  simp only [World.size_alloc] at this
  omega

/-- An iterate as a value. -/
def ItV (w : World) (v : Value) (x r p : List RatD) : Prop :=
  ∃ A c B d C e, v = .agg #[.slice A x.length c, .slice B r.length d, .slice C p.length e] ∧ (x.length ≤ maxLen ∧ r.length ≤ maxLen ∧ p.length ≤ maxLen) ∧ VI w A x ∧ VI w B r ∧ VI w C p
theorem ItV.later {w w' : World} {v : Value} {x r p : List RatD} (h : ItV w v x r p) (hb : Below w.heap.size w w') : ItV w' v x r p := by
  obtain ⟨A, c, B, d, C, e, rfl, hl, h1, h2, h3⟩ := h
  exact ⟨A, c, B, d, C, e, rfl, hl, h1.later hb, h2.later hb, h3.later hb⟩

set_option maxHeartbeats 800000 in
theorem szIterate (x r p : List RatD) (v : Value) (left : Int) (h0 : 0 ≤ left) (h1 : left ≤ 1048576) (w : World) (hv : ItV w v x r p) :
    Calls Try.prog 14 #[v, .int .i64 left] w fun e w' => e = .returned (.int .i64 (szI (vsz x + vsz r + vsz p) left)) ∧ Below w.heap.size w w' := by
  obtain ⟨A, c, B, d, C, e, rfl, ⟨hl1, hl2, hl3⟩, hx, hr, hp⟩ := hv
  have q1 := fun left h0 h1 W hW => szRatS x _ c rfl hl1 left h0 h1 A W (hx.later (w' := W) hW)
  have q2 := fun left h0 h1 W hW => szRatS r _ d rfl hl2 left h0 h1 B W (hr.later (w' := W) hW)
  have q3 := fun left h0 h1 W hW => szRatS p _ e rfl hl3 left h0 h1 C W (hp.later (w' := W) hW)
  replace q1 := Lib.hid q1
  replace q2 := Lib.hid q2
  replace q3 := Lib.hid q3
  clear hx hr hp hl1 hl2 hl3
  generalize x.length = nx at *
  generalize r.length = nr at *
  generalize p.length = np at *
  generalize vsz x = vx at *
  generalize vsz r = vr at *
  generalize vsz p = vp at *
  by_cases c1 : (vx : Int) ≤ left
  · have s1 : szI vx left = left - vx := szI_pos c1
    have t0 : ¬ (left - vx < 0) := by omega
    have t1 : 0 ≤ left - vx := by omega
    by_cases c2 : (vr : Int) ≤ left - vx
    · have s2 : szI vr (left - vx) = left - vx - vr := szI_pos c2
      have t2 : 0 ≤ left - vx - vr := by omega
      by_cases c3 : (vp : Int) ≤ left - vx - vr
      · have s3 : szI vp (left - vx - vr) = left - vx - vr - vp := szI_pos c3
        have t3 : 0 ≤ left - vx - vr - vp := by omega
        have HZ := Lib.hid (show szI (vx + vr + vp) left = left - vx - vr - vp by rw [szI_pos (by omega)]; omega)
        have z1 := q1.out left h0 h1
        have z2 := q2.out (left - vx) t1 (by omega)
        have z3 := q3.out (left - vx - vr) t2 (by omega)
        rw [s1] at z1
        rw [s2] at z2
        rw [s3] at z3
        replace z1 := Lib.hid z1
        replace z2 := Lib.hid z2
        replace z3 := Lib.hid z3
        clear s1 s2 s3 q1 q2 q3
        go_enter Try.func14, Try.ntmps14
        go_wp2_with fail
        refine (z1.out _ (below_alloc1 _ _)).mono ?_
        rintro r1 w1 ⟨rfl, hb1⟩
        have e1 := box_cell hb1 1 rfl
        have e2 := box_cell hb1 2 rfl
        have hg := box_lt hb1
        replace hb1 := box_below hb1
        go_wp2_with fail
        refine (z2.out _ hb1).mono ?_
        rintro r1 w2 ⟨rfl, hb2⟩
        have e3 := cell_later hg e2 hb2
        replace hb2 := below_trans hb1 hb2
        clear e1 e2
        go_wp2_with fail
        refine (z3.out _ hb2).mono ?_
        rintro r1 w3 ⟨rfl, hb3⟩
        replace hb3 := below_trans hb2 hb3
        go_wp2
        go_ret
        exact ⟨ret_int HZ.out.symm, hb3⟩
      · have s3 : szI vp (left - vx - vr) = -1 := szI_neg (by omega)
        have HZ := Lib.hid (show szI (vx + vr + vp) left = -1 from szI_neg (by omega))
        have z1 := q1.out left h0 h1
        have z2 := q2.out (left - vx) t1 (by omega)
        have z3 := q3.out (left - vx - vr) t2 (by omega)
        rw [s1] at z1
        rw [s2] at z2
        rw [s3] at z3
        replace z1 := Lib.hid z1
        replace z2 := Lib.hid z2
        replace z3 := Lib.hid z3
        clear s1 s2 s3 q1 q2 q3
        go_enter Try.func14, Try.ntmps14
        go_wp2_with fail
        refine (z1.out _ (below_alloc1 _ _)).mono ?_
        rintro r1 w1 ⟨rfl, hb1⟩
        have e1 := box_cell hb1 1 rfl
        have e2 := box_cell hb1 2 rfl
        have hg := box_lt hb1
        replace hb1 := box_below hb1
        go_wp2_with fail
        refine (z2.out _ hb1).mono ?_
        rintro r1 w2 ⟨rfl, hb2⟩
        have e3 := cell_later hg e2 hb2
        replace hb2 := below_trans hb1 hb2
        clear e1 e2
        go_wp2_with fail
        refine (z3.out _ hb2).mono ?_
        rintro r1 w3 ⟨rfl, hb3⟩
        replace hb3 := below_trans hb2 hb3
        go_wp2
        go_ret
        exact ⟨ret_int HZ.out.symm, hb3⟩
    · have s2 : szI vr (left - vx) = -1 := szI_neg (by omega)
      have HZ := Lib.hid (show szI (vx + vr + vp) left = -1 from szI_neg (by omega))
      have z1 := q1.out left h0 h1
      have z2 := q2.out (left - vx) t1 (by omega)
      rw [s1] at z1
      rw [s2] at z2
      replace z1 := Lib.hid z1
      replace z2 := Lib.hid z2
      clear s1 s2 q1 q2 q3
      go_enter Try.func14, Try.ntmps14
      go_wp2_with fail
      refine (z1.out _ (below_alloc1 _ _)).mono ?_
      rintro r1 w1 ⟨rfl, hb1⟩
      have e1 := box_cell hb1 1 rfl
      replace hb1 := box_below hb1
      go_wp2_with fail
      refine (z2.out _ hb1).mono ?_
      rintro r1 w2 ⟨rfl, hb2⟩
      replace hb2 := below_trans hb1 hb2
      go_wp2
      go_ret
      exact ⟨ret_int HZ.out.symm, hb2⟩
  · have s1 : szI vx left = -1 := szI_neg (by omega)
    have HZ := Lib.hid (show szI (vx + vr + vp) left = -1 from szI_neg (by omega))
    have z1 := q1.out left h0 h1
    rw [s1] at z1
    replace z1 := Lib.hid z1
    clear s1 q1 q2 q3
    go_enter Try.func14, Try.ntmps14
    go_wp2_with fail
    refine (z1.out _ (below_alloc1 _ _)).mono ?_
    rintro r1 w1 ⟨rfl, hb1⟩
    replace hb1 := box_below hb1
    go_wp2
    go_ret
    exact ⟨ret_int HZ.out.symm, hb1⟩

/-- Whether two iterates are the same. -/
def itSame (x r p x' r' p' : List RatD) : Bool := vsame x x' && (vsame r r' && vsame p p')
end Go.Proofs.Ytkmmdajlbkbnmaa
