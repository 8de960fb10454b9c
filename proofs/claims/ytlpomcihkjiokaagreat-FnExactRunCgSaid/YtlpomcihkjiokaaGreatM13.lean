/-
  Shared texts (M13).
-/
import Derived.Test.YtlpomcihkjiokaaGreatM12
import Derived.Test.YtlpomcihkjiokaaGreatM11
import Derived.Test.YtlpomcihkjiokaaGreatM10
import Derived.Deep.RegionHeld
namespace Go.Proofs.YtlpomcihkjiokaaGreat
open Go.RowKit Go.Joins

theorem frame3 {w : World} {g : Nat} (a b c : Value) : Frame (fun x => x = g) w (((w.setCell ⟨g, 0, none⟩ a).setCell ⟨g, 1, none⟩ b).setCell ⟨g, 2, none⟩ c) :=
  (((Frame.refl (fun x => x = g) w).setCell (p := ⟨g, 0, none⟩) rfl a).setCell (p := ⟨g, 1, none⟩) rfl b).setCell (p := ⟨g, 2, none⟩) rfl c
theorem VRes.vz {w w' : World} {rs : List RatD} {e : Ending} (h : VRes w rs e w') : ∃ A c, e = .returned (.slice A rs.length c) ∧ VZ w' w.heap.size w'.heap.size (.slice A rs.length c) rs ∧ Below w.heap.size w w' := by
  obtain ⟨v, ps, rfl, hv, ha, hb⟩ := h
  obtain ⟨A, c, rfl, hz⟩ := VZ.mk' hv ha
  exact ⟨A, c, rfl, hz, hb⟩
theorem VZ.far3 {w : World} {lo hi g : Nat} {v : Value} {rs : List RatD} (h : VZ w lo hi v rs) (hg : g < lo) (a b c : Value) : VZ (((w.setCell ⟨g, 0, none⟩ a).setCell ⟨g, 1, none⟩ b).setCell ⟨g, 2, none⟩ c) lo hi v rs :=
  h.frame (frame3 a b c) (fun x h1 _ e => by omega)
def zIt : ItD := ⟨[], [], []⟩
def startIt (rs : List RowD) (bs xs : List RatD) : ItD := if residOk rs bs xs then ⟨xs, resid rs bs xs, resid rs bs xs⟩ else zIt
def startOk (rs : List RowD) (bs xs : List RatD) : Bool := residOk rs bs xs
theorem zIt_few : zIt.few := ⟨few_nil, few_nil, few_nil⟩
theorem startIt_few {rs : List RowD} {bs xs : List RatD} (h : MFew rs) (h1 : Few bs) (h2 : Few xs) : (startIt rs bs xs).few := by
  unfold startIt
  split
  · exact ⟨h2, resid_few h h1 h2, resid_few h h1 h2⟩
  · exact zIt_few
theorem SPost.zero {w w' : World} {ok : Value} (hb : Below w.heap.size w w') : SPost w zIt ok (.returned (.tuple #[.agg #[.slice none 0 0, .slice none 0 0, .slice none 0 0], ok])) w' := by
  refine ⟨_, rfl, ?_, hb⟩
  have := IT.nil w' w'.heap.size (Nat.le_refl _)
  obtain ⟨vx, vr, vp, l1, h1, l2, h2, l3, h3, e, hx, hr, hp, hh, b1, b2, b3, d⟩ := this
  exact ⟨vx, vr, vp, l1, h1, l2, h2, l3, h3, e, hx, hr, hp, hh, ⟨Nat.le_trans hb.size b1.1, b1.2⟩, ⟨Nat.le_trans hb.size b2.1, b2.2⟩, ⟨Nat.le_trans hb.size b3.1, b3.2⟩, d⟩
theorem SPost.of3 {w w' : World} {d : ItD} {ok vx vr vp : Value} {l1 h1 l2 h2 l3 h3 : Nat} (hx : VZ w' l1 h1 vx d.x) (hr : VZ w' l2 h2 vr d.r) (hp : VZ w' l3 h3 vp d.p) (hb : Below w.heap.size w w')
    (b1 : w.heap.size ≤ l1 ∧ h1 ≤ w'.heap.size) (b2 : w.heap.size ≤ l2 ∧ h2 ≤ w'.heap.size) (b3 : w.heap.size ≤ l3 ∧ h3 ≤ w'.heap.size) (d12 : h1 ≤ l2 ∨ h2 ≤ l1) (d13 : h1 ≤ l3 ∨ h3 ≤ l1) (d23 : h2 ≤ l3 ∨ h3 ≤ l2) :
    SPost w d ok (.returned (.tuple #[.agg #[vx, vr, vp], ok])) w' := ⟨_, rfl, ⟨vx, vr, vp, l1, h1, l2, h2, l3, h3, rfl, hx, hr, hp, Nat.le_refl _, b1, b2, b3, d12, d13, d23⟩, hb⟩

set_option maxRecDepth 100000 in
set_option maxHeartbeats 1600000 in
theorem iStartCg (rs : List RowD) (bs xs : List RatD) (u v1 v2 : Value) (w : World) (hu : MatV w u rs) (h1 : VecV w v1 bs) (h2 : VecV w v2 xs) (hf : MFew rs) (hg : Few bs) (hh : Few xs) :
    Calls Tryz.prog 62 #[u, v1, v2] w (SPost w (startIt rs bs xs) (.bool (startOk rs bs xs))) := by
  have HR := Lib.hid (fun W (hW : Below w.heap.size w W) => iResidual rs bs xs u v1 v2 W (hu.later hW) (h1.later hW) (h2.later hW) hf hg hh)
  obtain ⟨A, c, rfl, _, _⟩ := hu
  obtain ⟨A1, c1, rfl, l1, k1⟩ := h1
  obtain ⟨A2, c2, rfl, l2, k2⟩ := h2
  have HX := Lib.hid (fun W (hW : Below w.heap.size w W) => iCopyVec xs xs.length c2 rfl hh A2 W (k2.later hW))
  have HCR := Lib.hid (fun W C d (hc : VI W C (resid rs bs xs)) => iCopyVec (resid rs bs xs) (resid rs bs xs).length d rfl (resid_few hf hg hh) C W hc)
  unfold startIt startOk
  generalize resid rs bs xs = R at *
  generalize residOk rs bs xs = ok at *
  clear hf hg hh k1 k2 l1 l2
  obtain ⟨n2, hn2⟩ : ∃ n, xs.length = n := ⟨_, rfl⟩
  rw [hn2] at HR HX ⊢
  have HN2 := Lib.hid hn2
  clear hn2
  generalize rs.length = n at *
  generalize bs.length = n1 at *
  have R0 := Slots.new (Below.refl _ ((w.alloc (.cells #[.slice A n c] 52)).alloc (.cells #[.slice none 0 0, .slice none 0 0, .slice none 0 0] 66))) (g := w.heap.size + 1) (by simp)
  have hb0 := below_alloc2 w (.cells #[.slice A n c] 52) (.cells #[.slice none 0 0, .slice none 0 0, .slice none 0 0] 66)
  cases ok
  · simp only [Bool.false_eq_true, if_false]
    clear HX HCR
    go_enter Tryz.func62, Tryz.ntmps62
    go_wp2_with fail
    generalize (w.alloc (.cells #[.slice A n c] 52)).alloc (.cells #[.slice none 0 0, .slice none 0 0, .slice none 0 0] 66) = w0 at *
    refine (HR.out _ hb0).mono ?_
    intro e w1 hp
    obtain ⟨v1, ps1, rfl, hv1, ha1, hb1⟩ := hp
    replace R0 := R0.later hb1
    obtain ⟨q0, q1, q2, z0, z1, z2⟩ := R0.c3
    have hb := below3 (below_trans hb0 hb1) (show w.heap.size ≤ w.heap.size + 1 by omega) (.slice none 0 0) (.slice none 0 0) (.slice none 0 0)
    clear hv1 ha1 R0
    go_wp2
    exact bodyPost_ret (v := .tuple #[.agg #[.slice none 0 0, .slice none 0 0, .slice none 0 0], .bool false]) (by simp [results, Tryz.results62, go_sem, q0, q1, q2]) rfl (SPost.zero hb)
  · simp only [if_true]
    go_enter Tryz.func62, Tryz.ntmps62
    go_wp2_with fail
    generalize (w.alloc (.cells #[.slice A n c] 52)).alloc (.cells #[.slice none 0 0, .slice none 0 0, .slice none 0 0] 66) = w0 at *
    have hz0 := R0.1
    refine (HR.out _ hb0).mono ?_
    intro e w1 hp
    obtain ⟨v1, ps1, rfl, hv1, ha1, hb1⟩ := hp
    obtain ⟨A3, c3, rfl, hr⟩ := VZ.mk' hv1 ha1
    replace R0 := R0.later hb1
    have hz1 := hb1.size
    replace hb0 := below_trans hb0 hb1
    clear hv1 ha1 hb1
    go_wp2_with fail
    refine (HX.out _ hb0).mono ?_
    intro e w2 hp
    obtain ⟨A4, c4, rfl, hx, hb2⟩ := hp.vz
    rw [HN2.out]
    rw [HN2.out] at hx
    replace R0 := R0.later hb2
    have hz2 := hb2.size
    replace hb0 := below_trans hb0 hb2
    replace hr := hr.later hb2
    clear hb2 hp
    go_wp2_with fail
    refine (HCR.out _ _ _ hr.reads).mono ?_
    intro e w3 hp
    obtain ⟨A5, c5, rfl, hq, hb3⟩ := hp.vz
    replace R0 := R0.later hb3
    have hz3 := hb3.size
    replace hb0 := below_trans hb0 hb3
    replace hr := hr.later hb3
    replace hx := hx.later hb3
    clear hb3 hp
    obtain ⟨q0, q1, q2, z0, z1, z2⟩ := R0.c3
    have hb := below3 hb0 (show w.heap.size ≤ w.heap.size + 1 by omega) (.slice A4 n2 c4) (.slice A3 R.length c3) (.slice A5 R.length c5)
    have fx := hx.far3 (g := w.heap.size + 1) (by omega) (.slice A4 n2 c4) (.slice A3 R.length c3) (.slice A5 R.length c5)
    have fr := hr.far3 (g := w.heap.size + 1) (by omega) (.slice A4 n2 c4) (.slice A3 R.length c3) (.slice A5 R.length c5)
    have fq := hq.far3 (g := w.heap.size + 1) (by omega) (.slice A4 n2 c4) (.slice A3 R.length c3) (.slice A5 R.length c5)
    clear hx hr hq R0
    go_wp2
    exact bodyPost_ret (v := .tuple #[.agg #[.slice A4 n2 c4, .slice A3 R.length c3, .slice A5 R.length c5], .bool true]) (by simp [results, Tryz.results62, go_sem, q0, q1, q2]) rfl
      (SPost.of3 (d := ⟨xs, R, R⟩) fx fr fq hb ⟨by omega, by simp; omega⟩ ⟨by omega, by simp; omega⟩ ⟨by omega, by simp⟩ (.inr (by omega)) (.inl (by omega)) (.inl (by omega)))

set_option maxRecDepth 100000 in
set_option maxHeartbeats 1600000 in
theorem sStartCg (rs : List RowD) (bs xs : List RatD) (u v1 v2 : Value) (w : World) (hu : MatV w u rs) (h1 : VecV w v1 bs) (h2 : VecV w v2 xs) (hf : MFew rs) (hg : Few bs) (hh : Few xs) :
    Calls Tryz.prog 99 #[u, v1, v2] w (SPost w (startIt rs bs xs) (.bool (startOk rs bs xs))) := by
  have HR := Lib.hid (fun W (hW : Below w.heap.size w W) => sResidualOf rs bs xs u v1 v2 W (hu.later hW) (h1.later hW) (h2.later hW) hf hg hh)
  have HU := Lib.hid (fun W (hW : Below w.heap.size w W) => hu.later hW)
  obtain ⟨A, c, rfl, _, _⟩ := hu
  obtain ⟨A1, c1, rfl, l1, k1⟩ := h1
  obtain ⟨A2, c2, rfl, l2, k2⟩ := h2
  have hn1 := hg.1
  have HX := Lib.hid (fun W (hW : Below w.heap.size w W) => sCopyVec xs xs.length c2 rfl hh A2 W (k2.later hW))
  have HCR := Lib.hid (fun W C d (hc : VI W C (resid rs bs xs)) => sCopyVec (resid rs bs xs) (resid rs bs xs).length d rfl (resid_few hf hg hh) C W hc)
  have HA := fun W hW => sFits rs bs _ A1 bs.length c1 rfl W (HU.out W hW) (k1.later hW) hf hg
  have HB := fun W hW => sFits rs xs _ A2 xs.length c2 rfl W (HU.out W hW) (k2.later hW) hf hh
  have hlen : (resid rs bs xs).length ≤ 1048576 := (resid_few hf hg hh).1
  have hl1 := fun (h : fitsB rs [bs, xs] = true) (hv : vok (resB rs bs xs) = true) => (show (resid rs bs xs).length = bs.length by unfold resid vFull; rw [if_pos h, if_pos hv]; exact comb_len _ _ _ _)
  have hl0 := fun (h : fitsB rs [bs, xs] = true) (hv : vok (resB rs bs xs) = false) => (show (resid rs bs xs).length = 0 ∧ 0 < bs.length by
    unfold resid vFull
    rw [if_pos h, hv]
    refine ⟨rfl, ?_⟩
    obtain ⟨j, hj, _⟩ := vok_ex hv
    rw [show (resB rs bs xs).length = bs.length from comb_len _ _ _ _] at hj
    omega)
  unfold startIt startOk residOk
  generalize resid rs bs xs = R at *
  generalize vok (resB rs bs xs) = bv at *
  rw [fitsS] at hl1 hl0 ⊢
  generalize (mOk rs && (decide ((bs.length : Int) = (rs.length : Int)) && vok bs)) = ba at *
  generalize (mOk rs && (decide ((xs.length : Int) = (rs.length : Int)) && vok xs)) = bb at *
  clear hf hg hh k1 k2 l1 l2 HU
  obtain ⟨n2, hn2⟩ : ∃ n, xs.length = n := ⟨_, rfl⟩
  rw [hn2] at HR HX HB ⊢
  have HN2 := Lib.hid hn2
  clear hn2
  generalize rs.length = n at *
  generalize bs.length = n1 at *
  have R0 := Slots.new (Below.refl _ ((w.alloc (.cells #[.slice A n c] 52)).alloc (.cells #[.slice none 0 0, .slice none 0 0, .slice none 0 0] 66))) (g := w.heap.size + 1) (by simp)
  have S0 := Slots.new (below_step (Below.refl _ ((w.alloc (.cells #[.slice A n c] 52)).alloc (.cells #[.slice none 0 0, .slice none 0 0, .slice none 0 0] 66)))) (g := w.heap.size) rfl
  have hb0 := below_alloc2 w (.cells #[.slice A n c] 52) (.cells #[.slice none 0 0, .slice none 0 0, .slice none 0 0] 66)
  have hz0 := R0.1
  cases ba
  · simp only [Bool.false_and, Bool.false_eq_true, if_false]
    replace HA := Lib.hid HA
    clear HX HCR HB hl1 hl0
    go_enter Tryz.func99, Tryz.ntmps99
    go_wp2_with fail
    generalize (w.alloc (.cells #[.slice A n c] 52)).alloc (.cells #[.slice none 0 0, .slice none 0 0, .slice none 0 0] 66) = w0 at *
    refine (HR.out _ hb0).mono ?_
    intro e w1 hp
    obtain ⟨A3, c3, rfl, hr, hb1⟩ := hp.vz
    replace R0 := R0.later hb1
    replace S0 := S0.later hb1
    replace hb0 := below_trans hb0 hb1
    obtain ⟨a0, _⟩ := S0.c1
    clear hr hb1 hp
    go_wp2_with fail
    refine (HA.out _ hb0).mono ?_
    rintro e w2 ⟨rfl, hb1⟩
    replace R0 := R0.later hb1
    replace hb0 := below_trans hb0 hb1
    obtain ⟨q0, q1, q2, z0, z1, z2⟩ := R0.c3
    have hb := below3 hb0 (show w.heap.size ≤ w.heap.size + 1 by omega) (.slice none 0 0) (.slice none 0 0) (.slice none 0 0)
    clear R0 S0 a0
    go_wp2
    exact bodyPost_ret (v := .tuple #[.agg #[.slice none 0 0, .slice none 0 0, .slice none 0 0], .bool false]) (by simp [results, Tryz.results99, go_sem, q0, q1, q2]) rfl (SPost.zero hb)
  cases bb
  · simp only [Bool.and_false, Bool.false_and, Bool.false_eq_true, if_false]
    replace HA := Lib.hid HA
    replace HB := Lib.hid HB
    clear HX HCR hl1 hl0
    go_enter Tryz.func99, Tryz.ntmps99
    go_wp2_with fail
    generalize (w.alloc (.cells #[.slice A n c] 52)).alloc (.cells #[.slice none 0 0, .slice none 0 0, .slice none 0 0] 66) = w0 at *
    refine (HR.out _ hb0).mono ?_
    intro e w1 hp
    obtain ⟨A3, c3, rfl, hr, hb1⟩ := hp.vz
    replace R0 := R0.later hb1
    replace S0 := S0.later hb1
    replace hb0 := below_trans hb0 hb1
    obtain ⟨a0, _⟩ := S0.c1
    clear hr hb1 hp
    go_wp2_with fail
    refine (HA.out _ hb0).mono ?_
    rintro e w2 ⟨rfl, hb1⟩
    replace R0 := R0.later hb1
    replace S0 := S0.later hb1
    replace hb0 := below_trans hb0 hb1
    clear a0 hb1
    obtain ⟨a0, _⟩ := S0.c1
    go_wp2_with fail
    refine (HB.out _ hb0).mono ?_
    rintro e w3 ⟨rfl, hb1⟩
    replace R0 := R0.later hb1
    replace hb0 := below_trans hb0 hb1
    obtain ⟨q0, q1, q2, z0, z1, z2⟩ := R0.c3
    have hb := below3 hb0 (show w.heap.size ≤ w.heap.size + 1 by omega) (.slice none 0 0) (.slice none 0 0) (.slice none 0 0)
    clear R0 S0 a0
    go_wp2
    exact bodyPost_ret (v := .tuple #[.agg #[.slice none 0 0, .slice none 0 0, .slice none 0 0], .bool false]) (by simp [results, Tryz.results99, go_sem, q0, q1, q2]) rfl (SPost.zero hb)
  · simp only [Bool.and_self, Bool.true_and]
    replace HA := Lib.hid HA
    replace HB := Lib.hid HB
    cases bv
    · simp only [Bool.false_eq_true, if_false]
      obtain ⟨hR0, hpos⟩ := hl0 (by trivial) (by trivial)
      clear HX HCR hl1 hl0
      rw [show R = [] from List.eq_nil_of_length_eq_zero hR0] at HR
      clear hR0
      have hne : ((0 : Int) != (n1 : Int)) = true := by simp; omega
      go_enter Tryz.func99, Tryz.ntmps99
      go_wp2_with fail
      generalize (w.alloc (.cells #[.slice A n c] 52)).alloc (.cells #[.slice none 0 0, .slice none 0 0, .slice none 0 0] 66) = w0 at *
      refine (HR.out _ hb0).mono ?_
      intro e w1 hp
      obtain ⟨A3, c3, rfl, hr, hb1⟩ := hp.vz
      replace R0 := R0.later hb1
      replace S0 := S0.later hb1
      replace hb0 := below_trans hb0 hb1
      obtain ⟨a0, _⟩ := S0.c1
      clear hr hb1 hp
      go_wp2_with fail
      refine (HA.out _ hb0).mono ?_
      rintro e w2 ⟨rfl, hb1⟩
      replace R0 := R0.later hb1
      replace S0 := S0.later hb1
      replace hb0 := below_trans hb0 hb1
      clear a0 hb1
      obtain ⟨a0, _⟩ := S0.c1
      go_wp2_with fail
      refine (HB.out _ hb0).mono ?_
      rintro e w3 ⟨rfl, hb1⟩
      replace R0 := R0.later hb1
      replace hb0 := below_trans hb0 hb1
      obtain ⟨q0, q1, q2, z0, z1, z2⟩ := R0.c3
      have hb := below3 hb0 (show w.heap.size ≤ w.heap.size + 1 by omega) (.slice none 0 0) (.slice none 0 0) (.slice none 0 0)
      clear R0 S0 a0
      go_wp2
      exact bodyPost_ret (v := .tuple #[.agg #[.slice none 0 0, .slice none 0 0, .slice none 0 0], .bool false]) (by simp [results, Tryz.results99, go_sem, q0, q1, q2]) rfl (SPost.zero hb)
    · simp only [if_true]
      have HRL := Lib.hid (hl1 (by trivial) (by trivial))
      have hee : ((n1 : Int) != (n1 : Int)) = false := by simp
      clear hl1 hl0 hlen
      go_enter Tryz.func99, Tryz.ntmps99
      go_wp2_with fail
      generalize (w.alloc (.cells #[.slice A n c] 52)).alloc (.cells #[.slice none 0 0, .slice none 0 0, .slice none 0 0] 66) = w0 at *
      refine (HR.out _ hb0).mono ?_
      intro e w1 hp
      obtain ⟨A3, c3, rfl, hr, hb1⟩ := hp.vz
      rw [HRL.out]
      rw [HRL.out] at hr
      replace R0 := R0.later hb1
      replace S0 := S0.later hb1
      have hz1 := hb1.size
      replace hb0 := below_trans hb0 hb1
      obtain ⟨a0, _⟩ := S0.c1
      clear hb1 hp
      go_wp2_with fail
      refine (HA.out _ hb0).mono ?_
      rintro e w2 ⟨rfl, hb1⟩
      replace R0 := R0.later hb1
      replace S0 := S0.later hb1
      replace hr := hr.later hb1
      have hz2 := hb1.size
      replace hb0 := below_trans hb0 hb1
      clear a0 hb1
      obtain ⟨a0, _⟩ := S0.c1
      go_wp2_with fail
      refine (HB.out _ hb0).mono ?_
      rintro e w3 ⟨rfl, hb1⟩
      replace R0 := R0.later hb1
      replace hr := hr.later hb1
      have hz3 := hb1.size
      replace hb0 := below_trans hb0 hb1
      clear a0 hb1 S0
      go_wp2_with fail
      refine (HX.out _ hb0).mono ?_
      intro e w4 hp
      obtain ⟨A4, c4, rfl, hx, hb2⟩ := hp.vz
      rw [HN2.out]
      rw [HN2.out] at hx
      replace R0 := R0.later hb2
      have hz4 := hb2.size
      replace hb0 := below_trans hb0 hb2
      replace hr := hr.later hb2
      clear hb2 hp
      have HRR := Lib.hid hr.reads
      go_wp2_with fail
      have HCR2 := HCR.out w4 A3 c3 HRR.out
      rw [HRL.out] at HCR2
      refine HCR2.mono ?_
      intro e w5 hp
      obtain ⟨A5, c5, rfl, hq, hb3⟩ := hp.vz
      rw [HRL.out]
      rw [HRL.out] at hq
      replace R0 := R0.later hb3
      have hz5 := hb3.size
      replace hb0 := below_trans hb0 hb3
      replace hr := hr.later hb3
      replace hx := hx.later hb3
      clear hb3 hp HCR2
      obtain ⟨q0, q1, q2, z0, z1, z2⟩ := R0.c3
      have hb := below3 hb0 (show w.heap.size ≤ w.heap.size + 1 by omega) (.slice A4 n2 c4) (.slice A3 n1 c3) (.slice A5 n1 c5)
      have fx := hx.far3 (g := w.heap.size + 1) (by omega) (.slice A4 n2 c4) (.slice A3 n1 c3) (.slice A5 n1 c5)
      have fr := hr.far3 (g := w.heap.size + 1) (by omega) (.slice A4 n2 c4) (.slice A3 n1 c3) (.slice A5 n1 c5)
      have fq := hq.far3 (g := w.heap.size + 1) (by omega) (.slice A4 n2 c4) (.slice A3 n1 c3) (.slice A5 n1 c5)
      clear hx hr hq R0
      go_wp2
      exact bodyPost_ret (v := .tuple #[.agg #[.slice A4 n2 c4, .slice A3 n1 c3, .slice A5 n1 c5], .bool true]) (by simp [results, Tryz.results99, go_sem, q0, q1, q2]) rfl
        (SPost.of3 (d := ⟨xs, R, R⟩) fx fr fq hb ⟨by omega, by simp; omega⟩ ⟨by omega, by simp; omega⟩ ⟨by omega, by simp⟩ (.inr (by omega)) (.inl (by omega)) (.inl (by omega)))
end Go.Proofs.YtlpomcihkjiokaaGreat

namespace Go.Proofs.YtlpomcihkjiokaaGreat
open Go.RowKit Go.Joins

theorem negD_eq {x : RatD} (h : FE.ratOk x = true) : FE.rneg x = negD x := by
  have k := okR_neg h
  rw [k.eq]
  have k0 := FE.ratOk_iff.1 h
  unfold FE.rneg
  rw [if_pos h]
  unfold FE.mkR
  congr 1
  simp only [negD]
  have : decide (x.mag.length ≠ 0) = decide (FE.nv x.mag ≠ 0) := by
    have e := k0.mag
    rw [Bool.eq_iff_iff]
    simp only [decide_eq_true_eq, ne_eq, List.length_eq_zero_iff]
    refine not_congr ?_
    constructor
    · intro h; rw [h]; rfl
    · intro h; rw [h, FE.toL_zero] at e; exact e
  rw [this]
  cases x.neg <;> simp

set_option maxHeartbeats 800000 in
theorem iRatSign (x : RatD) (v : Value) (w : World) (hv : RatV w v x) (fx : x.mag.length ≤ 1048576 ∧ x.den.length ≤ 1048576) :
    Calls Tryz.prog 54 #[v] w fun e w' => e = .returned (.int .i64 (rsig x)) ∧ Below w.heap.size w w' := by
  have H1 := fun W (hW : Below w.heap.size w W) => iRatOk x v W (hv.later hW) fx.1 fx.2
  have H2 := Lib.hid (fun W (hW : Below w.heap.size w W) => iSign x v W (hv.later hW))
  obtain ⟨A, c, B, d, rfl, hcd, ra, rb⟩ := hv
  unfold rsig
  cases hq : FE.ratOk x
  · rw [hq] at H1
    simp only [Bool.false_eq_true, if_false]
    replace H1 := Lib.hid H1
    clear H2 fx hcd ra rb hq
    generalize x.mag.length = n at *
    generalize x.den.length = m at *
    generalize x.neg = s at *
    go_enter Tryz.func54, Tryz.ntmps54
    go_wp2_with fail
    refine (H1.out _ (below_alloc1 _ _)).mono ?_
    rintro e w1 ⟨rfl, hb⟩
    replace hb := box_below hb
    go_wp2
    go_ret
    exact ⟨rfl, hb⟩
  · rw [hq] at H1
    simp only [if_true]
    replace H1 := Lib.hid H1
    clear fx hcd ra rb hq
    generalize rsgn x = g at *
    generalize x.mag.length = n at *
    generalize x.den.length = m at *
    generalize x.neg = s at *
    go_enter Tryz.func54, Tryz.ntmps54
    go_wp2_with fail
    refine (H1.out _ (below_alloc1 _ _)).mono ?_
    rintro e w1 ⟨rfl, hb⟩
    have S0 := Slots.new hb (g := w.heap.size) rfl
    replace hb := box_below hb
    obtain ⟨a0, a1, a2, _, _, _⟩ := S0.c3
    go_wp2_with fail
    refine (H2.out _ hb).mono ?_
    rintro e w2 ⟨rfl, hb2⟩
    replace hb := below_trans hb hb2
    clear a0 a1 a2 S0
    go_wp2
    go_ret
    exact ⟨rfl, hb⟩

set_option maxRecDepth 100000 in
set_option maxHeartbeats 1600000 in
theorem iRatNeg (x : RatD) (v : Value) (w : World) (hv : RatV w v x) (fx : x.mag.length ≤ 1048576 ∧ x.den.length ≤ 1048576) :
    Calls Tryz.prog 170 #[v] w (RPost w (FE.rneg x)) := by
  have H1 := fun W (hW : Below w.heap.size w W) => iRatOk x v W (hv.later hW) fx.1 fx.2
  have HN := Lib.hid (fun W (hW : Below w.heap.size w W) => iNegative x v W (hv.later hW))
  have HC := Lib.hid (fun u W (hu : RatV W u (negD x)) => iCopyRat (negD x) u W hu fx.1 fx.2)
  obtain ⟨A, c, B, d, rfl, hcd, ra, rb⟩ := hv
  cases hq : FE.ratOk x
  · have hz : FE.rneg x = zR := by unfold FE.rneg; rw [hq]; rfl
    rw [hz]
    rw [hq] at H1
    replace H1 := Lib.hid H1
    clear HN HC fx hcd ra rb hq hz
    generalize x.mag.length = n at *
    generalize x.den.length = m at *
    generalize x.neg = s at *
    go_enter Tryz.func170, Tryz.ntmps170
    go_wp2_with fail
    refine (H1.out _ (below_alloc2 _ _ _)).mono ?_
    rintro e w1 ⟨rfl, hb1⟩
    have R0 := Slots.new hb1 (g := w.heap.size + 1) (by simp)
    replace hb1 := below_trans (below_alloc2 _ _ _) hb1
    have hlt := R0.1
    obtain ⟨_, _, _, q0, q1, q2, z0, z1, z2⟩ := (AnyK.of R0).c3
    have hb := below3 hb1 (show w.heap.size ≤ w.heap.size + 1 by omega) (.bool false) (.slice none 0 0) (.slice none 0 0)
    have f6 := (RatP.zero w1 w1.heap.size).far3 (g := w.heap.size + 1) hlt (.bool false) (.slice none 0 0) (.slice none 0 0)
    clear R0
    go_wp2
    exact bodyPost_ret (v := .agg #[.bool false, .slice none 0 0, .slice none 0 0]) (by simp [results, Tryz.results170, go_sem, q0, q1, q2]) rfl ⟨_, rfl, f6.mono (by omega), hb⟩
  · rw [hq] at H1
    rw [negD_eq hq]
    replace H1 := Lib.hid H1
    clear fx hcd ra rb hq
    generalize negD x = R at *
    generalize x.mag.length = n at *
    generalize x.den.length = m at *
    generalize x.neg = s at *
    go_enter Tryz.func170, Tryz.ntmps170
    go_wp2_with fail
    refine (H1.out _ (below_alloc2 _ _ _)).mono ?_
    rintro e w1 ⟨rfl, hb1⟩
    have R0 := Slots.new hb1 (g := w.heap.size + 1) (by simp)
    have S0 := Slots.new (below_step hb1) (g := w.heap.size) rfl
    replace hb1 := below_trans (below_alloc2 _ _ _) hb1
    have hlt := R0.1
    obtain ⟨a0, a1, a2, _, _, _⟩ := S0.c3
    go_wp2_with fail
    refine (HN.out _ hb1).mono ?_
    rintro e w2 ⟨v2, rfl, hv2, hb2⟩
    have hlt2 := Nat.lt_of_lt_of_le hlt hb2.size
    replace R0 := R0.later hb2
    replace hb1 := below_trans hb1 hb2
    clear a0 a1 a2 S0
    go_wp2_with fail
    refine (HC.out _ _ hv2).mono ?_
    rintro e w3 ⟨v3, rfl, hr3, hb3⟩
    replace R0 := R0.later hb3
    obtain ⟨_, _, _, q0, q1, q2, z0, z1, z2⟩ := (AnyK.of R0).c3
    obtain ⟨A6, n6, c6, B6, m6, d6, rfl⟩ := hr3.shape
    have hb := below3 (below_trans hb1 hb3) (show w.heap.size ≤ w.heap.size + 1 by omega) (.bool R.neg) (.slice A6 n6 c6) (.slice B6 m6 d6)
    have f6 := hr3.far3 (g := w.heap.size + 1) (by omega) (.bool R.neg) (.slice A6 n6 c6) (.slice B6 m6 d6)
    clear R0
    go_wp2
    exact bodyPost_ret (v := .agg #[.bool R.neg, .slice A6 n6 c6, .slice B6 m6 d6]) (by simp [results, Tryz.results170, go_sem, q0, q1, q2]) rfl ⟨_, rfl, f6.mono (by omega), hb⟩

set_option maxRecDepth 100000 in
set_option maxHeartbeats 1600000 in
theorem sRatNeg (x : RatD) (v : Value) (w : World) (hv : RatV w v x) (fx : x.mag.length ≤ 1048576 ∧ x.den.length ≤ 1048576) :
    Calls Tryz.prog 169 #[v] w (RPost w (FE.rneg x)) := by
  have H1 := fun W (hW : Below w.heap.size w W) => sRatOk x v W (hv.later hW) fx.1 fx.2
  have HN := fun (hq : FE.ratOk x = true) W (hW : Below w.heap.size w W) => sNeg4 x (FE.nv x.mag) (FE.nv x.den) (FE.ratOk_iff.1 hq) v W (hv.later hW)
  obtain ⟨A, c, B, d, rfl, hcd, ra, rb⟩ := hv
  cases hq : FE.ratOk x
  · have hz : FE.rneg x = zR := by unfold FE.rneg; rw [hq]; rfl
    rw [hz]
    rw [hq] at H1
    replace H1 := Lib.hid H1
    clear HN fx hcd ra rb hq hz
    generalize x.mag.length = n at *
    generalize x.den.length = m at *
    generalize x.neg = s at *
    go_enter Tryz.func169, Tryz.ntmps169
    go_wp2_with fail
    refine (H1.out _ (below_alloc2 _ _ _)).mono ?_
    rintro e w1 ⟨rfl, hb1⟩
    have R0 := Slots.new hb1 (g := w.heap.size + 1) (by simp)
    replace hb1 := below_trans (below_alloc2 _ _ _) hb1
    have hlt := R0.1
    obtain ⟨_, _, _, q0, q1, q2, z0, z1, z2⟩ := (AnyK.of R0).c3
    have hb := below3 hb1 (show w.heap.size ≤ w.heap.size + 1 by omega) (.bool false) (.slice none 0 0) (.slice none 0 0)
    have f6 := (RatP.zero w1 w1.heap.size).far3 (g := w.heap.size + 1) hlt (.bool false) (.slice none 0 0) (.slice none 0 0)
    clear R0
    go_wp2
    exact bodyPost_ret (v := .agg #[.bool false, .slice none 0 0, .slice none 0 0]) (by simp [results, Tryz.results169, go_sem, q0, q1, q2]) rfl ⟨_, rfl, f6.mono (by omega), hb⟩
  · rw [hq] at H1
    have HNN := HN hq
    rw [show FE.mkR (!x.neg) (FE.nv x.mag) (FE.nv x.den) = FE.rneg x by unfold FE.rneg; rw [if_pos hq]] at HNN
    replace HNN := Lib.hid HNN
    replace H1 := Lib.hid H1
    clear HN fx hcd ra rb hq
    generalize FE.rneg x = R at *
    generalize x.mag.length = n at *
    generalize x.den.length = m at *
    generalize x.neg = s at *
    go_enter Tryz.func169, Tryz.ntmps169
    go_wp2_with fail
    refine (H1.out _ (below_alloc2 _ _ _)).mono ?_
    rintro e w1 ⟨rfl, hb1⟩
    have R0 := Slots.new hb1 (g := w.heap.size + 1) (by simp)
    have S0 := Slots.new (below_step hb1) (g := w.heap.size) rfl
    replace hb1 := below_trans (below_alloc2 _ _ _) hb1
    have hlt := R0.1
    obtain ⟨a0, a1, a2, _, _, _⟩ := S0.c3
    go_wp2_with fail
    refine (HNN.out _ hb1).mono ?_
    rintro e w3 ⟨v3, rfl, hr3, hb3⟩
    replace R0 := R0.later hb3
    obtain ⟨_, _, _, q0, q1, q2, z0, z1, z2⟩ := (AnyK.of R0).c3
    obtain ⟨A6, n6, c6, B6, m6, d6, rfl⟩ := hr3.shape
    have hb := below3 (below_trans hb1 hb3) (show w.heap.size ≤ w.heap.size + 1 by omega) (.bool R.neg) (.slice A6 n6 c6) (.slice B6 m6 d6)
    have f6 := hr3.far3 (g := w.heap.size + 1) (by omega) (.bool R.neg) (.slice A6 n6 c6) (.slice B6 m6 d6)
    clear R0 a0 a1 a2 S0
    go_wp2
    exact bodyPost_ret (v := .agg #[.bool R.neg, .slice A6 n6 c6, .slice B6 m6 d6]) (by simp [results, Tryz.results169, go_sem, q0, q1, q2]) rfl ⟨_, rfl, f6.mono (by omega), hb⟩

/-- The fraction turned over. -/
def invD (y : RatD) : RatD := ⟨y.neg, y.den, y.mag⟩
theorem okR_inv {y : RatD} (h : FE.ratOk y = true) (h0 : y.mag ≠ []) : FE.OkR (invD y) (FE.nv y.den) (FE.nv y.mag) := by
  have k := FE.ratOk_iff.1 h
  have hm := k.mag
  refine ⟨k.den, k.mag, fun _ => k.q0, fun e => h0 ?_, k.ql, k.pl, by rw [Nat.gcd_comm]; exact k.gcd⟩
  rw [e, FE.toL_zero] at hm
  exact hm
theorem rdiv_inv {x y : RatD} (h1 : FE.ratOk x = true) (h2 : FE.ratOk y = true) (h0 : y.mag ≠ []) : FE.rmul x (invD y) = FE.rdiv x y := by
  have k := okR_inv h2 h0
  have h3 := k.ok
  rw [← rmul_eq h1 h3, sgnI_mul, lowI_sgn]
  unfold FE.rdiv
  rw [h1, h2]
  rfl
theorem rdiv_nil {x y : RatD} (h0 : y.mag = []) : FE.rdiv x y = zR := by
  unfold FE.rdiv
  split
  · rw [h0, FE.nv_nil, Nat.mul_zero]; rfl
  · rfl
set_option maxRecDepth 100000 in
set_option maxHeartbeats 1600000 in
theorem iRatDiv (x y : RatD) (u v : Value) (w : World) (hu : RatV w u x) (hv : RatV w v y) (fx : x.mag.length ≤ 1048576 ∧ x.den.length ≤ 1048576) (fy : y.mag.length ≤ 1048576 ∧ y.den.length ≤ 1048576) :
    Calls Tryz.prog 124 #[u, v] w (RPost w (FE.rdiv x y)) := by
  have HM := fun W (hW : Below w.heap.size w W) v' (hv' : RatV W v' (invD y)) => iRatMul x (invD y) u v' W (hu.later hW) hv' fx ⟨fy.2, fy.1⟩
  obtain ⟨A, c, B, d, rfl, hcd, ra, rb⟩ := hu
  obtain ⟨A', c', B', d', rfl, hcd', ra', rb'⟩ := hv
  have H1 := fun (W : World) (g : Nat) (hW : Below w.heap.size w W) hs => iAreRats [x, y] 2 2 rfl (few2 fx fy) (some ⟨g, 0, none⟩) W (vi2 x y A c B d A' c' B' d' hcd hcd' (ra.later hW) (rb.later hW) (ra'.later hW) (rb'.later hW) hs)
  have HI := Lib.hid (fun W (hW : Below w.heap.size w W) => show RatV W (.agg #[.bool y.neg, .slice B' y.den.length d', .slice A' y.mag.length c']) (invD y) from ⟨B', d', A', c', rfl, ⟨hcd'.2.2.1, hcd'.2.2.2, hcd'.1, hcd'.2.1⟩, rb'.later hW, ra'.later hW⟩)
  rw [vok2] at H1
  cases hq : FE.ratOk x && FE.ratOk y
  · rw [hq] at H1
    rw [show FE.rdiv x y = zR by unfold FE.rdiv; rw [hq]; rfl]
    replace H1 := Lib.hid H1
    clear HM HI hq ra rb ra' rb' hcd hcd' fx fy
    generalize x.mag.length = n at *
    generalize x.den.length = m at *
    generalize y.mag.length = n' at *
    generalize y.den.length = m' at *
    generalize x.neg = s at *
    generalize y.neg = t at *
    go_enter Tryz.func124, Tryz.ntmps124
    go_wp2_with fail
    refine (H1.out _ _ ((below_alloc3 _ _ _ _).alloc (by simp; omega) _) (Slots.newE rfl (by simp))).mono ?_
    rintro e w1 ⟨rfl, hb1⟩
    have R0 := Slots.new (below_step hb1) (g := w.heap.size + 1 + 1) (by simp)
    replace hb1 := below_trans ((below_alloc3 _ _ _ _).alloc (by simp; omega) _) hb1
    have hlt := R0.1
    obtain ⟨_, _, _, q0, q1, q2, z0, z1, z2⟩ := (AnyK.of R0).c3
    have hb := below3 hb1 (show w.heap.size ≤ w.heap.size + 1 + 1 by omega) (.bool false) (.slice none 0 0) (.slice none 0 0)
    have f6 := (RatP.zero w1 w1.heap.size).far3 (g := w.heap.size + 1 + 1) hlt (.bool false) (.slice none 0 0) (.slice none 0 0)
    clear R0
    go_wp2
    exact bodyPost_ret (v := .agg #[.bool false, .slice none 0 0, .slice none 0 0]) (by simp [results, Tryz.results124, go_sem, q0, q1, q2]) rfl ⟨_, rfl, f6.mono (by omega), hb⟩
  · rw [hq] at H1
    simp only [Bool.and_eq_true] at hq
    by_cases hz : y.mag = []
    · rw [rdiv_nil hz]
      have hz' : y.mag.length = 0 := by rw [hz]; rfl
      replace H1 := Lib.hid H1
      rw [hz'] at H1
      rw [hz']
      clear HM HI hq ra rb ra' rb' hcd hcd' fx fy hz hz'
      generalize x.mag.length = n at *
      generalize x.den.length = m at *
      generalize y.den.length = m' at *
      generalize x.neg = s at *
      generalize y.neg = t at *
      go_enter Tryz.func124, Tryz.ntmps124
      go_wp2_with fail
      refine (H1.out _ _ ((below_alloc3 _ _ _ _).alloc (by simp; omega) _) (Slots.newE rfl (by simp))).mono ?_
      rintro e w1 ⟨rfl, hb1⟩
      have R0 := Slots.new (below_step hb1) (g := w.heap.size + 1 + 1) (by simp)
      have S1 := Slots.new (below_step (below_step hb1)) (g := w.heap.size + 1) (by simp)
      replace hb1 := below_trans ((below_alloc3 _ _ _ _).alloc (by simp; omega) _) hb1
      have hlt := R0.1
      obtain ⟨b0, b1, b2, _, _, _⟩ := S1.c3
      obtain ⟨_, _, _, q0, q1, q2, z0, z1, z2⟩ := (AnyK.of R0).c3
      have hb := below3 hb1 (show w.heap.size ≤ w.heap.size + 1 + 1 by omega) (.bool false) (.slice none 0 0) (.slice none 0 0)
      have f6 := (RatP.zero w1 w1.heap.size).far3 (g := w.heap.size + 1 + 1) hlt (.bool false) (.slice none 0 0) (.slice none 0 0)
      clear R0 S1
      go_wp2
      exact bodyPost_ret (v := .agg #[.bool false, .slice none 0 0, .slice none 0 0]) (by simp [results, Tryz.results124, go_sem, q0, q1, q2]) rfl ⟨_, rfl, f6.mono (by omega), hb⟩
    · rw [rdiv_inv hq.1 hq.2 hz] at HM
      have hn' : 0 < y.mag.length := List.length_pos_iff.2 hz
      have hn2 : y.mag.length ≤ 1048576 := fy.1
      replace HM := Lib.hid HM
      replace H1 := Lib.hid H1
      clear hq ra rb ra' rb' hcd hcd' fx fy hz
      generalize FE.rdiv x y = R at *
      generalize x.mag.length = n at *
      generalize x.den.length = m at *
      generalize y.mag.length = n' at *
      generalize y.den.length = m' at *
      generalize x.neg = s at *
      generalize y.neg = t at *
      have hne : ((n' : Int) == 0) = false := by simp; omega
      have hne' : (n' == 0) = false := by simp; omega
      go_enter Tryz.func124, Tryz.ntmps124
      go_wp2_with fail
      refine (H1.out _ _ ((below_alloc3 _ _ _ _).alloc (by simp; omega) _) (Slots.newE rfl (by simp))).mono ?_
      rintro e w1 ⟨rfl, hb1⟩
      have R0 := Slots.new (below_step hb1) (g := w.heap.size + 1 + 1) (by simp)
      have S1 := Slots.new (below_step (below_step hb1)) (g := w.heap.size + 1) (by simp)
      have S0 := Slots.new (below_step (below_step (below_step hb1))) (g := w.heap.size) rfl
      replace hb1 := below_trans ((below_alloc3 _ _ _ _).alloc (by simp; omega) _) hb1
      have hlt := R0.1
      obtain ⟨a0, a1, a2, _, _, _⟩ := S0.c3
      obtain ⟨b0, b1, b2, _, _, _⟩ := S1.c3
      go_wp2_with fail
      refine (HM.out _ hb1 _ (HI.out _ hb1)).mono ?_
      rintro e w3 ⟨v3, rfl, hr3, hb3⟩
      replace R0 := R0.later hb3
      obtain ⟨_, _, _, q0, q1, q2, z0, z1, z2⟩ := (AnyK.of R0).c3
      obtain ⟨A6, n6, c6, B6, m6, d6, rfl⟩ := hr3.shape
      have hb := below3 (below_trans hb1 hb3) (show w.heap.size ≤ w.heap.size + 1 + 1 by omega) (.bool R.neg) (.slice A6 n6 c6) (.slice B6 m6 d6)
      have f6 := hr3.far3 (g := w.heap.size + 1 + 1) (by omega) (.bool R.neg) (.slice A6 n6 c6) (.slice B6 m6 d6)
      clear R0 S0 S1 a0 a1 a2 b0 b1 b2
      go_wp2
      exact bodyPost_ret (v := .agg #[.bool R.neg, .slice A6 n6 c6, .slice B6 m6 d6]) (by simp [results, Tryz.results124, go_sem, q0, q1, q2]) rfl ⟨_, rfl, f6.mono (by omega), hb⟩
end Go.Proofs.YtlpomcihkjiokaaGreat

namespace Go.Proofs.YtlpomcihkjiokaaGreat

section
variable {P : Program} {ops : Array Oper} {Q : Exit → Act → World → Prop} {md : Region.Mode} {S : World → Prop}
/-- A load (or a value) that is taken first. -/
theorem qL {i : Nat} {oi : Oper} {v : Value} {fuel : Nat} {listed : Array Bool} {a : Act} {w : World} (hi : ops[i]? = some oi)
    (hb : (Region.noSelect ops && (Region.free md ops listed i && (Region.ready md ops listed).contains i)) = true) (hQ : ∀ c a w, Q (.panic c) (a.put oi.dst v) w → Q (.panic c) a w) (hS : S w)
    (hw : Region.wanted oi (yielded ops a.tmps) = true) (hv : ∀ w, S w → (execOp a.eval oi).run P w = .ok (.value v) w)
    (h : wpAnyH P md ops Q S fuel (listed.setIfInBounds i true) (a.put oi.dst v) w) : wpAnyH P md ops Q S (fuel + 1) listed a w := by
  simp only [Bool.and_eq_true] at hb
  exact wpAnyH_take hi hb.1 hb.2.1 hb.2.2 hQ (Or.inl ⟨hw, hv⟩) hS h
/-- An operation that its guard shuts out. -/
theorem qP {i : Nat} {oi : Oper} {fuel : Nat} {listed : Array Bool} {a : Act} {w : World} (hi : ops[i]? = some oi)
    (hb : (Region.noSelect ops && (Region.free md ops listed i && (Region.ready md ops listed).contains i)) = true) (hQ : ∀ c a w, Q (.panic c) (a.put oi.dst undef) w → Q (.panic c) a w) (hS : S w)
    (hw : Region.wanted oi (yielded ops a.tmps) = false)
    (h : wpAnyH P md ops Q S fuel (listed.setIfInBounds i true) (a.put oi.dst undef) w) : wpAnyH P md ops Q S (fuel + 1) listed a w := by
  simp only [Bool.and_eq_true] at hb
  exact wpAnyH_take hi hb.1 hb.2.1 hb.2.2 hQ (Or.inr ⟨hw, rfl⟩) hS h
theorem qR {i : Nat} {o : Oper} {fuel : Nat} {listed : Array Bool} {a : Act} {w : World} (hr : Region.ready md ops listed = [i]) (ho : ops[i]? = some o)
    (h : ∀ K' : Act → World → Prop, Shut (∀ a w, S w → (S w → wpAnyH P md ops Q S fuel (listed.setIfInBounds i true) a w) → K' a w) → if Region.wanted o (yielded ops a.tmps) = true then Oper.wp P o a w K' Q else K' (a.put o.dst undef) w) :
    wpAnyH P md ops Q S (fuel + 1) listed a w := wpAnyH_ready hr (by simp) (AllReadyH.cons ho h AllReadyH.nil)
theorem qR2 {i j : Nat} {o p : Oper} {fuel : Nat} {listed : Array Bool} {a : Act} {w : World} (hr : Region.ready md ops listed = [i, j]) (ho : ops[i]? = some o) (hp : ops[j]? = some p)
    (h : ∀ K' : Act → World → Prop, Shut (∀ a w, S w → (S w → wpAnyH P md ops Q S fuel (listed.setIfInBounds i true) a w) → K' a w) → if Region.wanted o (yielded ops a.tmps) = true then Oper.wp P o a w K' Q else K' (a.put o.dst undef) w)
    (k : ∀ K' : Act → World → Prop, Shut (∀ a w, S w → (S w → wpAnyH P md ops Q S fuel (listed.setIfInBounds j true) a w) → K' a w) → if Region.wanted p (yielded ops a.tmps) = true then Oper.wp P p a w K' Q else K' (a.put p.dst undef) w) :
    wpAnyH P md ops Q S (fuel + 1) listed a w := wpAnyH_ready hr (by simp) (AllReadyH.cons ho h (AllReadyH.cons hp k AllReadyH.nil))
end
theorem inner_bad2 {us ys : List RatD} (hl : us.length = ys.length) (h : vok ys = false) : inner us ys = zR := by
  obtain ⟨j, hj, hn⟩ := vok_ex h
  unfold inner
  rw [if_pos hl]
  exact dotK_bad hn _ (by omega)
def cgA (rs : List RowD) (s : ItD) : List RatD := vApply rs s.p
def cgRR (s : ItD) : RatD := inner s.r s.r
def cgPP (rs : List RowD) (s : ItD) : RatD := inner s.p (cgA rs s)
def cgT (rs : List RowD) (s : ItD) : RatD := FE.rdiv (cgRR s) (cgPP rs s)
def cgX (rs : List RowD) (s : ItD) : List RatD := comb s.x (cgT rs s) s.p rs.length
def cgR (rs : List RowD) (s : ItD) : List RatD := comb s.r (FE.rneg (cgT rs s)) (cgA rs s) rs.length
def cgB (rs : List RowD) (s : ItD) : RatD := FE.rdiv (inner (cgR rs s) (cgR rs s)) (cgRR s)
def cgP (rs : List RowD) (s : ItD) : List RatD := comb (cgR rs s) (cgB rs s) s.p rs.length
/-- The iterate behind a step, without checks. -/
def cgNext (rs : List RowD) (s : ItD) : ItD := ⟨cgX rs s, cgR rs s, cgP rs s⟩
/-- Whether there is a step. -/
def cgGo (rs : List RowD) (s : ItD) : Bool := decide (0 < rsig (cgRR s)) && decide (0 < rsig (cgPP rs s))
def cgOk (rs : List RowD) (s : ItD) : Bool := vok (cgX rs s) && (vok (cgR rs s) && vok (cgP rs s))
/-- Whether an iterate fits a matrix. -/
def fit3 (rs : List RowD) (s : ItD) : Bool := fitsB rs [s.x, s.r, s.p]
def stepOk (rs : List RowD) (s : ItD) : Bool := fit3 rs s && (cgGo rs s && cgOk rs s)
def stepIt (rs : List RowD) (s : ItD) : ItD := if stepOk rs s then cgNext rs s else s
theorem rsig_zR : rsig zR = 0 := by decide
theorem cgGo_vok {rs : List RowD} {s : ItD} (hl : s.p.length = rs.length) (h : cgGo rs s = true) : vok (cgA rs s) = true := by
  cases hv : vok (cgA rs s)
  · have := inner_bad2 (us := s.p) (ys := cgA rs s) (by rw [hl]; exact (vApply_len rs s.p).symm) hv
    unfold cgGo cgPP at h
    rw [this, rsig_zR] at h
    simp at h
  · rfl
theorem fit3_of {rs : List RowD} {s : ItD} (h : fit3 rs s = true) : mOk rs = true ∧ s.x.length = rs.length ∧ s.r.length = rs.length ∧ s.p.length = rs.length := by
  simp only [fit3, fitsB, List.all_cons, List.all_nil, fitB, Bool.and_eq_true, decide_eq_true_eq, Bool.and_true] at h
  obtain ⟨⟨⟨a, _⟩, ⟨b, _⟩, c, _⟩, e⟩ := h
  exact ⟨e, by omega, by omega, by omega⟩
theorem fit3_mk {rs : List RowD} {s : ItD} (h0 : mOk rs = true) (h1 : s.x.length = rs.length) (h2 : s.r.length = rs.length) (h3 : s.p.length = rs.length) (v1 : vok s.x = true) (v2 : vok s.r = true) (v3 : vok s.p = true) : fit3 rs s = true := by
  simp only [fit3, fitsB, List.all_cons, List.all_nil, fitB, h0, h1, h2, h3, v1, v2, v3]
  simp
theorem cgNext_fit {rs : List RowD} {s : ItD} (h0 : mOk rs = true) (h : cgOk rs s = true) : fit3 rs (cgNext rs s) = true := by
  simp only [cgOk, Bool.and_eq_true] at h
  exact fit3_mk h0 (comb_len _ _ _ _) (comb_len _ _ _ _) (comb_len _ _ _ _) h.1 h.2.1 h.2.2
theorem cgNext_few {rs : List RowD} {s : ItD} (h : MFew rs) : (cgNext rs s).few := ⟨comb_few _ _ _ h.1, comb_few _ _ _ h.1, comb_few _ _ _ h.1⟩
theorem stepIt_few {rs : List RowD} {s : ItD} (h : MFew rs) (hs : s.few) : (stepIt rs s).few := by
  unfold stepIt
  split
  · exact cgNext_few h
  · exact hs
end Go.Proofs.YtlpomcihkjiokaaGreat

namespace Go.Proofs.YtlpomcihkjiokaaGreat
open Go.RowKit Go.Joins

/-- What a call ends in that makes an iterate. -/
def CPost (w : World) (d : ItD) (e : Ending) (w' : World) : Prop := ∃ v', e = .returned v' ∧ ITD w' w.heap.size w'.heap.size v' d ∧ Below w.heap.size w w'
theorem CPost.of3 {w w' : World} {d : ItD} {vx vr vp : Value} {l1 h1 l2 h2 l3 h3 : Nat} (hx : VZ w' l1 h1 vx d.x) (hr : VZ w' l2 h2 vr d.r) (hp : VZ w' l3 h3 vp d.p) (hb : Below w.heap.size w w')
    (b1 : w.heap.size ≤ l1 ∧ h1 ≤ w'.heap.size) (b2 : w.heap.size ≤ l2 ∧ h2 ≤ w'.heap.size) (b3 : w.heap.size ≤ l3 ∧ h3 ≤ w'.heap.size) (d12 : h1 ≤ l2 ∨ h2 ≤ l1) (d13 : h1 ≤ l3 ∨ h3 ≤ l1) (d23 : h2 ≤ l3 ∨ h3 ≤ l2) :
    CPost w d (.returned (.agg #[vx, vr, vp])) w' := ⟨_, rfl, ⟨vx, vr, vp, l1, h1, l2, h2, l3, h3, rfl, hx, hr, hp, Nat.le_refl _, b1, b2, b3, d12, d13, d23⟩, hb⟩
theorem CPost.s {w W w' : World} {d : ItD} {e : Ending} (hW : Below w.heap.size w W) (h : CPost W d e w') : ∃ A c B b C f, e = .returned (.agg #[.slice A d.x.length c, .slice B d.r.length b, .slice C d.p.length f]) ∧ ITD w' W.heap.size w'.heap.size (.agg #[.slice A d.x.length c, .slice B d.r.length b, .slice C d.p.length f]) d ∧ Below w.heap.size w w' := by
  obtain ⟨v, rfl, hv, hb⟩ := h
  obtain ⟨A, c, B, b, C, f, rfl⟩ := hv.form
  exact ⟨A, c, B, b, C, f, rfl, hv, below_trans hW hb⟩

set_option maxRecDepth 100000 in
set_option maxHeartbeats 1600000 in
theorem sCopyIt (d : ItD) (u : Value) (w : World) (hu : ItW w u d) (hf : d.few) :
    Calls Tryz.prog 165 #[u] w (CPost w d) := by
  obtain ⟨f1, f2, f3⟩ := hf
  obtain ⟨xs, rs, ps⟩ := d
  dsimp only at f1 f2 f3
  obtain ⟨A, c, B, b, C, f, rfl, _, v1, v2, v3⟩ := hu
  dsimp only at v1 v2 v3 ⊢
  have HX := Lib.hid (fun W (hW : Below w.heap.size w W) => sCopyVec xs xs.length c rfl f1 A W (v1.later hW))
  have HR := Lib.hid (fun W (hW : Below w.heap.size w W) => sCopyVec rs rs.length b rfl f2 B W (v2.later hW))
  have HP := Lib.hid (fun W (hW : Below w.heap.size w W) => sCopyVec ps ps.length f rfl f3 C W (v3.later hW))
  clear f1 f2 f3 v1 v2 v3
  obtain ⟨nx, hnx⟩ : ∃ n, xs.length = n := ⟨_, rfl⟩
  obtain ⟨nr, hnr⟩ : ∃ n, rs.length = n := ⟨_, rfl⟩
  obtain ⟨np, hnp⟩ : ∃ n, ps.length = n := ⟨_, rfl⟩
  rw [hnx] at HX ⊢
  rw [hnr] at HR ⊢
  rw [hnp] at HP ⊢
  have HN1 := Lib.hid hnx
  have HN2 := Lib.hid hnr
  have HN3 := Lib.hid hnp
  clear hnx hnr hnp
  have R0 := Slots.new (Below.refl _ ((w.alloc (.cells #[.slice A nx c, .slice B nr b, .slice C np f] 66)).alloc (.cells #[.slice none 0 0, .slice none 0 0, .slice none 0 0] 66))) (g := w.heap.size + 1) (by simp)
  have S0 := Slots.new (below_step (Below.refl _ ((w.alloc (.cells #[.slice A nx c, .slice B nr b, .slice C np f] 66)).alloc (.cells #[.slice none 0 0, .slice none 0 0, .slice none 0 0] 66)))) (g := w.heap.size) rfl
  have hb0 := below_alloc2 w (.cells #[.slice A nx c, .slice B nr b, .slice C np f] 66) (.cells #[.slice none 0 0, .slice none 0 0, .slice none 0 0] 66)
  have hz0 := R0.1
  obtain ⟨a0, a1, a2, _, _, _⟩ := S0.c3
  clear S0
  go_enter Tryz.func165, Tryz.ntmps165
  go_wp2_with fail
  generalize (w.alloc (.cells #[.slice A nx c, .slice B nr b, .slice C np f] 66)).alloc (.cells #[.slice none 0 0, .slice none 0 0, .slice none 0 0] 66) = w0 at *
  refine wp_region_held_drew (S := fun W => Below (w.heap.size + 1) w0 W) (by kernel_rfl) (show Below (w.heap.size + 1) w0 w0.drew from ⟨rfl, rfl, rfl, Nat.le_refl _, fun _ _ => rfl⟩) (fun hHeld => ?_)
  refine qL (i := 0) (v := ?_) rfl (by kernel_rfl) (fun _ _ _ h => h) (by assumption) (by rfl) (fun W _ => ?_) ?_
  rotate_left
  · go_simp
    try with_reducible rfl
  try simp only [Act.put, List.setIfInBounds_toArray]
  refine qL (i := 1) (v := ?_) rfl (by kernel_rfl) (fun _ _ _ h => h) (by assumption) (by rfl) (fun W hSw => ?_) ?_
  rotate_left
  · have f0 := (Below.cell hSw (p := ⟨w.heap.size, 0, none⟩) (Nat.lt_succ_self _)).trans a0
    go_simp
    try with_reducible rfl
  try simp only [Act.put]
  refine qL (i := 3) (v := ?_) rfl (by kernel_rfl) (fun _ _ _ h => h) (by assumption) (by rfl) (fun W _ => ?_) ?_
  rotate_left
  · go_simp
    try with_reducible rfl
  try simp only [Act.put]
  refine qL (i := 4) (v := ?_) rfl (by kernel_rfl) (fun _ _ _ h => h) (by assumption) (by rfl) (fun W hSw => ?_) ?_
  rotate_left
  · have f1 := (Below.cell hSw (p := ⟨w.heap.size, 1, none⟩) (Nat.lt_succ_self _)).trans a1
    go_simp
    try with_reducible rfl
  try simp only [Act.put]
  refine qL (i := 6) (v := ?_) rfl (by kernel_rfl) (fun _ _ _ h => h) (by assumption) (by rfl) (fun W _ => ?_) ?_
  rotate_left
  · go_simp
    try with_reducible rfl
  try simp only [Act.put]
  refine qL (i := 7) (v := ?_) rfl (by kernel_rfl) (fun _ _ _ h => h) (by assumption) (by rfl) (fun W hSw => ?_) ?_
  rotate_left
  · have f2 := (Below.cell hSw (p := ⟨w.heap.size, 2, none⟩) (Nat.lt_succ_self _)).trans a2
    go_simp
    try with_reducible rfl
  try simp only [Act.put]
  refine qR (i := 2) (by kernel_rfl) rfl (fun K hK => ?_)
  simp only [List.getElem_toArray, List.getElem_cons_succ, List.getElem_cons_zero]
  have hzd : w0.heap.size ≤ w0.drew.heap.size := Nat.le_refl _
  have hBd : Below (w.heap.size + 1) w0 w0.drew := ⟨rfl, rfl, rfl, Nat.le_refl _, fun _ _ => rfl⟩
  go_simp
  (go_at_call 144; (with_reducible refine (HX.out _ (hb0.trans (hBd.mono (by omega)))).mono ?_); intro e3 w3 hp3)
  obtain ⟨A3, c3, rfl, hv3, hb3⟩ := hp3.vz
  clear hp3
  try (go_wp2_with fail)
  have hz3 := hb3.size
  have hB3 := hBd.trans (hb3.mono (by omega))
  rw [HN1.out]
  rw [HN1.out] at hv3
  refine hK.out _ _ (hB3) (fun h2 => ?_)
  clear hK K hHeld
  have hHeld := h2
  clear h2
  try simp only [Act.put, List.setIfInBounds_toArray, List.set_cons_zero, List.set_cons_succ]
  refine qR (i := 5) (by kernel_rfl) rfl (fun K hK => ?_)
  simp only [List.getElem_toArray, List.getElem_cons_succ, List.getElem_cons_zero]
  go_simp
  (go_at_call 144; (with_reducible refine (HR.out _ (hb0.trans (hB3.mono (by omega)))).mono ?_); intro e4 w4 hp4)
  obtain ⟨A4, c4, rfl, hv4, hb4⟩ := hp4.vz
  clear hp4
  try (go_wp2_with fail)
  have hz4 := hb4.size
  have hB4 := hB3.trans (hb4.mono (by omega))
  rw [HN2.out]
  rw [HN2.out] at hv4
  refine hK.out _ _ (hB4) (fun h2 => ?_)
  clear hK K hHeld
  have hHeld := h2
  clear h2
  try simp only [Act.put, List.setIfInBounds_toArray, List.set_cons_zero, List.set_cons_succ]
  refine qR (i := 8) (by kernel_rfl) rfl (fun K hK => ?_)
  simp only [List.getElem_toArray, List.getElem_cons_succ, List.getElem_cons_zero]
  go_simp
  (go_at_call 144; (with_reducible refine (HP.out _ (hb0.trans (hB4.mono (by omega)))).mono ?_); intro e5 w5 hp5)
  obtain ⟨A5, c5, rfl, hv5, hb5⟩ := hp5.vz
  clear hp5
  try (go_wp2_with fail)
  have hz5 := hb5.size
  have hB5 := hB4.trans (hb5.mono (by omega))
  rw [HN3.out]
  rw [HN3.out] at hv5
  have hbb := below_trans (below_trans (show Below w0.heap.size w0 w3 from ⟨hb3.os, hb3.tape, hb3.output, hb3.size, hb3.block⟩) hb4) hb5
  have R5 := R0.later (show Below w0.heap.size w0 w5 from ⟨hbb.os, hbb.tape, hbb.output, hbb.size, hbb.block⟩)
  obtain ⟨q0, q1, q2, z0, z1, z2⟩ := R5.c3
  refine hK.out _ _ (hB5) (fun h2 => ?_)
  clear hK K hHeld
  have hHeld := h2
  clear h2
  try simp only [Act.put, List.setIfInBounds_toArray, List.set_cons_zero, List.set_cons_succ]
  refine qL (i := 9) (v := ?_) rfl (by kernel_rfl) (fun _ _ _ h => h) (by assumption) (by rfl) (fun W _ => ?_) ?_
  rotate_left
  · go_simp
    try with_reducible rfl
  try simp only [Act.put, List.setIfInBounds_toArray]
  refine qR (i := 10) (by kernel_rfl) rfl (fun K hK => ?_)
  simp only [List.getElem_toArray, List.getElem_cons_succ, List.getElem_cons_zero]
  go_simp
  refine hK.out _ _ (below3 hB5 (Nat.le_refl _) _ _ _) (fun h2 => ?_)
  clear hK K hHeld
  have hHeld := h2
  clear h2
  try simp only [Act.put, List.setIfInBounds_toArray, List.set_cons_zero, List.set_cons_succ]
  refine wpAnyH_done (by kernel_rfl) ?_ _
  have hb := below3 (hb0.trans (hB5.mono (by omega))) (show w.heap.size ≤ w.heap.size + 1 by omega) (.slice A3 nx c3) (.slice A4 nr c4) (.slice A5 np c5)
  have fx := ((hv3.later hb4).later hb5).far3 (g := w.heap.size + 1) (by omega) (.slice A3 nx c3) (.slice A4 nr c4) (.slice A5 np c5)
  have fr := (hv4.later hb5).far3 (g := w.heap.size + 1) (by omega) (.slice A3 nx c3) (.slice A4 nr c4) (.slice A5 np c5)
  have fq := hv5.far3 (g := w.heap.size + 1) (by omega) (.slice A3 nx c3) (.slice A4 nr c4) (.slice A5 np c5)
  clear hv3 hv4 hv5 R5 R0 hHeld hB3 hB4 hB5 a0 a1 a2 hb3 hb4 hb5 hbb hb0
  go_wp2
  exact bodyPost_ret (v := .agg #[.slice A3 nx c3, .slice A4 nr c4, .slice A5 np c5]) (by simp [results, Tryz.results165, go_sem, q0, q1, q2]) rfl
    (CPost.of3 (d := ⟨xs, rs, ps⟩) fx fr fq hb ⟨by omega, by simp; omega⟩ ⟨by omega, by simp; omega⟩ ⟨by omega, by simp⟩ (.inl (by omega)) (.inl (by omega)) (.inl (by omega)))

end Go.Proofs.YtlpomcihkjiokaaGreat
