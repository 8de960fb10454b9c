/-
  Walks: the copy of a vector, by the program and by the reference.
  Iterates in a law: size, copy, comparison with itself, marks.
  Walks: the first iterate of conjugate gradients, by the program and by the reference.
-/
import Derived.Test.YtkmmdajlbkbnmaaGreatK14
import Derived.Test.YtkmmdajlbkbnmaaGreatK12
import Derived.Test.YtkmmdajlbkbnmaaGreatK2
namespace Go.Proofs.YtkmmdajlbkbnmaaGreat
open Go.RowKit Go.Joins

set_option maxRecDepth 100000 in
set_option maxHeartbeats 1600000 in
theorem iCopyVec (us : List RatD) (n c : Nat) (hn : us.length = n) (hf : Few us) (A : Option Addr) (w : World) (ha : VI w A us) :
    Calls Tryz.prog 88 #[.slice A n c] w (VRes w us) := by
  have hn1 : n ≤ 1048576 := hn ▸ hf.1
  have HF := Lib.hid hf.2
  have HN := Lib.hid hn
  have HA := Lib.hid ha
  have HTS := Lib.hid (fun k (hk : k < n) => (show us.take (k + 1) = us.take k ++ [us.getD k zR] by
    rw [List.take_succ_eq_append_getElem (by omega)]
    simp [show k < us.length by omega]))
  have HTL := Lib.hid (fun k (hk : k ≤ n) => (show (us.take k).length = k by rw [List.length_take]; omega))
  have hl0 := World.ownsRow_lit (base := w.heap.size) (e := 56) (size := 3) w #[] 0 (by simp) (by unfold maxLen; omega) rfl
  have hbel0 := below_alloc1 w (.cells #[] 56)
  have hsz0 : w.heap.size < (w.alloc (.cells #[] 56)).heap.size := by simp
  clear hn hf ha
  go_enter Tryz.func88, Tryz.ntmps88
  go_wp2_with fail
  generalize w.alloc (.cells #[] 56) = w2 at *
  go_loopw [3, 9] (fun o z wr => ∃ k : Nat, k ≤ n ∧ z = .int .i64 k ∧ Below w.heap.size w2 wr ∧ ∃ ps, VW wr w.heap.size wr.heap.size o ps (us.take k)) (fun _ z _ => n - (intOf z).toNat)
  case atStart => exact ⟨0, Nat.zero_le _, rfl, Below.refl _ _, [], VW.nil _ _ _ hl0⟩
  case round =>
    obtain ⟨k, hk, rfl, hbel, ps, hvw⟩ := hrel
    have hbelw := hbel0.trans hbel
    have hszr := hbel.size
    obtain ⟨Ao, co, rfl, _⟩ := hvw.form
    have hno := HTL.out k hk
    rw [hno]
    rw [hno] at hvw
    have HCL := Lib.hid hno
    have HVW := Lib.hid hvw
    clear hvw hno
    by_cases hkn : k = n
    · subst hkn
      have hlf : decide ((k : Int) < (k : Int)) = false := by simp
      have HTK := Lib.hid (show us.take k = us from List.take_of_length_le (by rw [HN.out]; exact Nat.le_refl _))
      go_wp2
      go_ret
      have hv := HVW.out
      rw [HTK.out] at hv
      exact ⟨.slice Ao k co, ps, rfl, hv.parts.wide (Nat.le_refl _) (by simp), hv.2.2.2, hbelw⟩
    · have hltk : (k : Int) < (n : Int) := by omega
      have hku : k < us.length := by rw [HN.out]; omega
      obtain ⟨b4, o4, rfl, hb4, hat4⟩ := HA.out.cells k hku
      have hat4' := RatAt.stays _ _ _ _ _ hb4 hat4 hbelw
      obtain ⟨fu1, fu2⟩ := HF.out k hku
      have HS := Lib.hid (HTS.out k (by omega))
      clear hku hat4
      generalize us.getD k zR = y at *
      obtain ⟨A5, c5, B5, d5, k0, k1, k2, hl5, q1, q2⟩ := hat4'
      have al7 := below_alloc1 wr (.cells #[.bool y.neg, .slice A5 y.mag.length c5, .slice B5 y.den.length d5] 56)
      have X7 := Slots.new (Below.refl _ (wr.alloc (.cells #[.bool y.neg, .slice A5 y.mag.length c5, .slice B5 y.den.length d5] 56))) (g := wr.heap.size) rfl
      have HC := Lib.hid (fun W (hW : Below wr.heap.size wr W) => iCopyRat y (.agg #[.bool y.neg, .slice A5 y.mag.length c5, .slice B5 y.den.length d5]) W ⟨_, _, _, _, rfl, hl5, q1.later hW, q2.later hW⟩ fu1 fu2)
      obtain ⟨x0, x1, x2, _, _, _⟩ := X7.c3
      clear hl5 q1 q2 fu1 fu2 X7
      go_wp2_with fail
      clear k0 k1 k2
      refine (HC.out _ al7).mono ?_
      rintro e w5 ⟨v5, rfl, hr5, hb5⟩
      clear x0 x1 x2
      obtain ⟨A9, n9, c9, B9, m9, d9, rfl⟩ := hr5.shape
      have hb7 := below_trans al7 hb5
      have hz7 : wr.heap.size + 1 ≤ w5.heap.size := by have := hb5.size; simp at this; omega
      have al9 := below_alloc1 w5 (.cells #[.bool y.neg, .slice A9 n9 c9, .slice B9 m9 d9] 56)
      have Z9 := Slots.new (Below.refl _ (w5.alloc (.cells #[.bool y.neg, .slice A9 n9 c9, .slice B9 m9 d9] 56))) (g := w5.heap.size) rfl
      obtain ⟨c0, c1', c2', _, _, _⟩ := Z9.c3
      have hbx := below_trans hb7 al9
      have hbelx := hbel.trans (hbx.mono (by omega))
      have HVX := Lib.hid (HVW.out.later hbx)
      obtain ⟨va, vb, ev, ra, rb, hap⟩ := hr5
      injection ev with ev
      injection ev with ev
      injection ev with ev0 ev
      injection ev with ev1 ev
      injection ev with ev2 _
      subst ev1 ev2
      clear ev0
      have ia := (ra.io.later al9).wide (lo' := wr.heap.size) (hi' := w5.heap.size + 1) (by simp) (by omega)
      have ib := (rb.io.later al9).wide (lo' := wr.heap.size) (hi' := w5.heap.size + 1) (by simp) (by omega)
      clear Z9 al9 hbx ra rb hb5 hb7 al7
      go_wp2_with (at_builtin; refine appRat rfl _ _ rfl rfl HVX.out (by rw [HCL.out]; omega) (by simp; omega) y _ _ w5.heap.size rfl c0 c1' c2' ia ib hap (by omega) (by omega) ?_; intro v9 w9 hvw9 hfr9)
      have hbel9 := hbelx.trans (hfr9.to_below (B := w.heap.size) (by simp; omega) (fun b hb hs => by have := (World.ownsRow.lt HVX.out.2.1 b hs).1; omega))
      rw [← HS.out] at hvw9
      have hvw9' := hvw9.wide (hi' := w9.heap.size) (by have := hfr9.size; simp at this; omega)
      clear c0 c1' c2'
      go_roundw
      case rel => exact ⟨k + 1, by omega, rfl, hbel9, _, hvw9'⟩
      case measure => simp [intOf]; omega

set_option maxRecDepth 100000 in
set_option maxHeartbeats 1600000 in
theorem sCopyVec (us : List RatD) (n c : Nat) (hn : us.length = n) (hf : Few us) (A : Option Addr) (w : World) (ha : VI w A us) :
    Calls Tryz.prog 87 #[.slice A n c] w (VRes w us) := by
  have hn1 : n ≤ 1048576 := hn ▸ hf.1
  have HF := Lib.hid hf.2
  have HN := Lib.hid hn
  have HA := Lib.hid ha
  have HTS := Lib.hid (fun k (hk : k < n) => (show us.take (k + 1) = us.take k ++ [us.getD k zR] by
    rw [List.take_succ_eq_append_getElem (by omega)]
    simp [show k < us.length by omega]))
  have HTL := Lib.hid (fun k (hk : k ≤ n) => (show (us.take k).length = k by rw [List.length_take]; omega))
  have hl0 := World.ownsRow_lit (base := w.heap.size) (e := 56) (size := 3) w #[] 0 (by simp) (by unfold maxLen; omega) rfl
  have hbel0 := below_alloc1 w (.cells #[] 56)
  have hsz0 : w.heap.size < (w.alloc (.cells #[] 56)).heap.size := by simp
  clear hn hf ha
  go_enter Tryz.func87, Tryz.ntmps87
  go_wp2_with fail
  generalize w.alloc (.cells #[] 56) = w2 at *
  go_loopw [3, 9] (fun o z wr => ∃ k : Nat, k ≤ n ∧ z = .int .i64 k ∧ Below w.heap.size w2 wr ∧ ∃ ps, VW wr w.heap.size wr.heap.size o ps (us.take k)) (fun _ z _ => n - (intOf z).toNat)
  case atStart => exact ⟨0, Nat.zero_le _, rfl, Below.refl _ _, [], VW.nil _ _ _ hl0⟩
  case round =>
    obtain ⟨k, hk, rfl, hbel, ps, hvw⟩ := hrel
    have hbelw := hbel0.trans hbel
    have hszr := hbel.size
    obtain ⟨Ao, co, rfl, _⟩ := hvw.form
    have hno := HTL.out k hk
    rw [hno]
    rw [hno] at hvw
    have HCL := Lib.hid hno
    have HVW := Lib.hid hvw
    clear hvw hno
    by_cases hkn : k = n
    · subst hkn
      have hlf : decide ((k : Int) < (k : Int)) = false := by simp
      have HTK := Lib.hid (show us.take k = us from List.take_of_length_le (by rw [HN.out]; exact Nat.le_refl _))
      go_wp2
      go_ret
      have hv := HVW.out
      rw [HTK.out] at hv
      exact ⟨.slice Ao k co, ps, rfl, hv.parts.wide (Nat.le_refl _) (by simp), hv.2.2.2, hbelw⟩
    · have hltk : (k : Int) < (n : Int) := by omega
      have hku : k < us.length := by rw [HN.out]; omega
      obtain ⟨b4, o4, rfl, hb4, hat4⟩ := HA.out.cells k hku
      have hat4' := RatAt.stays _ _ _ _ _ hb4 hat4 hbelw
      obtain ⟨fu1, fu2⟩ := HF.out k hku
      have HS := Lib.hid (HTS.out k (by omega))
      clear hku hat4
      generalize us.getD k zR = y at *
      obtain ⟨A5, c5, B5, d5, k0, k1, k2, hl5, q1, q2⟩ := hat4'
      have al7 := below_alloc1 wr (.cells #[.bool y.neg, .slice A5 y.mag.length c5, .slice B5 y.den.length d5] 56)
      have X7 := Slots.new (Below.refl _ (wr.alloc (.cells #[.bool y.neg, .slice A5 y.mag.length c5, .slice B5 y.den.length d5] 56))) (g := wr.heap.size) rfl
      have HC := Lib.hid (fun W (hW : Below wr.heap.size wr W) => sCopy y (.agg #[.bool y.neg, .slice A5 y.mag.length c5, .slice B5 y.den.length d5]) W ⟨_, _, _, _, rfl, hl5, q1.later hW, q2.later hW⟩ fu1 fu2)
      obtain ⟨x0, x1, x2, _, _, _⟩ := X7.c3
      clear hl5 q1 q2 fu1 fu2 X7
      go_wp2_with fail
      clear k0 k1 k2
      refine (HC.out _ al7).mono ?_
      rintro e w5 ⟨v5, rfl, hr5, hb5⟩
      clear x0 x1 x2
      obtain ⟨A9, n9, c9, B9, m9, d9, rfl⟩ := hr5.shape
      have hb7 := below_trans al7 hb5
      have hz7 : wr.heap.size + 1 ≤ w5.heap.size := by have := hb5.size; simp at this; omega
      have al9 := below_alloc1 w5 (.cells #[.bool y.neg, .slice A9 n9 c9, .slice B9 m9 d9] 56)
      have Z9 := Slots.new (Below.refl _ (w5.alloc (.cells #[.bool y.neg, .slice A9 n9 c9, .slice B9 m9 d9] 56))) (g := w5.heap.size) rfl
      obtain ⟨c0, c1', c2', _, _, _⟩ := Z9.c3
      have hbx := below_trans hb7 al9
      have hbelx := hbel.trans (hbx.mono (by omega))
      have HVX := Lib.hid (HVW.out.later hbx)
      obtain ⟨va, vb, ev, ra, rb, hap⟩ := hr5
      injection ev with ev
      injection ev with ev
      injection ev with ev0 ev
      injection ev with ev1 ev
      injection ev with ev2 _
      subst ev1 ev2
      clear ev0
      have ia := (ra.io.later al9).wide (lo' := wr.heap.size) (hi' := w5.heap.size + 1) (by simp) (by omega)
      have ib := (rb.io.later al9).wide (lo' := wr.heap.size) (hi' := w5.heap.size + 1) (by simp) (by omega)
      clear Z9 al9 hbx ra rb hb5 hb7 al7
      go_wp2_with (at_builtin; refine appRat rfl _ _ rfl rfl HVX.out (by rw [HCL.out]; omega) (by simp; omega) y _ _ w5.heap.size rfl c0 c1' c2' ia ib hap (by omega) (by omega) ?_; intro v9 w9 hvw9 hfr9)
      have hbel9 := hbelx.trans (hfr9.to_below (B := w.heap.size) (by simp; omega) (fun b hb hs => by have := (World.ownsRow.lt HVX.out.2.1 b hs).1; omega))
      rw [← HS.out] at hvw9
      have hvw9' := hvw9.wide (hi' := w9.heap.size) (by have := hfr9.size; simp at this; omega)
      clear c0 c1' c2'
      go_roundw
      case rel => exact ⟨k + 1, by omega, rfl, hbel9, _, hvw9'⟩
      case measure => simp [intOf]; omega

end Go.Proofs.YtkmmdajlbkbnmaaGreat

namespace Go.Proofs.YtkmmdajlbkbnmaaGreat
open Go.RowKit Go.Joins

structure ItD where
  x : List RatD
  r : List RatD
  p : List RatD
def ItD.size (d : ItD) : Nat := vsz d.x + vsz d.r + vsz d.p
def ItD.few (d : ItD) : Prop := Few d.x ∧ Few d.r ∧ Few d.p
def ItD.cnt (d : ItD) : Nat := cntV d.x + cntV d.r + cntV d.p
theorem ItD.few_of {d : ItD} (h : d.size ≤ 1048576) : d.few := by
  unfold ItD.size at h
  exact ⟨few_of_vsz (by omega), few_of_vsz (by omega), few_of_vsz (by omega)⟩
theorem ItD.cnt_few {d : ItD} (h : d.few) : d.cnt ≤ 3 * (1048576 * 2097153) := by
  have h1 := cntV_few h.1
  have h2 := cntV_few h.2.1
  have h3 := cntV_few h.2.2
  unfold ItD.cnt
  omega
def ItW (w : World) (v : Value) (d : ItD) : Prop := ItV w v d.x d.r d.p
theorem ItW.later {w w' : World} {v : Value} {d : ItD} (h : ItW w v d) (hb : Below w.heap.size w w') : ItW w' v d := ItV.later h hb
theorem szIt (d : ItD) (v : Value) (left : Int) (h0 : 0 ≤ left) (h1 : left ≤ 1048576) (w : World) (hv : ItW w v d) :
    Calls Tryz.prog 48 #[v, .int .i64 left] w fun r w' => r = .returned (.int .i64 (szI d.size left)) ∧ Below w.heap.size w w' := szIterate d.x d.r d.p v left h0 h1 w hv
theorem itSelf (d : ItD) (u v : Value) (w : World) (hu : ItW w u d) (hv : ItW w v d) (hf : d.few) :
    Calls Tryz.prog 40 #[u, v] w fun e w' => e = .returned (.bool true) ∧ Below w.heap.size w w' := by
  have h := eqIterate d.x d.r d.p d.x d.r d.p u v w hu hv hf.1 hf.2.1 hf.2.2 hf.1 hf.2.1 hf.2.2
  rwa [show itSame d.x d.r d.p d.x d.r d.p = true by simp [itSame, vsame_refl]] at h

/-- A copy of an iterate between lo and hi: its vectors lie in intervals of their own. -/
def IX (w : World) (lo hi : Nat) (v : Value) (d : ItD) : Prop :=
  ∃ vx vr vp l1 h1 l2 h2 l3 h3, v = .agg #[vx, vr, vp] ∧ VX w l1 h1 vx d.x ∧ VX w l2 h2 vr d.r ∧ VX w l3 h3 vp d.p ∧ hi ≤ w.heap.size ∧ (lo ≤ l1 ∧ h1 ≤ hi) ∧ (lo ≤ l2 ∧ h2 ≤ hi) ∧ (lo ≤ l3 ∧ h3 ≤ hi) ∧ (h1 ≤ l2 ∨ h2 ≤ l1) ∧ (h1 ≤ l3 ∨ h3 ≤ l1) ∧ (h2 ≤ l3 ∨ h3 ≤ l2)
theorem VX.form {w : World} {lo hi : Nat} {v : Value} {rs : List RatD} (h : VX w lo hi v rs) : ∃ A c, v = .slice A rs.length c ∧ rs.length ≤ c ∧ c ≤ maxLen := by
  obtain ⟨ps, h⟩ := h
  exact h.form
theorem VX.wide {w : World} {lo hi lo' hi' : Nat} {v : Value} {rs : List RatD} (h : VX w lo hi v rs) (h1 : lo' ≤ lo) (h2 : hi ≤ hi') : VX w lo' hi' v rs := by
  obtain ⟨ps, h⟩ := h
  exact ⟨ps, h.wide h1 h2⟩
theorem IX.frame {S : Nat → Prop} {w w' : World} {lo hi : Nat} {v : Value} {d : ItD} (h : IX w lo hi v d) (hf : Frame S w w') (hs : ∀ b, lo ≤ b → b < hi → ¬ S b) : IX w' lo hi v d := by
  obtain ⟨vx, vr, vp, l1, h1, l2, h2, l3, h3, rfl, hx, hr, hp, hh, b1, b2, b3, e⟩ := h
  exact ⟨vx, vr, vp, l1, h1, l2, h2, l3, h3, rfl, hx.frame hf (fun b i j => hs b (by omega) (by omega)), hr.frame hf (fun b i j => hs b (by omega) (by omega)), hp.frame hf (fun b i j => hs b (by omega) (by omega)), Nat.le_trans hh hf.size, b1, b2, b3, e⟩
theorem IX.later {w w' : World} {lo hi : Nat} {v : Value} {d : ItD} (h : IX w lo hi v d) (hb : Below w.heap.size w w') : IX w' lo hi v d :=
  h.frame (S := fun _ => False) (Frame.of_below hb) (fun _ _ _ h => h)
theorem IX.form {w : World} {lo hi : Nat} {v : Value} {d : ItD} (h : IX w lo hi v d) : ∃ A c B b C f, v = .agg #[.slice A d.x.length c, .slice B d.r.length b, .slice C d.p.length f] := by
  obtain ⟨vx, vr, vp, l1, h1, l2, h2, l3, h3, rfl, hx, hr, hp, _⟩ := h
  obtain ⟨A, c, rfl, _⟩ := hx.form
  obtain ⟨B, b, rfl, _⟩ := hr.form
  obtain ⟨C, f, rfl, _⟩ := hp.form
  exact ⟨A, c, B, b, C, f, rfl⟩
theorem IX.itw {w : World} {lo hi : Nat} {v : Value} {d : ItD} (h : IX w lo hi v d) : ItW w v d := by
  obtain ⟨vx, vr, vp, l1, h1, l2, h2, l3, h3, rfl, hx, hr, hp, _⟩ := h
  obtain ⟨A, c, rfl, k1, k1'⟩ := hx.form
  obtain ⟨B, b, rfl, k2, k2'⟩ := hr.form
  obtain ⟨C, f, rfl, k3, k3'⟩ := hp.form
  exact ⟨A, c, B, b, C, f, rfl, ⟨by omega, by omega, by omega⟩, hx.reads, hr.reads, hp.reads⟩
/-- A result: an iterate of the call's own between lo and hi. -/
def ITD (w : World) (lo hi : Nat) (v : Value) (d : ItD) : Prop := IT w lo hi v d.x d.r d.p
theorem ITD.frame {S : Nat → Prop} {w w' : World} {lo hi : Nat} {v : Value} {d : ItD} (h : ITD w lo hi v d) (hf : Frame S w w') (hs : ∀ b, lo ≤ b → b < hi → ¬ S b) : ITD w' lo hi v d := IT.frame h hf hs
theorem ITD.later {w w' : World} {lo hi : Nat} {v : Value} {d : ItD} (h : ITD w lo hi v d) (hb : Below w.heap.size w w') : ITD w' lo hi v d := IT.later h hb
theorem ITD.form {w : World} {lo hi : Nat} {v : Value} {d : ItD} (h : ITD w lo hi v d) : ∃ A c B b C f, v = .agg #[.slice A d.x.length c, .slice B d.r.length b, .slice C d.p.length f] := IT.form h
theorem ITD.itw {w : World} {lo hi : Nat} {v : Value} {d : ItD} (h : ITD w lo hi v d) : ItW w v d := IT.reads h
/-- The same behind a mark. -/
def ITm (w : World) (lo hi : Nat) (v : Value) (d : ItD) (k : Int) : Prop := IT w lo hi v (mkV d.x k) (mkV d.r (k + (cntV d.x : Nat))) (mkV d.p (k + (cntV d.x : Nat) + (cntV d.r : Nat)))
theorem ITm.frame {S : Nat → Prop} {w w' : World} {lo hi : Nat} {v : Value} {d : ItD} {k : Int} (h : ITm w lo hi v d k) (hf : Frame S w w') (hs : ∀ b, lo ≤ b → b < hi → ¬ S b) : ITm w' lo hi v d k := IT.frame h hf hs
theorem ITm.later {w w' : World} {lo hi : Nat} {v : Value} {d : ItD} {k : Int} (h : ITm w lo hi v d k) (hb : Below w.heap.size w w') : ITm w' lo hi v d k := IT.later h hb
theorem itcnt (d : ItD) (k : Int) : k + (cntV d.x : Nat) + (cntV d.r : Nat) + (cntV d.p : Nat) = k + (d.cnt : Nat) := by unfold ItD.cnt; omega
theorem markItZ (d : ItD) (k : Int) (hk : 0 ≤ k) (hk1 : k ≤ 1048576) (hf : d.few) (lo hi : Nat) (v : Value) (w : World) (h : ITD w lo hi v d) :
    Calls Tryz.prog 41 #[v, .int .i64 k] w fun e w' => e = .returned (.int .i64 (k + (d.cnt : Nat))) ∧ Frame (fun b => lo ≤ b ∧ b < hi) w w' ∧ ITm w' lo hi v d k := by
  have := markIT d.x d.r d.p k hk hk1 hf.1 hf.2.1 hf.2.2 lo hi v w h
  rwa [itcnt] at this
theorem heldItZ (d : ItD) (k : Int) (hk : 0 ≤ k) (hk1 : k ≤ 1048576) (hf : d.few) (lo hi : Nat) (v : Value) (w : World) (h : ITm w lo hi v d k) :
    Calls Tryz.prog 42 #[v, .int .i64 k] w fun e w' => e = .returned (.int .i64 (k + (d.cnt : Nat))) ∧ Below w.heap.size w w' := by
  have := heldIT d.x d.r d.p k hk hk1 hf.1 hf.2.1 hf.2.2 lo hi v w h
  rwa [itcnt] at this
/-- What a call ends in that makes an iterate and a second value. -/
def SPost (w : World) (d : ItD) (ok : Value) (e : Ending) (w' : World) : Prop := ∃ v', e = .returned (.tuple #[v', ok]) ∧ ITD w' w.heap.size w'.heap.size v' d ∧ Below w.heap.size w w'
end Go.Proofs.YtkmmdajlbkbnmaaGreat

namespace Go.Proofs.YtkmmdajlbkbnmaaGreat
open Go.RowKit Go.Joins

theorem frame3 {w : World} {g : Nat} (a b c : Value) : Frame (fun x => x = g) w (((w.setCell ⟨g, 0, none⟩ a).setCell ⟨g, 1, none⟩ b).setCell ⟨g, 2, none⟩ c) :=
  (((Frame.refl (fun x => x = g) w).setCell (p := ⟨g, 0, none⟩) rfl a).setCell (p := ⟨g, 1, none⟩) rfl b).setCell (p := ⟨g, 2, none⟩) rfl c
theorem VRes.vz {w w' : World} {rs : List RatD} {e : Ending} (h : VRes w rs e w') : ∃ A c, e = .returned (.slice A rs.length c) ∧ VZ w' w.heap.size w'.heap.size (.slice A rs.length c) rs ∧ Below w.heap.size w w' := by
  obtain ⟨v, ps, rfl, hv, ha, hb⟩ := h
  obtain ⟨A, c, rfl, hz⟩ := VZ.mk' hv ha
  exact ⟨A, c, rfl, hz, hb⟩
theorem VZ.far3 {w : World} {lo hi g : Nat} {v : Value} {rs : List RatD} (h : VZ w lo hi v rs) (hg : g < lo) (a b c : Value) : VZ (((w.setCell ⟨g, 0, none⟩ a).setCell ⟨g, 1, none⟩ b).setCell ⟨g, 2, none⟩ c) lo hi v rs :=
  h.frame (frame3 a b c) (fun x h1 _ e => by omega)
def zIt : ItD := ⟨[], [], []⟩
def startIt (rs : List RowD) (bs xs : List RatD) : ItD := if residOk rs bs xs then ⟨xs, resid rs bs xs, resid rs bs xs⟩ else zIt
def startOk (rs : List RowD) (bs xs : List RatD) : Bool := residOk rs bs xs
theorem zIt_few : zIt.few := ⟨few_nil, few_nil, few_nil⟩
theorem startIt_few {rs : List RowD} {bs xs : List RatD} (h : MFew rs) (h1 : Few bs) (h2 : Few xs) : (startIt rs bs xs).few := by
  unfold startIt
  split
  · exact ⟨h2, resid_few h h1 h2, resid_few h h1 h2⟩
  · exact zIt_few
theorem SPost.zero {w w' : World} {ok : Value} (hb : Below w.heap.size w w') : SPost w zIt ok (.returned (.tuple #[.agg #[.slice none 0 0, .slice none 0 0, .slice none 0 0], ok])) w' := by
  refine ⟨_, rfl, ?_, hb⟩
  have := IT.nil w' w'.heap.size (Nat.le_refl _)
  obtain ⟨vx, vr, vp, l1, h1, l2, h2, l3, h3, e, hx, hr, hp, hh, b1, b2, b3, d⟩ := this
  exact ⟨vx, vr, vp, l1, h1, l2, h2, l3, h3, e, hx, hr, hp, hh, ⟨Nat.le_trans hb.size b1.1, b1.2⟩, ⟨Nat.le_trans hb.size b2.1, b2.2⟩, ⟨Nat.le_trans hb.size b3.1, b3.2⟩, d⟩
theorem SPost.of3 {w w' : World} {d : ItD} {ok vx vr vp : Value} {l1 h1 l2 h2 l3 h3 : Nat} (hx : VZ w' l1 h1 vx d.x) (hr : VZ w' l2 h2 vr d.r) (hp : VZ w' l3 h3 vp d.p) (hb : Below w.heap.size w w')
    (b1 : w.heap.size ≤ l1 ∧ h1 ≤ w'.heap.size) (b2 : w.heap.size ≤ l2 ∧ h2 ≤ w'.heap.size) (b3 : w.heap.size ≤ l3 ∧ h3 ≤ w'.heap.size) (d12 : h1 ≤ l2 ∨ h2 ≤ l1) (d13 : h1 ≤ l3 ∨ h3 ≤ l1) (d23 : h2 ≤ l3 ∨ h3 ≤ l2) :
    SPost w d ok (.returned (.tuple #[.agg #[vx, vr, vp], ok])) w' := ⟨_, rfl, ⟨vx, vr, vp, l1, h1, l2, h2, l3, h3, rfl, hx, hr, hp, Nat.le_refl _, b1, b2, b3, d12, d13, d23⟩, hb⟩

set_option maxRecDepth 100000 in
set_option maxHeartbeats 1600000 in
theorem iStartCg (rs : List RowD) (bs xs : List RatD) (u v1 v2 : Value) (w : World) (hu : MatV w u rs) (h1 : VecV w v1 bs) (h2 : VecV w v2 xs) (hf : MFew rs) (hg : Few bs) (hh : Few xs) :
    Calls Tryz.prog 39 #[u, v1, v2] w (SPost w (startIt rs bs xs) (.bool (startOk rs bs xs))) := by
  have HR := Lib.hid (fun W (hW : Below w.heap.size w W) => iResidual rs bs xs u v1 v2 W (hu.later hW) (h1.later hW) (h2.later hW) hf hg hh)
  obtain ⟨A, c, rfl, _, _⟩ := hu
  obtain ⟨A1, c1, rfl, l1, k1⟩ := h1
  obtain ⟨A2, c2, rfl, l2, k2⟩ := h2
  have HX := Lib.hid (fun W (hW : Below w.heap.size w W) => iCopyVec xs xs.length c2 rfl hh A2 W (k2.later hW))
  have HCR := Lib.hid (fun W C d (hc : VI W C (resid rs bs xs)) => iCopyVec (resid rs bs xs) (resid rs bs xs).length d rfl (resid_few hf hg hh) C W hc)
  unfold startIt startOk
  generalize resid rs bs xs = R at *
  generalize residOk rs bs xs = ok at *
  clear hf hg hh k1 k2 l1 l2
  obtain ⟨n2, hn2⟩ : ∃ n, xs.length = n := ⟨_, rfl⟩
  rw [hn2] at HR HX ⊢
  have HN2 := Lib.hid hn2
  clear hn2
  generalize rs.length = n at *
  generalize bs.length = n1 at *
  have R0 := Slots.new (Below.refl _ ((w.alloc (.cells #[.slice A n c] 47)).alloc (.cells #[.slice none 0 0, .slice none 0 0, .slice none 0 0] 63))) (g := w.heap.size + 1) (by simp)
  have hb0 := below_alloc2 w (.cells #[.slice A n c] 47) (.cells #[.slice none 0 0, .slice none 0 0, .slice none 0 0] 63)
  cases ok
  · simp only [Bool.false_eq_true, if_false]
    clear HX HCR
    go_enter Tryz.func39, Tryz.ntmps39
    go_wp2_with fail
    generalize (w.alloc (.cells #[.slice A n c] 47)).alloc (.cells #[.slice none 0 0, .slice none 0 0, .slice none 0 0] 63) = w0 at *
    refine (HR.out _ hb0).mono ?_
    intro e w1 hp
    obtain ⟨v1, ps1, rfl, hv1, ha1, hb1⟩ := hp
    replace R0 := R0.later hb1
    obtain ⟨q0, q1, q2, z0, z1, z2⟩ := R0.c3
    have hb := below3 (below_trans hb0 hb1) (show w.heap.size ≤ w.heap.size + 1 by omega) (.slice none 0 0) (.slice none 0 0) (.slice none 0 0)
    clear hv1 ha1 R0
    go_wp2
    exact bodyPost_ret (v := .tuple #[.agg #[.slice none 0 0, .slice none 0 0, .slice none 0 0], .bool false]) (by simp [results, Tryz.results39, go_sem, q0, q1, q2]) rfl (SPost.zero hb)
  · simp only [if_true]
    go_enter Tryz.func39, Tryz.ntmps39
    go_wp2_with fail
    generalize (w.alloc (.cells #[.slice A n c] 47)).alloc (.cells #[.slice none 0 0, .slice none 0 0, .slice none 0 0] 63) = w0 at *
    have hz0 := R0.1
    refine (HR.out _ hb0).mono ?_
    intro e w1 hp
    obtain ⟨v1, ps1, rfl, hv1, ha1, hb1⟩ := hp
    obtain ⟨A3, c3, rfl, hr⟩ := VZ.mk' hv1 ha1
    replace R0 := R0.later hb1
    have hz1 := hb1.size
    replace hb0 := below_trans hb0 hb1
    clear hv1 ha1 hb1
    go_wp2_with fail
    refine (HX.out _ hb0).mono ?_
    intro e w2 hp
    obtain ⟨A4, c4, rfl, hx, hb2⟩ := hp.vz
    rw [HN2.out]
    rw [HN2.out] at hx
    replace R0 := R0.later hb2
    have hz2 := hb2.size
    replace hb0 := below_trans hb0 hb2
    replace hr := hr.later hb2
    clear hb2 hp
    go_wp2_with fail
    refine (HCR.out _ _ _ hr.reads).mono ?_
    intro e w3 hp
    obtain ⟨A5, c5, rfl, hq, hb3⟩ := hp.vz
    replace R0 := R0.later hb3
    have hz3 := hb3.size
    replace hb0 := below_trans hb0 hb3
    replace hr := hr.later hb3
    replace hx := hx.later hb3
    clear hb3 hp
    obtain ⟨q0, q1, q2, z0, z1, z2⟩ := R0.c3
    have hb := below3 hb0 (show w.heap.size ≤ w.heap.size + 1 by omega) (.slice A4 n2 c4) (.slice A3 R.length c3) (.slice A5 R.length c5)
    have fx := hx.far3 (g := w.heap.size + 1) (by omega) (.slice A4 n2 c4) (.slice A3 R.length c3) (.slice A5 R.length c5)
    have fr := hr.far3 (g := w.heap.size + 1) (by omega) (.slice A4 n2 c4) (.slice A3 R.length c3) (.slice A5 R.length c5)
    have fq := hq.far3 (g := w.heap.size + 1) (by omega) (.slice A4 n2 c4) (.slice A3 R.length c3) (.slice A5 R.length c5)
    clear hx hr hq R0
    go_wp2
    exact bodyPost_ret (v := .tuple #[.agg #[.slice A4 n2 c4, .slice A3 R.length c3, .slice A5 R.length c5], .bool true]) (by simp [results, Tryz.results39, go_sem, q0, q1, q2]) rfl
      (SPost.of3 (d := ⟨xs, R, R⟩) fx fr fq hb ⟨by omega, by simp; omega⟩ ⟨by omega, by simp; omega⟩ ⟨by omega, by simp⟩ (.inr (by omega)) (.inl (by omega)) (.inl (by omega)))

set_option maxRecDepth 100000 in
set_option maxHeartbeats 1600000 in
theorem sStartCg (rs : List RowD) (bs xs : List RatD) (u v1 v2 : Value) (w : World) (hu : MatV w u rs) (h1 : VecV w v1 bs) (h2 : VecV w v2 xs) (hf : MFew rs) (hg : Few bs) (hh : Few xs) :
    Calls Tryz.prog 38 #[u, v1, v2] w (SPost w (startIt rs bs xs) (.bool (startOk rs bs xs))) := by
  have HR := Lib.hid (fun W (hW : Below w.heap.size w W) => sResidualOf rs bs xs u v1 v2 W (hu.later hW) (h1.later hW) (h2.later hW) hf hg hh)
  have HU := Lib.hid (fun W (hW : Below w.heap.size w W) => hu.later hW)
  obtain ⟨A, c, rfl, _, _⟩ := hu
  obtain ⟨A1, c1, rfl, l1, k1⟩ := h1
  obtain ⟨A2, c2, rfl, l2, k2⟩ := h2
  have hn1 := hg.1
  have HX := Lib.hid (fun W (hW : Below w.heap.size w W) => sCopyVec xs xs.length c2 rfl hh A2 W (k2.later hW))
  have HCR := Lib.hid (fun W C d (hc : VI W C (resid rs bs xs)) => sCopyVec (resid rs bs xs) (resid rs bs xs).length d rfl (resid_few hf hg hh) C W hc)
  have HA := fun W hW => sFits rs bs _ A1 bs.length c1 rfl W (HU.out W hW) (k1.later hW) hf hg
  have HB := fun W hW => sFits rs xs _ A2 xs.length c2 rfl W (HU.out W hW) (k2.later hW) hf hh
  have hlen : (resid rs bs xs).length ≤ 1048576 := (resid_few hf hg hh).1
  have hl1 := fun (h : fitsB rs [bs, xs] = true) (hv : vok (resB rs bs xs) = true) => (show (resid rs bs xs).length = bs.length by unfold resid vFull; rw [if_pos h, if_pos hv]; exact comb_len _ _ _ _)
  have hl0 := fun (h : fitsB rs [bs, xs] = true) (hv : vok (resB rs bs xs) = false) => (show (resid rs bs xs).length = 0 ∧ 0 < bs.length by
    unfold resid vFull
    rw [if_pos h, hv]
    refine ⟨rfl, ?_⟩
    obtain ⟨j, hj, _⟩ := vok_ex hv
    rw [show (resB rs bs xs).length = bs.length from comb_len _ _ _ _] at hj
    omega)
  unfold startIt startOk residOk
  generalize resid rs bs xs = R at *
  generalize vok (resB rs bs xs) = bv at *
  rw [fitsS] at hl1 hl0 ⊢
  generalize (mOk rs && (decide ((bs.length : Int) = (rs.length : Int)) && vok bs)) = ba at *
  generalize (mOk rs && (decide ((xs.length : Int) = (rs.length : Int)) && vok xs)) = bb at *
  clear hf hg hh k1 k2 l1 l2 HU
  obtain ⟨n2, hn2⟩ : ∃ n, xs.length = n := ⟨_, rfl⟩
  rw [hn2] at HR HX HB ⊢
  have HN2 := Lib.hid hn2
  clear hn2
  generalize rs.length = n at *
  generalize bs.length = n1 at *
  have R0 := Slots.new (Below.refl _ ((w.alloc (.cells #[.slice A n c] 47)).alloc (.cells #[.slice none 0 0, .slice none 0 0, .slice none 0 0] 63))) (g := w.heap.size + 1) (by simp)
  have S0 := Slots.new (below_step (Below.refl _ ((w.alloc (.cells #[.slice A n c] 47)).alloc (.cells #[.slice none 0 0, .slice none 0 0, .slice none 0 0] 63)))) (g := w.heap.size) rfl
  have hb0 := below_alloc2 w (.cells #[.slice A n c] 47) (.cells #[.slice none 0 0, .slice none 0 0, .slice none 0 0] 63)
  have hz0 := R0.1
  cases ba
  · simp only [Bool.false_and, Bool.false_eq_true, if_false]
    replace HA := Lib.hid HA
    clear HX HCR HB hl1 hl0
    go_enter Tryz.func38, Tryz.ntmps38
    go_wp2_with fail
    generalize (w.alloc (.cells #[.slice A n c] 47)).alloc (.cells #[.slice none 0 0, .slice none 0 0, .slice none 0 0] 63) = w0 at *
    refine (HR.out _ hb0).mono ?_
    intro e w1 hp
    obtain ⟨A3, c3, rfl, hr, hb1⟩ := hp.vz
    replace R0 := R0.later hb1
    replace S0 := S0.later hb1
    replace hb0 := below_trans hb0 hb1
    obtain ⟨a0, _⟩ := S0.c1
    clear hr hb1 hp
    go_wp2_with fail
    refine (HA.out _ hb0).mono ?_
    rintro e w2 ⟨rfl, hb1⟩
    replace R0 := R0.later hb1
    replace hb0 := below_trans hb0 hb1
    obtain ⟨q0, q1, q2, z0, z1, z2⟩ := R0.c3
    have hb := below3 hb0 (show w.heap.size ≤ w.heap.size + 1 by omega) (.slice none 0 0) (.slice none 0 0) (.slice none 0 0)
    clear R0 S0 a0
    go_wp2
    exact bodyPost_ret (v := .tuple #[.agg #[.slice none 0 0, .slice none 0 0, .slice none 0 0], .bool false]) (by simp [results, Tryz.results38, go_sem, q0, q1, q2]) rfl (SPost.zero hb)
  cases bb
  · simp only [Bool.and_false, Bool.false_and, Bool.false_eq_true, if_false]
    replace HA := Lib.hid HA
    replace HB := Lib.hid HB
    clear HX HCR hl1 hl0
    go_enter Tryz.func38, Tryz.ntmps38
    go_wp2_with fail
    generalize (w.alloc (.cells #[.slice A n c] 47)).alloc (.cells #[.slice none 0 0, .slice none 0 0, .slice none 0 0] 63) = w0 at *
    refine (HR.out _ hb0).mono ?_
    intro e w1 hp
    obtain ⟨A3, c3, rfl, hr, hb1⟩ := hp.vz
    replace R0 := R0.later hb1
    replace S0 := S0.later hb1
    replace hb0 := below_trans hb0 hb1
    obtain ⟨a0, _⟩ := S0.c1
    clear hr hb1 hp
    go_wp2_with fail
    refine (HA.out _ hb0).mono ?_
    rintro e w2 ⟨rfl, hb1⟩
    replace R0 := R0.later hb1
    replace S0 := S0.later hb1
    replace hb0 := below_trans hb0 hb1
    clear a0 hb1
    obtain ⟨a0, _⟩ := S0.c1
    go_wp2_with fail
    refine (HB.out _ hb0).mono ?_
    rintro e w3 ⟨rfl, hb1⟩
    replace R0 := R0.later hb1
    replace hb0 := below_trans hb0 hb1
    obtain ⟨q0, q1, q2, z0, z1, z2⟩ := R0.c3
    have hb := below3 hb0 (show w.heap.size ≤ w.heap.size + 1 by omega) (.slice none 0 0) (.slice none 0 0) (.slice none 0 0)
    clear R0 S0 a0
    go_wp2
    exact bodyPost_ret (v := .tuple #[.agg #[.slice none 0 0, .slice none 0 0, .slice none 0 0], .bool false]) (by simp [results, Tryz.results38, go_sem, q0, q1, q2]) rfl (SPost.zero hb)
  · simp only [Bool.and_self, Bool.true_and]
    replace HA := Lib.hid HA
    replace HB := Lib.hid HB
    cases bv
    · simp only [Bool.false_eq_true, if_false]
      obtain ⟨hR0, hpos⟩ := hl0 (by trivial) (by trivial)
      clear HX HCR hl1 hl0
      rw [show R = [] from List.eq_nil_of_length_eq_zero hR0] at HR
      clear hR0
      have hne : ((0 : Int) != (n1 : Int)) = true := by simp; omega
      go_enter Tryz.func38, Tryz.ntmps38
      go_wp2_with fail
      generalize (w.alloc (.cells #[.slice A n c] 47)).alloc (.cells #[.slice none 0 0, .slice none 0 0, .slice none 0 0] 63) = w0 at *
      refine (HR.out _ hb0).mono ?_
      intro e w1 hp
      obtain ⟨A3, c3, rfl, hr, hb1⟩ := hp.vz
      replace R0 := R0.later hb1
      replace S0 := S0.later hb1
      replace hb0 := below_trans hb0 hb1
      obtain ⟨a0, _⟩ := S0.c1
      clear hr hb1 hp
      go_wp2_with fail
      refine (HA.out _ hb0).mono ?_
      rintro e w2 ⟨rfl, hb1⟩
      replace R0 := R0.later hb1
      replace S0 := S0.later hb1
      replace hb0 := below_trans hb0 hb1
      clear a0 hb1
      obtain ⟨a0, _⟩ := S0.c1
      go_wp2_with fail
      refine (HB.out _ hb0).mono ?_
      rintro e w3 ⟨rfl, hb1⟩
      replace R0 := R0.later hb1
      replace hb0 := below_trans hb0 hb1
      obtain ⟨q0, q1, q2, z0, z1, z2⟩ := R0.c3
      have hb := below3 hb0 (show w.heap.size ≤ w.heap.size + 1 by omega) (.slice none 0 0) (.slice none 0 0) (.slice none 0 0)
      clear R0 S0 a0
      go_wp2
      exact bodyPost_ret (v := .tuple #[.agg #[.slice none 0 0, .slice none 0 0, .slice none 0 0], .bool false]) (by simp [results, Tryz.results38, go_sem, q0, q1, q2]) rfl (SPost.zero hb)
    · simp only [if_true]
      have HRL := Lib.hid (hl1 (by trivial) (by trivial))
      have hee : ((n1 : Int) != (n1 : Int)) = false := by simp
      clear hl1 hl0 hlen
      go_enter Tryz.func38, Tryz.ntmps38
      go_wp2_with fail
      generalize (w.alloc (.cells #[.slice A n c] 47)).alloc (.cells #[.slice none 0 0, .slice none 0 0, .slice none 0 0] 63) = w0 at *
      refine (HR.out _ hb0).mono ?_
      intro e w1 hp
      obtain ⟨A3, c3, rfl, hr, hb1⟩ := hp.vz
      rw [HRL.out]
      rw [HRL.out] at hr
      replace R0 := R0.later hb1
      replace S0 := S0.later hb1
      have hz1 := hb1.size
      replace hb0 := below_trans hb0 hb1
      obtain ⟨a0, _⟩ := S0.c1
      clear hb1 hp
      go_wp2_with fail
      refine (HA.out _ hb0).mono ?_
      rintro e w2 ⟨rfl, hb1⟩
      replace R0 := R0.later hb1
      replace S0 := S0.later hb1
      replace hr := hr.later hb1
      have hz2 := hb1.size
      replace hb0 := below_trans hb0 hb1
      clear a0 hb1
      obtain ⟨a0, _⟩ := S0.c1
      go_wp2_with fail
      refine (HB.out _ hb0).mono ?_
      rintro e w3 ⟨rfl, hb1⟩
      replace R0 := R0.later hb1
      replace hr := hr.later hb1
      have hz3 := hb1.size
      replace hb0 := below_trans hb0 hb1
      clear a0 hb1 S0
      go_wp2_with fail
      refine (HX.out _ hb0).mono ?_
      intro e w4 hp
      obtain ⟨A4, c4, rfl, hx, hb2⟩ := hp.vz
      rw [HN2.out]
      rw [HN2.out] at hx
      replace R0 := R0.later hb2
      have hz4 := hb2.size
      replace hb0 := below_trans hb0 hb2
      replace hr := hr.later hb2
      clear hb2 hp
      have HRR := Lib.hid hr.reads
      go_wp2_with fail
      have HCR2 := HCR.out w4 A3 c3 HRR.out
      rw [HRL.out] at HCR2
      refine HCR2.mono ?_
      intro e w5 hp
      obtain ⟨A5, c5, rfl, hq, hb3⟩ := hp.vz
      rw [HRL.out]
      rw [HRL.out] at hq
      replace R0 := R0.later hb3
      have hz5 := hb3.size
      replace hb0 := below_trans hb0 hb3
      replace hr := hr.later hb3
      replace hx := hx.later hb3
      clear hb3 hp HCR2
      obtain ⟨q0, q1, q2, z0, z1, z2⟩ := R0.c3
      have hb := below3 hb0 (show w.heap.size ≤ w.heap.size + 1 by omega) (.slice A4 n2 c4) (.slice A3 n1 c3) (.slice A5 n1 c5)
      have fx := hx.far3 (g := w.heap.size + 1) (by omega) (.slice A4 n2 c4) (.slice A3 n1 c3) (.slice A5 n1 c5)
      have fr := hr.far3 (g := w.heap.size + 1) (by omega) (.slice A4 n2 c4) (.slice A3 n1 c3) (.slice A5 n1 c5)
      have fq := hq.far3 (g := w.heap.size + 1) (by omega) (.slice A4 n2 c4) (.slice A3 n1 c3) (.slice A5 n1 c5)
      clear hx hr hq R0
      go_wp2
      exact bodyPost_ret (v := .tuple #[.agg #[.slice A4 n2 c4, .slice A3 n1 c3, .slice A5 n1 c5], .bool true]) (by simp [results, Tryz.results38, go_sem, q0, q1, q2]) rfl
        (SPost.of3 (d := ⟨xs, R, R⟩) fx fr fq hb ⟨by omega, by simp; omega⟩ ⟨by omega, by simp; omega⟩ ⟨by omega, by simp⟩ (.inr (by omega)) (.inl (by omega)) (.inl (by omega)))
end Go.Proofs.YtkmmdajlbkbnmaaGreat
