/-
  Shared texts (M11).
-/
import Derived.Test.YtlpomcihkjiokaaGreatM3
import Derived.Test.YtlpomcihkjiokaaGreatM10
import Derived.Test.YtlpomcihkjiokaaGreatM2
namespace Go.Proofs.YtlpomcihkjiokaaGreat
open Go.RowKit Go.Joins

theorem Slots.frame {S : Nat → Prop} {w w' : World} {g : Nat} {cs : List Value} (h : Slots w g cs) (hf : Frame S w w') (hs : ¬ S g) : Slots w' g cs :=
  ⟨Nat.lt_of_lt_of_le h.1 hf.size, fun i hi => by rw [hf.cell h.1 hs]; exact h.2.1 i hi, fun i => by rw [hf.frozen h.1 hs]; exact h.2.2 i⟩

/-- A fraction between lo and hi, its parts apart. -/
def RS (w : World) (lo hi : Nat) (v : Value) (r : RatD) : Prop := ∃ va vb, v = .agg #[.bool r.neg, va, vb] ∧ PO w lo hi va r.mag ∧ PO w lo hi vb r.den ∧ Apart va vb
theorem RatP.rs {w : World} {base : Nat} {v : Value} {r : RatD} (h : RatP w base v r) : RS w base w.heap.size v r := by
  obtain ⟨va, vb, rfl, h1, h2, h3⟩ := h
  exact ⟨va, vb, rfl, h1.io, h2.io, h3⟩
theorem RS.frame {S : Nat → Prop} {w w' : World} {lo hi : Nat} {v : Value} {r : RatD} (h : RS w lo hi v r) (hf : Frame S w w') (hs : ∀ b, lo ≤ b → b < hi → ¬ S b) : RS w' lo hi v r := by
  obtain ⟨va, vb, rfl, h1, h2, h3⟩ := h
  exact ⟨va, vb, rfl, h1.frame hf (fun b hb => hs b (h1.2 b hb).1 (h1.2 b hb).2), h2.frame hf (fun b hb => hs b (h2.2 b hb).1 (h2.2 b hb).2), h3⟩
theorem RS.later {w w' : World} {lo hi : Nat} {v : Value} {r : RatD} (h : RS w lo hi v r) (hb : Below w.heap.size w w') : RS w' lo hi v r :=
  h.frame (S := fun _ => False) (Frame.of_below hb) (fun _ _ _ h => h)
theorem RS.reads {w : World} {lo hi : Nat} {v : Value} {r : RatD} (h : RS w lo hi v r) : RatV w v r := by
  obtain ⟨va, vb, rfl, h1, h2, h3⟩ := h
  exact RatP.reads ⟨va, vb, rfl, h1.1, h2.1, h3⟩
theorem RS.form {w : World} {lo hi : Nat} {v : Value} {r : RatD} (h : RS w lo hi v r) : ∃ A n c B m d, v = .agg #[.bool r.neg, .slice A n c, .slice B m d] := by
  obtain ⟨va, vb, rfl, h1, h2, _⟩ := h
  obtain ⟨A, c, rfl, _⟩ := h1.form
  obtain ⟨B, d, rfl, _⟩ := h2.form
  exact ⟨A, _, c, B, _, d, rfl⟩

/-- What a fraction takes behind a mark. -/
def mkR (r : RatD) (k : Int) : RatD := ⟨r.neg, mkI r.mag.length k, mkI r.den.length (k + r.mag.length)⟩
theorem sum_le {α : Type} (f : α → Nat) (B : Nat) : ∀ l : List α, (∀ x ∈ l, f x ≤ B) → (l.map f).sum ≤ l.length * B
  | [], _ => by simp
  | x :: l, h => by
    have h1 := h x (by simp)
    have h2 := sum_le f B l (fun y hy => h y (by simp [hy]))
    simp only [List.map_cons, List.sum_cons, List.length_cons, Nat.add_mul]
    omega
theorem mem_getD {α : Type} {d : α} {l : List α} {x : α} (h : x ∈ l) : ∃ k, k < l.length ∧ l.getD k d = x := by
  obtain ⟨k, hk, e⟩ := List.mem_iff_getElem.1 h
  exact ⟨k, hk, by simpa [hk] using e⟩
theorem cntV_few {rs : List RatD} (h : Few rs) : cntV rs ≤ 1048576 * 2097153 := by
  refine Nat.le_trans (sum_le cntR 2097153 rs (fun x hx => ?_)) (Nat.mul_le_mul_right _ h.1)
  obtain ⟨k, hk, rfl⟩ := mem_getD (d := zR) hx
  obtain ⟨h1, h2⟩ := h.2 k hk
  unfold cntR
  omega
theorem cntM_few {rs : List RowD} (h : MFew rs) : cntM rs ≤ 1048576 * (1048576 + 1048576 * 2097153) := by
  refine Nat.le_trans (sum_le cntRow (1048576 + 1048576 * 2097153) rs (fun x hx => ?_)) (Nat.mul_le_mul_right _ h.1)
  obtain ⟨k, hk, rfl⟩ := mem_getD (d := zRow) hx
  obtain ⟨h1, h2⟩ := h.2 k hk
  have := cntV_few h2
  unfold cntRow
  omega
/-- A matrix of the call's own between lo and hi. -/
def MX (w : World) (lo hi : Nat) (v : Value) (rs : List RowD) : Prop := ∃ qs, MS w lo hi v qs rs
theorem MX.later {w w' : World} {lo hi : Nat} {v : Value} {rs : List RowD} (h : MX w lo hi v rs) (hb : Below w.heap.size w w') : MX w' lo hi v rs := by
  obtain ⟨qs, h⟩ := h
  exact ⟨qs, h.later hb⟩
theorem MX.reads {w : World} {lo hi : Nat} {v : Value} {rs : List RowD} (h : MX w lo hi v rs) : MatV w (.agg #[v]) rs := by
  obtain ⟨qs, h⟩ := h
  obtain ⟨A, c, rfl, h1, h2⟩ := h.form
  exact ⟨A, c, rfl, ⟨h1, h2⟩, h.reads⟩
theorem MatO.mx {w : World} {base : Nat} {v : Value} {rs : List RowD} (h : MatO w base v rs) : ∃ A c, v = .agg #[.slice A rs.length c] ∧ MX w base w.heap.size (.slice A rs.length c) rs := by
  obtain ⟨va, rfl, h⟩ := h
  obtain ⟨A, c, rfl, _⟩ := h.form
  exact ⟨A, c, rfl, h.parts⟩
theorem markMS (rs : List RowD) (k : Int) (hk : 0 ≤ k) (hk1 : k ≤ 1048576) (hfew : MFew rs) (lo hi : Nat) (v : Value) (w : World) (h : MX w lo hi v rs) :
    Calls Tryz.prog 30 #[.agg #[v], .int .i64 k] w fun e w' => e = .returned (.int .i64 (k + (cntM rs : Nat))) ∧ Frame (fun b => lo ≤ b ∧ b < hi) w w' := by
  obtain ⟨qs, h⟩ := h
  have hc := cntM_few hfew
  refine (markMatrix rs k hk (by omega) hfew lo hi v qs w h).mono ?_
  rintro e w' ⟨he, hf, _⟩
  exact ⟨he, hf.mono (fun b hb => h.foot hb)⟩
/-- A vector of the call's own between lo and hi. -/
def VX (w : World) (lo hi : Nat) (v : Value) (rs : List RatD) : Prop := ∃ ps, VS w lo hi v ps rs
/-- The same, its parts apart. -/
def VZ (w : World) (lo hi : Nat) (v : Value) (rs : List RatD) : Prop := ∃ ps, VS w lo hi v ps rs ∧ Aps ps
theorem VX.later {w w' : World} {lo hi : Nat} {v : Value} {rs : List RatD} (h : VX w lo hi v rs) (hb : Below w.heap.size w w') : VX w' lo hi v rs := by
  obtain ⟨ps, h⟩ := h
  exact ⟨ps, h.later hb⟩
theorem VZ.later {w w' : World} {lo hi : Nat} {v : Value} {rs : List RatD} (h : VZ w lo hi v rs) (hb : Below w.heap.size w w') : VZ w' lo hi v rs := by
  obtain ⟨ps, h, ha⟩ := h
  exact ⟨ps, h.later hb, ha⟩
theorem VX.frame {S : Nat → Prop} {w w' : World} {lo hi : Nat} {v : Value} {rs : List RatD} (h : VX w lo hi v rs) (hf : Frame S w w') (hs : ∀ b, lo ≤ b → b < hi → ¬ S b) : VX w' lo hi v rs := by
  obtain ⟨ps, h⟩ := h
  exact ⟨ps, h.frame hf (fun b hb => hs b (h.foot hb).1 (h.foot hb).2)⟩
theorem VZ.frame {S : Nat → Prop} {w w' : World} {lo hi : Nat} {v : Value} {rs : List RatD} (h : VZ w lo hi v rs) (hf : Frame S w w') (hs : ∀ b, lo ≤ b → b < hi → ¬ S b) : VZ w' lo hi v rs := by
  obtain ⟨ps, h, ha⟩ := h
  exact ⟨ps, h.frame hf (fun b hb => hs b (h.foot hb).1 (h.foot hb).2), ha⟩
theorem VX.reads {w : World} {lo hi n c : Nat} {A : Option Addr} {rs : List RatD} (h : VX w lo hi (.slice A n c) rs) : VI w A rs := by
  obtain ⟨ps, h⟩ := h
  exact h.reads
theorem VZ.reads {w : World} {lo hi n c : Nat} {A : Option Addr} {rs : List RatD} (h : VZ w lo hi (.slice A n c) rs) : VI w A rs := by
  obtain ⟨ps, h, _⟩ := h
  exact h.reads
theorem VO.vx {w : World} {lo : Nat} {v : Value} {rs : List RatD} (h : VO w lo v rs) : ∃ A c, v = .slice A rs.length c ∧ VX w lo w.heap.size (.slice A rs.length c) rs := by
  obtain ⟨ps, h⟩ := h.parts
  obtain ⟨A, c, rfl, _⟩ := h.form
  exact ⟨A, c, rfl, ps, h⟩
theorem VZ.mk' {w : World} {lo hi : Nat} {v : Value} {ps : List (Value × Value)} {rs : List RatD} (h : VS w lo hi v ps rs) (ha : Aps ps) : ∃ A c, v = .slice A rs.length c ∧ VZ w lo hi (.slice A rs.length c) rs := by
  obtain ⟨A, c, rfl, _⟩ := h.form
  exact ⟨A, c, rfl, ps, h, ha⟩
theorem markVX (rs : List RatD) (k : Int) (hk : 0 ≤ k) (hk1 : k ≤ 4000000000000000000) (hfew : Few rs) (lo hi : Nat) (v : Value) (w : World) (h : VX w lo hi v rs) :
    Calls Tryz.prog 19 #[v, .int .i64 k] w fun e w' => e = .returned (.int .i64 (k + (cntV rs : Nat))) ∧ Frame (fun b => lo ≤ b ∧ b < hi) w w' := by
  obtain ⟨ps, h⟩ := h
  have hc := cntV_few hfew
  refine (markRatS rs k hk (by omega) hfew lo hi v ps w h).mono ?_
  rintro e w' ⟨he, hf, _⟩
  exact ⟨he, hf.mono (fun b hb => h.foot hb)⟩
theorem markVZ (rs : List RatD) (k : Int) (hk : 0 ≤ k) (hk1 : k ≤ 4000000000000000000) (hfew : Few rs) (lo hi : Nat) (v : Value) (w : World) (h : VZ w lo hi v rs) :
    Calls Tryz.prog 19 #[v, .int .i64 k] w fun e w' => e = .returned (.int .i64 (k + (cntV rs : Nat))) ∧ Frame (fun b => lo ≤ b ∧ b < hi) w w' ∧ VZ w' lo hi v (mkV rs k) := by
  obtain ⟨ps, h, ha⟩ := h
  have hc := cntV_few hfew
  refine (markRatS rs k hk (by omega) hfew lo hi v ps w h).mono ?_
  rintro e w' ⟨he, hf, _, hm⟩
  exact ⟨he, hf.mono (fun b hb => h.foot hb), ps, hm ha, ha⟩
theorem heldVZ (rs : List RatD) (n c : Nat) (hn : rs.length = n) (k : Int) (hk : 0 ≤ k) (hk1 : k ≤ 4000000000000000000) (hfew : Few rs) (lo hi : Nat) (A : Option Addr) (w : World) (h : VZ w lo hi (.slice A n c) (mkV rs k)) :
    Calls Tryz.prog 20 #[.slice A n c, .int .i64 k] w fun e w' => e = .returned (.int .i64 (k + (cntV rs : Nat))) ∧ Below w.heap.size w w' :=
  heldRatS rs n c hn k hk (by have := cntV_few hfew; omega) hfew A w h.reads
theorem vecSelf (rs : List RatD) (n c m d : Nat) (hn : rs.length = n) (hm : rs.length = m) (hf : Few rs) (A B : Option Addr) (w : World) (ha : VI w A rs) (hb : VI w B rs) :
    Calls Tryz.prog 16 #[.slice A n c, .slice B m d] w fun e w' => e = .returned (.bool true) ∧ Below w.heap.size w w' := by
  have h := eqRatS rs rs n m c d hn hm hf hf A B w ha hb
  rwa [vsame_refl] at h
end Go.Proofs.YtlpomcihkjiokaaGreat

namespace Go.Proofs.YtlpomcihkjiokaaGreat
open Go.RowKit Go.Joins

def dotK (us vs : List RatD) : Nat → RatD
  | 0 => FE.rint 0
  | k + 1 => FE.radd (dotK us vs k) (FE.rmul (us.getD k zR) (vs.getD k zR))
def inner (us vs : List RatD) : RatD := if us.length = vs.length then dotK us vs us.length else zR
theorem dotK_res (us vs : List RatD) : ∀ k, FE.Res (dotK us vs k)
  | 0 => .inr rint_zero_ok
  | _ + 1 => FE.radd_res _ _
theorem Slots.below {w w' : World} {g B : Nat} {cs : List Value} (h : Slots w g cs) (hb : Below B w w') (hg : g < B) : Slots w' g cs :=
  h.frame (S := fun b => B ≤ b) ⟨hb.os, hb.tape, hb.output, hb.size, fun b _ hs => hb.block b (by omega)⟩ (by omega)
theorem Slots.v3 {w : World} {g : Nat} {a b c : Value} (h : Slots w g [a, b, c]) : w.cell? ⟨g, 0, none⟩ = some a ∧ w.cell? ⟨g, 1, none⟩ = some b ∧ w.cell? ⟨g, 2, none⟩ = some c := ⟨h.c3.1, h.c3.2.1, h.c3.2.2.1⟩
/-- What a call that makes a fraction ends in. -/
def RPost (w : World) (r : RatD) (e : Ending) (w' : World) : Prop := ∃ v', e = .returned v' ∧ RatP w' w.heap.size v' r ∧ Below w.heap.size w w'

set_option maxRecDepth 100000 in
set_option maxHeartbeats 3200000 in
theorem iInner (us vs : List RatD) (n m c d : Nat) (hn : us.length = n) (hm : vs.length = m) (hf : Few us) (hg : Few vs) (A B : Option Addr) (w : World) (ha : VI w A us) (hb : VI w B vs) :
    Calls Tryz.prog 56 #[.slice A n c, .slice B m d] w (RPost w (inner us vs)) := by
  have hn1 : n ≤ 1048576 := hn ▸ hf.1
  have hm1 : m ≤ 1048576 := hm ▸ hg.1
  have R0 := Slots.new (Below.refl _ (w.alloc (.cells #[.bool false, .slice none 0 0, .slice none 0 0] 57))) (g := w.heap.size) rfl
  have hb0 := below_alloc1 w (.cells #[.bool false, .slice none 0 0, .slice none 0 0] 57)
  by_cases hnm : n = m
  · subst hnm
    have hin : inner us vs = dotK us vs n := by unfold inner; rw [if_pos (by omega), hn]
    rw [hin]
    have h0 : decide ((n : Int) = (n : Int)) = true := by simp
    have HF := Lib.hid hf.2
    have HG := Lib.hid hg.2
    have HN := Lib.hid hn
    have HM := Lib.hid hm
    have HA := Lib.hid ha
    have HB := Lib.hid hb
    clear hn hm hf hg ha hb hin
    go_enter Tryz.func56, Tryz.ntmps56
    go_wp2_with fail
    generalize w.alloc (.cells #[.bool false, .slice none 0 0, .slice none 0 0] 57) = w1 at *
    refine (iRatFromInt 0 (by decide) _).mono ?_
    rintro e w4 ⟨v4, rfl, hp4, hb4⟩
    replace hp4 := hp4.mono (base' := w.heap.size + 1) R0.1
    replace R0 := R0.later hb4
    have hb4' := below_trans hb0 hb4
    obtain ⟨As, nS, cs, Bs, mS, ds, rfl⟩ := hp4.shape
    have al5 := below_alloc1 w4 (.cells #[.bool (FE.rint 0).neg, .slice As nS cs, .slice Bs mS ds] 57)
    have S5 := Slots.new (Below.refl _ (w4.alloc (.cells #[.bool (FE.rint 0).neg, .slice As nS cs, .slice Bs mS ds] 57))) (g := w4.heap.size) rfl
    have hgr : w.heap.size < w4.heap.size := R0.1
    replace R0 := R0.later al5
    replace hp4 := hp4.later al5
    have hb5 := below_trans hb4' al5
    clear hb4' hb4 hb0
    go_wp2_with fail
    clear al5
    generalize w4.alloc (.cells #[.bool (FE.rint 0).neg, .slice As nS cs, .slice Bs mS ds] 57) = wq at *
    generalize w4.heap.size = g5 at *
    have hp4' : RatP wq (w.heap.size + 1) (.agg #[.bool (dotK us vs 0).neg, .slice As nS cs, .slice Bs mS ds]) (dotK us vs 0) := hp4
    have S5' : Slots wq g5 [.bool (dotK us vs 0).neg, .slice As nS cs, .slice Bs mS ds] := S5
    clear hp4 S5
    go_loopw [17] (fun z wp => ∃ k : Nat, k ≤ n ∧ z = .int .i64 k ∧ Below g5 wq wp ∧ ∃ As nS cs Bs mS ds, Slots wp g5 [.bool (dotK us vs k).neg, .slice As nS cs, .slice Bs mS ds] ∧ RatP wp (w.heap.size + 1) (.agg #[.bool (dotK us vs k).neg, .slice As nS cs, .slice Bs mS ds]) (dotK us vs k)) (fun z _ => n - (intOf z).toNat)
    case atStart => exact ⟨0, Nat.zero_le _, rfl, Below.refl _ _, _, _, _, _, _, _, S5', hp4'⟩
    case round =>
      clear hp4' S5'
      obtain ⟨k, hk, rfl, hbw, Au, nU, cu, Bu, mU, du, S5, hsum⟩ := hrel
      have hww : Below w.heap.size w wr := hb5.trans (hbw.mono (by omega))
      have hlt5 := S5.1
      by_cases hkn : k = n
      · subst hkn
        have hlf : decide ((k : Int) < (k : Int)) = false := by simp
        have R1 := R0.below hbw hgr
        generalize dotK us vs k = S at *
        obtain ⟨s0, s1, s2, _, _, _⟩ := S5.c3
        obtain ⟨b0, b1, b2, z0, z1, z2⟩ := R1.c3
        have hb' := below3 hww (Nat.le_refl _) (.bool S.neg) (.slice Au nU cu) (.slice Bu mU du)
        have f6 := (hsum.far3 (g := w.heap.size) (Nat.lt_succ_self _) (.bool S.neg) (.slice Au nU cu) (.slice Bu mU du)).mono (base' := w.heap.size) (by omega)
        clear R0 R1 S5 hsum
        go_wp2
        exact bodyPost_ret (v := .agg #[.bool S.neg, .slice Au nU cu, .slice Bu mU du]) (by simp [results, Tryz.results56, go_sem, b0, b1, b2]) rfl ⟨_, rfl, f6, hb'⟩
      · have hltk : (k : Int) < (n : Int) := by omega
        have hku : k < us.length := by rw [HN.out]; omega
        have hkv : k < vs.length := by rw [HM.out]; omega
        obtain ⟨b4, o4, rfl, hb4, hat4⟩ := HA.out.cells k hku
        have hat4' := RatAt.stays _ _ _ _ _ hb4 hat4 hww
        obtain ⟨b6, o6, rfl, hb6, hat6⟩ := HB.out.cells k hkv
        have hat6' := RatAt.stays _ _ _ _ _ hb6 hat6 hww
        obtain ⟨fv1, fv2⟩ := HF.out k hku
        obtain ⟨fu1, fu2⟩ := HG.out k hkv
        have HSK := Lib.hid (show dotK us vs (k + 1) = FE.radd (dotK us vs k) (FE.rmul (us.getD k zR) (vs.getD k zR)) from rfl)
        have HSS := Lib.hid (res_few (dotK_res us vs k))
        clear hku hkv hat4 hat6
        generalize us.getD k zR = y at *
        generalize vs.getD k zR = z at *
        have hmr := FE.rmul_res y z
        obtain ⟨S2, hS2⟩ : ∃ S2, dotK us vs (k + 1) = S2 := ⟨_, rfl⟩
        rw [hS2] at HSK
        have HS2 := Lib.hid hS2
        clear hS2
        generalize dotK us vs k = S at *
        obtain ⟨A5, c5, B5, d5, k0, k1, k2, hl5, q1, q2⟩ := hat4'
        obtain ⟨A7, c7, B7, d7, l0, l1', l2', hl7, q3, q4⟩ := hat6'
        have hb4g : b4 < g5 := by omega
        have hb6g : b6 < g5 := by omega
        have al7 := below_alloc1 wr (.cells #[.bool y.neg, .slice A5 y.mag.length c5, .slice B5 y.den.length d5] 57)
        have X7 := Slots.new (Below.refl _ (wr.alloc (.cells #[.bool y.neg, .slice A5 y.mag.length c5, .slice B5 y.den.length d5] 57))) (g := wr.heap.size) rfl
        have hbwW := Lib.hid (hbw.trans (al7.mono (by omega)))
        replace S5 := S5.later al7
        replace hsum := hsum.later al7
        replace l0 := cell_later (by omega) l0 al7
        replace l1' := cell_later (by omega) l1' al7
        replace l2' := cell_later (by omega) l2' al7
        have q1' := q1.later al7
        have q2' := q2.later al7
        have q3' := q3.later al7
        have q4' := q4.later al7
        clear q1 q2 q3 q4 hbw R0
        go_wp2_with fail
        clear k0 k1 k2 al7
        generalize wr.alloc (.cells #[.bool y.neg, .slice A5 y.mag.length c5, .slice B5 y.den.length d5] 57) = wb at *
        generalize wr.heap.size = g7 at *
        have KM := Lib.hid (fun W (hW : Below wb.heap.size wb W) => iRatMul y z (.agg #[.bool y.neg, .slice A5 y.mag.length c5, .slice B5 y.den.length d5]) (.agg #[.bool z.neg, .slice A7 z.mag.length c7, .slice B7 z.den.length d7]) W ⟨_, _, _, _, rfl, hl5, q1'.later hW, q2'.later hW⟩ ⟨_, _, _, _, rfl, hl7, q3'.later hW, q4'.later hW⟩ ⟨fv1, fv2⟩ ⟨fu1, fu2⟩)
        have KA := fun W (hW : Below wb.heap.size wb W) v (hv : RatV W v (FE.rmul y z)) => iRatAdd S (FE.rmul y z) _ v W (hsum.reads.later hW) hv HSS.out (res_few hmr)
        rw [← HSK.out] at KA
        replace KA := Lib.hid KA
        obtain ⟨s0, s1, s2, z0, z1, z2⟩ := S5.c3
        obtain ⟨x0, x1, x2, _, _, _⟩ := X7.c3
        have hx7 := X7.1
        have hs5 := S5.1
        have hwrs : Below wb.heap.size wb wb.drew := ⟨rfl, rfl, rfl, Nat.le_refl _, fun _ _ => rfl⟩
        have hwrs' : Below g5 wb wb.drew := ⟨rfl, rfl, rfl, Nat.le_refl _, fun _ _ => rfl⟩
        clear hl5 q1' q2' hl7 q3' q4' hmr hsum fv1 fv2 fu1 fu2 hww
        generalize FE.rmul y z = Y at *
        refine wp_region_held_drew (S := fun W => Below g5 wb W ∧ W.cell? ⟨g7, 0, none⟩ = some (.bool y.neg) ∧ W.cell? ⟨g7, 1, none⟩ = some (.slice A5 y.mag.length c5) ∧ W.cell? ⟨g7, 2, none⟩ = some (.slice B5 y.den.length d5)) (by kernel_rfl) ?_ (fun hHeld => ?_)
        · exact ⟨hwrs', x0, x1, x2⟩
        refine wpAnyH_take (i := 1) (v := ?_) rfl (by kernel_rfl) (by kernel_rfl) (by kernel_rfl) (fun _ _ _ h => h) (Or.inl ⟨by rfl, ?_⟩) (by assumption) ?_
        rotate_left
        · intro W hSw
          obtain ⟨hSw, e0, e1, e2⟩ : Below g5 wb W ∧ W.cell? ⟨g7, 0, none⟩ = some (.bool y.neg) ∧ W.cell? ⟨g7, 1, none⟩ = some (.slice A5 y.mag.length c5) ∧ W.cell? ⟨g7, 2, none⟩ = some (.slice B5 y.den.length d5) := hSw
          have f0 := (hSw.cell (p := ⟨b6, o6 + k * 3, none⟩) hb6g).trans l0
          have f1 := (hSw.cell (p := ⟨b6, o6 + k * 3 + 1, none⟩) hb6g).trans l1'
          have f2 := (hSw.cell (p := ⟨b6, o6 + k * 3 + 2, none⟩) hb6g).trans l2'
          go_simp
          try with_reducible rfl
        try simp only [Act.put, List.setIfInBounds_toArray]
        refine wpAnyH_take (i := 2) (v := ?_) rfl (by kernel_rfl) (by kernel_rfl) (by kernel_rfl) (fun _ _ _ h => h) (Or.inl ⟨by rfl, ?_⟩) (by assumption) ?_
        rotate_left
        · intro W hSw
          obtain ⟨hSw, e0, e1, e2⟩ : Below g5 wb W ∧ W.cell? ⟨g7, 0, none⟩ = some (.bool y.neg) ∧ W.cell? ⟨g7, 1, none⟩ = some (.slice A5 y.mag.length c5) ∧ W.cell? ⟨g7, 2, none⟩ = some (.slice B5 y.den.length d5) := hSw
          have f0 := (hSw.cell (p := ⟨b6, o6 + k * 3, none⟩) hb6g).trans l0
          have f1 := (hSw.cell (p := ⟨b6, o6 + k * 3 + 1, none⟩) hb6g).trans l1'
          have f2 := (hSw.cell (p := ⟨b6, o6 + k * 3 + 2, none⟩) hb6g).trans l2'
          go_simp
          try with_reducible rfl
        try simp only [Act.put]
        refine wpAnyH_take (i := 3) (v := ?_) rfl (by kernel_rfl) (by kernel_rfl) (by kernel_rfl) (fun _ _ _ h => h) (Or.inl ⟨by rfl, ?_⟩) (by assumption) ?_
        rotate_left
        · intro W hSw
          obtain ⟨hSw, e0, e1, e2⟩ : Below g5 wb W ∧ W.cell? ⟨g7, 0, none⟩ = some (.bool y.neg) ∧ W.cell? ⟨g7, 1, none⟩ = some (.slice A5 y.mag.length c5) ∧ W.cell? ⟨g7, 2, none⟩ = some (.slice B5 y.den.length d5) := hSw
          have f0 := (hSw.cell (p := ⟨b6, o6 + k * 3, none⟩) hb6g).trans l0
          have f1 := (hSw.cell (p := ⟨b6, o6 + k * 3 + 1, none⟩) hb6g).trans l1'
          have f2 := (hSw.cell (p := ⟨b6, o6 + k * 3 + 2, none⟩) hb6g).trans l2'
          go_simp
          try with_reducible rfl
        try simp only [Act.put]
        refine wpAnyH_take (i := 4) (v := ?_) rfl (by kernel_rfl) (by kernel_rfl) (by kernel_rfl) (fun _ _ _ h => h) (Or.inl ⟨by rfl, ?_⟩) (by assumption) ?_
        rotate_left
        · intro W hSw
          obtain ⟨hSw, e0, e1, e2⟩ : Below g5 wb W ∧ W.cell? ⟨g7, 0, none⟩ = some (.bool y.neg) ∧ W.cell? ⟨g7, 1, none⟩ = some (.slice A5 y.mag.length c5) ∧ W.cell? ⟨g7, 2, none⟩ = some (.slice B5 y.den.length d5) := hSw
          have f0 := (hSw.cell (p := ⟨b6, o6 + k * 3, none⟩) hb6g).trans l0
          have f1 := (hSw.cell (p := ⟨b6, o6 + k * 3 + 1, none⟩) hb6g).trans l1'
          have f2 := (hSw.cell (p := ⟨b6, o6 + k * 3 + 2, none⟩) hb6g).trans l2'
          go_simp
          try with_reducible rfl
        try simp only [Act.put]
        refine wpAnyH_take (i := 5) (v := ?_) rfl (by kernel_rfl) (by kernel_rfl) (by kernel_rfl) (fun _ _ _ h => h) (Or.inl ⟨by rfl, ?_⟩) (by assumption) ?_
        rotate_left
        · intro W hSw
          obtain ⟨hSw, e0, e1, e2⟩ : Below g5 wb W ∧ W.cell? ⟨g7, 0, none⟩ = some (.bool y.neg) ∧ W.cell? ⟨g7, 1, none⟩ = some (.slice A5 y.mag.length c5) ∧ W.cell? ⟨g7, 2, none⟩ = some (.slice B5 y.den.length d5) := hSw
          have f0 := (hSw.cell (p := ⟨b6, o6 + k * 3, none⟩) hb6g).trans l0
          have f1 := (hSw.cell (p := ⟨b6, o6 + k * 3 + 1, none⟩) hb6g).trans l1'
          have f2 := (hSw.cell (p := ⟨b6, o6 + k * 3 + 2, none⟩) hb6g).trans l2'
          go_simp
          try with_reducible rfl
        try simp only [Act.put]
        refine wpAnyH_ready (rs := [0, 6]) (by kernel_rfl) (by simp) ?_
        refine AllReadyH.cons rfl (fun K hK => ?_) ?_
        · simp only [List.getElem_toArray, List.getElem_cons_succ, List.getElem_cons_zero]
          go_simp
          refine hK.out _ _ ?_ (fun hHeld2 => ?_)
          · exact hHeld
          clear hK K hHeld
          have hHeld := hHeld2
          clear hHeld2
          try simp only [Act.put, List.setIfInBounds_toArray, List.set_cons_zero, List.set_cons_succ]
          refine wpAnyH_ready (rs := [6]) (by kernel_rfl) (by simp) ?_
          refine AllReadyH.cons rfl (fun K hK => ?_) ?_
          · simp only [List.getElem_toArray, List.getElem_cons_succ, List.getElem_cons_zero]
            go_simp
            (go_at_call 45; (with_reducible refine (KM.out _ (by first | exact hwrs | exact Below.refl _ _)).mono ?_); rintro e3 w3 ⟨v3, rfl, hp3, hb3⟩)
            try (go_wp2_with fail)
            have hv3 := hp3.reads
            have hb3' : Below wb.heap.size wb w3 := ⟨hb3.os, hb3.tape, hb3.output, hb3.size, hb3.block⟩
            have hB3 : Below g5 wb w3 := hb3'.mono (by omega)
            have T3 := S5.later hb3'
            obtain ⟨s0', s1', s2', _, _, _⟩ := T3.c3
            have X3 := X7.later hb3'
            obtain ⟨x30, x31, x32, _, _, _⟩ := X3.c3
            refine hK.out _ _ ?_ (fun hHeld2 => ?_)
            · exact ⟨hB3, x30, x31, x32⟩
            clear hK K hHeld
            have hHeld := hHeld2
            clear hHeld2
            try simp only [Act.put, List.setIfInBounds_toArray, List.set_cons_zero, List.set_cons_succ]
            refine wpAnyH_ready (rs := [7]) (by kernel_rfl) (by simp) ?_
            refine AllReadyH.cons rfl (fun K hK => ?_) ?_
            · simp only [List.getElem_toArray, List.getElem_cons_succ, List.getElem_cons_zero]
              go_simp
              (go_at_call 46; (with_reducible refine (KA.out _ hb3' v3 hv3).mono ?_); rintro e6 w6 ⟨v6, rfl, hrp, hb6⟩)
              try (go_wp2_with fail)
              obtain ⟨A6, n6, c6, B6, m6, d6, rfl⟩ := hrp.shape
              have hb63 := below_trans hb3' hb6
              have hB6 : Below g5 wb w6 := hb63.mono (by omega)
              have T6 := T3.later hb6
              have X6 := X3.later hb6
              obtain ⟨x60, x61, x62, _, _, _⟩ := X6.c3
              obtain ⟨r0, r1, r2, _z0, _z1, _z2⟩ := T6.c3
              refine hK.out _ _ ?_ (fun hHeld2 => ?_)
              · exact ⟨hB6, x60, x61, x62⟩
              clear hK K hHeld
              have hHeld := hHeld2
              clear hHeld2
              try simp only [Act.put, List.setIfInBounds_toArray, List.set_cons_zero, List.set_cons_succ]
              refine wpAnyH_ready (rs := [8]) (by kernel_rfl) (by simp) ?_
              refine AllReadyH.cons rfl (fun K hK => ?_) ?_
              · simp only [List.getElem_toArray, List.getElem_cons_succ, List.getElem_cons_zero]
                go_simp
                refine hK.out _ _ ?_ (fun hHeld2 => ?_)
                · exact ⟨below3 hB6 (Nat.le_refl g5) _ _ _, (((X6.far (p := ⟨g5, 0, none⟩) (by show g5 ≠ g7; omega) _).far (p := ⟨g5, 1, none⟩) (by show g5 ≠ g7; omega) _).far (p := ⟨g5, 2, none⟩) (by show g5 ≠ g7; omega) _).v3⟩
                clear hK K hHeld
                have hHeld := hHeld2
                clear hHeld2
                try simp only [Act.put, List.setIfInBounds_toArray, List.set_cons_zero, List.set_cons_succ]
                refine wpAnyH_done (by kernel_rfl) ?_ _
                have hb8 := below3 (hbwW.out.trans hB6) (Nat.le_refl g5) (.bool S2.neg) (.slice A6 n6 c6) (.slice B6 m6 d6)
                have S9 := ((T6.set 0 (by show 0 < 3; decide) (.bool S2.neg)).set 1 (by show 1 < 3; decide) (.slice A6 n6 c6)).set 2 (by show 2 < 3; decide) (.slice B6 m6 d6)
                have hp9 := (hrp.mono (base' := g5 + 1) (by have := hb3'.size; omega)).far3 (g := g5) (Nat.lt_succ_self _) (.bool S2.neg) (.slice A6 n6 c6) (.slice B6 m6 d6)
                have hp10 := hp9.mono (base' := w.heap.size + 1) (by omega)
                clear hp9 hrp hv3 hp3 hb3' hb63 r0 r1 r2 s0 s1 s2 l0 l1' l2' hHeld hB6 hB3 x60 x61 x62 x30 x31 x32 s0' s1' s2' X3 X6 T3 T6
                go_wp2
                go_roundw
                case rel =>
                  have e := HS2.out
                  subst e
                  exact ⟨k + 1, by omega, rfl, hb8, _, _, _, _, _, _, S9, hp10⟩
                case measure => simp [intOf]; omega
              exact AllReadyH.nil
            exact AllReadyH.nil
          exact AllReadyH.nil
        refine AllReadyH.cons rfl (fun K hK => ?_) ?_
        · simp only [List.getElem_toArray, List.getElem_cons_succ, List.getElem_cons_zero]
          go_simp
          (go_at_call 45; (with_reducible refine (KM.out _ (by first | exact hwrs | exact Below.refl _ _)).mono ?_); rintro e3 w3 ⟨v3, rfl, hp3, hb3⟩)
          try (go_wp2_with fail)
          have hv3 := hp3.reads
          have hb3' : Below wb.heap.size wb w3 := ⟨hb3.os, hb3.tape, hb3.output, hb3.size, hb3.block⟩
          have hB3 : Below g5 wb w3 := hb3'.mono (by omega)
          have T3 := S5.later hb3'
          obtain ⟨s0', s1', s2', _, _, _⟩ := T3.c3
          have X3 := X7.later hb3'
          obtain ⟨x30, x31, x32, _, _, _⟩ := X3.c3
          refine hK.out _ _ ?_ (fun hHeld2 => ?_)
          · exact ⟨hB3, x30, x31, x32⟩
          clear hK K hHeld
          have hHeld := hHeld2
          clear hHeld2
          try simp only [Act.put, List.setIfInBounds_toArray, List.set_cons_zero, List.set_cons_succ]
          refine wpAnyH_ready (rs := [0]) (by kernel_rfl) (by simp) ?_
          refine AllReadyH.cons rfl (fun K hK => ?_) ?_
          · simp only [List.getElem_toArray, List.getElem_cons_zero]
            go_simp
            refine hK.out _ _ ?_ (fun hHeld2 => ?_)
            · exact ⟨hB3, x30, x31, x32⟩
            clear hK K hHeld
            have hHeld := hHeld2
            clear hHeld2
            try simp only [Act.put, List.setIfInBounds_toArray, List.set_cons_zero, List.set_cons_succ]
            refine wpAnyH_ready (rs := [7]) (by kernel_rfl) (by simp) ?_
            refine AllReadyH.cons rfl (fun K hK => ?_) ?_
            · simp only [List.getElem_toArray, List.getElem_cons_succ, List.getElem_cons_zero]
              go_simp
              (go_at_call 46; (with_reducible refine (KA.out _ hb3' v3 hv3).mono ?_); rintro e6 w6 ⟨v6, rfl, hrp, hb6⟩)
              try (go_wp2_with fail)
              obtain ⟨A6, n6, c6, B6, m6, d6, rfl⟩ := hrp.shape
              have hb63 := below_trans hb3' hb6
              have hB6 : Below g5 wb w6 := hb63.mono (by omega)
              have T6 := T3.later hb6
              have X6 := X3.later hb6
              obtain ⟨x60, x61, x62, _, _, _⟩ := X6.c3
              obtain ⟨r0, r1, r2, _z0, _z1, _z2⟩ := T6.c3
              refine hK.out _ _ ?_ (fun hHeld2 => ?_)
              · exact ⟨hB6, x60, x61, x62⟩
              clear hK K hHeld
              have hHeld := hHeld2
              clear hHeld2
              try simp only [Act.put, List.setIfInBounds_toArray, List.set_cons_zero, List.set_cons_succ]
              refine wpAnyH_ready (rs := [8]) (by kernel_rfl) (by simp) ?_
              refine AllReadyH.cons rfl (fun K hK => ?_) ?_
              · simp only [List.getElem_toArray, List.getElem_cons_succ, List.getElem_cons_zero]
                go_simp
                refine hK.out _ _ ?_ (fun hHeld2 => ?_)
                · exact ⟨below3 hB6 (Nat.le_refl g5) _ _ _, (((X6.far (p := ⟨g5, 0, none⟩) (by show g5 ≠ g7; omega) _).far (p := ⟨g5, 1, none⟩) (by show g5 ≠ g7; omega) _).far (p := ⟨g5, 2, none⟩) (by show g5 ≠ g7; omega) _).v3⟩
                clear hK K hHeld
                have hHeld := hHeld2
                clear hHeld2
                try simp only [Act.put, List.setIfInBounds_toArray, List.set_cons_zero, List.set_cons_succ]
                refine wpAnyH_done (by kernel_rfl) ?_ _
                have hb8 := below3 (hbwW.out.trans hB6) (Nat.le_refl g5) (.bool S2.neg) (.slice A6 n6 c6) (.slice B6 m6 d6)
                have S9 := ((T6.set 0 (by show 0 < 3; decide) (.bool S2.neg)).set 1 (by show 1 < 3; decide) (.slice A6 n6 c6)).set 2 (by show 2 < 3; decide) (.slice B6 m6 d6)
                have hp9 := (hrp.mono (base' := g5 + 1) (by have := hb3'.size; omega)).far3 (g := g5) (Nat.lt_succ_self _) (.bool S2.neg) (.slice A6 n6 c6) (.slice B6 m6 d6)
                have hp10 := hp9.mono (base' := w.heap.size + 1) (by omega)
                clear hp9 hrp hv3 hp3 hb3' hb63 r0 r1 r2 s0 s1 s2 l0 l1' l2' hHeld hB6 hB3 x60 x61 x62 x30 x31 x32 s0' s1' s2' X3 X6 T3 T6
                go_wp2
                go_roundw
                case rel =>
                  have e := HS2.out
                  subst e
                  exact ⟨k + 1, by omega, rfl, hb8, _, _, _, _, _, _, S9, hp10⟩
                case measure => simp [intOf]; omega
              exact AllReadyH.nil
            exact AllReadyH.nil
          exact AllReadyH.nil
        exact AllReadyH.nil
  · have hin : inner us vs = zR := by unfold inner; rw [if_neg (by omega)]
    rw [hin]
    have h0 : decide ((n : Int) = (m : Int)) = false := by simp; omega
    clear hin ha hb hf hg hn hm
    obtain ⟨b0, b1, b2, z0, z1, z2⟩ := R0.c3
    clear R0
    go_enter Tryz.func56, Tryz.ntmps56
    go_wp2
    exact bodyPost_ret (v := .agg #[.bool false, .slice none 0 0, .slice none 0 0]) (by simp [results, Tryz.results56, go_sem, b0, b1, b2]) rfl ⟨_, rfl, RatP.zero _ _, by first | exact hb0 | exact below3 hb0 (Nat.le_refl _) _ _ _⟩

set_option maxRecDepth 100000 in
set_option maxHeartbeats 3200000 in
theorem sInner (us vs : List RatD) (n m c d : Nat) (hn : us.length = n) (hm : vs.length = m) (hf : Few us) (hg : Few vs) (A B : Option Addr) (w : World) (ha : VI w A us) (hb : VI w B vs) :
    Calls Tryz.prog 167 #[.slice A n c, .slice B m d] w (RPost w (inner us vs)) := by
  have hn1 : n ≤ 1048576 := hn ▸ hf.1
  have hm1 : m ≤ 1048576 := hm ▸ hg.1
  have R0 := Slots.new (Below.refl _ (w.alloc (.cells #[.bool false, .slice none 0 0, .slice none 0 0] 57))) (g := w.heap.size) rfl
  have hb0 := below_alloc1 w (.cells #[.bool false, .slice none 0 0, .slice none 0 0] 57)
  by_cases hnm : n = m
  · subst hnm
    have hin : inner us vs = dotK us vs n := by unfold inner; rw [if_pos (by omega), hn]
    rw [hin]
    have h0 : decide ((n : Int) = (n : Int)) = true := by simp
    have HF := Lib.hid hf.2
    have HG := Lib.hid hg.2
    have HN := Lib.hid hn
    have HM := Lib.hid hm
    have HA := Lib.hid ha
    have HB := Lib.hid hb
    clear hn hm hf hg ha hb hin
    go_enter Tryz.func167, Tryz.ntmps167
    go_wp2_with fail
    generalize w.alloc (.cells #[.bool false, .slice none 0 0, .slice none 0 0] 57) = w1 at *
    refine (sRatFromInt_pos 0 (by decide) _).mono ?_
    rintro e w4 ⟨v4, rfl, hp4, hb4⟩
    replace hp4 := hp4.mono (base' := w.heap.size + 1) R0.1
    replace R0 := R0.later hb4
    have hb4' := below_trans hb0 hb4
    obtain ⟨As, nS, cs, Bs, mS, ds, rfl⟩ := hp4.shape
    have al5 := below_alloc1 w4 (.cells #[.bool (FE.rint 0).neg, .slice As nS cs, .slice Bs mS ds] 57)
    have S5 := Slots.new (Below.refl _ (w4.alloc (.cells #[.bool (FE.rint 0).neg, .slice As nS cs, .slice Bs mS ds] 57))) (g := w4.heap.size) rfl
    have hgr : w.heap.size < w4.heap.size := R0.1
    replace R0 := R0.later al5
    replace hp4 := hp4.later al5
    have hb5 := below_trans hb4' al5
    clear hb4' hb4 hb0
    go_wp2_with fail
    clear al5
    generalize w4.alloc (.cells #[.bool (FE.rint 0).neg, .slice As nS cs, .slice Bs mS ds] 57) = wq at *
    generalize w4.heap.size = g5 at *
    have hp4' : RatP wq (w.heap.size + 1) (.agg #[.bool (dotK us vs 0).neg, .slice As nS cs, .slice Bs mS ds]) (dotK us vs 0) := hp4
    have S5' : Slots wq g5 [.bool (dotK us vs 0).neg, .slice As nS cs, .slice Bs mS ds] := S5
    clear hp4 S5
    go_loopw [17] (fun z wp => ∃ k : Nat, k ≤ n ∧ z = .int .i64 k ∧ Below g5 wq wp ∧ ∃ As nS cs Bs mS ds, Slots wp g5 [.bool (dotK us vs k).neg, .slice As nS cs, .slice Bs mS ds] ∧ RatP wp (w.heap.size + 1) (.agg #[.bool (dotK us vs k).neg, .slice As nS cs, .slice Bs mS ds]) (dotK us vs k)) (fun z _ => n - (intOf z).toNat)
    case atStart => exact ⟨0, Nat.zero_le _, rfl, Below.refl _ _, _, _, _, _, _, _, S5', hp4'⟩
    case round =>
      clear hp4' S5'
      obtain ⟨k, hk, rfl, hbw, Au, nU, cu, Bu, mU, du, S5, hsum⟩ := hrel
      have hww : Below w.heap.size w wr := hb5.trans (hbw.mono (by omega))
      have hlt5 := S5.1
      by_cases hkn : k = n
      · subst hkn
        have hlf : decide ((k : Int) < (k : Int)) = false := by simp
        have R1 := R0.below hbw hgr
        generalize dotK us vs k = S at *
        obtain ⟨s0, s1, s2, _, _, _⟩ := S5.c3
        obtain ⟨b0, b1, b2, z0, z1, z2⟩ := R1.c3
        have hb' := below3 hww (Nat.le_refl _) (.bool S.neg) (.slice Au nU cu) (.slice Bu mU du)
        have f6 := (hsum.far3 (g := w.heap.size) (Nat.lt_succ_self _) (.bool S.neg) (.slice Au nU cu) (.slice Bu mU du)).mono (base' := w.heap.size) (by omega)
        clear R0 R1 S5 hsum
        go_wp2
        exact bodyPost_ret (v := .agg #[.bool S.neg, .slice Au nU cu, .slice Bu mU du]) (by simp [results, Tryz.results167, go_sem, b0, b1, b2]) rfl ⟨_, rfl, f6, hb'⟩
      · have hltk : (k : Int) < (n : Int) := by omega
        have hku : k < us.length := by rw [HN.out]; omega
        have hkv : k < vs.length := by rw [HM.out]; omega
        obtain ⟨b4, o4, rfl, hb4, hat4⟩ := HA.out.cells k hku
        have hat4' := RatAt.stays _ _ _ _ _ hb4 hat4 hww
        obtain ⟨b6, o6, rfl, hb6, hat6⟩ := HB.out.cells k hkv
        have hat6' := RatAt.stays _ _ _ _ _ hb6 hat6 hww
        obtain ⟨fv1, fv2⟩ := HF.out k hku
        obtain ⟨fu1, fu2⟩ := HG.out k hkv
        have HSK := Lib.hid (show dotK us vs (k + 1) = FE.radd (dotK us vs k) (FE.rmul (us.getD k zR) (vs.getD k zR)) from rfl)
        have HSS := Lib.hid (res_few (dotK_res us vs k))
        clear hku hkv hat4 hat6
        generalize us.getD k zR = y at *
        generalize vs.getD k zR = z at *
        have hmr := FE.rmul_res y z
        obtain ⟨S2, hS2⟩ : ∃ S2, dotK us vs (k + 1) = S2 := ⟨_, rfl⟩
        rw [hS2] at HSK
        have HS2 := Lib.hid hS2
        clear hS2
        generalize dotK us vs k = S at *
        obtain ⟨A5, c5, B5, d5, k0, k1, k2, hl5, q1, q2⟩ := hat4'
        obtain ⟨A7, c7, B7, d7, l0, l1', l2', hl7, q3, q4⟩ := hat6'
        have hb4g : b4 < g5 := by omega
        have hb6g : b6 < g5 := by omega
        have al7 := below_alloc1 wr (.cells #[.bool y.neg, .slice A5 y.mag.length c5, .slice B5 y.den.length d5] 57)
        have X7 := Slots.new (Below.refl _ (wr.alloc (.cells #[.bool y.neg, .slice A5 y.mag.length c5, .slice B5 y.den.length d5] 57))) (g := wr.heap.size) rfl
        have hbwW := Lib.hid (hbw.trans (al7.mono (by omega)))
        replace S5 := S5.later al7
        replace hsum := hsum.later al7
        replace l0 := cell_later (by omega) l0 al7
        replace l1' := cell_later (by omega) l1' al7
        replace l2' := cell_later (by omega) l2' al7
        have q1' := q1.later al7
        have q2' := q2.later al7
        have q3' := q3.later al7
        have q4' := q4.later al7
        clear q1 q2 q3 q4 hbw R0
        go_wp2_with fail
        clear k0 k1 k2 al7
        generalize wr.alloc (.cells #[.bool y.neg, .slice A5 y.mag.length c5, .slice B5 y.den.length d5] 57) = wb at *
        generalize wr.heap.size = g7 at *
        have KM := Lib.hid (fun W (hW : Below wb.heap.size wb W) => sRatMul y z (.agg #[.bool y.neg, .slice A5 y.mag.length c5, .slice B5 y.den.length d5]) (.agg #[.bool z.neg, .slice A7 z.mag.length c7, .slice B7 z.den.length d7]) W ⟨_, _, _, _, rfl, hl5, q1'.later hW, q2'.later hW⟩ ⟨_, _, _, _, rfl, hl7, q3'.later hW, q4'.later hW⟩ ⟨fv1, fv2⟩ ⟨fu1, fu2⟩)
        have KA := fun W (hW : Below wb.heap.size wb W) v (hv : RatV W v (FE.rmul y z)) => sRatAdd S (FE.rmul y z) _ v W (hsum.reads.later hW) hv HSS.out (res_few hmr)
        rw [← HSK.out] at KA
        replace KA := Lib.hid KA
        obtain ⟨s0, s1, s2, z0, z1, z2⟩ := S5.c3
        obtain ⟨x0, x1, x2, _, _, _⟩ := X7.c3
        have hx7 := X7.1
        have hs5 := S5.1
        have hwrs : Below wb.heap.size wb wb.drew := ⟨rfl, rfl, rfl, Nat.le_refl _, fun _ _ => rfl⟩
        have hwrs' : Below g5 wb wb.drew := ⟨rfl, rfl, rfl, Nat.le_refl _, fun _ _ => rfl⟩
        clear hl5 q1' q2' hl7 q3' q4' hmr hsum fv1 fv2 fu1 fu2 hww
        generalize FE.rmul y z = Y at *
        refine wp_region_held_drew (S := fun W => Below g5 wb W ∧ W.cell? ⟨g7, 0, none⟩ = some (.bool y.neg) ∧ W.cell? ⟨g7, 1, none⟩ = some (.slice A5 y.mag.length c5) ∧ W.cell? ⟨g7, 2, none⟩ = some (.slice B5 y.den.length d5)) (by kernel_rfl) ?_ (fun hHeld => ?_)
        · exact ⟨hwrs', x0, x1, x2⟩
        refine wpAnyH_take (i := 1) (v := ?_) rfl (by kernel_rfl) (by kernel_rfl) (by kernel_rfl) (fun _ _ _ h => h) (Or.inl ⟨by rfl, ?_⟩) (by assumption) ?_
        rotate_left
        · intro W hSw
          obtain ⟨hSw, e0, e1, e2⟩ : Below g5 wb W ∧ W.cell? ⟨g7, 0, none⟩ = some (.bool y.neg) ∧ W.cell? ⟨g7, 1, none⟩ = some (.slice A5 y.mag.length c5) ∧ W.cell? ⟨g7, 2, none⟩ = some (.slice B5 y.den.length d5) := hSw
          have f0 := (hSw.cell (p := ⟨b6, o6 + k * 3, none⟩) hb6g).trans l0
          have f1 := (hSw.cell (p := ⟨b6, o6 + k * 3 + 1, none⟩) hb6g).trans l1'
          have f2 := (hSw.cell (p := ⟨b6, o6 + k * 3 + 2, none⟩) hb6g).trans l2'
          go_simp
          try with_reducible rfl
        try simp only [Act.put, List.setIfInBounds_toArray]
        refine wpAnyH_take (i := 2) (v := ?_) rfl (by kernel_rfl) (by kernel_rfl) (by kernel_rfl) (fun _ _ _ h => h) (Or.inl ⟨by rfl, ?_⟩) (by assumption) ?_
        rotate_left
        · intro W hSw
          obtain ⟨hSw, e0, e1, e2⟩ : Below g5 wb W ∧ W.cell? ⟨g7, 0, none⟩ = some (.bool y.neg) ∧ W.cell? ⟨g7, 1, none⟩ = some (.slice A5 y.mag.length c5) ∧ W.cell? ⟨g7, 2, none⟩ = some (.slice B5 y.den.length d5) := hSw
          have f0 := (hSw.cell (p := ⟨b6, o6 + k * 3, none⟩) hb6g).trans l0
          have f1 := (hSw.cell (p := ⟨b6, o6 + k * 3 + 1, none⟩) hb6g).trans l1'
          have f2 := (hSw.cell (p := ⟨b6, o6 + k * 3 + 2, none⟩) hb6g).trans l2'
          go_simp
          try with_reducible rfl
        try simp only [Act.put]
        refine wpAnyH_take (i := 3) (v := ?_) rfl (by kernel_rfl) (by kernel_rfl) (by kernel_rfl) (fun _ _ _ h => h) (Or.inl ⟨by rfl, ?_⟩) (by assumption) ?_
        rotate_left
        · intro W hSw
          obtain ⟨hSw, e0, e1, e2⟩ : Below g5 wb W ∧ W.cell? ⟨g7, 0, none⟩ = some (.bool y.neg) ∧ W.cell? ⟨g7, 1, none⟩ = some (.slice A5 y.mag.length c5) ∧ W.cell? ⟨g7, 2, none⟩ = some (.slice B5 y.den.length d5) := hSw
          have f0 := (hSw.cell (p := ⟨b6, o6 + k * 3, none⟩) hb6g).trans l0
          have f1 := (hSw.cell (p := ⟨b6, o6 + k * 3 + 1, none⟩) hb6g).trans l1'
          have f2 := (hSw.cell (p := ⟨b6, o6 + k * 3 + 2, none⟩) hb6g).trans l2'
          go_simp
          try with_reducible rfl
        try simp only [Act.put]
        refine wpAnyH_take (i := 4) (v := ?_) rfl (by kernel_rfl) (by kernel_rfl) (by kernel_rfl) (fun _ _ _ h => h) (Or.inl ⟨by rfl, ?_⟩) (by assumption) ?_
        rotate_left
        · intro W hSw
          obtain ⟨hSw, e0, e1, e2⟩ : Below g5 wb W ∧ W.cell? ⟨g7, 0, none⟩ = some (.bool y.neg) ∧ W.cell? ⟨g7, 1, none⟩ = some (.slice A5 y.mag.length c5) ∧ W.cell? ⟨g7, 2, none⟩ = some (.slice B5 y.den.length d5) := hSw
          have f0 := (hSw.cell (p := ⟨b6, o6 + k * 3, none⟩) hb6g).trans l0
          have f1 := (hSw.cell (p := ⟨b6, o6 + k * 3 + 1, none⟩) hb6g).trans l1'
          have f2 := (hSw.cell (p := ⟨b6, o6 + k * 3 + 2, none⟩) hb6g).trans l2'
          go_simp
          try with_reducible rfl
        try simp only [Act.put]
        refine wpAnyH_take (i := 5) (v := ?_) rfl (by kernel_rfl) (by kernel_rfl) (by kernel_rfl) (fun _ _ _ h => h) (Or.inl ⟨by rfl, ?_⟩) (by assumption) ?_
        rotate_left
        · intro W hSw
          obtain ⟨hSw, e0, e1, e2⟩ : Below g5 wb W ∧ W.cell? ⟨g7, 0, none⟩ = some (.bool y.neg) ∧ W.cell? ⟨g7, 1, none⟩ = some (.slice A5 y.mag.length c5) ∧ W.cell? ⟨g7, 2, none⟩ = some (.slice B5 y.den.length d5) := hSw
          have f0 := (hSw.cell (p := ⟨b6, o6 + k * 3, none⟩) hb6g).trans l0
          have f1 := (hSw.cell (p := ⟨b6, o6 + k * 3 + 1, none⟩) hb6g).trans l1'
          have f2 := (hSw.cell (p := ⟨b6, o6 + k * 3 + 2, none⟩) hb6g).trans l2'
          go_simp
          try with_reducible rfl
        try simp only [Act.put]
        refine wpAnyH_ready (rs := [0, 6]) (by kernel_rfl) (by simp) ?_
        refine AllReadyH.cons rfl (fun K hK => ?_) ?_
        · simp only [List.getElem_toArray, List.getElem_cons_succ, List.getElem_cons_zero]
          go_simp
          refine hK.out _ _ ?_ (fun hHeld2 => ?_)
          · exact hHeld
          clear hK K hHeld
          have hHeld := hHeld2
          clear hHeld2
          try simp only [Act.put, List.setIfInBounds_toArray, List.set_cons_zero, List.set_cons_succ]
          refine wpAnyH_ready (rs := [6]) (by kernel_rfl) (by simp) ?_
          refine AllReadyH.cons rfl (fun K hK => ?_) ?_
          · simp only [List.getElem_toArray, List.getElem_cons_succ, List.getElem_cons_zero]
            go_simp
            (go_at_call 84; (with_reducible refine (KM.out _ (by first | exact hwrs | exact Below.refl _ _)).mono ?_); rintro e3 w3 ⟨v3, rfl, hp3, hb3⟩)
            try (go_wp2_with fail)
            have hv3 := hp3.reads
            have hb3' : Below wb.heap.size wb w3 := ⟨hb3.os, hb3.tape, hb3.output, hb3.size, hb3.block⟩
            have hB3 : Below g5 wb w3 := hb3'.mono (by omega)
            have T3 := S5.later hb3'
            obtain ⟨s0', s1', s2', _, _, _⟩ := T3.c3
            have X3 := X7.later hb3'
            obtain ⟨x30, x31, x32, _, _, _⟩ := X3.c3
            refine hK.out _ _ ?_ (fun hHeld2 => ?_)
            · exact ⟨hB3, x30, x31, x32⟩
            clear hK K hHeld
            have hHeld := hHeld2
            clear hHeld2
            try simp only [Act.put, List.setIfInBounds_toArray, List.set_cons_zero, List.set_cons_succ]
            refine wpAnyH_ready (rs := [7]) (by kernel_rfl) (by simp) ?_
            refine AllReadyH.cons rfl (fun K hK => ?_) ?_
            · simp only [List.getElem_toArray, List.getElem_cons_succ, List.getElem_cons_zero]
              go_simp
              (go_at_call 83; (with_reducible refine (KA.out _ hb3' v3 hv3).mono ?_); rintro e6 w6 ⟨v6, rfl, hrp, hb6⟩)
              try (go_wp2_with fail)
              obtain ⟨A6, n6, c6, B6, m6, d6, rfl⟩ := hrp.shape
              have hb63 := below_trans hb3' hb6
              have hB6 : Below g5 wb w6 := hb63.mono (by omega)
              have T6 := T3.later hb6
              have X6 := X3.later hb6
              obtain ⟨x60, x61, x62, _, _, _⟩ := X6.c3
              obtain ⟨r0, r1, r2, _z0, _z1, _z2⟩ := T6.c3
              refine hK.out _ _ ?_ (fun hHeld2 => ?_)
              · exact ⟨hB6, x60, x61, x62⟩
              clear hK K hHeld
              have hHeld := hHeld2
              clear hHeld2
              try simp only [Act.put, List.setIfInBounds_toArray, List.set_cons_zero, List.set_cons_succ]
              refine wpAnyH_ready (rs := [8]) (by kernel_rfl) (by simp) ?_
              refine AllReadyH.cons rfl (fun K hK => ?_) ?_
              · simp only [List.getElem_toArray, List.getElem_cons_succ, List.getElem_cons_zero]
                go_simp
                refine hK.out _ _ ?_ (fun hHeld2 => ?_)
                · exact ⟨below3 hB6 (Nat.le_refl g5) _ _ _, (((X6.far (p := ⟨g5, 0, none⟩) (by show g5 ≠ g7; omega) _).far (p := ⟨g5, 1, none⟩) (by show g5 ≠ g7; omega) _).far (p := ⟨g5, 2, none⟩) (by show g5 ≠ g7; omega) _).v3⟩
                clear hK K hHeld
                have hHeld := hHeld2
                clear hHeld2
                try simp only [Act.put, List.setIfInBounds_toArray, List.set_cons_zero, List.set_cons_succ]
                refine wpAnyH_done (by kernel_rfl) ?_ _
                have hb8 := below3 (hbwW.out.trans hB6) (Nat.le_refl g5) (.bool S2.neg) (.slice A6 n6 c6) (.slice B6 m6 d6)
                have S9 := ((T6.set 0 (by show 0 < 3; decide) (.bool S2.neg)).set 1 (by show 1 < 3; decide) (.slice A6 n6 c6)).set 2 (by show 2 < 3; decide) (.slice B6 m6 d6)
                have hp9 := (hrp.mono (base' := g5 + 1) (by have := hb3'.size; omega)).far3 (g := g5) (Nat.lt_succ_self _) (.bool S2.neg) (.slice A6 n6 c6) (.slice B6 m6 d6)
                have hp10 := hp9.mono (base' := w.heap.size + 1) (by omega)
                clear hp9 hrp hv3 hp3 hb3' hb63 r0 r1 r2 s0 s1 s2 l0 l1' l2' hHeld hB6 hB3 x60 x61 x62 x30 x31 x32 s0' s1' s2' X3 X6 T3 T6
                go_wp2
                go_roundw
                case rel =>
                  have e := HS2.out
                  subst e
                  exact ⟨k + 1, by omega, rfl, hb8, _, _, _, _, _, _, S9, hp10⟩
                case measure => simp [intOf]; omega
              exact AllReadyH.nil
            exact AllReadyH.nil
          exact AllReadyH.nil
        refine AllReadyH.cons rfl (fun K hK => ?_) ?_
        · simp only [List.getElem_toArray, List.getElem_cons_succ, List.getElem_cons_zero]
          go_simp
          (go_at_call 84; (with_reducible refine (KM.out _ (by first | exact hwrs | exact Below.refl _ _)).mono ?_); rintro e3 w3 ⟨v3, rfl, hp3, hb3⟩)
          try (go_wp2_with fail)
          have hv3 := hp3.reads
          have hb3' : Below wb.heap.size wb w3 := ⟨hb3.os, hb3.tape, hb3.output, hb3.size, hb3.block⟩
          have hB3 : Below g5 wb w3 := hb3'.mono (by omega)
          have T3 := S5.later hb3'
          obtain ⟨s0', s1', s2', _, _, _⟩ := T3.c3
          have X3 := X7.later hb3'
          obtain ⟨x30, x31, x32, _, _, _⟩ := X3.c3
          refine hK.out _ _ ?_ (fun hHeld2 => ?_)
          · exact ⟨hB3, x30, x31, x32⟩
          clear hK K hHeld
          have hHeld := hHeld2
          clear hHeld2
          try simp only [Act.put, List.setIfInBounds_toArray, List.set_cons_zero, List.set_cons_succ]
          refine wpAnyH_ready (rs := [0]) (by kernel_rfl) (by simp) ?_
          refine AllReadyH.cons rfl (fun K hK => ?_) ?_
          · simp only [List.getElem_toArray, List.getElem_cons_zero]
            go_simp
            refine hK.out _ _ ?_ (fun hHeld2 => ?_)
            · exact ⟨hB3, x30, x31, x32⟩
            clear hK K hHeld
            have hHeld := hHeld2
            clear hHeld2
            try simp only [Act.put, List.setIfInBounds_toArray, List.set_cons_zero, List.set_cons_succ]
            refine wpAnyH_ready (rs := [7]) (by kernel_rfl) (by simp) ?_
            refine AllReadyH.cons rfl (fun K hK => ?_) ?_
            · simp only [List.getElem_toArray, List.getElem_cons_succ, List.getElem_cons_zero]
              go_simp
              (go_at_call 83; (with_reducible refine (KA.out _ hb3' v3 hv3).mono ?_); rintro e6 w6 ⟨v6, rfl, hrp, hb6⟩)
              try (go_wp2_with fail)
              obtain ⟨A6, n6, c6, B6, m6, d6, rfl⟩ := hrp.shape
              have hb63 := below_trans hb3' hb6
              have hB6 : Below g5 wb w6 := hb63.mono (by omega)
              have T6 := T3.later hb6
              have X6 := X3.later hb6
              obtain ⟨x60, x61, x62, _, _, _⟩ := X6.c3
              obtain ⟨r0, r1, r2, _z0, _z1, _z2⟩ := T6.c3
              refine hK.out _ _ ?_ (fun hHeld2 => ?_)
              · exact ⟨hB6, x60, x61, x62⟩
              clear hK K hHeld
              have hHeld := hHeld2
              clear hHeld2
              try simp only [Act.put, List.setIfInBounds_toArray, List.set_cons_zero, List.set_cons_succ]
              refine wpAnyH_ready (rs := [8]) (by kernel_rfl) (by simp) ?_
              refine AllReadyH.cons rfl (fun K hK => ?_) ?_
              · simp only [List.getElem_toArray, List.getElem_cons_succ, List.getElem_cons_zero]
                go_simp
                refine hK.out _ _ ?_ (fun hHeld2 => ?_)
                · exact ⟨below3 hB6 (Nat.le_refl g5) _ _ _, (((X6.far (p := ⟨g5, 0, none⟩) (by show g5 ≠ g7; omega) _).far (p := ⟨g5, 1, none⟩) (by show g5 ≠ g7; omega) _).far (p := ⟨g5, 2, none⟩) (by show g5 ≠ g7; omega) _).v3⟩
                clear hK K hHeld
                have hHeld := hHeld2
                clear hHeld2
                try simp only [Act.put, List.setIfInBounds_toArray, List.set_cons_zero, List.set_cons_succ]
                refine wpAnyH_done (by kernel_rfl) ?_ _
                have hb8 := below3 (hbwW.out.trans hB6) (Nat.le_refl g5) (.bool S2.neg) (.slice A6 n6 c6) (.slice B6 m6 d6)
                have S9 := ((T6.set 0 (by show 0 < 3; decide) (.bool S2.neg)).set 1 (by show 1 < 3; decide) (.slice A6 n6 c6)).set 2 (by show 2 < 3; decide) (.slice B6 m6 d6)
                have hp9 := (hrp.mono (base' := g5 + 1) (by have := hb3'.size; omega)).far3 (g := g5) (Nat.lt_succ_self _) (.bool S2.neg) (.slice A6 n6 c6) (.slice B6 m6 d6)
                have hp10 := hp9.mono (base' := w.heap.size + 1) (by omega)
                clear hp9 hrp hv3 hp3 hb3' hb63 r0 r1 r2 s0 s1 s2 l0 l1' l2' hHeld hB6 hB3 x60 x61 x62 x30 x31 x32 s0' s1' s2' X3 X6 T3 T6
                go_wp2
                go_roundw
                case rel =>
                  have e := HS2.out
                  subst e
                  exact ⟨k + 1, by omega, rfl, hb8, _, _, _, _, _, _, S9, hp10⟩
                case measure => simp [intOf]; omega
              exact AllReadyH.nil
            exact AllReadyH.nil
          exact AllReadyH.nil
        exact AllReadyH.nil
  · have hin : inner us vs = zR := by unfold inner; rw [if_neg (by omega)]
    rw [hin]
    have h0 : decide ((n : Int) = (m : Int)) = false := by simp; omega
    clear hin ha hb hf hg hn hm
    obtain ⟨b0, b1, b2, z0, z1, z2⟩ := R0.c3
    clear R0
    go_enter Tryz.func167, Tryz.ntmps167
    go_wp2
    exact bodyPost_ret (v := .agg #[.bool false, .slice none 0 0, .slice none 0 0]) (by simp [results, Tryz.results167, go_sem, b0, b1, b2]) rfl ⟨_, rfl, RatP.zero _ _, by first | exact hb0 | exact below3 hb0 (Nat.le_refl _) _ _ _⟩

end Go.Proofs.YtlpomcihkjiokaaGreat

namespace Go.Proofs.YtlpomcihkjiokaaGreat
open Go.RowKit Go.Joins

def VAt (w : World) (b off : Nat) (rs : List RatD) : Prop := ∃ A c, w.cell? ⟨b, off, none⟩ = some (.slice A rs.length c) ∧ (rs.length ≤ c ∧ c ≤ maxLen) ∧ VI w A rs
theorem VAt.stays : Stays VAt := by
  intro w w' b o x hlt h hb
  obtain ⟨A, c, h0, hl, h1⟩ := h
  exact ⟨A, c, cell_later hlt h0 hb, hl, h1.later hb⟩
/-- A slice of vectors. -/
def FI (w : World) (A : Option Addr) (xs : List (List RatD)) : Prop := SI VAt 1 [] w A xs
theorem FI.later {w w' : World} {A : Option Addr} {xs : List (List RatD)} (h : FI w A xs) (hb : Below w.heap.size w w') : FI w' A xs := SI.later VAt.stays h hb
theorem FI.cells {w : World} {A : Option Addr} {xs : List (List RatD)} (h : FI w A xs) (k : Nat) (hk : k < xs.length) : ∃ b off, A = some ⟨b, off, none⟩ ∧ b < w.heap.size ∧ VAt w b (off + k) (xs.getD k []) := by
  obtain ⟨b, off, rfl, hb, hc⟩ := h (by intro h; subst h; simp at hk)
  exact ⟨b, off, rfl, hb, by have := hc k hk; rwa [Nat.mul_one] at this⟩
def FFew (xs : List (List RatD)) : Prop := xs.length ≤ 1048576 ∧ ∀ k, k < xs.length → Few (xs.getD k [])
def sumV (xs : List (List RatD)) : Nat := (xs.map vsz).sum
def fsz (xs : List (List RatD)) : Nat := xs.length + sumV xs
theorem sumV_step (rs : List (List RatD)) (k : Nat) (h : k < rs.length) : sumV (rs.take (k + 1)) = sumV (rs.take k) + vsz (rs.getD k []) := by
  rw [List.take_succ_eq_append_getElem h]
  simp only [sumV, List.map_append, List.sum_append, List.map_cons, List.map_nil, List.sum_cons, List.sum_nil]
  simp [h]
theorem sumV_le (rs : List (List RatD)) (k : Nat) : sumV (rs.take k) ≤ sumV rs := by
  conv => rhs; rw [← List.take_append_drop k rs]
  simp only [sumV, List.map_append, List.sum_append]
  omega
theorem ffew_of {rs : List (List RatD)} (h : fsz rs ≤ 1048576) : FFew rs := by
  have h1 := h
  simp only [fsz] at h1
  refine ⟨by omega, fun k hk => few_of_vsz ?_⟩
  have h2 := sumV_step rs k hk
  have h3 := sumV_le rs (k + 1)
  omega

def fsame : List (List RatD) → List (List RatD) → Bool
  | [], [] => true
  | x :: r, y :: s => vsame x y && fsame r s
  | _, _ => false
theorem fsame_iff : ∀ (rs ss : List (List RatD)), fsame rs ss = true ↔ rs.length = ss.length ∧ ∀ j, j < rs.length → vsame (rs.getD j []) (ss.getD j []) = true
  | [], [] => by simp [fsame]
  | [], _ :: _ => by simp [fsame]
  | _ :: _, [] => by simp [fsame]
  | x :: r, y :: s => by
    simp only [fsame, Bool.and_eq_true, fsame_iff r s, List.length_cons]
    constructor
    · rintro ⟨h1, h2, h3⟩
      refine ⟨by omega, fun j hj => ?_⟩
      cases j with
      | zero => simpa using h1
      | succ j => simpa using h3 j (by omega)
    · rintro ⟨h1, h2⟩
      exact ⟨by simpa using h2 0 (by omega), by omega, fun j hj => by simpa using h2 (j + 1) (by omega)⟩
theorem fsame_refl (rs : List (List RatD)) : fsame rs rs = true := (fsame_iff rs rs).2 ⟨rfl, fun _ _ => vsame_refl _⟩
/-- Vectors of the call's own. -/
def FO (w : World) (base : Nat) (v : Value) (rs : List (List RatD)) : Prop :=
  ∃ A c, v = .slice A rs.length c ∧ rs.length ≤ c ∧ c ≤ maxLen ∧ (rs ≠ [] → ∃ g, A = some ⟨g, 0, none⟩ ∧ base ≤ g ∧ g < w.heap.size ∧ (∀ i, w.frozen? ⟨g, i, none⟩ = false) ∧ ∀ j, j < rs.length → ∃ va, w.cell? ⟨g, j, none⟩ = some va ∧ VO w (g + 1) va (rs.getD j []))
theorem FO.form {w : World} {base : Nat} {v : Value} {rs : List (List RatD)} (h : FO w base v rs) : ∃ A c, v = .slice A rs.length c ∧ rs.length ≤ c ∧ c ≤ maxLen := by
  obtain ⟨A, c, h1, h2, h3, _⟩ := h; exact ⟨A, c, h1, h2, h3⟩
theorem FO.reads {w : World} {base n c : Nat} {A : Option Addr} {rs : List (List RatD)} (h : FO w base (.slice A n c) rs) : FI w A rs := by
  intro hx
  obtain ⟨A', c', he, _, _, h⟩ := h
  injection he with e1 e2 e3
  subst e1
  obtain ⟨g, rfl, _, hlt, _, h⟩ := h hx
  refine ⟨g, 0, rfl, hlt, fun j hj => ?_⟩
  obtain ⟨va, h0, h1⟩ := h j hj
  obtain ⟨A2, c2, rfl, hl, hc⟩ := h1.form
  exact ⟨A2, c2, by rw [Nat.zero_add, Nat.mul_one]; exact h0, ⟨hl, hc⟩, h1.reads⟩
theorem FO.far {w : World} {base : Nat} {v : Value} {rs : List (List RatD)} (h : FO w base v rs) {p : Addr} (hp : p.block < base) (u : Value) : FO (w.setCell p u) base v rs := by
  obtain ⟨A, c, rfl, hl, hc, h⟩ := h
  refine ⟨A, c, rfl, hl, hc, fun hx => ?_⟩
  obtain ⟨g, rfl, hg, hs, hf, h⟩ := h hx
  refine ⟨g, rfl, hg, by simpa using hs, fun i => by simpa using hf i, fun j hj => ?_⟩
  obtain ⟨va, h0, h1⟩ := h j hj
  exact ⟨va, by rw [World.cell?_setCell_other _ _ _ _ (by intro e; subst e; simp at hp; omega)]; exact h0, h1.far (by omega) u⟩
theorem FO.later {w w' : World} {base : Nat} {v : Value} {rs : List (List RatD)} (h : FO w base v rs) (hb : Below w.heap.size w w') : FO w' base v rs := by
  obtain ⟨A, c, rfl, hl, hc, h⟩ := h
  refine ⟨A, c, rfl, hl, hc, fun hx => ?_⟩
  obtain ⟨g, rfl, hg, hs, hf, h⟩ := h hx
  refine ⟨g, rfl, hg, Nat.lt_of_lt_of_le hs hb.size, fun i => by rw [hb.frozen (p := ⟨g, i, none⟩) hs]; exact hf i, fun j hj => ?_⟩
  obtain ⟨va, h0, h1⟩ := h j hj
  exact ⟨va, cell_later hs h0 hb, h1.later hb⟩
theorem FO.mono {w : World} {base base' : Nat} {v : Value} {rs : List (List RatD)} (h : FO w base v rs) (hb : base' ≤ base) : FO w base' v rs := by
  obtain ⟨A, c, rfl, hl, hc, h⟩ := h
  refine ⟨A, c, rfl, hl, hc, fun hx => ?_⟩
  obtain ⟨g, rfl, hg, hs⟩ := h hx
  exact ⟨g, rfl, by omega, hs⟩

structure FacD where
  lower : List (List RatD)
  pivots : List RatD
def FacD.size (x : FacD) : Nat := fsz x.lower + vsz x.pivots
def FacD.few (x : FacD) : Prop := FFew x.lower ∧ Few x.pivots
def FacD.same (x y : FacD) : Bool := fsame x.lower y.lower && vsame x.pivots y.pivots
theorem FacD.few_of {x : FacD} (h : x.size ≤ 1048576) : x.few := by
  simp only [FacD.size] at h
  exact ⟨ffew_of (by omega), few_of_vsz (by omega)⟩
theorem FacD.same_refl (x : FacD) : x.same x = true := by simp [FacD.same, fsame_refl, vsame_refl]
/-- A factorization as a value. -/
def FacV (w : World) (v : Value) (x : FacD) : Prop := ∃ A c B d, v = .agg #[.slice A x.lower.length c, .slice B x.pivots.length d] ∧ (x.lower.length ≤ c ∧ c ≤ maxLen ∧ x.pivots.length ≤ d ∧ d ≤ maxLen) ∧ FI w A x.lower ∧ VI w B x.pivots
theorem FacV.later {w w' : World} {v : Value} {x : FacD} (h : FacV w v x) (hb : Below w.heap.size w w') : FacV w' v x := by
  obtain ⟨A, c, B, d, rfl, hl, h1, h2⟩ := h
  exact ⟨A, c, B, d, rfl, hl, h1.later hb, h2.later hb⟩
/-- A factorization of the call's own. -/
def FacO (w : World) (base : Nat) (v : Value) (x : FacD) : Prop := ∃ va vb, v = .agg #[va, vb] ∧ FO w base va x.lower ∧ VO w base vb x.pivots
theorem FacO.reads {w : World} {base : Nat} {v : Value} {x : FacD} (h : FacO w base v x) : FacV w v x := by
  obtain ⟨va, vb, rfl, h1, h2⟩ := h
  obtain ⟨A, c, rfl, hl, hc⟩ := h1.form
  obtain ⟨B, d, rfl, hm, hd⟩ := h2.form
  exact ⟨A, c, B, d, rfl, ⟨hl, hc, hm, hd⟩, h1.reads, h2.reads⟩
theorem Slots.p2 {w : World} {g : Nat} {a b : Value} (h : Slots w g [a, b]) : w.cell? ⟨g, 0, none⟩ = some a ∧ w.cell? ⟨g, 1, none⟩ = some b ∧ w.frozen? ⟨g, 0, none⟩ = false ∧ w.frozen? ⟨g, 1, none⟩ = false :=
  ⟨h.2.1 0 (by simp), h.2.1 1 (by simp), h.2.2 0, h.2.2 1⟩

end Go.Proofs.YtlpomcihkjiokaaGreat

namespace Go.Proofs.YtlpomcihkjiokaaGreat
open Go.RowKit Go.Joins

def fitB (n : Nat) (u : List RatD) : Bool := decide ((u.length : Int) = (n : Int)) && vok u
def fitsB (rs : List RowD) (us : List (List RatD)) : Bool := us.all (fitB rs.length) && mOk rs

set_option maxRecDepth 100000 in
set_option maxHeartbeats 1600000 in
theorem iAreVectors (rs : List RowD) (us : List (List RatD)) (u : Value) (B0 : Option Addr) (m d : Nat) (hm : us.length = m) (w : World) (hu : MatV w u rs) (hv : FI w B0 us) (hf : MFew rs) (hg : FFew us) :
    Calls Tryz.prog 132 #[u, .slice B0 m d] w fun e w' => e = .returned (.bool (fitsB rs us)) ∧ Below w.heap.size w w' := by
  have HU := Lib.hid (fun W (hW : Below w.heap.size w W) => hu.later hW)
  have HF := Lib.hid hf
  have HG := Lib.hid hg.2
  obtain ⟨A, c, rfl, _, _⟩ := hu
  have hn1 := hf.1
  have hm1 : m ≤ 1048576 := hm ▸ hg.1
  have HM := Lib.hid (fun W hW => iIsMatrix rs _ W (HU.out W hW) HF.out)
  have HALL := Lib.hid (show (∀ j, j < us.length → fitB rs.length (us.getD j []) = true) → us.all (fitB rs.length) = true from fun h => List.all_eq_true.2 (fun x hx => by
    obtain ⟨k, hk, rfl⟩ := mem_getD (d := []) hx
    exact h k hk))
  have HNO := Lib.hid (show ∀ j, j < us.length → fitB rs.length (us.getD j []) = false → us.all (fitB rs.length) = false from fun j hj h => by
    rw [List.all_eq_false]
    exact ⟨us.getD j [], by simp [hj], by rw [h]; simp⟩)
  have HIV := Lib.hid (fun (x : List RatD) A c (hx : Few x) W (hW : VI W A x) => show Calls Tryz.prog 71 #[.slice A x.length c, .int .i64 (rs.length : Nat)] W (fun e w' => e = .returned (.bool (fitB rs.length x)) ∧ Below W.heap.size W w') from iIsVector x x.length c rs.length rfl hx A W hW)
  unfold fitsB
  generalize mOk rs = mo at *
  clear hf hg HU HF
  generalize rs.length = n at *
  generalize us.all (fitB n) = al at *
  have S0 := Slots.new (Below.refl _ (w.alloc (.cells #[.slice A n c] 52))) (g := w.heap.size) rfl
  have hb0 := below_alloc1 w (.cells #[.slice A n c] 52)
  have HV := Lib.hid hv
  have HMM := Lib.hid hm
  clear hm hv
  go_enter Tryz.func132, Tryz.ntmps132
  go_wp2_with fail
  generalize w.alloc (.cells #[.slice A n c] 52) = w1 at *
  go_loopw [9] (fun z wr => ∃ k : Nat, k ≤ m ∧ z = .int .i64 k ∧ (∀ j, j < k → fitB n (us.getD j []) = true) ∧ Below w1.heap.size w1 wr) (fun z _ => m - (intOf z).toNat)
  case atStart => exact ⟨0, Nat.zero_le _, rfl, fun j hj => by omega, Below.refl _ _⟩
  case round =>
    obtain ⟨k, hk, rfl, ht, hbw⟩ := hrel
    have HT := Lib.hid ht
    clear ht
    have hbf := hb0.trans (below_le hbw hb0.size)
    replace S0 := S0.later hbw
    obtain ⟨a0, _⟩ := S0.c1
    by_cases hkm : k = m
    · subst hkm
      have h0 : decide ((k : Int) < (k : Int)) = false := by simp
      have HAL := Lib.hid (HALL.out (fun j hj => HT.out j (by rw [← HMM.out]; exact hj)))
      go_wp2_with fail
      refine (HM.out _ hbf).mono ?_
      rintro e w5 ⟨rfl, hb5⟩
      have hb6 := below_trans hbf hb5
      clear S0 a0
      go_wp2
      go_ret
      exact ⟨ret_bool (show mo = (al && mo) by rw [HAL.out, Bool.true_and]), hb6⟩
    · have hlt : (k : Int) < (m : Int) := by omega
      have hku : k < us.length := by rw [HMM.out]; omega
      obtain ⟨b4, o4, rfl, hb4, hat⟩ := HV.out.cells k hku
      have hat' := VAt.stays _ _ _ _ _ hb4 hat hbf
      have hfw := HG.out k hku
      have HTK := Lib.hid (show fitB n (us.getD k []) = true → ∀ j, j < k + 1 → fitB n (us.getD j []) = true from fun h j hj => (Nat.lt_succ_iff_lt_or_eq.1 hj).elim (HT.out j) (fun e => e ▸ h))
      have HNK := Lib.hid (HNO.out k hku)
      clear hat hku
      generalize us.getD k [] = x at *
      obtain ⟨A5, c5, k0, hl5, hv5⟩ := hat'
      have HIX := fun W hW => HIV.out x A5 c5 hfw W hW
      have HV5 := Lib.hid hv5
      clear hv5 hfw
      generalize fitB n x = q at *
      cases q
      · have HFIN := Lib.hid (HNK.out (by trivial))
        replace HIX := Lib.hid HIX
        clear HTK HNK
        go_wp2_with fail
        refine (HIX.out _ HV5.out).mono ?_
        rintro e w5 ⟨rfl, hb5⟩
        have hb6 := below_trans hbf hb5
        clear S0 a0 k0
        go_wp2
        go_ret
        exact ⟨ret_bool (show false = (al && mo) by rw [HFIN.out, Bool.false_and]), hb6⟩
      · have HFIN := Lib.hid (HTK.out (by trivial))
        replace HIX := Lib.hid HIX
        clear HTK HNK
        go_wp2_with fail
        refine (HIX.out _ HV5.out).mono ?_
        rintro e w5 ⟨rfl, hb5⟩
        have hb6 := below_trans hbw hb5
        clear S0 a0 k0
        go_wp2
        go_roundw
        case rel => exact ⟨k + 1, by omega, rfl, HFIN.out, hb6⟩
        case measure => simp [intOf]; omega
end Go.Proofs.YtlpomcihkjiokaaGreat

namespace Go.Proofs.YtlpomcihkjiokaaGreat
open Go.RowKit Go.Joins

/-- A vector as a value. -/
def VecV (w : World) (v : Value) (us : List RatD) : Prop := ∃ A c, v = .slice A us.length c ∧ (us.length ≤ c ∧ c ≤ maxLen) ∧ VI w A us
theorem VecV.later {w w' : World} {v : Value} {us : List RatD} (h : VecV w v us) (hb : Below w.heap.size w w') : VecV w' v us := by
  obtain ⟨A, c, rfl, hl, hv⟩ := h
  exact ⟨A, c, rfl, hl, hv.later hb⟩
theorem VS.vec {w : World} {lo hi : Nat} {v : Value} {ps : List (Value × Value)} {rs : List RatD} (h : VS w lo hi v ps rs) : VecV w v rs := by
  obtain ⟨A, c, rfl, h1, h2⟩ := h.form
  exact ⟨A, c, rfl, ⟨h1, h2⟩, h.reads⟩
theorem VX.vec {w : World} {lo hi : Nat} {v : Value} {rs : List RatD} (h : VX w lo hi v rs) : VecV w v rs := by
  obtain ⟨ps, h⟩ := h
  exact h.vec
theorem VZ.vec {w : World} {lo hi : Nat} {v : Value} {rs : List RatD} (h : VZ w lo hi v rs) : VecV w v rs := by
  obtain ⟨ps, h, _⟩ := h
  exact h.vec
theorem fi2 {w : World} {g : Nat} {u v : Value} {us vs : List RatD} (hs : Slots w g [u, v]) (ha : VecV w u us) (hb : VecV w v vs) : FI w (some ⟨g, 0, none⟩) [us, vs] := by
  obtain ⟨A, c, rfl, l1, h1⟩ := ha
  obtain ⟨B, d, rfl, l2, h2⟩ := hb
  refine fun _ => ⟨g, 0, rfl, hs.1, fun i hi => ?_⟩
  obtain ⟨a0, a1, _⟩ := hs.k2
  match i, hi with
  | 0, _ => exact ⟨A, c, a0, l1, h1⟩
  | 1, _ => exact ⟨B, d, a1, l2, h2⟩
theorem ffew2 {us vs : List RatD} (hf : Few us) (hg : Few vs) : FFew [us, vs] := by
  refine ⟨by simp, fun k hk => ?_⟩
  match k, hk with
  | 0, _ => exact hf
  | 1, _ => exact hg

theorem dotK_bad {us vs : List RatD} {j : Nat} (hj : FE.ratOk (vs.getD j zR) = false) : ∀ k, j < k → dotK us vs k = zR
  | 0, h => by omega
  | k + 1, h => by
    show FE.radd (dotK us vs k) (FE.rmul (us.getD k zR) (vs.getD k zR)) = zR
    by_cases e : j = k
    · subst e
      rw [FE.rmul_bad2 hj, FE.radd_bad2 FE.zR_not]
    · rw [dotK_bad hj k (by omega), FE.radd_bad1 FE.zR_not]
theorem inner_full {us ys : List RatD} (hl : us.length = ys.length) : inner us (vFull ys) = inner us ys := by
  unfold vFull
  split
  · rfl
  · rename_i h
    have hb : vok ys = false := by simpa using h
    have : ∃ j, j < ys.length ∧ FE.ratOk (ys.getD j zR) = false := by
      unfold vok at hb
      rw [List.all_eq_false] at hb
      obtain ⟨x, hx, hn⟩ := hb
      obtain ⟨j, hj, rfl⟩ := mem_getD (d := zR) hx
      exact ⟨j, hj, by simpa using hn⟩
    obtain ⟨j, hj, hn⟩ := this
    unfold inner
    rw [if_pos hl, if_neg (by simp; intro h; rw [h] at hl; simp at hl; omega), dotK_bad hn _ (by omega)]
theorem fits2 {rs : List RowD} {us vs : List RatD} (h : fitsB rs [us, vs] = true) : mOk rs = true ∧ us.length = rs.length ∧ vs.length = rs.length ∧ vok us = true ∧ vok vs = true := by
  simp only [fitsB, List.all_cons, List.all_nil, fitB, Bool.and_eq_true, decide_eq_true_eq, Bool.and_true] at h
  obtain ⟨⟨⟨a, b⟩, c, d⟩, e⟩ := h
  exact ⟨e, by omega, by omega, b, d⟩
theorem inner_res (us vs : List RatD) : FE.Res (inner us vs) := by
  unfold inner
  split
  · exact dotK_res _ _ _
  · exact .inl rfl
theorem vFull_few {ys : List RatD} (h : Few ys) : Few (vFull ys) := by
  unfold vFull
  split
  · exact h
  · exact ⟨Nat.zero_le _, fun k hk => by simp at hk⟩
theorem vApply_few {rs : List RowD} {us : List RatD} (h : MFew rs) : Few (vApply rs us) := few_res (by rw [vApply_len]; exact h.1) (vApply_res rs us)

theorem fitsS {rs : List RowD} {us vs : List RatD} : fitsB rs [us, vs] = ((mOk rs && (decide ((us.length : Int) = (rs.length : Int)) && vok us)) && (mOk rs && (decide ((vs.length : Int) = (rs.length : Int)) && vok vs))) := by
  simp only [fitsB, List.all_cons, List.all_nil, fitB, Bool.and_true]
  cases mOk rs <;> simp
end Go.Proofs.YtlpomcihkjiokaaGreat
