/-
  Shared texts (C14).
-/
import Derived.Test.YtlpomcihkjiokaaGreatC13
import Derived.Test.YtlpomcihkjiokaaGreatC10
import Derived.Test.YtlpomcihkjiokaaGreatC1
import Derived.ProofKit
import Derived.Test.YtlpomcihkjiokaaGreatC3
namespace Go.Proofs.YtlpomcihkjiokaaGreat
open Go.RowKit Go.Joins

set_option maxRecDepth 100000 in
set_option maxHeartbeats 1600000 in
theorem heldRowS (rs : List RowD) (n c : Nat) (hn : rs.length = n) (k : Int) (hk : 0 ≤ k) (hk1 : k + (cntM rs : Nat) ≤ 4611686018426339328) (hfew : MFew rs) (A : Option Addr) (w : World) (ha : MI w A (mkM rs k)) :
    Calls Tryz.prog 98 #[.slice A n c, .int .i64 k] w fun e w' => e = .returned (.int .i64 (k + (cntM rs : Nat))) ∧ Below w.heap.size w w' := by
  have hn1 : n ≤ 1048576 := hn ▸ hfew.1
  have HF := Lib.hid hfew.2
  have HC := Lib.hid hk1
  have HA := Lib.hid (fun j (hj : j < rs.length) => by
    have := ha.cells j (by rw [mkM, mixM_len]; exact hj)
    rw [mkM, mixM_get hj, if_pos hj] at this
    exact this)
  have HN := Lib.hid hn
  clear ha hfew hk1 hn
  go_enter Tryz.func98, Tryz.ntmps98
  go_wp2_with fail
  go_loopw [1, 5] (fun u z wr => ∃ j : Nat, j ≤ n ∧ u = .int .i64 (k + (cntM (rs.take j) : Nat)) ∧ z = .int .i64 j ∧ Below w.heap.size w wr) (fun _ z _ => n - (intOf z).toNat)
  case atStart => exact ⟨0, Nat.zero_le _, by simp [cntM], rfl, Below.refl _ _⟩
  case round =>
    obtain ⟨j, hj, rfl, rfl, hbel⟩ := hrel
    by_cases hjn : j = n
    · subst hjn
      have h0 : decide ((j : Int) < (j : Int)) = false := by simp
      have HT := Lib.hid (show rs.take j = rs from List.take_of_length_le (by rw [HN.out]; exact Nat.le_refl _))
      go_wp2
      go_ret
      exact ⟨ret_int (by rw [HT.out]), hbel⟩
    · have hlt : (j : Int) < (n : Int) := by omega
      have hjl : j < rs.length := by rw [HN.out]; omega
      obtain ⟨b, off, rfl, hb1, hat⟩ := HA.out j hjl
      have hat1 := RowAt.stays _ _ _ _ _ hb1 hat hbel
      obtain ⟨f1, f2⟩ := HF.out j hjl
      have hcs := cntM_step rs j hjl
      have hcl := cntM_le rs (j + 1)
      have hx : cntRow (rs.getD j zRow) = (rs.getD j zRow).cols.length + cntV (rs.getD j zRow).vals := rfl
      have hK0 : 0 ≤ k + (cntM (rs.take j) : Nat) := by omega
      have hK1 : k + (cntM (rs.take j) : Nat) + (rs.getD j zRow).cols.length + (cntV (rs.getD j zRow).vals : Nat) ≤ 4611686018426339328 := by have := HC.out; omega
      have HT := Lib.hid (show k + (cntM (rs.take (j + 1)) : Nat) = k + (cntM (rs.take j) : Nat) + (rs.getD j zRow).cols.length + (cntV (rs.getD j zRow).vals : Nat) by omega)
      clear hcs hcl hx hjl hat
      generalize rs.getD j zRow = x at *
      generalize k + (cntM (rs.take j) : Nat) = K at *
      obtain ⟨A1, c1, B1, d1, g0, g1, hcd, r1, r2⟩ := hat1
      have e1 : (mkRow x K).cols = mkI x.cols.length K := rfl
      have e2 : (mkRow x K).vals = mkV x.vals (K + x.cols.length) := rfl
      rw [e1] at g0 r1
      rw [e2] at g1 r2
      rw [mkI_len] at g0
      rw [show (mkV x.vals (K + x.cols.length)).length = x.vals.length by rw [mkV, mixV_len]] at g1
      have HM1 := Lib.hid (fun W (hW : Below wr.heap.size wr W) => heldIntS x.cols.length c1 K (by omega) (by omega) f1 A1 W (r1.later hW))
      have HM2 := Lib.hid (fun W (hW : Below wr.heap.size wr W) => heldRatS x.vals x.vals.length d1 rfl (K + x.cols.length) (by omega) (by omega) f2 B1 W (r2.later hW))
      have hp1 : decide (K + (x.cols.length : Int) < 0) = false := decide_eq_false (by omega)
      have hp2 : decide (K + (x.cols.length : Int) + ((cntV x.vals : Nat) : Int) < 0) = false := decide_eq_false (by omega)
      have hbw : b < wr.heap.size := Nat.lt_of_lt_of_le hb1 hbel.size
      clear r1 r2 hcd e1 e2
      generalize cntV x.vals = CV0 at *
      generalize x.cols.length = nc at *
      generalize x.vals.length = nv at *
      go_wp2_with fail
      refine (HM1.out _ (Below.refl _ _)).mono ?_
      rintro e w2 ⟨rfl, hb2⟩
      have g1' := cell_later hbw g1 hb2
      clear g0 g1
      go_wp2_with fail
      refine (HM2.out _ hb2).mono ?_
      rintro e w3 ⟨rfl, hb3⟩
      have hbel3 := hbel.trans (below_le (below_trans hb2 hb3) hbel.size)
      clear g1' hb2 hb3 hbel
      go_wp2
      go_roundw
      case rel => exact ⟨j + 1, by omega, by rw [HT.out], rfl, hbel3⟩
      case measure => simp [intOf]; omega

set_option maxHeartbeats 800000 in
theorem heldMatrix (rs : List RowD) (k : Int) (hk : 0 ≤ k) (hk1 : k + (cntM rs : Nat) ≤ 4611686018426339328) (hfew : MFew rs) (v : Value) (w : World) (hv : MatV w v (mkM rs k)) :
    Calls Tryz.prog 31 #[v, .int .i64 k] w fun e w' => e = .returned (.int .i64 (k + (cntM rs : Nat))) ∧ Below w.heap.size w w' := by
  obtain ⟨A, c, rfl, _, hx⟩ := hv
  have hl : (mkM rs k).length = rs.length := by rw [mkM, mixM_len]
  rw [hl]
  have HM := Lib.hid (fun W (hW : Below w.heap.size w W) => heldRowS rs _ c rfl k hk hk1 hfew A W (hx.later hW))
  have hp : decide (k + ((cntM rs : Nat) : Int) < 0) = false := decide_eq_false (by omega)
  clear hx hl hfew hk1
  generalize cntM rs = C at *
  generalize rs.length = n at *
  go_enter Tryz.func31, Tryz.ntmps31
  go_wp2_with fail
  refine (HM.out _ (below_alloc1 _ _)).mono ?_
  rintro e w1 ⟨rfl, hb⟩
  replace hb := box_below hb
  go_wp2
  go_ret
  exact ⟨rfl, hb⟩
theorem markMZ (rs : List RowD) (k : Int) (hk : 0 ≤ k) (hk1 : k ≤ 1048576) (hfew : MFew rs) (lo hi : Nat) (v : Value) (w : World) (h : MZ w lo hi v rs) :
    Calls Tryz.prog 30 #[v, .int .i64 k] w fun e w' => e = .returned (.int .i64 (k + (cntM rs : Nat))) ∧ Frame (fun b => lo ≤ b ∧ b < hi) w w' ∧ MZ w' lo hi v (mkM rs k) := by
  obtain ⟨u, qs, rfl, hm, ha⟩ := h
  have hc := cntM_few hfew
  refine (markMatrix rs k hk (by omega) hfew lo hi u qs w hm).mono ?_
  rintro e w' ⟨he, hf, _, hx⟩
  exact ⟨he, hf.mono (fun b hb => hm.foot hb), u, qs, rfl, hx ha, ha⟩
theorem heldMZ (rs : List RowD) (k : Int) (hk : 0 ≤ k) (hk1 : k ≤ 1048576) (hfew : MFew rs) (lo hi : Nat) (v : Value) (w : World) (h : MZ w lo hi v (mkM rs k)) :
    Calls Tryz.prog 31 #[v, .int .i64 k] w fun e w' => e = .returned (.int .i64 (k + (cntM rs : Nat))) ∧ Below w.heap.size w w' :=
  heldMatrix rs k hk (by have := cntM_few hfew; omega) hfew v w h.reads
theorem MX.frame {S : Nat → Prop} {w w' : World} {lo hi : Nat} {v : Value} {rs : List RowD} (h : MX w lo hi v rs) (hf : Frame S w w') (hs : ∀ b, lo ≤ b → b < hi → ¬ S b) : MX w' lo hi v rs := by
  obtain ⟨qs, h⟩ := h
  exact ⟨qs, h.frame hf hs⟩
theorem markMS2 (rs : List RowD) (k : Int) (hk : 0 ≤ k) (hk1 : k ≤ 2000000000000000000) (hfew : MFew rs) (lo hi : Nat) (v : Value) (w : World) (h : MX w lo hi v rs) :
    Calls Tryz.prog 30 #[.agg #[v], .int .i64 k] w fun e w' => e = .returned (.int .i64 (k + (cntM rs : Nat))) ∧ Frame (fun b => lo ≤ b ∧ b < hi) w w' := by
  obtain ⟨qs, h⟩ := h
  have hc := cntM_few hfew
  refine (markMatrix rs k hk (by omega) hfew lo hi v qs w h).mono ?_
  rintro e w' ⟨he, hf, _⟩
  exact ⟨he, hf.mono (fun b hb => h.foot hb)⟩
theorem cntR_sz (r : RatD) : cntR r = 1 + r.size := by unfold cntR RatD.size; omega
theorem cntV_sz (rs : List RatD) : cntV rs = vsz rs := by
  unfold cntV vsz sumSz
  induction rs with
  | nil => rfl
  | cons x l ih => simp only [List.map_cons, List.sum_cons, List.length_cons, cntR_sz]; omega
theorem cntM_sz {rs : List RowD} {k : Nat} (h : msz rs ≤ k) : cntM rs ≤ k := by
  refine Nat.le_trans ?_ h
  unfold cntM msz sumRow
  have e : (rs.map cntRow) = rs.map RowD.size := List.map_congr_left (fun x _ => by unfold cntRow RowD.size; rw [cntV_sz])
  rw [e]
  exact Nat.le_add_left _ _

/-- A fraction of the call's own; its parts may lie in one block. -/
def RX (w : World) (lo hi : Nat) (v : Value) (x : RatD) : Prop := ∃ va vb, v = .agg #[.bool x.neg, va, vb] ∧ PO w lo hi va x.mag ∧ PO w lo hi vb x.den
theorem RX.form {w : World} {lo hi : Nat} {v : Value} {x : RatD} (h : RX w lo hi v x) : ∃ A c B d, v = .agg #[.bool x.neg, .slice A x.mag.length c, .slice B x.den.length d] := by
  obtain ⟨va, vb, rfl, h1, h2⟩ := h
  obtain ⟨A, c, rfl, _⟩ := h1.form
  obtain ⟨B, d, rfl, _⟩ := h2.form
  exact ⟨A, c, B, d, rfl⟩
theorem RX.frame {S : Nat → Prop} {w w' : World} {lo hi : Nat} {v : Value} {x : RatD} (h : RX w lo hi v x) (hf : Frame S w w') (hs : ∀ b, lo ≤ b → b < hi → ¬ S b) : RX w' lo hi v x := by
  obtain ⟨va, vb, rfl, h1, h2⟩ := h
  exact ⟨va, vb, rfl, h1.frame hf (fun b hb => hs b (h1.2 b hb).1 (h1.2 b hb).2), h2.frame hf (fun b hb => hs b (h2.2 b hb).1 (h2.2 b hb).2)⟩
theorem RX.later {w w' : World} {lo hi : Nat} {v : Value} {x : RatD} (h : RX w lo hi v x) (hb : Below w.heap.size w w') : RX w' lo hi v x := h.frame (Frame.of_below (S := fun _ => False) hb) (fun _ _ _ h => h)
theorem RX.reads {w : World} {lo hi : Nat} {v : Value} {x : RatD} (h : RX w lo hi v x) : RatV w v x := by
  obtain ⟨va, vb, rfl, h1, h2⟩ := h
  exact RatO.reads ⟨va, vb, rfl, h1.1, h2.1⟩
theorem rfew_of {x : RatD} (h : x.size ≤ 1048576) : RFew x := by
  unfold RatD.size at h
  exact ⟨by omega, by omega⟩
def cntRX (x : RatD) : Nat := x.mag.length + x.den.length
theorem cntRX_few {x : RatD} (h : RFew x) : cntRX x ≤ 2097152 := by
  obtain ⟨h1, h2⟩ := h
  unfold cntRX
  omega
theorem toRX (x : RatD) (v : Value) (w : World) (hv : RatV w v x) (hf : RFew x) :
    Calls Tryz.prog 24 #[v] w fun e w' => ∃ v', e = .returned v' ∧ RX w' w.heap.size w'.heap.size v' x ∧ Below w.heap.size w w' := by
  refine (toRat x v w hv hf.1 hf.2).mono ?_
  rintro e w' ⟨v', rfl, ⟨va, vb, rfl, h1, h2⟩, hb⟩
  exact ⟨_, rfl, ⟨va, vb, rfl, h1.io, h2.io⟩, hb⟩
theorem ratSelf (x : RatD) (u v : Value) (w : World) (hu : RatV w u x) (hv : RatV w v x) (hf : RFew x) :
    Calls Tryz.prog 28 #[u, v] w fun e w' => e = .returned (.bool true) ∧ Below w.heap.size w w' := by
  have := eqRat x x u v w hu hv hf.1 hf.2 hf.1 hf.2
  rw [RatD.same_refl] at this
  exact this
theorem markRX (x : RatD) (k : Int) (hk : 0 ≤ k) (hk1 : k ≤ 4000000000000000000) (hf : RFew x) (lo hi : Nat) (v : Value) (w : World) (h : RX w lo hi v x) :
    Calls Tryz.prog 29 #[v, .int .i64 k] w fun e w' => e = .returned (.int .i64 (k + (cntRX x : Nat))) ∧ Frame (fun b => lo ≤ b ∧ b < hi) w w' := by
  obtain ⟨va, vb, rfl, h1, h2⟩ := h
  refine (markRat x.neg x.mag x.den k hk (by omega) hf.1 hf.2 lo hi va vb w h1 h2).mono ?_
  rintro e w' ⟨rfl, hfr, _, _⟩
  exact ⟨ret_int (by unfold cntRX; omega), hfr.mono (fun b hb => hb.elim (h1.2 b) (h2.2 b))⟩
end Go.Proofs.YtlpomcihkjiokaaGreat

namespace Go.Proofs.YtlpomcihkjiokaaGreat
open Go.ChangeShapes Go.RowKit Go.Joins Go.Deep

theorem list3 {α : Type} {l : List α} (h : l.length = 3) : ∃ a b c, l = [a, b, c] := by
  match l, h with
  | [a, b, c], _ => exact ⟨a, b, c, rfl⟩

section
variable {H : Type} {enc : TypeId × Value → H} {w : World}

theorem cells1 : Tryz.prog.cellsOf 3 = 1 := by kernel_rfl
theorem cellsB : Tryz.prog.cellsOf 42 = 2 := by kernel_rfl
theorem cellsR : Tryz.prog.cellsOf 44 = 3 := by kernel_rfl
theorem cellsS : Tryz.prog.cellsOf 40 = 1 := by kernel_rfl
theorem cellsBool : Tryz.prog.cellsOf 4 = 1 := by kernel_rfl

theorem openRat {n : Nat} {cs : List Value} {y : DataW H × List MemPlace} (h : DataW.trod enc Tryz.prog w 0 (fun _ => true) true n 44 cs = some y) (hl : cs.length = 3) :
    ∃ (z : RatD) (A : Option Addr) (c : Nat) (B : Option Addr) (d : Nat), cs = [.bool z.neg, .slice A z.mag.length c, .slice B z.den.length d] ∧ (z.mag.length ≤ c ∧ c ≤ maxLen ∧ z.den.length ≤ d ∧ d ≤ maxLen) ∧ RI w A z.mag ∧ RI w B z.den := by
  obtain ⟨y0, y1, n1, _, _, h0, h1⟩ := trod_struct2 Tryz.underlying44 h
  obtain ⟨z0, z1, n2, _, _, g0, g1⟩ := trod_struct2 Tryz.underlying42 h0
  obtain ⟨a, b, c, rfl⟩ := list3 hl
  simp [cellsB, cellsS, cellsBool] at h0 h1 g0 g1
  obtain ⟨s, hs, _⟩ := DataW.trod_bool Tryz.underlying4 g0
  obtain ⟨A, ca, xs, hA, la, ma, ra, _⟩ := openRI Tryz.underlying40 Tryz.underlying3 cells1 g1
  obtain ⟨B, cb, ys, hB, lb, mb, rb, _⟩ := openRI Tryz.underlying40 Tryz.underlying3 cells1 h1
  simp at hs hA hB
  subst hs hA hB
  exact ⟨⟨s, xs, ys⟩, A, ca, B, cb, rfl, ⟨la, ma, lb, mb⟩, ra, rb⟩

theorem openVI {n : Nat} {cs : List Value} {y : DataW H × List MemPlace} (h : DataW.trod enc Tryz.prog w 0 (fun _ => true) true n 23 cs = some y) :
    ∃ (A : Option Addr) (c : Nat) (rs : List RatD), cs = [.slice A rs.length c] ∧ rs.length ≤ c ∧ c ≤ maxLen ∧ VI w A rs := by
  obtain ⟨A, c, rs, h1, h2, h3, h4, _⟩ := openSI (At := RatAt) (k := 3) (d := zR) (G := fun _ => True) Tryz.underlying23 cellsR (by omega) (fun n cs' y hy hl => by
    obtain ⟨z, A, c, B, d, rfl, hl', ra, rb⟩ := openRat hy hl
    refine ⟨z, trivial, fun b o hc => ⟨A, c, B, d, ?_, ?_, ?_, hl', ra, rb⟩⟩
    · simpa using hc 0 (by omega)
    · simpa using hc 1 (by omega)
    · simpa using hc 2 (by omega)) h
  exact ⟨A, c, rs, h1, h2, h3, h4⟩
end
end Go.Proofs.YtlpomcihkjiokaaGreat

namespace Go.Proofs.YtlpomcihkjiokaaGreat
open Go.ChangeShapes Go.RowKit Go.Joins Go.Deep Go.WideShapes

section
variable {H : Type} {enc : TypeId × Value → H} {w : World}

/-- A struct by value, opened. -/
theorem open_agg {P : Program} {t : TypeId} {v : Value} {d : DataW H} {p : List MemPlace} (hv : ∃ cs, v = .agg cs ∧ cs.size = P.cellsOf t) (h : DataW.Trod enc P w 0 (fun _ => true) true t v d p) :
    ∃ (cs : List Value) (y : DataW H × List MemPlace) (n : Nat), v = .agg cs.toArray ∧ cs.length = P.cellsOf t ∧ DataW.trod enc P w 0 (fun _ => true) true n t cs = some y := by
  obtain ⟨cs, rfl, hsz⟩ := hv
  obtain ⟨fuel, hf⟩ := h
  exact ⟨cs.toList, _, fuel, by simp, by simpa using hsz, hf⟩

theorem list2 {α : Type} {l : List α} (h : l.length = 2) : ∃ a b, l = [a, b] := by
  match l, h with
  | [a, b], _ => exact ⟨a, b, rfl⟩
theorem list1 {α : Type} {l : List α} (h : l.length = 1) : ∃ a, l = [a] := by
  match l, h with
  | [a], _ => exact ⟨a, rfl⟩
theorem cellsRow : Tryz.prog.cellsOf 152 = 2 := by kernel_rfl
theorem cellsMat : Tryz.prog.cellsOf 47 = 1 := by kernel_rfl
theorem cellsRS : Tryz.prog.cellsOf 23 = 1 := by kernel_rfl
theorem cellsRowS : Tryz.prog.cellsOf 45 = 1 := by kernel_rfl

theorem openRow {n : Nat} {cs : List Value} {y : DataW H × List MemPlace} (h : DataW.trod enc Tryz.prog w 0 (fun _ => true) true n 152 cs = some y) (hl : cs.length = 2) :
    ∃ (z : RowD) (A : Option Addr) (c : Nat) (B : Option Addr) (d : Nat), cs = [.slice A z.cols.length c, .slice B z.vals.length d] ∧ (z.cols.length ≤ c ∧ c ≤ maxLen ∧ z.vals.length ≤ d ∧ d ≤ maxLen) ∧ RI w A z.cols ∧ VI w B z.vals := by
  obtain ⟨y0, y1, n1, _, _, h0, h1⟩ := trod_struct2 Tryz.underlying152 h
  obtain ⟨a, b, rfl⟩ := list2 hl
  simp [cellsRS, cellsS] at h0 h1
  obtain ⟨A, ca, xs, hA, la, ma, ra, _⟩ := openRI Tryz.underlying40 Tryz.underlying3 cells1 h0
  obtain ⟨B, cb, ys, hB, lb, mb, rb⟩ := openVI h1
  simp at hA hB
  subst hA hB
  exact ⟨⟨xs, ys⟩, A, ca, B, cb, rfl, ⟨la, ma, lb, mb⟩, ra, rb⟩

set_option maxRecDepth 100000 in
theorem openMI {n : Nat} {cs : List Value} {y : DataW H × List MemPlace} (h : DataW.trod enc Tryz.prog w 0 (fun _ => true) true n 45 cs = some y) :
    ∃ (A : Option Addr) (c : Nat) (rs : List RowD), cs = [.slice A rs.length c] ∧ rs.length ≤ c ∧ c ≤ maxLen ∧ MI w A rs := by
  obtain ⟨A, c, rs, h1, h2, h3, h4, _⟩ := openSI (At := RowAt) (k := 2) (d := zRow) (G := fun _ => True) Tryz.underlying45 cellsRow (by omega) (fun n cs' y hy hl => by
    obtain ⟨z, A, c, B, d, rfl, hl', ra, rb⟩ := openRow hy hl
    refine ⟨z, trivial, fun b o hc => ⟨A, c, B, d, ?_, ?_, hl', ra, rb⟩⟩
    · simpa using hc 0 (by omega)
    · simpa using hc 1 (by omega)) h
  exact ⟨A, c, rs, h1, h2, h3, h4⟩

theorem openMatrix {v : Value} {d : DataW H} {p : List MemPlace} (hv : ∃ cs, v = .agg cs ∧ cs.size = Tryz.prog.cellsOf 47) (h : DataW.Trod enc Tryz.prog w 0 (fun _ => true) true 47 v d p) : ∃ rs, MatV w v rs := by
  obtain ⟨cs, y, n, rfl, hl, h1⟩ := open_agg hv h
  rw [cellsMat] at hl
  obtain ⟨a, rfl⟩ := list1 hl
  obtain ⟨y0, n1, _, _, h0⟩ := trod_struct1 Tryz.underlying47 h1
  simp [cellsRowS] at h0
  obtain ⟨A, c, rs, hA, la, ma, ra⟩ := openMI h0
  simp at hA
  subst hA
  exact ⟨rs, A, c, rfl, ⟨la, ma⟩, ra⟩
end
end Go.Proofs.YtlpomcihkjiokaaGreat

namespace Go.Proofs.YtlpomcihkjiokaaGreat
open Go.ChangeShapes Go.WideShapes Go.ChangeAt Go.RowKit Go.Joins Go.WideElems Go.Deep
section
variable {H : Type} {enc : TypeId × Value → H} {w : World}
end
end Go.Proofs.YtlpomcihkjiokaaGreat

namespace Go.Proofs.YtlpomcihkjiokaaGreat
open Go.ChangeShapes Go.RowKit Go.Joins Go.Deep Go.WideShapes

section
variable {H : Type} {enc : TypeId × Value → H} {w : World}

theorem openRatA {v : Value} {d : DataW H} {p : List MemPlace} (hv : ∃ cs, v = .agg cs ∧ cs.size = Tryz.prog.cellsOf 44) (h : DataW.Trod enc Tryz.prog w 0 (fun _ => true) true 44 v d p) : ∃ x, RatV w v x := by
  obtain ⟨cs, y, n, rfl, hl, h0⟩ := open_agg hv h
  obtain ⟨z, A, c, B, e, rfl, hb, h1, h2⟩ := openRat h0 (hl.trans (by kernel_rfl))
  exact ⟨z, A, c, B, e, rfl, hb, h1, h2⟩
end
end Go.Proofs.YtlpomcihkjiokaaGreat
