/-
  Walks: the law's marks on slices of ints, and whether they are held.
  Walks: the law's marks on fractions and vectors, and whether they are held.
  Walks: the law's marks on matrices.
  Walks: whether a vector holds the law's marks.
  Walks: comparison of matrices by the reference.
  Marks in a law: what stays while a copy or a result is marked.
  Walks: the law's own functions on points: size, copy, comparison with itself. A slice of n points reads as 2n fractions.
-/
import Derived.Test.YtkmmdajlbkbnmaaK3
namespace Go.Proofs.Ytkmmdajlbkbnmaa
open Go.RowKit Go.Joins

/-- What an array holds behind a mark of its first n cells. -/
def overI (xs : List Int) (n : Nat) (k : Int) : List Int := (List.range xs.length).map fun i => if i < n then k + (i : Nat) else xs.getD i 0
theorem overI_len (xs : List Int) (n : Nat) (k : Int) : (overI xs n k).length = xs.length := by simp [overI]
theorem overI_get {xs : List Int} {n : Nat} {k : Int} {i : Nat} (h : i < xs.length) : (overI xs n k).getD i 0 = if i < n then k + (i : Nat) else xs.getD i 0 := by
  unfold overI
  rw [List.getD_eq_getElem?_getD, List.getElem?_map, List.getElem?_range h]
  rfl
theorem overI_all (xs : List Int) (k : Int) : overI xs xs.length k = mkI xs.length k :=
  eq_mkI (overI_len _ _ _) (fun i hi => by rw [overI_get hi, if_pos hi])

set_option maxRecDepth 100000 in
set_option maxHeartbeats 800000 in
theorem markIntS_some (xs : List Int) (n c : Nat) (k : Int) (hk : 0 ≤ k) (hk1 : k ≤ 4611686018427387904) (hn : xs.length = n) (hn1 : n ≤ 1048576) (g : Nat) (w : World) (ha : Arr w g c xs) :
    Calls Try.prog 74 #[.slice (some ⟨g, 0, none⟩) n c, .int .i64 k] w fun e w' => e = .returned (.int .i64 (k + n)) ∧ Frame (fun b => b = g) w w' ∧ Turn w w' ∧ Arr w' g c (mkI n k) := by
  have HN := Lib.hid hn; clear hn
  go_enter Try.func74, Try.ntmps74
  go_wp2_with fail
  go_loopw [1, 5] (fun u v wr => ∃ (j : Nat) (zs : List Int), j ≤ n ∧ u = .int .i64 (k + (j : Nat)) ∧ v = .int .i64 j ∧ zs.length = n ∧ (∀ i, i < j → zs.getD i 0 = k + (i : Nat)) ∧ Arr wr g c zs ∧ Frame (fun b => b = g) w wr ∧ Turn w wr) (fun _ v _ => n - (intOf v).toNat)
  case atStart => exact ⟨0, xs, Nat.zero_le _, by simp, rfl, HN.out, fun j hj => by omega, ha, Frame.refl _ _, Turn.refl _⟩
  case round =>
    obtain ⟨j, zs, hj, rfl, rfl, hz, hzz, harr, hfr, htn⟩ := hrel
    have HZ := Lib.hid hz; clear hz
    have HZZ := Lib.hid hzz; clear hzz
    by_cases hjn : j = n
    · subst hjn
      have h0 : decide ((j : Int) < (j : Int)) = false := by simp
      go_wp2
      go_ret
      refine ⟨rfl, hfr, htn, ?_⟩
      rw [← eq_mkI HZ.out HZZ.out]
      exact harr
    · have hlt : (j : Int) < (n : Int) := by omega
      have hlz : j < zs.length := by rw [HZ.out]; omega
      have e2 := harr.cell j hlz
      have e3 := harr.frozen j
      have harr' := harr.set j hlz (k + (j : Nat))
      have htn' := htn.trans (Turn.setInt e2 (k + (j : Nat)))
      have hfr' := hfr.setCell (p := ⟨g, j, none⟩) rfl (.int .i64 (k + (j : Nat)))
      have HZ3 := Lib.hid (show ∀ i, i < j + 1 → (zs.set j (k + (j : Nat))).getD i 0 = k + (i : Nat) from fun i hi => by
        rw [FE.getD_set]
        split
        · rename_i h; rw [← h.1]
        · rename_i h
          refine HZZ.out i ?_
          have := HZ.out
          omega)
      have HZ4 := Lib.hid (show (zs.set j (k + (j : Nat))).length = n by rw [List.length_set]; exact HZ.out)
      clear ha hlz
      generalize zs.getD j 0 = y at *
      go_wp2
      go_roundw
      case rel => exact ⟨j + 1, zs.set j (k + (j : Nat)), by omega, by go_num, rfl, HZ4.out, HZ3.out, harr', hfr', htn'⟩
      case measure => simp [intOf]; omega

set_option maxHeartbeats 400000 in
theorem markIntS_none (c : Nat) (k : Int) (_hk : 0 ≤ k) (A : Option Addr) (w : World) :
    Calls Try.prog 74 #[.slice A 0 c, .int .i64 k] w fun e w' => e = .returned (.int .i64 k) ∧ w' = w := by
  go_enter Try.func74, Try.ntmps74
  go_wp2_with fail
  go_loop [1, 5] (fun u v => u = .int .i64 k ∧ v = .int .i64 0) (fun _ _ => 0)
  case atStart => exact ⟨rfl, rfl⟩
  case round =>
    obtain ⟨rfl, rfl⟩ := hrel
    go_wp2
    go_ret
    exact ⟨rfl, rfl⟩

/-- The marks of a part. -/
theorem markIntS (xs : List Int) (k : Int) (hk : 0 ≤ k) (hk1 : k ≤ 4611686018427387904) (hn1 : xs.length ≤ 1048576) (lo hi : Nat) (v : Value) (w : World) (ha : PO w lo hi v xs) :
    Calls Try.prog 74 #[v, .int .i64 k] w fun e w' => e = .returned (.int .i64 (k + xs.length)) ∧ Frame (fun b => blk v = some b) w w' ∧ Turn w w' ∧ PO w' lo hi v (mkI xs.length k) := by
  cases hb : blk v with
  | none =>
    obtain ⟨A, c, rfl, h1, h2, h3⟩ := id ha.1
    have hx : xs = [] := by
      by_cases h : xs = []
      · exact h
      · obtain ⟨g, rfl, _⟩ := h3 h
        rw [blk_slice (by simpa using h)] at hb; cases hb
    subst hx
    refine (markIntS_none c k hk A w).mono ?_
    rintro e w' ⟨rfl, rfl⟩
    exact ⟨by simp, Frame.refl _ _, Turn.refl _, ha⟩
  | some g =>
    obtain ⟨hx, hg, c, rfl, hA⟩ := ha.1.at_blk hb
    refine (markIntS_some xs _ c k hk hk1 rfl hn1 g w hA).mono ?_
    rintro e w' ⟨rfl, hf, ht, hA'⟩
    refine ⟨rfl, hf.mono (fun b hb' => by rw [hb']), ht, ha.1.of_arr (mkI_len _ _) (fun b c' hb' hc' => ?_), ha.2⟩
    rw [hb] at hb'
    injection hb' with hb'
    subst hb'
    have : c' = c := by
      obtain ⟨r1, l1, _, e1⟩ := hA
      obtain ⟨r2, l2, _, e2⟩ := hc'
      rw [e1] at e2
      injection e2 with e2
      injection e2 with e2
      have := congrArg Array.size e2
      simp at this
      omega
    subst this
    exact hA'

set_option maxRecDepth 100000 in
set_option maxHeartbeats 800000 in
theorem heldIntS (n c : Nat) (k : Int) (hk : 0 ≤ k) (hk1 : k ≤ 4611686018427387904) (hn1 : n ≤ 1048576) (A : Option Addr) (w : World) (ha : RI w A (mkI n k)) :
    Calls Try.prog 75 #[.slice A n c, .int .i64 k] w fun e w' => e = .returned (.int .i64 (k + n)) ∧ Below w.heap.size w w' := by
  go_enter Try.func75, Try.ntmps75
  go_wp2_with fail
  go_loopw [1, 5] (fun u v wr => ∃ j : Nat, j ≤ n ∧ u = .int .i64 (k + (j : Nat)) ∧ v = .int .i64 j ∧ Below w.heap.size w wr) (fun _ v _ => n - (intOf v).toNat)
  case atStart => exact ⟨0, Nat.zero_le _, by simp, rfl, Below.refl _ _⟩
  case round =>
    obtain ⟨j, hj, rfl, rfl, hbel⟩ := hrel
    by_cases hjn : j = n
    · subst hjn
      have h0 : decide ((j : Int) < (j : Int)) = false := by simp
      go_wp2
      go_ret
      exact ⟨rfl, hbel⟩
    · have hlt : (j : Int) < (n : Int) := by omega
      obtain ⟨b1, o1, rfl, hb1, hc1⟩ := ha (by intro h; have := congrArg List.length h; rw [mkI_len] at this; simp at this; omega)
      have e1 := (hbel.cell (p := ⟨b1, o1 + j, none⟩) hb1).trans (hc1 j (by rw [mkI_len]; omega))
      rw [mkI_get (by omega)] at e1
      have h1 : ((k + (j : Nat) : Int) != k + (j : Nat)) = false := by simp
      clear hc1 ha
      go_wp2
      go_roundw
      case rel => exact ⟨j + 1, by omega, by go_num, rfl, hbel⟩
      case measure => simp [intOf]; omega
end Go.Proofs.Ytkmmdajlbkbnmaa

namespace Go.Proofs.Ytkmmdajlbkbnmaa
open Go.RowKit Go.Joins

theorem PO.later {w w' : World} {lo hi : Nat} {va : Value} {xs : List Int} (h : PO w lo hi va xs) (hb : Below w.heap.size w w') : PO w' lo hi va xs :=
  h.frame (S := fun _ => False) (Frame.of_below hb) (fun _ _ h => h)
theorem PO.lt {w : World} {lo hi : Nat} {va : Value} {xs : List Int} (h : PO w lo hi va xs) {b : Nat} (hb : blk va = some b) : b < w.heap.size := by
  obtain ⟨_, _, _, _, ha⟩ := h.1.at_blk hb
  exact ha.lt

set_option maxHeartbeats 400000 in
theorem markBigInt (s : Bool) (xs : List Int) (k : Int) (hk : 0 ≤ k) (hk1 : k ≤ 4611686018427387904) (hn1 : xs.length ≤ 1048576) (lo hi : Nat) (va : Value) (w : World) (ha : PO w lo hi va xs) :
    Calls Try.prog 94 #[.agg #[.bool s, va], .int .i64 k] w fun e w' => e = .returned (.int .i64 (k + xs.length)) ∧ Frame (fun b => blk va = some b) w w' ∧ Turn w w' ∧ PO w' lo hi va (mkI xs.length k) := by
  have HM := Lib.hid (fun W hW => markIntS xs k hk hk1 hn1 lo hi va W (ha.later (w' := W) hW))
  have hl := hn1
  obtain ⟨A, c, rfl, _⟩ := ha.form
  clear ha hn1
  generalize xs.length = n at *
  go_enter Try.func94, Try.ntmps94
  go_wp2_with fail
  refine (HM.out _ (below_alloc1 _ _)).mono ?_
  rintro e w1 ⟨rfl, hf, ht, hi1⟩
  replace hf := (Frame.of_below (below_alloc1 _ _)).trans hf
  replace ht := (Turn.of_below (below_alloc1 _ _)).trans ht
  go_wp2
  go_ret
  exact ⟨rfl, hf, ht, hi1⟩

set_option maxHeartbeats 400000 in
theorem markRat (s : Bool) (xs ys : List Int) (k : Int) (hk : 0 ≤ k) (hk1 : k ≤ 4611686018426339328) (hn1 : xs.length ≤ 1048576) (hn2 : ys.length ≤ 1048576) (lo hi : Nat) (va vb : Value) (w : World) (ha : PO w lo hi va xs) (hb : PO w lo hi vb ys) :
    Calls Try.prog 48 #[.agg #[.bool s, va, vb], .int .i64 k] w fun e w' => e = .returned (.int .i64 (k + xs.length + ys.length)) ∧ Frame (fun b => blk va = some b ∨ blk vb = some b) w w' ∧ Turn w w' ∧
      (Apart va vb → PO w' lo hi va (mkI xs.length k) ∧ PO w' lo hi vb (mkI ys.length (k + xs.length))) := by
  have HM := Lib.hid (fun W hW => markBigInt s xs k hk (by omega) hn1 lo hi va W (ha.later (w' := W) hW))
  have HK := Lib.hid (fun (zs : List Int) (hz : zs.length = ys.length) W (h : PO W lo hi vb zs) => hz ▸ markIntS zs (k + xs.length) (by omega) (by omega) (by omega) lo hi vb W h)
  have hne : blk va ≠ some w.heap.size := fun h => by have := ha.lt h; omega
  have HB := Lib.hid hb
  obtain ⟨A, c, rfl, _⟩ := ha.form
  obtain ⟨B, d, rfl, _⟩ := hb.form
  clear ha hb
  generalize xs.length = n at *
  generalize hm : ys.length = m at *
  have HL := Lib.hid hm; clear hm
  go_enter Try.func48, Try.ntmps48
  go_wp2_with fail
  refine (HM.out _ (below_alloc1 _ _)).mono ?_
  rintro e w1 ⟨rfl, hf, ht, hi1⟩
  have e2 := hf.cell (b := w.heap.size) (o := 2) (by simp) hne
  rw [cell_alloc_mark_at _ _ _ _ _ 2 rfl] at e2
  replace e2 : w1.cell? ⟨w.heap.size, 2, none⟩ = some (.slice B m d) := e2
  have hf0 := (Frame.of_below (below_alloc1 _ _)).trans hf
  have ht0 := (Turn.of_below (below_alloc1 _ _)).trans ht
  obtain ⟨zs, hz, hbz⟩ := HB.out.turn ht0
  rw [HL.out] at hz
  have HQ := Lib.hid hz
  clear hz
  go_wp2_with fail
  refine (HK.out zs HQ.out w1 hbz).mono ?_
  rintro e w2 ⟨rfl, hf2, ht2, hi2⟩
  clear e2
  go_wp2
  go_ret
  refine ⟨rfl, (hf0.mono (fun b h => .inl h)).trans (hf2.mono (fun b h => .inr h)), ht0.trans ht2, fun hap => ⟨hi1.frame hf2 (fun b h h' => hap.ne_blk h h' rfl), ?_⟩⟩
  exact hi2

set_option maxHeartbeats 400000 in
theorem heldBigInt (s : Bool) (n c : Nat) (k : Int) (hk : 0 ≤ k) (hk1 : k ≤ 4611686018427387904) (hn1 : n ≤ 1048576) (A : Option Addr) (w : World) (ha : RI w A (mkI n k)) :
    Calls Try.prog 95 #[.agg #[.bool s, .slice A n c], .int .i64 k] w fun e w' => e = .returned (.int .i64 (k + n)) ∧ Below w.heap.size w w' := by
  have HM := Lib.hid (fun W hW => heldIntS n c k hk hk1 hn1 A W (ha.later (w' := W) hW))
  clear ha
  have h1 : decide (k + (n : Int) < 0) = false := decide_eq_false (by omega)
  go_enter Try.func95, Try.ntmps95
  go_wp2_with fail
  refine (HM.out _ (below_alloc1 _ _)).mono ?_
  rintro e w1 ⟨rfl, hb⟩
  replace hb := box_below hb
  go_wp2
  go_ret
  exact ⟨rfl, hb⟩

set_option maxHeartbeats 400000 in
theorem heldRat (s : Bool) (n m c d : Nat) (k : Int) (hk : 0 ≤ k) (hk1 : k ≤ 4611686018426339328) (hn1 : n ≤ 1048576) (hn2 : m ≤ 1048576) (A B : Option Addr) (w : World) (ha : RI w A (mkI n k)) (hb : RI w B (mkI m (k + n))) :
    Calls Try.prog 49 #[.agg #[.bool s, .slice A n c, .slice B m d], .int .i64 k] w fun e w' => e = .returned (.int .i64 (k + n + m)) ∧ Below w.heap.size w w' := by
  have HM := Lib.hid (fun W hW => heldBigInt s n c k hk (by omega) hn1 A W (ha.later (w' := W) hW))
  have HK := Lib.hid (fun W hW => heldIntS m d (k + n) (by omega) (by omega) hn2 B W (hb.later (w' := W) hW))
  clear ha hb
  have h1 : decide (k + (n : Int) < 0) = false := decide_eq_false (by omega)
  have h2 : decide (k + (n : Int) + (m : Int) < 0) = false := decide_eq_false (by omega)
  go_enter Try.func49, Try.ntmps49
  go_wp2_with fail
  refine (HM.out _ (below_alloc1 _ _)).mono ?_
  rintro e w1 ⟨rfl, hb⟩
  have e2 := box_cell hb 2 (v := .slice B m d) rfl
  replace hb := box_below hb
  go_wp2_with fail
  refine (HK.out _ hb).mono ?_
  rintro e w2 ⟨rfl, hb2⟩
  replace hb := below_trans hb hb2
  clear e2
  go_wp2
  go_ret
  exact ⟨rfl, hb⟩

theorem VS.cells {w : World} {lo hi n c j : Nat} {A : Option Addr} {ps : List (Value × Value)} {rs : List RatD} (h : VS w lo hi (.slice A n c) ps rs) (hj : j < rs.length) :
    rs.length = n ∧ ∃ g, A = some ⟨g, 0, none⟩ ∧ g < w.heap.size ∧ (∀ i, w.frozen? ⟨g, i, none⟩ = false) ∧ (∃ s, w.cell? ⟨g, 0, none⟩ = some (.bool s)) ∧ EA w lo hi g (j * 3) (ps.getD j zP) (rs.getD j zR) := by
  obtain ⟨_, A', c', e, _, _, h3⟩ := h
  injection e with e1 e2 e3
  subst e1
  obtain ⟨g, rfl, _, _, k1, k2, ke⟩ := h3 (by rintro rfl; simp at hj)
  exact ⟨e2.symm, g, rfl, k1, k2, ⟨_, by have := (ke 0 (by omega)).1; rwa [Nat.zero_mul] at this⟩, ke j hj⟩
theorem VS.few {w : World} {lo hi : Nat} {v : Value} {ps : List (Value × Value)} {rs : List RatD} (h : VS w lo hi v ps rs) : ps.length = rs.length := h.1

set_option maxRecDepth 100000 in
set_option maxHeartbeats 1600000 in
theorem markRatS (rs : List RatD) (k : Int) (hk : 0 ≤ k) (hk1 : k + (cntV rs : Nat) ≤ 4611686018426339328) (hfew : Few rs) (lo hi : Nat) (v : Value) (ps : List (Value × Value)) (w : World) (h : VS w lo hi v ps rs) :
    Calls Try.prog 33 #[v, .int .i64 k] w fun e w' => e = .returned (.int .i64 (k + (cntV rs : Nat))) ∧ Frame (Foot v ps) w w' ∧ Turn w w' ∧ (Aps ps → VS w' lo hi v ps (mkV rs k)) := by
  obtain ⟨A, c, rfl, hc1, hc2⟩ := h.form
  have hn1 := hfew.1
  have HF := Lib.hid hfew.2
  have HV := Lib.hid h
  have hm : rs.length ≤ 9223372036854775807 := by omega
  have HC := Lib.hid hk1
  clear h hfew hc1 hc2 hk1
  obtain ⟨n, hn⟩ : ∃ n, rs.length = n := ⟨_, rfl⟩
  rw [hn] at hn1 hm HV ⊢
  have HN := Lib.hid hn; clear hn
  go_enter Try.func33, Try.ntmps33
  go_wp2_with fail
  go_loopw [1, 5] (fun u z wr => ∃ j : Nat, j ≤ n ∧ u = .int .i64 (k + (cntV (rs.take j) : Nat)) ∧ z = .int .i64 j ∧ Frame (Foot (.slice A n c) ps) w wr ∧ Turn w wr ∧ Hid (Aps ps → VS wr lo hi (.slice A n c) ps (mixV rs k j))) (fun _ z _ => n - (intOf z).toNat)
  case atStart => exact ⟨0, Nat.zero_le _, by simp [cntV], rfl, Frame.refl _ _, Turn.refl _, Lib.hid (fun _ => by rw [mixV_zero]; exact HV.out)⟩
  case round =>
    obtain ⟨j, hj, rfl, rfl, hfr, htn, HS⟩ := hrel
    by_cases hjn : j = n
    · subst hjn
      have h0 : decide ((j : Int) < (j : Int)) = false := by simp
      have HT := Lib.hid (show rs.take j = rs from List.take_of_length_le (by rw [HN.out]; exact Nat.le_refl _))
      go_wp2
      go_ret
      refine ⟨ret_int (by rw [HT.out]), hfr, htn, fun hap => ?_⟩
      have := HS.out hap
      rw [← HN.out] at this ⊢
      exact this
    · have hlt : (j : Int) < (n : Int) := by omega
      have hjl : j < rs.length := by rw [HN.out]; omega
      obtain ⟨rs', hl', hsh, hvs⟩ := HV.out.turn htn
      obtain ⟨_, hcell⟩ := hvs.cells (j := j) (by rw [hl']; exact hjl)
      obtain ⟨g, rfl, hg1, hfz, hz, he⟩ := hcell
      have hs1 := hsh j hjl
      obtain ⟨f1, f2⟩ := HF.out j hjl
      have hcs := cntV_step rs j hjl
      have hcl := cntV_le rs (j + 1)
      have hx : cntR (rs.getD j zR) = 1 + (rs.getD j zR).mag.length + (rs.getD j zR).den.length := rfl
      have hK0 : 0 ≤ k + (cntV (rs.take j) : Nat) := by omega
      have hK1 : k + (cntV (rs.take j) : Nat) ≤ 4611686018426339328 - 1 - (rs.getD j zR).mag.length - (rs.getD j zR).den.length := by have := HC.out; omega
      have HT := Lib.hid (show k + (cntV (rs.take (j + 1)) : Nat) = k + (cntV (rs.take j) : Nat) + 1 + (rs.getD j zR).mag.length + (rs.getD j zR).den.length by omega)
      have HG := Lib.hid (fun (hap : Aps ps) => HS.out hap)
      have HM := Lib.hid (show mixV rs k (j + 1) = (mixV rs k j).set j (mkRat (rs.getD j zR) (k + (cntV (rs.take j) : Nat))) from mixV_succ hjl)
      have HML := Lib.hid (show (mixV rs k j).length = n by rw [mixV_len]; exact HN.out)
      clear hcs hcl hx hsh HS hjl
      generalize rs.getD j zR = x at *
      generalize k + (cntV (rs.take j) : Nat) = K at *
      generalize rs'.getD j zR = x' at *
      have HP := Lib.hid (rfl : ps.getD j zP = ps.getD j zP)
      obtain ⟨g0, g1, g2, i1, i2⟩ := he
      obtain ⟨m1, m2⟩ := EA.head hz ⟨g0, g1, g2, i1, i2⟩
      have hs2 := congrArg Prod.fst hs1
      have hs3 := congrArg Prod.snd hs1
      simp only [shp] at hs2 hs3
      have HM1 := Lib.hid (fun (zs : List Int) (hz : zs.length = x.mag.length) W (h : PO W lo hi (ps.getD j zP).1 zs) => hz ▸ markIntS zs (K + 1) (by omega) (by omega) (by omega) lo hi _ W h)
      have HM2 := Lib.hid (fun (zs : List Int) (hz : zs.length = x.den.length) W (h : PO W lo hi (ps.getD j zP).2 zs) => hz ▸ markIntS zs (K + 1 + x.mag.length) (by omega) (by omega) (by omega) lo hi _ W h)
      have ht1 := Turn.setSign g0 (K % 3 == 0)
      have hf1 := (Frame.refl (fun b => b = g) wr).setCell (p := ⟨g, j * 3, none⟩) rfl (.bool (K % 3 == 0))
      obtain ⟨za, hza, ia⟩ := i1.turn ht1
      obtain ⟨zb, hzb, ib⟩ := i2.turn ht1
      clear i1 i2
      obtain ⟨va, hva⟩ : ∃ y, (ps.getD j zP).1 = y := ⟨_, rfl⟩
      obtain ⟨vb, hvb⟩ : ∃ y, (ps.getD j zP).2 = y := ⟨_, rfl⟩
      rw [hva] at g1 m1 HM1 ia
      rw [hvb] at g2 m2 HM2 ib
      have HVA := Lib.hid hva
      have HVB := Lib.hid hvb
      have HZA := Lib.hid (hza.trans hs2)
      have HZB := Lib.hid (hzb.trans hs3)
      obtain ⟨A1, c1, e1, _⟩ := ia.form
      obtain ⟨B1, d1, e2, _⟩ := ib.form
      subst e1 e2
      clear hva hvb hza hzb hs1 hs2 hs3 HP hz
      have q0 := hfz (j * 3)
      have HFZ := Lib.hid (fun o => (show (wr.setCell ⟨g, j * 3, none⟩ (.bool (K % 3 == 0))).frozen? ⟨g, o, none⟩ = wr.frozen? ⟨g, o, none⟩ by simp))
      have HCO := Lib.hid (fun o (ho : o ≠ j * 3) => (show (wr.setCell ⟨g, j * 3, none⟩ (.bool (K % 3 == 0))).cell? ⟨g, o, none⟩ = wr.cell? ⟨g, o, none⟩ from World.cell?_setCell_other _ _ _ _ (by intro e; injection e with _ e; exact ho e.symm)))
      have HC0 := Lib.hid (show (wr.setCell ⟨g, j * 3, none⟩ (.bool (K % 3 == 0))).cell? ⟨g, j * 3, none⟩ = some (.bool (K % 3 == 0)) from World.cell?_setCell_same _ _ _ g0)
      have hs1 : wr.heap.size ≤ (wr.setCell ⟨g, j * 3, none⟩ (.bool (K % 3 == 0))).heap.size := by simp
      clear hfz
      go_wp2_with fail
      have g2' := (HCO.out (j * 3 + 2) (by omega)).trans g2
      clear g0 g1 g2 q0
      generalize wr.setCell ⟨g, j * 3, none⟩ (.bool (K % 3 == 0)) = w1 at *
      have hg2 : g < w1.heap.size := Nat.lt_of_lt_of_le hg1 hs1
      refine (HM1.out za HZA.out _ ia).mono ?_
      rintro e w2 ⟨rfl, hfA, htA, iA⟩
      have g2'' := (hfA.cell hg2 m1).trans g2'
      obtain ⟨zb', hzb', ib'⟩ := ib.turn htA
      have HZB' := Lib.hid (hzb'.trans HZB.out)
      clear hzb' g2'
      go_wp2_with fail
      refine (HM2.out zb' HZB'.out _ ib').mono ?_
      rintro e w3 ⟨rfl, hfB, htB, iB⟩
      clear g2''
      go_wp2
      go_roundw
      case rel => 
        have hnn : n ≠ 0 := by omega
        refine ⟨j + 1, by omega, by rw [HT.out], rfl, ((hfr.trans (hf1.mono (fun b hb => ?_))).trans (hfA.mono (fun b hb => ?_))).trans (hfB.mono (fun b hb => ?_)), ((htn.trans ht1).trans htA).trans htB, Lib.hid (fun hap => ?_)⟩
        · rw [hb]; exact .inl (blk_slice hnn)
        · exact .inr ⟨j, by have := HV.out.1; have := HN.out; omega, .inl (by rw [HVA.out]; exact hb)⟩
        · exact .inr ⟨j, by have := HV.out.1; have := HN.out; omega, .inr (by rw [HVB.out]; exact hb)⟩
        · rw [HM.out]
          have hpl : j < ps.length := by have := HV.out.1; have := HN.out; omega
          have hapj := hap.1 j hpl
          rw [HVA.out, HVB.out] at hapj
          have hF : Frame (fun b => b = g ∨ blk (ps.getD j zP).1 = some b ∨ blk (ps.getD j zP).2 = some b) wr w3 :=
            ((hf1.mono (fun b hb => .inl hb)).trans (hfA.mono (fun b hb => .inr (.inl (by rw [HVA.out]; exact hb))))).trans (hfB.mono (fun b hb => .inr (.inr (by rw [HVB.out]; exact hb))))
          have hcc : ∀ o, w3.cell? ⟨g, o, none⟩ = w1.cell? ⟨g, o, none⟩ := fun o => (hfB.cell (Nat.lt_of_lt_of_le hg2 hfA.size) m2).trans (hfA.cell hg2 m1)
          refine (HG.out hap).put (by rw [HML.out]; omega) hap hF (fun b hb => hb) (fun o => ?_) (fun o ho => (hcc o).trans (HCO.out o ho)) ((hcc _).trans HC0.out) ?_ ?_
          · exact (hfB.frozen (Nat.lt_of_lt_of_le hg2 hfA.size) m2).trans ((hfA.frozen hg2 m1).trans (HFZ.out o))
          · rw [HVA.out]
            exact iA.frame hfB (fun b h1 h2 => hapj.ne_blk h1 h2 rfl)
          · rw [HVB.out]
            exact iB
      case measure => simp [intOf]; omega
end Go.Proofs.Ytkmmdajlbkbnmaa

namespace Go.Proofs.Ytkmmdajlbkbnmaa
open Go.RowKit Go.Joins Go.Deep

theorem list_each {α : Type} (d : α) (n : Nat) (P : Nat → α → Prop) (h : ∀ j, j < n → ∃ y, P j y) : ∃ l : List α, l.length = n ∧ ∀ j, j < n → P j (l.getD j d) := by
  have each : ∀ j, j < n → ∃ z : Option α, ∃ y, z = some y ∧ P j y := fun j hj => by
    obtain ⟨y, hy⟩ := h j hj
    exact ⟨some y, y, rfl, hy⟩
  obtain ⟨f, hf⟩ := choose_lt each
  refine ⟨(List.range n).map fun i => (f i).getD d, by simp, fun j hj => ?_⟩
  obtain ⟨y, e, q⟩ := hf j hj
  rw [List.getD_eq_getElem?_getD, List.getElem?_map, List.getElem?_range hj]
  simp only [Option.map_some, Option.getD_some, e]
  exact q
theorem list_eqD {α : Type} {d : α} {xs zs : List α} (h : zs.length = xs.length) (hj : ∀ j, j < xs.length → zs.getD j d = xs.getD j d) : zs = xs := by
  apply List.ext_getElem h
  intro i h1 h2
  have := hj i h2
  simpa [h1, h2] using this
theorem getD_setG {α : Type} {d : α} (l : List α) (i j : Nat) (x : α) : (l.set i x).getD j d = if i = j ∧ j < l.length then x else l.getD j d := by
  simp only [List.getD_eq_getElem?_getD, List.getElem?_set]
  split
  · rename_i h
    subst h
    split
    · rename_i h; simp [h]
    · rename_i h; simp [h]
  · rename_i h
    rw [if_neg (fun h' => h h'.1)]

/-- Vectors of one shape. -/
def ShV (a b : List RatD) : Prop := a.length = b.length ∧ ∀ j, j < b.length → shp (a.getD j zR) = shp (b.getD j zR)
theorem ShV.map {a b : List RatD} (h : ShV a b) : a.map shp = b.map shp := by
  apply List.ext_getElem (by simp [h.1])
  intro i h1 h2
  simp only [List.length_map] at h1 h2
  have := h.2 i h2
  simpa [h1, h2] using this
theorem cntV_shp (rs : List RatD) : cntV rs = ((rs.map shp).map fun p => 1 + p.1 + p.2).sum := by
  simp only [cntV, List.map_map]; rfl
theorem ShV.cnt {a b : List RatD} (h : ShV a b) : cntV a = cntV b := by rw [cntV_shp, cntV_shp, h.map]
theorem ShV.cnt_take {a b : List RatD} (h : ShV a b) (j : Nat) : cntV (a.take j) = cntV (b.take j) := by simp only [cntV_shp, List.map_take, h.map]
theorem ShV.few {a b : List RatD} (h : ShV a b) (hb : Few b) : Few a := by
  refine ⟨by rw [h.1]; exact hb.1, fun k hk => ?_⟩
  rw [h.1] at hk
  have h1 := h.2 k hk
  have h2 := hb.2 k hk
  simp only [shp, Prod.mk.injEq] at h1
  omega
theorem mkRat_shp {a b : RatD} (h : shp a = shp b) (k : Int) : mkRat a k = mkRat b k := by
  simp only [shp, Prod.mk.injEq] at h
  simp only [mkRat, h.1, h.2]
theorem ShV.mkV {a b : List RatD} (h : ShV a b) (k : Int) : mkV a k = mkV b k := by
  refine vec_same (by rw [Go.Proofs.Ytkmmdajlbkbnmaa.mkV, mixV_len, Go.Proofs.Ytkmmdajlbkbnmaa.mkV, mixV_len]; exact h.1) (fun j hj => ?_)
  rw [Go.Proofs.Ytkmmdajlbkbnmaa.mkV, mixV_len] at hj
  rw [Go.Proofs.Ytkmmdajlbkbnmaa.mkV, mixV_get (h.1 ▸ hj), if_pos (h.1 ▸ hj), Go.Proofs.Ytkmmdajlbkbnmaa.mkV, mixV_get hj, if_pos hj, mkRat_shp (h.2 j hj), h.cnt_take]
theorem VS.turns {w w' : World} {lo hi : Nat} {v : Value} {ps : List (Value × Value)} {rs : List RatD} (h : VS w lo hi v ps rs) (ht : Turn w w') : ∃ rs', ShV rs' rs ∧ VS w' lo hi v ps rs' := by
  obtain ⟨rs', h1, h2, h3⟩ := h.turn ht
  exact ⟨rs', ⟨h1, h2⟩, h3⟩
theorem VS.later {w w' : World} {lo hi : Nat} {v : Value} {ps : List (Value × Value)} {rs : List RatD} (h : VS w lo hi v ps rs) (hb : Below w.heap.size w w') : VS w' lo hi v ps rs :=
  h.frame (S := fun _ => False) (Frame.of_below hb) (fun _ _ h => h)
theorem VS.not_slice {w : World} {lo hi : Nat} {v : Value} {ps : List (Value × Value)} {rs : List RatD} (h : VS w lo hi v ps rs) {g : Nat} {A : Option Addr} {n c : Nat} (hg : w.cell? ⟨g, 0, none⟩ = some (.slice A n c)) : ¬ Foot v ps g := by
  rintro (hb | ⟨j, hj, hb⟩)
  · obtain ⟨hx, _, _, _, _, _, ke⟩ := h.at_blk hb
    have := (ke 0 (List.length_pos_iff.2 hx)).1
    rw [Nat.zero_mul, hg] at this
    cases this
  · obtain ⟨hp, A', c', rfl, _, _, h3⟩ := h
    obtain ⟨g', rfl, _, _, _, _, he⟩ := h3 (by rintro rfl; simp at hp; subst hp; simp at hj)
    have := he j (by omega)
    rcases hb with hb | hb
    · obtain ⟨hx, _, _, _, ha⟩ := this.2.2.2.1.1.at_blk hb
      have := ha.cell 0 (List.length_pos_iff.2 hx)
      rw [hg] at this; cases this
    · obtain ⟨hx, _, _, _, ha⟩ := this.2.2.2.2.1.at_blk hb
      have := ha.cell 0 (List.length_pos_iff.2 hx)
      rw [hg] at this; cases this
theorem PO.not_slice {w : World} {lo hi : Nat} {v : Value} {xs : List Int} (h : PO w lo hi v xs) {g : Nat} {A : Option Addr} {n c : Nat} (hg : w.cell? ⟨g, 0, none⟩ = some (.slice A n c)) : blk v ≠ some g := by
  intro hb
  obtain ⟨hx, _, _, _, ha⟩ := h.1.at_blk hb
  have := ha.cell 0 (List.length_pos_iff.2 hx)
  rw [hg] at this; cases this

/-- A row's parts. -/
structure RowP where
  ca : Value
  va : Value
  ps : List (Value × Value)
def zRP : RowP := ⟨.slice none 0 0, .slice none 0 0, []⟩
def FootR (q : RowP) (b : Nat) : Prop := blk q.ca = some b ∨ Foot q.va q.ps b
def FootM (qs : List RowP) (b : Nat) : Prop := ∃ j, j < qs.length ∧ FootR (qs.getD j zRP) b
def ApR (q : RowP) : Prop := Aps q.ps ∧ ∀ b, blk q.ca = some b → ¬ Foot q.va q.ps b
def ApM (qs : List RowP) : Prop := (∀ j, j < qs.length → ApR (qs.getD j zRP)) ∧ ∀ i j, i < qs.length → j < qs.length → i ≠ j → ∀ b, FootR (qs.getD i zRP) b → ¬ FootR (qs.getD j zRP) b
/-- A row in the cells of block g, its parts q. -/
def RE (w : World) (lo hi g off : Nat) (q : RowP) (x : RowD) : Prop :=
  w.cell? ⟨g, off, none⟩ = some q.ca ∧ w.cell? ⟨g, off + 1, none⟩ = some q.va ∧ PO w lo hi q.ca x.cols ∧ VS w lo hi q.va q.ps x.vals
def MS (w : World) (lo hi : Nat) (v : Value) (qs : List RowP) (rs : List RowD) : Prop :=
  qs.length = rs.length ∧ ∃ A c, v = .slice A rs.length c ∧ rs.length ≤ c ∧ c ≤ maxLen ∧
    (rs ≠ [] → ∃ g, A = some ⟨g, 0, none⟩ ∧ lo ≤ g ∧ g < hi ∧ g < w.heap.size ∧ ∀ j, j < rs.length → RE w lo hi g (j * 2) (qs.getD j zRP) (rs.getD j zRow))
def ShR (a b : RowD) : Prop := a.cols.length = b.cols.length ∧ ShV a.vals b.vals
def cntRow (x : RowD) : Nat := x.cols.length + cntV x.vals
def cntM (rs : List RowD) : Nat := (rs.map cntRow).sum
theorem cntM_step (rs : List RowD) (k : Nat) (h : k < rs.length) : cntM (rs.take (k + 1)) = cntM (rs.take k) + cntRow (rs.getD k zRow) := by
  rw [List.take_succ_eq_append_getElem h]
  simp only [cntM, List.map_append, List.sum_append, List.map_cons, List.map_nil, List.sum_cons, List.sum_nil]
  simp [h]
theorem cntM_le (rs : List RowD) (k : Nat) : cntM (rs.take k) ≤ cntM rs := by
  conv => rhs; rw [← List.take_append_drop k rs]
  simp only [cntM, List.map_append, List.sum_append]
  omega
def mkRow (x : RowD) (k : Int) : RowD := ⟨mkI x.cols.length k, mkV x.vals (k + x.cols.length)⟩
def mixM (rs : List RowD) (k : Int) (i : Nat) : List RowD := (List.range rs.length).map fun j => if j < i then mkRow (rs.getD j zRow) (k + (cntM (rs.take j) : Nat)) else rs.getD j zRow
def mkM (rs : List RowD) (k : Int) : List RowD := mixM rs k rs.length
theorem mixM_len (rs : List RowD) (k : Int) (i : Nat) : (mixM rs k i).length = rs.length := by simp [mixM]
theorem mixM_get {rs : List RowD} {k : Int} {i j : Nat} (h : j < rs.length) : (mixM rs k i).getD j zRow = if j < i then mkRow (rs.getD j zRow) (k + (cntM (rs.take j) : Nat)) else rs.getD j zRow := by
  unfold mixM
  rw [List.getD_eq_getElem?_getD, List.getElem?_map, List.getElem?_range h]
  rfl
theorem mixM_zero (rs : List RowD) (k : Int) : mixM rs k 0 = rs := list_eqD (mixM_len _ _ _) (fun j hj => by rw [mixM_get hj, if_neg (by omega)])
theorem mixM_succ {rs : List RowD} {k : Int} {i : Nat} (_h : i < rs.length) : mixM rs k (i + 1) = (mixM rs k i).set i (mkRow (rs.getD i zRow) (k + (cntM (rs.take i) : Nat))) :=
  list_eqD (d := zRow) (by simp [mixM_len]) (fun j hj => by
    rw [List.length_set, mixM_len] at hj
    rw [mixM_get hj, getD_setG, mixM_len, mixM_get hj]
    by_cases e : i = j
    · subst e; rw [if_pos (Nat.lt_succ_self i), if_pos ⟨rfl, hj⟩]
    · by_cases e2 : j < i
      · rw [if_pos (Nat.lt_succ_of_lt e2), if_neg (fun h' => e h'.1), if_pos e2]
      · rw [if_neg (show ¬ j < i + 1 by omega), if_neg (fun h' => e h'.1), if_neg e2])

theorem RE.turn {w w' : World} {lo hi g off : Nat} {q : RowP} {x : RowD} (h : RE w lo hi g off q x) (ht : Turn w w') : ∃ x', ShR x' x ∧ RE w' lo hi g off q x' := by
  obtain ⟨h0, h1, h2, h3⟩ := h
  obtain ⟨y, hy, h2'⟩ := h2.turn ht
  obtain ⟨z, hz, h3'⟩ := h3.turns ht
  obtain ⟨A, c, e1, _⟩ := h2.form
  obtain ⟨B, d, e2, _⟩ := h3.form
  rw [e1] at h0
  rw [e2] at h1
  exact ⟨⟨y, z⟩, ⟨hy, hz⟩, by rw [e1]; exact ht.sl _ _ _ _ _ h0, by rw [e2]; exact ht.sl _ _ _ _ _ h1, h2', h3'⟩
theorem MS.form {w : World} {lo hi : Nat} {v : Value} {qs : List RowP} {rs : List RowD} (h : MS w lo hi v qs rs) : ∃ A c, v = .slice A rs.length c ∧ rs.length ≤ c ∧ c ≤ maxLen := by
  obtain ⟨_, A, c, h1, h2, h3, _⟩ := h
  exact ⟨A, c, h1, h2, h3⟩
theorem MS.turn {w w' : World} {lo hi : Nat} {v : Value} {qs : List RowP} {rs : List RowD} (h : MS w lo hi v qs rs) (ht : Turn w w') : ∃ rs', rs'.length = rs.length ∧ (∀ j, j < rs.length → ShR (rs'.getD j zRow) (rs.getD j zRow)) ∧ MS w' lo hi v qs rs' := by
  obtain ⟨hp, A, c, rfl, h1, h2, h3⟩ := h
  by_cases hx : rs = []
  · subst hx
    exact ⟨[], rfl, fun j hj => by simp at hj, hp, A, c, rfl, h1, h2, fun hh => absurd rfl hh⟩
  · obtain ⟨g, rfl, hg, hgh, hgs, he⟩ := h3 hx
    obtain ⟨l, hl, hq⟩ := list_each zRow rs.length (fun j y => ShR y (rs.getD j zRow) ∧ RE w' lo hi g (j * 2) (qs.getD j zRP) y) (fun j hj => (he j hj).turn ht)
    exact ⟨l, hl, fun j hj => (hq j hj).1, by rw [hl]; exact hp, some ⟨g, 0, none⟩, c, by rw [hl], by rw [hl]; exact h1, h2, fun _ => ⟨g, rfl, hg, hgh, Nat.lt_of_lt_of_le hgs ht.size, fun j hj => (hq j (hl ▸ hj)).2⟩⟩
theorem MS.cells {w : World} {lo hi n c j : Nat} {A : Option Addr} {qs : List RowP} {rs : List RowD} (h : MS w lo hi (.slice A n c) qs rs) (hj : j < rs.length) :
    rs.length = n ∧ ∃ g, A = some ⟨g, 0, none⟩ ∧ g < w.heap.size ∧ (∃ A n c, w.cell? ⟨g, 0, none⟩ = some (.slice A n c)) ∧ RE w lo hi g (j * 2) (qs.getD j zRP) (rs.getD j zRow) := by
  obtain ⟨_, A', c', e, _, _, h3⟩ := h
  injection e with e1 e2 e3
  subst e1
  obtain ⟨g, rfl, _, _, k1, ke⟩ := h3 (by rintro rfl; simp at hj)
  have k0 := ke 0 (by omega)
  obtain ⟨B, d, e4, _⟩ := k0.2.2.1.form
  have k00 := k0.1
  rw [e4, Nat.zero_mul] at k00
  exact ⟨e2.symm, g, rfl, k1, ⟨_, _, _, k00⟩, ke j hj⟩
theorem RE.frame {S : Nat → Prop} {w w' : World} {lo hi g off : Nat} {q : RowP} {x : RowD} (h : RE w lo hi g off q x) (hf : Frame S w w') (hg : g < w.heap.size) (hs : ¬ S g) (hq : ∀ b, FootR q b → ¬ S b) : RE w' lo hi g off q x :=
  ⟨(hf.cell hg hs).trans h.1, (hf.cell hg hs).trans h.2.1, h.2.2.1.frame hf (fun b hb => hq b (.inl hb)), h.2.2.2.frame hf (fun b hb => hq b (.inr hb))⟩
theorem RE.not_slice {w : World} {lo hi g off g' : Nat} {q : RowP} {x : RowD} (h : RE w lo hi g off q x) {A : Option Addr} {n c : Nat} (hg : w.cell? ⟨g', 0, none⟩ = some (.slice A n c)) : ¬ FootR q g' := by
  rintro (hb | hb)
  · exact h.2.2.1.not_slice hg hb
  · exact h.2.2.2.not_slice hg hb
theorem MS.put {S : Nat → Prop} {w w' : World} {lo hi g n c : Nat} {qs : List RowP} {rs : List RowD} {i : Nat} {x : RowD} (h : MS w lo hi (.slice (some ⟨g, 0, none⟩) n c) qs rs) (hi1 : i < rs.length) (hap : ApM qs)
    (hf : Frame S w w') (hS : ∀ b, S b → FootR (qs.getD i zRP) b) (h1 : PO w' lo hi (qs.getD i zRP).ca x.cols) (h2 : VS w' lo hi (qs.getD i zRP).va (qs.getD i zRP).ps x.vals) :
    MS w' lo hi (.slice (some ⟨g, 0, none⟩) n c) qs (rs.set i x) := by
  have hpl := h.1
  obtain ⟨hn, g', e, hgs, ⟨A0, n0, c0, hs0⟩, _⟩ := h.cells hi1
  injection e with e
  injection e with e
  subst e
  obtain ⟨hp, A', c', e, q1, q2, h3⟩ := h
  injection e with e1 e2 e3
  subst e2 e3
  obtain ⟨g', e, k1, k2, k3, ke⟩ := h3 (by rintro rfl; simp at hi1)
  rw [← e1] at e
  injection e with e
  injection e with e
  subst e
  have hgS : ¬ S g := fun h' => (ke i hi1).not_slice hs0 (hS g h')
  refine ⟨by simpa using hp, some ⟨g, 0, none⟩, c, by simp, by simpa using q1, q2, fun _ => ⟨g, rfl, k1, k2, Nat.lt_of_lt_of_le k3 hf.size, fun j hj => ?_⟩⟩
  rw [List.length_set] at hj
  rw [getD_setG]
  by_cases e : i = j
  · subst e
    rw [if_pos ⟨rfl, hj⟩]
    exact ⟨(hf.cell hgs hgS).trans (ke i hj).1, (hf.cell hgs hgS).trans (ke i hj).2.1, h1, h2⟩
  · rw [if_neg (fun h' => e h'.1)]
    exact (ke j hj).frame hf hgs hgS (fun b hb hb' => hap.2 j i (by omega) (by omega) (fun h' => e h'.symm) b hb (hS b hb'))
theorem MS.later {w w' : World} {lo hi : Nat} {v : Value} {qs : List RowP} {rs : List RowD} (h : MS w lo hi v qs rs) (hb : Below w.heap.size w w') : MS w' lo hi v qs rs := by
  obtain ⟨hp, A, c, rfl, h1, h2, h3⟩ := h
  refine ⟨hp, A, c, rfl, h1, h2, fun hx => ?_⟩
  obtain ⟨g, rfl, hg, hgh, hgs, he⟩ := h3 hx
  exact ⟨g, rfl, hg, hgh, Nat.lt_of_lt_of_le hgs hb.size, fun j hj => (he j hj).frame (S := fun _ => False) (Frame.of_below hb) hgs (fun h => h) (fun _ _ h => h)⟩
theorem MS.reads {w : World} {lo hi n c : Nat} {A : Option Addr} {qs : List RowP} {rs : List RowD} (h : MS w lo hi (.slice A n c) qs rs) : MI w A rs := by
  intro hx
  obtain ⟨_, A', c', he, _, _, h⟩ := h
  injection he with e1 e2 e3
  subst e1
  obtain ⟨g, rfl, _, _, hlt, h⟩ := h hx
  refine ⟨g, 0, rfl, hlt, fun j hj => ?_⟩
  obtain ⟨h0, h1, h2, h3⟩ := h j hj
  obtain ⟨A1, c1, e1, k1, k2⟩ := h2.form
  obtain ⟨B1, d1, e2, k3, k4⟩ := h3.form
  rw [e1] at h0 h2
  rw [e2] at h1 h3
  rw [Nat.zero_add]
  exact ⟨A1, c1, B1, d1, h0, h1, ⟨k1, k2, k3, k4⟩, h2.reads, h3.reads⟩
theorem MO.parts {w : World} {lo : Nat} {v : Value} {rs : List RowD} (h : MO w lo v rs) : ∃ qs, MS w lo w.heap.size v qs rs := by
  obtain ⟨A, c, rfl, h1, h2, h3⟩ := h
  by_cases hx : rs = []
  · subst hx
    exact ⟨[], rfl, A, c, rfl, h1, h2, fun hh => absurd rfl hh⟩
  · obtain ⟨g, rfl, hg, hgs, hfz, he⟩ := h3 hx
    obtain ⟨l, hl, hq⟩ := list_each zRP rs.length (fun j y => RE w lo w.heap.size g (j * 2) y (rs.getD j zRow)) (fun j hj => by
      obtain ⟨va, vb, q0, q1, q2, q3⟩ := he j hj
      obtain ⟨ps, q3'⟩ := q3.parts
      exact ⟨⟨va, vb, ps⟩, q0, q1, q2.io.wide (by omega) (Nat.le_refl _), q3'.wide (by omega) (Nat.le_refl _)⟩)
    exact ⟨l, hl, some ⟨g, 0, none⟩, c, rfl, h1, h2, fun _ => ⟨g, rfl, hg, hgs, hgs, hq⟩⟩
theorem MS.foot {w : World} {lo hi : Nat} {v : Value} {qs : List RowP} {rs : List RowD} (h : MS w lo hi v qs rs) {b : Nat} (hb : FootM qs b) : lo ≤ b ∧ b < hi := by
  obtain ⟨j, hj, hb⟩ := hb
  obtain ⟨hp, A, c, rfl, h1, h2, h3⟩ := h
  obtain ⟨g, rfl, _, _, _, he⟩ := h3 (by rintro rfl; simp at hp; subst hp; simp at hj)
  have := he j (by omega)
  rcases hb with hb | hb
  · exact this.2.2.1.2 b hb
  · exact this.2.2.2.foot hb

set_option maxRecDepth 100000 in
set_option maxHeartbeats 1600000 in
theorem markRowS (rs : List RowD) (k : Int) (hk : 0 ≤ k) (hk1 : k + (cntM rs : Nat) ≤ 4611686018426339328) (hfew : MFew rs) (lo hi : Nat) (v : Value) (qs : List RowP) (w : World) (h : MS w lo hi v qs rs) :
    Calls Try.prog 93 #[v, .int .i64 k] w fun e w' => e = .returned (.int .i64 (k + (cntM rs : Nat))) ∧ Frame (FootM qs) w w' ∧ Turn w w' ∧ (ApM qs → MS w' lo hi v qs (mkM rs k)) := by
  obtain ⟨A, c, rfl, hc1, hc2⟩ := h.form
  have hn1 := hfew.1
  have HF := Lib.hid hfew.2
  have HV := Lib.hid h
  have hm : rs.length ≤ 9223372036854775807 := by omega
  have HC := Lib.hid hk1
  clear h hfew hc1 hc2 hk1
  obtain ⟨n, hn⟩ : ∃ n, rs.length = n := ⟨_, rfl⟩
  rw [hn] at hn1 hm HV ⊢
  have HN := Lib.hid hn; clear hn
  go_enter Try.func93, Try.ntmps93
  go_wp2_with fail
  go_loopw [1, 5] (fun u z wr => ∃ j : Nat, j ≤ n ∧ u = .int .i64 (k + (cntM (rs.take j) : Nat)) ∧ z = .int .i64 j ∧ Frame (FootM qs) w wr ∧ Turn w wr ∧ Hid (ApM qs → MS wr lo hi (.slice A n c) qs (mixM rs k j))) (fun _ z _ => n - (intOf z).toNat)
  case atStart => exact ⟨0, Nat.zero_le _, by simp [cntM], rfl, Frame.refl _ _, Turn.refl _, Lib.hid (fun _ => by rw [mixM_zero]; exact HV.out)⟩
  case round =>
    obtain ⟨j, hj, rfl, rfl, hfr, htn, HS⟩ := hrel
    by_cases hjn : j = n
    · subst hjn
      have h0 : decide ((j : Int) < (j : Int)) = false := by simp
      have HT := Lib.hid (show rs.take j = rs from List.take_of_length_le (by rw [HN.out]; exact Nat.le_refl _))
      go_wp2
      go_ret
      refine ⟨ret_int (by rw [HT.out]), hfr, htn, fun hap => ?_⟩
      have := HS.out hap
      rw [← HN.out] at this ⊢
      exact this
    · have hlt : (j : Int) < (n : Int) := by omega
      have hjl : j < rs.length := by rw [HN.out]; omega
      obtain ⟨rs', hl', hsh, hvs⟩ := HV.out.turn htn
      obtain ⟨_, g, rfl, hg1, ⟨A0, n0, c0, hz⟩, g0, g1, i1, i2⟩ := hvs.cells (j := j) (by rw [hl']; exact hjl)
      have hs1 := (hsh j hjl).1
      have hs2 := (hsh j hjl).2
      obtain ⟨f1, f2⟩ := HF.out j hjl
      have hcs := cntM_step rs j hjl
      have hcl := cntM_le rs (j + 1)
      have hx : cntRow (rs.getD j zRow) = (rs.getD j zRow).cols.length + cntV (rs.getD j zRow).vals := rfl
      have hK0 : 0 ≤ k + (cntM (rs.take j) : Nat) := by omega
      have hK1 : k + (cntM (rs.take j) : Nat) + (rs.getD j zRow).cols.length + (cntV (rs.getD j zRow).vals : Nat) ≤ 4611686018426339328 := by have := HC.out; omega
      have HT := Lib.hid (show k + (cntM (rs.take (j + 1)) : Nat) = k + (cntM (rs.take j) : Nat) + (rs.getD j zRow).cols.length + (cntV (rs.getD j zRow).vals : Nat) by omega)
      have HG := Lib.hid (fun (hap : ApM qs) => HS.out hap)
      have HM := Lib.hid (show mixM rs k (j + 1) = (mixM rs k j).set j (mkRow (rs.getD j zRow) (k + (cntM (rs.take j) : Nat))) from mixM_succ hjl)
      have HML := Lib.hid (show (mixM rs k j).length = n by rw [mixM_len]; exact HN.out)
      clear hcs hcl hx hsh HS hjl
      generalize rs.getD j zRow = x at *
      generalize k + (cntM (rs.take j) : Nat) = K at *
      generalize rs'.getD j zRow = x' at *
      have m1 := i1.not_slice hz
      have HZ := Lib.hid hz
      have HM1 := Lib.hid (fun (zs : List Int) (hz : zs.length = x.cols.length) W (h : PO W lo hi (qs.getD j zRP).ca zs) => hz ▸ markIntS zs K hK0 (by omega) (by omega) lo hi _ W h)
      have HM2 := Lib.hid (fun (zs : List RatD) (hz : ShV zs x.vals) W (h : VS W lo hi (qs.getD j zRP).va (qs.getD j zRP).ps zs) => by
        have := markRatS zs (K + x.cols.length) (by omega) (by rw [hz.cnt]; omega) (hz.few f2) lo hi _ _ W h
        rw [hz.cnt, hz.mkV] at this
        exact this)
      obtain ⟨ca, hca⟩ : ∃ y, (qs.getD j zRP).ca = y := ⟨_, rfl⟩
      obtain ⟨va, hva⟩ : ∃ y, (qs.getD j zRP).va = y := ⟨_, rfl⟩
      rw [hca] at g0 m1 HM1 i1
      rw [hva] at g1 HM2 i2
      have HCA := Lib.hid hca
      have HVA := Lib.hid hva
      obtain ⟨A1, c1, e1, _⟩ := i1.form
      obtain ⟨B1, d1, e2, _⟩ := i2.form
      subst e1 e2
      have HZA := Lib.hid hs1
      have HZB := Lib.hid hs2
      clear hca hva hs1 hs2 hz
      go_wp2_with fail
      clear g0
      refine (HM1.out _ HZA.out _ i1).mono ?_
      rintro e w2 ⟨rfl, hfA, htA, iA⟩
      have g1' := (hfA.cell hg1 m1).trans g1
      obtain ⟨zb', hzb', ib'⟩ := i2.turns htA
      have HZB' := Lib.hid (show ShV zb' x.vals from ⟨hzb'.1.trans HZB.out.1, fun j hj => (hzb'.2 j (by rw [HZB.out.1]; exact hj)).trans (HZB.out.2 j hj)⟩)
      clear hzb' g1
      go_wp2_with fail
      refine (HM2.out zb' HZB'.out _ ib').mono ?_
      rintro e w3 ⟨rfl, hfB, htB, iB⟩
      clear g1'
      go_wp2
      go_roundw
      case rel =>
        have hnn : n ≠ 0 := by omega
        have hpl : j < qs.length := by have := HV.out.1; have := HN.out; omega
        refine ⟨j + 1, by omega, by rw [HT.out], rfl, (hfr.trans (hfA.mono (fun b hb => ⟨j, hpl, .inl (by rw [HCA.out]; exact hb)⟩))).trans (hfB.mono (fun b hb => ⟨j, hpl, .inr (by rw [HVA.out]; exact hb)⟩)), (htn.trans htA).trans htB, Lib.hid (fun hap => ?_)⟩
        rw [HM.out]
        have hapj := hap.1 j hpl
        have hF : Frame (FootR (qs.getD j zRP)) wr w3 := (hfA.mono (fun b hb => .inl (by rw [HCA.out]; exact hb))).trans (hfB.mono (fun b hb => .inr (by rw [HVA.out]; exact hb)))
        refine (HG.out hap).put (by rw [HML.out]; omega) hap hF (fun b hb => hb) ?_ ?_
        · rw [HCA.out]
          refine iA.frame hfB (fun b h1 h2 => hapj.2 b (by rw [HCA.out]; exact h1) ?_)
          rw [HVA.out]; exact h2
        · rw [HVA.out]
          exact iB hapj.1
      case measure => simp [intOf]; omega

set_option maxHeartbeats 400000 in
theorem markMatrix (rs : List RowD) (k : Int) (hk : 0 ≤ k) (hk1 : k + (cntM rs : Nat) ≤ 4611686018426339328) (hfew : MFew rs) (lo hi : Nat) (v : Value) (qs : List RowP) (w : World) (h : MS w lo hi v qs rs) :
    Calls Try.prog 47 #[.agg #[v], .int .i64 k] w fun e w' => e = .returned (.int .i64 (k + (cntM rs : Nat))) ∧ Frame (FootM qs) w w' ∧ Turn w w' ∧ (ApM qs → MS w' lo hi v qs (mkM rs k)) := by
  have HM := Lib.hid (fun W (hW : Below w.heap.size w W) => markRowS rs k hk hk1 hfew lo hi v qs W (h.later hW))
  obtain ⟨A, c, rfl, _⟩ := h.form
  clear h hfew hk1
  go_enter Try.func47, Try.ntmps47
  go_wp2_with fail
  refine (HM.out _ (below_alloc1 _ _)).mono ?_
  rintro e w1 ⟨rfl, hf, ht, hi1⟩
  replace hf := (Frame.of_below (below_alloc1 _ _)).trans hf
  replace ht := (Turn.of_below (below_alloc1 _ _)).trans ht
  go_wp2
  go_ret
  exact ⟨rfl, hf, ht, hi1⟩
end Go.Proofs.Ytkmmdajlbkbnmaa

namespace Go.Proofs.Ytkmmdajlbkbnmaa
open Go.RowKit Go.Joins

set_option maxRecDepth 100000 in
set_option maxHeartbeats 1600000 in
theorem heldRatS (rs : List RatD) (n c : Nat) (hn : rs.length = n) (k : Int) (hk : 0 ≤ k) (hk1 : k + (cntV rs : Nat) ≤ 4611686018426339328) (hfew : Few rs) (A : Option Addr) (w : World) (ha : VI w A (mkV rs k)) :
    Calls Try.prog 34 #[.slice A n c, .int .i64 k] w fun e w' => e = .returned (.int .i64 (k + (cntV rs : Nat))) ∧ Below w.heap.size w w' := by
  have hn1 : n ≤ 1048576 := hn ▸ hfew.1
  have HF := Lib.hid hfew.2
  have HC := Lib.hid hk1
  have HA := Lib.hid (fun j (hj : j < rs.length) => by
    have := ha.cells j (by rw [mkV, mixV_len]; exact hj)
    rw [mkV, mixV_get hj, if_pos hj] at this
    exact this)
  have HN := Lib.hid hn
  clear ha hfew hk1 hn
  go_enter Try.func34, Try.ntmps34
  go_wp2_with fail
  go_loopw [1, 5] (fun u z wr => ∃ j : Nat, j ≤ n ∧ u = .int .i64 (k + (cntV (rs.take j) : Nat)) ∧ z = .int .i64 j ∧ Below w.heap.size w wr) (fun _ z _ => n - (intOf z).toNat)
  case atStart => exact ⟨0, Nat.zero_le _, by simp [cntV], rfl, Below.refl _ _⟩
  case round =>
    obtain ⟨j, hj, rfl, rfl, hbel⟩ := hrel
    by_cases hjn : j = n
    · subst hjn
      have h0 : decide ((j : Int) < (j : Int)) = false := by simp
      have HT := Lib.hid (show rs.take j = rs from List.take_of_length_le (by rw [HN.out]; exact Nat.le_refl _))
      go_wp2
      go_ret
      exact ⟨ret_int (by rw [HT.out]), hbel⟩
    · have hlt : (j : Int) < (n : Int) := by omega
      have hjl : j < rs.length := by rw [HN.out]; omega
      obtain ⟨b, off, rfl, hb1, hat⟩ := HA.out j hjl
      have hat1 := RatAt.stays _ _ _ _ _ hb1 hat hbel
      obtain ⟨f1, f2⟩ := HF.out j hjl
      have hcs := cntV_step rs j hjl
      have hcl := cntV_le rs (j + 1)
      have hx : cntR (rs.getD j zR) = 1 + (rs.getD j zR).mag.length + (rs.getD j zR).den.length := rfl
      have hK0 : 0 ≤ k + (cntV (rs.take j) : Nat) := by omega
      have hK1 : k + (cntV (rs.take j) : Nat) ≤ 4611686018426339328 - 1 - (rs.getD j zR).mag.length - (rs.getD j zR).den.length := by have := HC.out; omega
      have HT := Lib.hid (show k + (cntV (rs.take (j + 1)) : Nat) = k + (cntV (rs.take j) : Nat) + 1 + (rs.getD j zR).mag.length + (rs.getD j zR).den.length by omega)
      clear hcs hcl hx hjl hat
      generalize rs.getD j zR = x at *
      generalize k + (cntV (rs.take j) : Nat) = K at *
      obtain ⟨A1, c1, B1, d1, g0, g1, g2, hcd, r1, r2⟩ := hat1
      simp only [mkRat, mkI_len] at g0 g1 g2 r1 r2
      have HM1 := Lib.hid (fun W (hW : Below wr.heap.size wr W) => heldIntS x.mag.length c1 (K + 1) (by omega) (by omega) f1 A1 W (r1.later hW))
      have HM2 := Lib.hid (fun W (hW : Below wr.heap.size wr W) => heldIntS x.den.length d1 (K + 1 + x.mag.length) (by omega) (by omega) f2 B1 W (r2.later hW))
      have hbb : ((K % 3 == 0) == (K % 3 == 0)) = true := by simp
      have hp1 : decide (K + 1 + (x.mag.length : Int) < 0) = false := decide_eq_false (by omega)
      have hp2 : decide (K + 1 + (x.mag.length : Int) + (x.den.length : Int) < 0) = false := decide_eq_false (by omega)
      have hbw : b < wr.heap.size := Nat.lt_of_lt_of_le hb1 hbel.size
      clear r1 r2 hcd
      go_wp2_with fail
      refine (HM1.out _ (Below.refl _ _)).mono ?_
      rintro e w2 ⟨rfl, hb2⟩
      have g2' := cell_later hbw g2 hb2
      clear g0 g1 g2
      go_wp2_with fail
      refine (HM2.out _ hb2).mono ?_
      rintro e w3 ⟨rfl, hb3⟩
      have hbel3 := hbel.trans (below_le (below_trans hb2 hb3) hbel.size)
      clear g2' hb2 hb3 hbel
      go_wp2
      go_roundw
      case rel => exact ⟨j + 1, by omega, by rw [HT.out], rfl, hbel3⟩
      case measure => simp [intOf]; omega
end Go.Proofs.Ytkmmdajlbkbnmaa

namespace Go.Proofs.Ytkmmdajlbkbnmaa
open Go.RowKit Go.Joins

theorem same_of {x y : RowD} (h1 : vsame x.vals y.vals = true) (h2 : x.cols = y.cols) : x.same y = true := by simp [RowD.same, h1, h2]
theorem same_no1 {x y : RowD} (h1 : vsame x.vals y.vals = false) : x.same y = false := by simp [RowD.same, h1]
theorem same_no2 {x y : RowD} (h : x.cols ≠ y.cols) : x.same y = false := by simp [RowD.same, h]

set_option maxRecDepth 100000 in
set_option maxHeartbeats 1600000 in
theorem sSameMatrix (rs ss : List RowD) (u v : Value) (w : World) (hu : MatV w u rs) (hv : MatV w v ss) (hf : MFew rs) (hg : MFew ss) :
    Calls Try.prog 20 #[u, v] w fun e w' => e = .returned (.bool (msame rs ss)) ∧ Below w.heap.size w w' := by
  obtain ⟨A, c, rfl, _, hx⟩ := hu
  obtain ⟨A', c', rfl, _, hx'⟩ := hv
  have hn1 := hf.1
  have hm1 := hg.1
  have HF := Lib.hid hf.2
  have HG := Lib.hid hg.2
  clear hf hg
  obtain ⟨n, hn⟩ : ∃ n, rs.length = n := ⟨_, rfl⟩
  obtain ⟨m, hm⟩ : ∃ n, ss.length = n := ⟨_, rfl⟩
  rw [hn] at hn1 ⊢
  rw [hm] at hm1 ⊢
  by_cases hnm : n = m
  · subst hnm
    have hh : ((n : Int) != n) = false := by simp
    have HN := Lib.hid hn; clear hn
    have HM := Lib.hid hm; clear hm
    go_enter Try.func20, Try.ntmps20
    go_wp2_with fail
    go_loopw [19] (fun u wr => ∃ k : Nat, k ≤ n ∧ u = .int .i64 k ∧ (∀ j, j < k → (rs.getD j zRow).same (ss.getD j zRow) = true) ∧
      Below ((w.alloc (.cells #[.slice A n c] 46)).alloc (.cells #[.slice A' n c'] 46)).heap.size ((w.alloc (.cells #[.slice A n c] 46)).alloc (.cells #[.slice A' n c'] 46)) wr) (fun u _ => n - (intOf u).toNat)
    case atStart => exact ⟨0, Nat.zero_le _, rfl, fun j hj => by omega, Below.refl _ _⟩
    case round =>
      obtain ⟨k, hk, rfl, ht, hbel0⟩ := hrel
      have S3 := Slots.new hbel0 (g := w.heap.size + 1) (by simp)
      have hbel := below_trans (below_alloc2 _ _ _) hbel0
      have HB0 := Lib.hid hbel0
      clear hbel0
      have HT := Lib.hid ht; clear ht
      by_cases hkn : k = n
      · subst hkn
        have h0 : decide ((k : Int) < (k : Int)) = false := by simp
        clear S3
        go_wp2
        go_ret
        exact ⟨ret_bool ((msame_iff rs ss).2 ⟨HN.out.trans HM.out.symm, fun j hj => HT.out j (by have := HN.out; omega)⟩).symm, hbel⟩
      · have hlt : (k : Int) < (n : Int) := by omega
        have hkl : k < rs.length := by rw [HN.out]; omega
        have hkl2 : k < ss.length := by rw [HM.out]; omega
        obtain ⟨b, off, rfl, hb1, hat⟩ := hx.cells k hkl
        obtain ⟨b2, off2, rfl, hb2, hat2⟩ := hx'.cells k hkl2
        have hat1 := RowAt.stays _ _ _ _ _ hb1 hat hbel
        have hat3 := RowAt.stays _ _ _ _ _ hb2 hat2 hbel
        have f1 := HF.out k hkl
        have f3 := HG.out k hkl2
        clear hat hat2 hkl hkl2
        obtain ⟨A1, c1, B1, d1, g0, g1, hcd, hr1, hr2⟩ := hat1
        obtain ⟨A2, c2, B2, d2, k0, k1, hcd2, hs1, hs2⟩ := hat3
        have HE := Lib.hid (fun W (hW : Below wr.heap.size wr W) => sSame (rs.getD k zRow).vals (ss.getD k zRow).vals _ _ d1 d2 rfl rfl f1.2 f3.2 B1 B2 W (hr2.later hW) (hs2.later hW))
        have HK := Lib.hid (show k < rs.length by have := HN.out; omega)
        have HV := Lib.hid (show (rs.getD k zRow).same (ss.getD k zRow) = false → msame rs ss = false from fun h => msame_no k HK.out h)
        have HT2 := Lib.hid (show (rs.getD k zRow).same (ss.getD k zRow) = true → ∀ j, j < k + 1 → (rs.getD j zRow).same (ss.getD j zRow) = true from fun h j hj => (Nat.lt_succ_iff_lt_or_eq.1 hj).elim (HT.out j) (fun e => e ▸ h))
        have l1 := f1.1
        have l3 := f3.1
        have lc1 : (rs.getD k zRow).cols.length ≤ c1 := hcd.1
        clear hr2 hs2 hcd hcd2 f1 f3
        generalize rs.getD k zRow = x at *
        generalize ss.getD k zRow = y at *
        obtain ⟨p, hp⟩ : ∃ n, x.cols.length = n := ⟨_, rfl⟩
        obtain ⟨q, hq⟩ : ∃ n, y.cols.length = n := ⟨_, rfl⟩
        rw [hp] at l1 g0 lc1
        rw [hq] at l3 k0
        have HP := Lib.hid hp; clear hp
        have HQ := Lib.hid hq; clear hq
        obtain ⟨e3, _⟩ := S3.c1
        go_wp2
        have hn0 := own_cell (Below.refl _ (wr.alloc (.cells #[.slice A1 p c1, .slice B1 x.vals.length d1] 95))) (g := wr.heap.size) rfl
        have m0 := hn0.1 0 _ rfl
        have m1 := hn0.1 1 _ rfl
        have hal : Below wr.heap.size wr (wr.alloc (.cells #[.slice A1 p c1, .slice B1 x.vals.length d1] 95)) := below_alloc1 _ _
        have r0 := cell_later (Nat.lt_of_lt_of_le hb2 hbel.size) k0 hal
        have r1 := cell_later (Nat.lt_of_lt_of_le hb2 hbel.size) k1 hal
        have r2 := cell_later S3.1 e3 hal
        have hr1' := hr1.later hal
        have hs1' := hs1.later hal
        clear hn0 g0 g1 k0 k1 e3 S3 hr1 hs1
        have hz4 : wr.heap.size < (wr.alloc (.cells #[.slice A1 p c1, .slice B1 x.vals.length d1] 95)).heap.size := by simp
        generalize wr.alloc (.cells #[.slice A1 p c1, .slice B1 x.vals.length d1] 95) = w4 at *
        have m0' := fun d os => cell_regrown m0 d os
        have m1' := fun d os => cell_regrown m1 d os
        have r0' := fun d os => cell_regrown r0 d os
        have r1' := fun d os => cell_regrown r1 d os
        have r2' := fun d os => cell_regrown r2 d os
        obtain ⟨qv, hqv⟩ : ∃ qv, vsame x.vals y.vals = qv := ⟨_, rfl⟩
        rw [hqv] at HE
        have HQV := Lib.hid hqv; clear hqv
        cases qv
        · have hF := HV.out (same_no1 HQV.out)
          replace HV := Lib.hid hF
          clear hF
          refine wp_region_quiet_below (by kernel_rfl) (by kernel_rfl) ?_
          repeat (go_big_quiet_step (exact Calls.regrown_of (HE.out _ (below_trans hal (below_regrown _ _ _)))))
          refine wpQuiet_nil ?_
          intro w5 hw5
          obtain ⟨⟨dq, osq⟩, rfl⟩ := hw5
          have hb45 := below_regrown w4 dq osq
          have hb5 := hbel.trans (below_le (below_trans hal hb45) hbel.size)
          have v0 := m0' dq osq
          have v2 := r0' dq osq
          have v3 := r2' dq osq
          have v4 := hr1'.later hb45
          have v5 := hs1'.later hb45
          have hb15 := Lib.hid (below_trans (below_trans HB0.out hal) hb45)
          generalize Sort.grow (redrawn w4 dq) osq = w5 at *
          clear m0' m1' r0' r1' r2' m0 m1 r0 r1 r2 hr1' hs1' hb45
          clear v0 v2 v3 v4 v5
          go_wp2
          go_ret
          exact ⟨ret_bool HV.out.symm, hb5⟩
        · by_cases hpq : p = q
          · subst hpq
            have hh2 : ((p : Int) != p) = false := by simp
            refine wp_region_quiet_below (by kernel_rfl) (by kernel_rfl) ?_
            repeat (go_big_quiet_step (exact Calls.regrown_of (HE.out _ (below_trans hal (below_regrown _ _ _)))))
            refine wpQuiet_nil ?_
            intro w5 hw5
            obtain ⟨⟨dq, osq⟩, rfl⟩ := hw5
            have hb45 := below_regrown w4 dq osq
            have hb5 := hbel.trans (below_le (below_trans hal hb45) hbel.size)
            have v0 := m0' dq osq
            have v2 := r0' dq osq
            have v3 := r2' dq osq
            have v4 := hr1'.later hb45
            have v5 := hs1'.later hb45
            have hb15 := Lib.hid (below_trans (below_trans HB0.out hal) hb45)
            generalize Sort.grow (redrawn w4 dq) osq = w5 at *
            clear m0' m1' r0' r1' r2' m0 m1 r0 r1 r2 hr1' hs1' hb45
            go_wp2_with fail
            go_loop [50] (fun u => ∃ j : Nat, j ≤ p ∧ u = .int .i64 j ∧ x.cols.take j = y.cols.take j) (fun u => p - (intOf u).toNat)
            case atStart => exact ⟨0, Nat.zero_le _, rfl, rfl⟩
            case round =>
              obtain ⟨j, hj, rfl, htk⟩ := hrel
              have HTK := Lib.hid htk; clear htk
              by_cases hjp : j = p
              · subst hjp
                have h0 : decide ((j : Int) < (j : Int)) = false := by simp
                have hxy : x.cols = y.cols := by
                  have := HTK.out
                  rwa [List.take_of_length_le (by rw [HP.out]; exact Nat.le_refl _), List.take_of_length_le (by rw [HQ.out]; exact Nat.le_refl _)] at this
                have HXY := Lib.hid hxy
                clear hxy v0 v2 v3 v4 v5
                go_wp2
                go_roundw
                case rel => exact ⟨k + 1, by omega, rfl, HT2.out (same_of HQV.out HXY.out), hb15.out⟩
                case measure => simp [intOf]; omega
              · have hjlt : (j : Int) < (p : Int) := by omega
                have hnx := HP.out
                have hny := HQ.out
                obtain ⟨b3, o3, rfl, hb3, hc3⟩ := v4 (by intro h; rw [h] at hnx; simp at hnx; omega)
                obtain ⟨b4, o4, rfl, hb4, hc4⟩ := v5 (by intro h; rw [h] at hny; simp at hny; omega)
                have e1 := hc3 j (by omega)
                have e2 := hc4 j (by omega)
                clear hc3 hc4 hnx hny
                generalize hxe : x.cols.getD j 0 = xj at *
                generalize hye : y.cols.getD j 0 = yj at *
                have HX := Lib.hid hxe; clear hxe
                have HY := Lib.hid hye; clear hye
                by_cases hxy : xj = yj
                · subst hxy
                  have h1 : (xj != xj) = false := by simp
                  go_wp2
                  go_round
                  case rel => exact ⟨j + 1, by omega, rfl, eq_take HTK.out (by have := HP.out; omega) (by have := HQ.out; omega) (HX.out.trans HY.out.symm)⟩
                  case measure => simp [intOf]; omega
                · have h1 : (xj != yj) = true := by simp [hxy]
                  have hne : x.cols ≠ y.cols := by
                    intro h
                    rw [h] at HX
                    exact hxy (HX.out.symm.trans HY.out)
                  have hF := HV.out (same_no2 hne)
                  replace HV := Lib.hid hF
                  clear hF hne hxy
                  go_wp2
                  go_ret
                  exact ⟨ret_bool HV.out.symm, hb5⟩
          · have hh2 : ((p : Int) != q) = true := by simp; omega
            have hne : x.cols ≠ y.cols := by
              intro h
              exact hpq (by rw [← HP.out, ← HQ.out, h])
            have hF := HV.out (same_no2 hne)
            replace HV := Lib.hid hF
            clear hF hne hpq
            refine wp_region_quiet_below (by kernel_rfl) (by kernel_rfl) ?_
            repeat (go_big_quiet_step (exact Calls.regrown_of (HE.out _ (below_trans hal (below_regrown _ _ _)))))
            refine wpQuiet_nil ?_
            intro w5 hw5
            obtain ⟨⟨dq, osq⟩, rfl⟩ := hw5
            have hb45 := below_regrown w4 dq osq
            have hb5 := hbel.trans (below_le (below_trans hal hb45) hbel.size)
            have v0 := m0' dq osq
            have v2 := r0' dq osq
            have v3 := r2' dq osq
            have v4 := hr1'.later hb45
            have v5 := hs1'.later hb45
            have hb15 := Lib.hid (below_trans (below_trans HB0.out hal) hb45)
            generalize Sort.grow (redrawn w4 dq) osq = w5 at *
            clear m0' m1' r0' r1' r2' m0 m1 r0 r1 r2 hr1' hs1' hb45
            clear v0 v2 v3 v4 v5
            go_wp2
            go_ret
            exact ⟨ret_bool HV.out.symm, hb5⟩
  · have hh : ((n : Int) != m) = true := by simp; omega
    have HV := Lib.hid (show msame rs ss = false by
      cases hv : msame rs ss
      · rfl
      · exact absurd (((msame_iff rs ss).1 hv).1) (by omega))
    clear hnm hn hm
    go_enter Try.func20, Try.ntmps20
    go_wp2
    go_ret
    exact ⟨ret_bool HV.out.symm, below_alloc2 _ _ _⟩

theorem matSelf (rs : List RowD) (u v : Value) (w : World) (hu : MatV w u rs) (hv : MatV w v rs) (hf : MFew rs) :
    Calls Try.prog 23 #[u, v] w fun e w' => e = .returned (.bool true) ∧ Below w.heap.size w w' := by
  have h := eqMatrix rs rs u v w hu hv hf hf
  rwa [msame_refl] at h
end Go.Proofs.Ytkmmdajlbkbnmaa

namespace Go.Proofs.Ytkmmdajlbkbnmaa
open Go.RowKit Go.Joins

theorem Slots.frame {S : Nat → Prop} {w w' : World} {g : Nat} {cs : List Value} (h : Slots w g cs) (hf : Frame S w w') (hs : ¬ S g) : Slots w' g cs :=
  ⟨Nat.lt_of_lt_of_le h.1 hf.size, fun i hi => by rw [hf.cell h.1 hs]; exact h.2.1 i hi, fun i => by rw [hf.frozen h.1 hs]; exact h.2.2 i⟩

/-- A fraction between lo and hi, its parts apart. -/
def RS (w : World) (lo hi : Nat) (v : Value) (r : RatD) : Prop := ∃ va vb, v = .agg #[.bool r.neg, va, vb] ∧ PO w lo hi va r.mag ∧ PO w lo hi vb r.den ∧ Apart va vb
theorem RatP.rs {w : World} {base : Nat} {v : Value} {r : RatD} (h : RatP w base v r) : RS w base w.heap.size v r := by
  obtain ⟨va, vb, rfl, h1, h2, h3⟩ := h
  exact ⟨va, vb, rfl, h1.io, h2.io, h3⟩
theorem RS.frame {S : Nat → Prop} {w w' : World} {lo hi : Nat} {v : Value} {r : RatD} (h : RS w lo hi v r) (hf : Frame S w w') (hs : ∀ b, lo ≤ b → b < hi → ¬ S b) : RS w' lo hi v r := by
  obtain ⟨va, vb, rfl, h1, h2, h3⟩ := h
  exact ⟨va, vb, rfl, h1.frame hf (fun b hb => hs b (h1.2 b hb).1 (h1.2 b hb).2), h2.frame hf (fun b hb => hs b (h2.2 b hb).1 (h2.2 b hb).2), h3⟩
theorem RS.later {w w' : World} {lo hi : Nat} {v : Value} {r : RatD} (h : RS w lo hi v r) (hb : Below w.heap.size w w') : RS w' lo hi v r :=
  h.frame (S := fun _ => False) (Frame.of_below hb) (fun _ _ _ h => h)
theorem RS.reads {w : World} {lo hi : Nat} {v : Value} {r : RatD} (h : RS w lo hi v r) : RatV w v r := by
  obtain ⟨va, vb, rfl, h1, h2, h3⟩ := h
  exact RatP.reads ⟨va, vb, rfl, h1.1, h2.1, h3⟩
theorem RS.form {w : World} {lo hi : Nat} {v : Value} {r : RatD} (h : RS w lo hi v r) : ∃ A n c B m d, v = .agg #[.bool r.neg, .slice A n c, .slice B m d] := by
  obtain ⟨va, vb, rfl, h1, h2, _⟩ := h
  obtain ⟨A, c, rfl, _⟩ := h1.form
  obtain ⟨B, d, rfl, _⟩ := h2.form
  exact ⟨A, _, c, B, _, d, rfl⟩

/-- What a fraction takes behind a mark. -/
def mkR (r : RatD) (k : Int) : RatD := ⟨r.neg, mkI r.mag.length k, mkI r.den.length (k + r.mag.length)⟩
theorem markRS (r : RatD) (k : Int) (hk : 0 ≤ k) (hk1 : k ≤ 4611686018426339328) (hn1 : r.mag.length ≤ 1048576) (hn2 : r.den.length ≤ 1048576) (lo hi : Nat) (v : Value) (w : World) (h : RS w lo hi v r) :
    Calls Try.prog 48 #[v, .int .i64 k] w fun e w' => e = .returned (.int .i64 (k + r.mag.length + r.den.length)) ∧ Frame (fun b => lo ≤ b ∧ b < hi) w w' ∧ RS w' lo hi v (mkR r k) := by
  obtain ⟨va, vb, rfl, h1, h2, h3⟩ := h
  refine (markRat r.neg r.mag r.den k hk hk1 hn1 hn2 lo hi va vb w h1 h2).mono ?_
  rintro e w' ⟨he, hf, _, hm⟩
  obtain ⟨m1, m2⟩ := hm h3
  exact ⟨he, hf.mono (fun b hb => hb.elim (h1.2 b) (h2.2 b)), va, vb, rfl, m1, m2, h3⟩
theorem heldRS (r : RatD) (k : Int) (hk : 0 ≤ k) (hk1 : k ≤ 4611686018426339328) (hn1 : r.mag.length ≤ 1048576) (hn2 : r.den.length ≤ 1048576) (lo hi : Nat) (v : Value) (w : World) (h : RS w lo hi v (mkR r k)) :
    Calls Try.prog 49 #[v, .int .i64 k] w fun e w' => e = .returned (.int .i64 (k + r.mag.length + r.den.length)) ∧ Below w.heap.size w w' := by
  obtain ⟨va, vb, rfl, h1, h2, h3⟩ := h
  obtain ⟨A, c, rfl, _⟩ := h1.form
  obtain ⟨B, d, rfl, _⟩ := h2.form
  have e1 : (mkR r k).mag.length = r.mag.length := mkI_len _ _
  have e2 : (mkR r k).den.length = r.den.length := mkI_len _ _
  have q1 := h1.reads
  have q2 := h2.reads
  rw [e1, e2]
  exact heldRat r.neg r.mag.length r.den.length c d k hk hk1 hn1 hn2 A B w q1 q2

theorem sum_le {α : Type} (f : α → Nat) (B : Nat) : ∀ l : List α, (∀ x ∈ l, f x ≤ B) → (l.map f).sum ≤ l.length * B
  | [], _ => by simp
  | x :: l, h => by
    have h1 := h x (by simp)
    have h2 := sum_le f B l (fun y hy => h y (by simp [hy]))
    simp only [List.map_cons, List.sum_cons, List.length_cons, Nat.add_mul]
    omega
theorem mem_getD {α : Type} {d : α} {l : List α} {x : α} (h : x ∈ l) : ∃ k, k < l.length ∧ l.getD k d = x := by
  obtain ⟨k, hk, e⟩ := List.mem_iff_getElem.1 h
  exact ⟨k, hk, by simpa [hk] using e⟩
theorem cntV_few {rs : List RatD} (h : Few rs) : cntV rs ≤ 1048576 * 2097153 := by
  refine Nat.le_trans (sum_le cntR 2097153 rs (fun x hx => ?_)) (Nat.mul_le_mul_right _ h.1)
  obtain ⟨k, hk, rfl⟩ := mem_getD (d := zR) hx
  obtain ⟨h1, h2⟩ := h.2 k hk
  unfold cntR
  omega
theorem cntM_few {rs : List RowD} (h : MFew rs) : cntM rs ≤ 1048576 * (1048576 + 1048576 * 2097153) := by
  refine Nat.le_trans (sum_le cntRow (1048576 + 1048576 * 2097153) rs (fun x hx => ?_)) (Nat.mul_le_mul_right _ h.1)
  obtain ⟨k, hk, rfl⟩ := mem_getD (d := zRow) hx
  obtain ⟨h1, h2⟩ := h.2 k hk
  have := cntV_few h2
  unfold cntRow
  omega
/-- A matrix of the call's own between lo and hi. -/
def MX (w : World) (lo hi : Nat) (v : Value) (rs : List RowD) : Prop := ∃ qs, MS w lo hi v qs rs
theorem MX.later {w w' : World} {lo hi : Nat} {v : Value} {rs : List RowD} (h : MX w lo hi v rs) (hb : Below w.heap.size w w') : MX w' lo hi v rs := by
  obtain ⟨qs, h⟩ := h
  exact ⟨qs, h.later hb⟩
theorem MX.reads {w : World} {lo hi : Nat} {v : Value} {rs : List RowD} (h : MX w lo hi v rs) : MatV w (.agg #[v]) rs := by
  obtain ⟨qs, h⟩ := h
  obtain ⟨A, c, rfl, h1, h2⟩ := h.form
  exact ⟨A, c, rfl, ⟨h1, h2⟩, h.reads⟩
theorem MatO.mx {w : World} {base : Nat} {v : Value} {rs : List RowD} (h : MatO w base v rs) : ∃ A c, v = .agg #[.slice A rs.length c] ∧ MX w base w.heap.size (.slice A rs.length c) rs := by
  obtain ⟨va, rfl, h⟩ := h
  obtain ⟨A, c, rfl, _⟩ := h.form
  exact ⟨A, c, rfl, h.parts⟩
theorem markMS (rs : List RowD) (k : Int) (hk : 0 ≤ k) (hk1 : k ≤ 1048576) (hfew : MFew rs) (lo hi : Nat) (v : Value) (w : World) (h : MX w lo hi v rs) :
    Calls Try.prog 47 #[.agg #[v], .int .i64 k] w fun e w' => e = .returned (.int .i64 (k + (cntM rs : Nat))) ∧ Frame (fun b => lo ≤ b ∧ b < hi) w w' := by
  obtain ⟨qs, h⟩ := h
  have hc := cntM_few hfew
  refine (markMatrix rs k hk (by omega) hfew lo hi v qs w h).mono ?_
  rintro e w' ⟨he, hf, _⟩
  exact ⟨he, hf.mono (fun b hb => h.foot hb)⟩
/-- A vector of the call's own between lo and hi. -/
def VX (w : World) (lo hi : Nat) (v : Value) (rs : List RatD) : Prop := ∃ ps, VS w lo hi v ps rs
/-- The same, its parts apart. -/
def VZ (w : World) (lo hi : Nat) (v : Value) (rs : List RatD) : Prop := ∃ ps, VS w lo hi v ps rs ∧ Aps ps
theorem VX.later {w w' : World} {lo hi : Nat} {v : Value} {rs : List RatD} (h : VX w lo hi v rs) (hb : Below w.heap.size w w') : VX w' lo hi v rs := by
  obtain ⟨ps, h⟩ := h
  exact ⟨ps, h.later hb⟩
theorem VZ.later {w w' : World} {lo hi : Nat} {v : Value} {rs : List RatD} (h : VZ w lo hi v rs) (hb : Below w.heap.size w w') : VZ w' lo hi v rs := by
  obtain ⟨ps, h, ha⟩ := h
  exact ⟨ps, h.later hb, ha⟩
theorem VX.frame {S : Nat → Prop} {w w' : World} {lo hi : Nat} {v : Value} {rs : List RatD} (h : VX w lo hi v rs) (hf : Frame S w w') (hs : ∀ b, lo ≤ b → b < hi → ¬ S b) : VX w' lo hi v rs := by
  obtain ⟨ps, h⟩ := h
  exact ⟨ps, h.frame hf (fun b hb => hs b (h.foot hb).1 (h.foot hb).2)⟩
theorem VZ.frame {S : Nat → Prop} {w w' : World} {lo hi : Nat} {v : Value} {rs : List RatD} (h : VZ w lo hi v rs) (hf : Frame S w w') (hs : ∀ b, lo ≤ b → b < hi → ¬ S b) : VZ w' lo hi v rs := by
  obtain ⟨ps, h, ha⟩ := h
  exact ⟨ps, h.frame hf (fun b hb => hs b (h.foot hb).1 (h.foot hb).2), ha⟩
theorem VX.reads {w : World} {lo hi n c : Nat} {A : Option Addr} {rs : List RatD} (h : VX w lo hi (.slice A n c) rs) : VI w A rs := by
  obtain ⟨ps, h⟩ := h
  exact h.reads
theorem VZ.reads {w : World} {lo hi n c : Nat} {A : Option Addr} {rs : List RatD} (h : VZ w lo hi (.slice A n c) rs) : VI w A rs := by
  obtain ⟨ps, h, _⟩ := h
  exact h.reads
theorem VO.vx {w : World} {lo : Nat} {v : Value} {rs : List RatD} (h : VO w lo v rs) : ∃ A c, v = .slice A rs.length c ∧ VX w lo w.heap.size (.slice A rs.length c) rs := by
  obtain ⟨ps, h⟩ := h.parts
  obtain ⟨A, c, rfl, _⟩ := h.form
  exact ⟨A, c, rfl, ps, h⟩
theorem VZ.mk' {w : World} {lo hi : Nat} {v : Value} {ps : List (Value × Value)} {rs : List RatD} (h : VS w lo hi v ps rs) (ha : Aps ps) : ∃ A c, v = .slice A rs.length c ∧ VZ w lo hi (.slice A rs.length c) rs := by
  obtain ⟨A, c, rfl, _⟩ := h.form
  exact ⟨A, c, rfl, ps, h, ha⟩
theorem markVX (rs : List RatD) (k : Int) (hk : 0 ≤ k) (hk1 : k ≤ 4000000000000000000) (hfew : Few rs) (lo hi : Nat) (v : Value) (w : World) (h : VX w lo hi v rs) :
    Calls Try.prog 33 #[v, .int .i64 k] w fun e w' => e = .returned (.int .i64 (k + (cntV rs : Nat))) ∧ Frame (fun b => lo ≤ b ∧ b < hi) w w' := by
  obtain ⟨ps, h⟩ := h
  have hc := cntV_few hfew
  refine (markRatS rs k hk (by omega) hfew lo hi v ps w h).mono ?_
  rintro e w' ⟨he, hf, _⟩
  exact ⟨he, hf.mono (fun b hb => h.foot hb)⟩
theorem markVZ (rs : List RatD) (k : Int) (hk : 0 ≤ k) (hk1 : k ≤ 4000000000000000000) (hfew : Few rs) (lo hi : Nat) (v : Value) (w : World) (h : VZ w lo hi v rs) :
    Calls Try.prog 33 #[v, .int .i64 k] w fun e w' => e = .returned (.int .i64 (k + (cntV rs : Nat))) ∧ Frame (fun b => lo ≤ b ∧ b < hi) w w' ∧ VZ w' lo hi v (mkV rs k) := by
  obtain ⟨ps, h, ha⟩ := h
  have hc := cntV_few hfew
  refine (markRatS rs k hk (by omega) hfew lo hi v ps w h).mono ?_
  rintro e w' ⟨he, hf, _, hm⟩
  exact ⟨he, hf.mono (fun b hb => h.foot hb), ps, hm ha, ha⟩
theorem heldVZ (rs : List RatD) (n c : Nat) (hn : rs.length = n) (k : Int) (hk : 0 ≤ k) (hk1 : k ≤ 4000000000000000000) (hfew : Few rs) (lo hi : Nat) (A : Option Addr) (w : World) (h : VZ w lo hi (.slice A n c) (mkV rs k)) :
    Calls Try.prog 34 #[.slice A n c, .int .i64 k] w fun e w' => e = .returned (.int .i64 (k + (cntV rs : Nat))) ∧ Below w.heap.size w w' :=
  heldRatS rs n c hn k hk (by have := cntV_few hfew; omega) hfew A w h.reads
theorem vecSelf (rs : List RatD) (n c m d : Nat) (hn : rs.length = n) (hm : rs.length = m) (hf : Few rs) (A B : Option Addr) (w : World) (ha : VI w A rs) (hb : VI w B rs) :
    Calls Try.prog 30 #[.slice A n c, .slice B m d] w fun e w' => e = .returned (.bool true) ∧ Below w.heap.size w w' := by
  have h := eqRatS rs rs n m c d hn hm hf hf A B w ha hb
  rwa [vsame_refl] at h
end Go.Proofs.Ytkmmdajlbkbnmaa

namespace Go.Proofs.Ytkmmdajlbkbnmaa
open Go.RowKit Go.Joins

def PtAt (w : World) (b o : Nat) (x y : RatD) : Prop :=
  ∃ A c B d A' c' B' d', w.cell? ⟨b, o, none⟩ = some (.bool x.neg) ∧ w.cell? ⟨b, o + 1, none⟩ = some (.slice A x.mag.length c) ∧ w.cell? ⟨b, o + 2, none⟩ = some (.slice B x.den.length d) ∧
    w.cell? ⟨b, o + 3, none⟩ = some (.bool y.neg) ∧ w.cell? ⟨b, o + 4, none⟩ = some (.slice A' y.mag.length c') ∧ w.cell? ⟨b, o + 5, none⟩ = some (.slice B' y.den.length d') ∧
    (x.mag.length ≤ c ∧ c ≤ maxLen ∧ x.den.length ≤ d ∧ d ≤ maxLen) ∧ (y.mag.length ≤ c' ∧ c' ≤ maxLen ∧ y.den.length ≤ d' ∧ d' ≤ maxLen) ∧ RI w A x.mag ∧ RI w B x.den ∧ RI w A' y.mag ∧ RI w B' y.den
def PtV (w : World) (v : Value) (x y : RatD) : Prop :=
  ∃ A c B d A' c' B' d', v = .agg #[.bool x.neg, .slice A x.mag.length c, .slice B x.den.length d, .bool y.neg, .slice A' y.mag.length c', .slice B' y.den.length d'] ∧
    (x.mag.length ≤ c ∧ c ≤ maxLen ∧ x.den.length ≤ d ∧ d ≤ maxLen) ∧ (y.mag.length ≤ c' ∧ c' ≤ maxLen ∧ y.den.length ≤ d' ∧ d' ≤ maxLen) ∧ RI w A x.mag ∧ RI w B x.den ∧ RI w A' y.mag ∧ RI w B' y.den
theorem VI.pt {w : World} {A : Option Addr} {qs : List RatD} {n : Nat} (h : VI w A qs) (hl : qs.length = 2 * n) (k : Nat) (hk : k < n) : ∃ b off, A = some ⟨b, off, none⟩ ∧ b < w.heap.size ∧ PtAt w b (off + k * 6) (qs.getD (2 * k) zR) (qs.getD (2 * k + 1) zR) := by
  obtain ⟨b, off, rfl, hb, h1⟩ := h.cells (2 * k) (by omega)
  obtain ⟨b', off', e, _, h2⟩ := h.cells (2 * k + 1) (by omega)
  injection e with e
  injection e with e1 e2
  subst e1 e2
  rw [show off + 2 * k * 3 = off + k * 6 by omega] at h1
  rw [show off + (2 * k + 1) * 3 = off + k * 6 + 3 by omega] at h2
  obtain ⟨A, c, B, d, a0, a1, a2, l1, r1, r2⟩ := h1
  obtain ⟨A', c', B', d', b0, b1, b2, l2, r3, r4⟩ := h2
  exact ⟨b, off, rfl, hb, A, c, B, d, A', c', B', d', a0, a1, a2, b0, b1, b2, l1, l2, r1, r2, r3, r4⟩
theorem PtAt.later {w w' : World} {b o : Nat} {x y : RatD} (hlt : b < w.heap.size) (h : PtAt w b o x y) (hb : Below w.heap.size w w') : PtAt w' b o x y := by
  obtain ⟨A, c, B, d, A', c', B', d', a0, a1, a2, b0, b1, b2, l1, l2, r1, r2, r3, r4⟩ := h
  exact ⟨A, c, B, d, A', c', B', d', cell_later hlt a0 hb, cell_later hlt a1 hb, cell_later hlt a2 hb, cell_later hlt b0 hb, cell_later hlt b1 hb, cell_later hlt b2 hb, l1, l2, r1.later hb, r2.later hb, r3.later hb, r4.later hb⟩
/-- A point of the call's own. -/
def PtO (w : World) (base : Nat) (v : Value) (x y : RatD) : Prop := ∃ va vb vc vd, v = .agg #[.bool x.neg, va, vb, .bool y.neg, vc, vd] ∧ RO w base va x.mag ∧ RO w base vb x.den ∧ RO w base vc y.mag ∧ RO w base vd y.den
theorem Slots.c6 {w : World} {g : Nat} {a b c d e f : Value} (h : Slots w g [a, b, c, d, e, f]) : (w.cell? ⟨g, 0, none⟩ = some a ∧ w.cell? ⟨g, 1, none⟩ = some b ∧ w.cell? ⟨g, 2, none⟩ = some c ∧ w.cell? ⟨g, 3, none⟩ = some d ∧ w.cell? ⟨g, 4, none⟩ = some e ∧ w.cell? ⟨g, 5, none⟩ = some f) ∧
    (w.frozen? ⟨g, 0, none⟩ = false ∧ w.frozen? ⟨g, 1, none⟩ = false ∧ w.frozen? ⟨g, 2, none⟩ = false ∧ w.frozen? ⟨g, 3, none⟩ = false ∧ w.frozen? ⟨g, 4, none⟩ = false ∧ w.frozen? ⟨g, 5, none⟩ = false) :=
  ⟨⟨h.2.1 0 (by simp), h.2.1 1 (by simp), h.2.1 2 (by simp), h.2.1 3 (by simp), h.2.1 4 (by simp), h.2.1 5 (by simp)⟩, h.2.2 0, h.2.2 1, h.2.2 2, h.2.2 3, h.2.2 4, h.2.2 5⟩

def psz (n : Nat) (qs : List RatD) : Nat := n + sumSz qs
/-- The lengths of all parts are small. -/
def PFew (n : Nat) (qs : List RatD) : Prop := n ≤ 1048576 ∧ qs.length = 2 * n ∧ ∀ k, k < qs.length → (qs.getD k zR).mag.length ≤ 1048576 ∧ (qs.getD k zR).den.length ≤ 1048576
theorem pfew_of {n : Nat} {qs : List RatD} (hl : qs.length = 2 * n) (h : psz n qs ≤ 1048576) : PFew n qs := by
  have h1 := h
  simp only [psz] at h1
  refine ⟨by omega, hl, fun k hk => ?_⟩
  have h2 := sumSz_step qs k hk
  have h3 := sumSz_le qs (k + 1)
  simp only [RatD.size] at h2
  omega

set_option maxHeartbeats 800000 in
theorem szPoint (x y : RatD) (v : Value) (left : Int) (h0 : 0 ≤ left) (h1 : left ≤ 1048576) (w : World) (hv : PtV w v x y) :
    Calls Try.prog 101 #[v, .int .i64 left] w fun r w' => r = .returned (.int .i64 (szI (x.size + y.size) left)) ∧ Below w.heap.size w w' := by
  obtain ⟨A, c, B, d, A', c', B', d', rfl, l1, l2, r1, r2, r3, r4⟩ := hv
  have q1 := Lib.hid (fun left h0 h1 W (hW : Below w.heap.size w W) => szRat x (.agg #[.bool x.neg, .slice A x.mag.length c, .slice B x.den.length d]) left h0 h1 W ⟨A, c, B, d, rfl, l1, r1.later hW, r2.later hW⟩)
  have q2 := Lib.hid (fun left h0 h1 W (hW : Below w.heap.size w W) => szRat y (.agg #[.bool y.neg, .slice A' y.mag.length c', .slice B' y.den.length d']) left h0 h1 W ⟨A', c', B', d', rfl, l2, r3.later hW, r4.later hW⟩)
  clear l1 l2 r1 r2 r3 r4
  generalize x.size = sx at *
  generalize y.size = sy at *
  generalize x.mag.length = n1 at *
  generalize x.den.length = n2 at *
  generalize y.mag.length = n3 at *
  generalize y.den.length = n4 at *
  generalize x.neg = s1 at *
  generalize y.neg = s2 at *
  by_cases c1 : (sx : Int) ≤ left
  · have s1 : szI sx left = left - sx := szI_pos c1
    have t1 : 0 ≤ left - sx := by omega
    have z1 := fun W hW => q1.out left h0 h1 W hW
    rw [s1] at z1
    replace z1 := Lib.hid z1
    by_cases c2 : (sy : Int) ≤ left - sx
    · have s2 : szI sy (left - sx) = left - sx - sy := szI_pos c2
      have t2 : 0 ≤ left - sx - sy := by omega
      have HZ := Lib.hid (show szI (sx + sy) left = left - sx - sy by rw [szI_pos (by omega)]; omega)
      have z2 := fun W hW => q2.out (left - sx) t1 (by omega) W hW
      rw [s2] at z2
      replace z2 := Lib.hid z2
      clear s1 s2 q1 q2
      go_enter Try.func101, Try.ntmps101
      go_wp2_with fail
      refine (z1.out _ (below_alloc1 _ _)).mono ?_
      rintro r1 w1 ⟨rfl, hb⟩
      have S0 := Slots.new hb (g := w.heap.size) rfl
      replace hb := box_below hb
      obtain ⟨⟨a0, a1, a2, a3, a4, a5⟩, _⟩ := S0.c6
      go_wp2_with fail
      refine (z2.out _ hb).mono ?_
      rintro r1 w2 ⟨rfl, hb2⟩
      replace hb2 := below_trans hb hb2
      clear S0 a0 a1 a2 a3 a4 a5
      go_wp2
      go_ret
      exact ⟨ret_int HZ.out.symm, hb2⟩
    · have s2 : szI sy (left - sx) = -1 := szI_neg (by omega)
      have HZ := Lib.hid (show szI (sx + sy) left = -1 from szI_neg (by omega))
      have z2 := fun W hW => q2.out (left - sx) t1 (by omega) W hW
      rw [s2] at z2
      replace z2 := Lib.hid z2
      clear s1 s2 q1 q2
      go_enter Try.func101, Try.ntmps101
      go_wp2_with fail
      refine (z1.out _ (below_alloc1 _ _)).mono ?_
      rintro r1 w1 ⟨rfl, hb⟩
      have S0 := Slots.new hb (g := w.heap.size) rfl
      replace hb := box_below hb
      obtain ⟨⟨a0, a1, a2, a3, a4, a5⟩, _⟩ := S0.c6
      go_wp2_with fail
      refine (z2.out _ hb).mono ?_
      rintro r1 w2 ⟨rfl, hb2⟩
      replace hb2 := below_trans hb hb2
      clear S0 a0 a1 a2 a3 a4 a5
      go_wp2
      go_ret
      exact ⟨ret_int HZ.out.symm, hb2⟩
  · have s1 : szI sx left = -1 := szI_neg (by omega)
    have HZ := Lib.hid (show szI (sx + sy) left = -1 from szI_neg (by omega))
    have z1 := fun W hW => q1.out left h0 h1 W hW
    rw [s1] at z1
    replace z1 := Lib.hid z1
    clear s1 q1 q2
    go_enter Try.func101, Try.ntmps101
    go_wp2_with fail
    refine (z1.out _ (below_alloc1 _ _)).mono ?_
    rintro r1 w1 ⟨rfl, hb⟩
    replace hb := box_below hb
    go_wp2
    go_ret
    exact ⟨ret_int HZ.out.symm, hb⟩

theorem sumSz_two (qs : List RatD) {n k : Nat} (hl : qs.length = 2 * n) (hk : k < n) : sumSz (qs.take (2 * (k + 1))) = sumSz (qs.take (2 * k)) + ((qs.getD (2 * k) zR).size + (qs.getD (2 * k + 1) zR).size) := by
  have h1 := sumSz_step qs (2 * k) (by omega)
  have h2 := sumSz_step qs (2 * k + 1) (by omega)
  rw [show 2 * (k + 1) = 2 * k + 1 + 1 by omega, h2, h1]
  omega

set_option maxHeartbeats 800000 in
theorem szPointS (qs : List RatD) (n c : Nat) (hn : qs.length = 2 * n) (hnc : n ≤ maxLen) (left : Int) (h0 : 0 ≤ left) (h1 : left ≤ 1048576) (A : Option Addr) (w : World) (hv : VI w A qs) :
    Calls Try.prog 59 #[.slice A n c, .int .i64 left] w fun r w' => r = .returned (.int .i64 (szI (psz n qs) left)) ∧ Below w.heap.size w w' := by
  have hm : n ≤ 9223372036854775807 := hnc
  have hw : wrap64 (left - n) = left - n := IntWalk.wrap64_in _ ⟨by omega, by omega⟩
  by_cases hl : (n : Int) ≤ left
  · have HN := Lib.hid hn; clear hn
    have hd : ¬ (left - n < 0) := by omega
    have hd' : 0 ≤ left - n := by omega
    go_enter Try.func59, Try.ntmps59
    go_wp2_with fail
    go_loopw [1, 5] (fun l i wr => ∃ (k : Nat) (m : Int), k ≤ n ∧ i = .int .i64 k ∧ l = .int .i64 m ∧ 0 ≤ m ∧ m ≤ 1048576 ∧ m = left - n - sumSz (qs.take (2 * k)) ∧ Below w.heap.size w wr) (fun _ i _ => n - (intOf i).toNat)
    case atStart => exact ⟨0, _, Nat.zero_le _, rfl, rfl, hd', by omega, by simp [sumSz], Below.refl _ _⟩
    case round =>
      obtain ⟨k, m, hk, rfl, rfl, hm0, hm1, hms, hbel⟩ := hrel
      have HM := Lib.hid hms; clear hms
      by_cases hkn : k = n
      · subst hkn
        have h0 : decide ((k : Int) < (k : Int)) = false := by simp
        have hF : szI (psz k qs) left = m := by
          have e := HM.out
          rw [List.take_of_length_le (by rw [HN.out]; exact Nat.le_refl _)] at e
          rw [szI_pos (by simp only [psz]; omega), psz]
          omega
        have HF := Lib.hid hF; clear hF
        go_wp2
        go_ret
        exact ⟨ret_int (by rw [HF.out]), hbel⟩
      · have hlt : (k : Int) < (n : Int) := by omega
        obtain ⟨b, off, rfl, hb, hat⟩ := hv.pt HN.out k (by omega)
        have hat1 := hat.later hb hbel
        have HS := Lib.hid (sumSz_two qs HN.out (show k < n by omega))
        have HL := Lib.hid (sumSz_le qs (2 * (k + 1)))
        generalize qs.getD (2 * k) zR = x at *
        generalize qs.getD (2 * k + 1) zR = y at *
        clear hat
        obtain ⟨A1, c1, B1, d1, A2, c2, B2, d2, g0, g1, g2, g3, g4, g5, l1, l2, r1, r2, r3, r4⟩ := hat1
        go_wp2_with fail
        have hrv : PtV wr (.agg #[.bool x.neg, .slice A1 x.mag.length c1, .slice B1 x.den.length d1, .bool y.neg, .slice A2 y.mag.length c2, .slice B2 y.den.length d2]) x y := ⟨_, _, _, _, _, _, _, _, rfl, l1, l2, r1, r2, r3, r4⟩
        refine (szPoint x y _ m hm0 hm1 wr hrv).mono ?_
        by_cases hxm : ((x.size + y.size : Nat) : Int) ≤ m
        · have hz := szI_pos hxm
          have hz0 : 0 ≤ szI (x.size + y.size) m := by omega
          have hz1 : szI (x.size + y.size) m ≤ 1048576 := by omega
          replace hz := Lib.hid hz
          rintro r w2 ⟨rfl, hb2⟩
          replace hb2 := hbel.trans (below_le hb2 hbel.size)
          clear hrv r1 r2 r3 r4 l1 l2 g0 g1 g2 g3 g4 g5
          go_wp2
          go_roundw
          case rel => exact ⟨k + 1, _, by omega, rfl, rfl, hz0, hz1, by rw [hz.out, HM.out, HS.out]; omega, hb2⟩
          case measure => simp [intOf]; omega
        · have hz := szI_neg (show m < ((x.size + y.size : Nat) : Int) by omega)
          rw [hz]
          rintro r w2 ⟨rfl, hb2⟩
          have hF : szI (psz n qs) left = -1 := szI_neg (by have := HM.out; have := HS.out; have := HL.out; simp only [psz]; omega)
          have HF := Lib.hid hF; clear hF
          replace hb2 := hbel.trans (below_le hb2 hbel.size)
          clear hrv r1 r2 r3 r4 l1 l2 g0 g1 g2 g3 g4 g5 hz
          go_wp2
          go_ret
          exact ⟨ret_int (by rw [HF.out]), hb2⟩
  · have hF : szI (psz n qs) left = -1 := szI_neg (by simp only [psz]; omega)
    have HF := Lib.hid hF; clear hF
    have hd : left - n < 0 := by omega
    clear hl hn
    go_enter Try.func59, Try.ntmps59
    go_wp2
    go_ret
    exact ⟨ret_int (by rw [HF.out]), Below.refl _ _⟩

set_option maxHeartbeats 800000 in
theorem eqPointSelf (x y : RatD) (u v : Value) (w : World) (hu : PtV w u x y) (hv : PtV w v x y) (fx : x.mag.length ≤ 1048576 ∧ x.den.length ≤ 1048576) (fy : y.mag.length ≤ 1048576 ∧ y.den.length ≤ 1048576) :
    Calls Try.prog 108 #[u, v] w fun e w' => e = .returned (.bool true) ∧ Below w.heap.size w w' := by
  obtain ⟨A, c, B, d, A', c', B', d', rfl, l1, l2, r1, r2, r3, r4⟩ := hu
  obtain ⟨C, e, D, f, C', e', D', f', rfl, m1, m2, t1, t2, t3, t4⟩ := hv
  have q1 := fun W (hW : Below w.heap.size w W) => eqRat x x (.agg #[.bool x.neg, .slice A x.mag.length c, .slice B x.den.length d]) (.agg #[.bool x.neg, .slice C x.mag.length e, .slice D x.den.length f]) W ⟨A, c, B, d, rfl, l1, r1.later hW, r2.later hW⟩ ⟨C, e, D, f, rfl, m1, t1.later hW, t2.later hW⟩ fx.1 fx.2 fx.1 fx.2
  have q2 := fun W (hW : Below w.heap.size w W) => eqRat y y (.agg #[.bool y.neg, .slice A' y.mag.length c', .slice B' y.den.length d']) (.agg #[.bool y.neg, .slice C' y.mag.length e', .slice D' y.den.length f']) W ⟨A', c', B', d', rfl, l2, r3.later hW, r4.later hW⟩ ⟨C', e', D', f', rfl, m2, t3.later hW, t4.later hW⟩ fy.1 fy.2 fy.1 fy.2
  rw [RatD.same_refl] at q1 q2
  replace q1 := Lib.hid q1
  replace q2 := Lib.hid q2
  clear l1 l2 m1 m2 r1 r2 r3 r4 t1 t2 t3 t4 fx fy
  generalize x.mag.length = n1 at *
  generalize x.den.length = n2 at *
  generalize y.mag.length = n3 at *
  generalize y.den.length = n4 at *
  generalize x.neg = s1 at *
  generalize y.neg = s2 at *
  go_enter Try.func108, Try.ntmps108
  go_wp2_with fail
  refine (q1.out _ (below_alloc2 _ _ _)).mono ?_
  rintro z w1 ⟨rfl, hb⟩
  have S1 := Slots.new hb (g := w.heap.size + 1) (by simp)
  have S0 := Slots.new (below_step hb) (g := w.heap.size) rfl
  replace hb := below_trans (below_alloc2 _ _ _) hb
  obtain ⟨⟨a0, a1, a2, a3, a4, a5⟩, _⟩ := S0.c6
  obtain ⟨⟨b0, b1, b2, b3, b4, b5⟩, _⟩ := S1.c6
  go_wp2_with fail
  refine (q2.out _ hb).mono ?_
  rintro z w2 ⟨rfl, hb2⟩
  replace hb := below_trans hb hb2
  clear S0 S1 a0 a1 a2 a3 a4 a5 b0 b1 b2 b3 b4 b5
  go_wp2
  go_ret
  exact ⟨rfl, hb⟩

set_option maxHeartbeats 800000 in
theorem eqPointSSelf (qs : List RatD) (n c d : Nat) (hf : PFew n qs) (A B : Option Addr) (w : World) (ha : VI w A qs) (hb : VI w B qs) :
    Calls Try.prog 70 #[.slice A n c, .slice B n d] w fun r w' => r = .returned (.bool true) ∧ Below w.heap.size w w' := by
  have hn1 : n ≤ 1048576 := hf.1
  have HF := Lib.hid hf.2.2
  have HN := Lib.hid hf.2.1
  clear hf
  have hh : ((n : Int) != n) = false := by simp
  go_enter Try.func70, Try.ntmps70
  go_wp2_with fail
  go_loopw [5] (fun u wr => ∃ k : Nat, k ≤ n ∧ u = .int .i64 k ∧ Below w.heap.size w wr) (fun u _ => n - (intOf u).toNat)
  case atStart => exact ⟨0, Nat.zero_le _, rfl, Below.refl _ _⟩
  case round =>
    obtain ⟨k, hk, rfl, hbel⟩ := hrel
    by_cases hkn : k = n
    · subst hkn
      have h0 : decide ((k : Int) < (k : Int)) = false := by simp
      go_wp2
      go_ret
      exact ⟨rfl, hbel⟩
    · have hlt : (k : Int) < (n : Int) := by omega
      obtain ⟨b, off, rfl, hb1, hat⟩ := ha.pt HN.out k (by omega)
      obtain ⟨b2, off2, rfl, hb2, hat2⟩ := hb.pt HN.out k (by omega)
      have hat1 := hat.later hb1 hbel
      have hat3 := hat2.later hb2 hbel
      have f1 := HF.out (2 * k) (by have := HN.out; omega)
      have f2 := HF.out (2 * k + 1) (by have := HN.out; omega)
      clear hat hat2
      generalize qs.getD (2 * k) zR = x at *
      generalize qs.getD (2 * k + 1) zR = y at *
      obtain ⟨A1, c1, B1, d1, A2, c2, B2, d2, g0, g1, g2, g3, g4, g5, l1, l2, r1, r2, r3, r4⟩ := hat1
      obtain ⟨C1, e1, D1, i1, C2, e2, D2, i2, k0, k1, k2, k3, k4, k5, m1, m2, t1, t2, t3, t4⟩ := hat3
      have HE := Lib.hid (fun W (hW : Below wr.heap.size wr W) => eqPointSelf x y (.agg #[.bool x.neg, .slice A1 x.mag.length c1, .slice B1 x.den.length d1, .bool y.neg, .slice A2 y.mag.length c2, .slice B2 y.den.length d2]) (.agg #[.bool x.neg, .slice C1 x.mag.length e1, .slice D1 x.den.length i1, .bool y.neg, .slice C2 y.mag.length e2, .slice D2 y.den.length i2]) W
        ⟨_, _, _, _, _, _, _, _, rfl, l1, l2, r1.later hW, r2.later hW, r3.later hW, r4.later hW⟩ ⟨_, _, _, _, _, _, _, _, rfl, m1, m2, t1.later hW, t2.later hW, t3.later hW, t4.later hW⟩ f1 f2)
      have g0' := fun d os => cell_regrown g0 d os
      have g1' := fun d os => cell_regrown g1 d os
      have g2' := fun d os => cell_regrown g2 d os
      have g3' := fun d os => cell_regrown g3 d os
      have g4' := fun d os => cell_regrown g4 d os
      have g5' := fun d os => cell_regrown g5 d os
      have k0' := fun d os => cell_regrown k0 d os
      have k1' := fun d os => cell_regrown k1 d os
      have k2' := fun d os => cell_regrown k2 d os
      have k3' := fun d os => cell_regrown k3 d os
      have k4' := fun d os => cell_regrown k4 d os
      have k5' := fun d os => cell_regrown k5 d os
      clear l1 l2 m1 m2 r1 r2 r3 r4 t1 t2 t3 t4 f1 f2
      go_wp2
      refine wp_region_quiet_below (by kernel_rfl) (by kernel_rfl) ?_
      repeat (go_big_quiet_step (exact Calls.regrown_of (HE.out _ (below_regrown _ _ _))))
      refine wpQuiet_nil ?_
      intro w5 hw5
      obtain ⟨⟨dq, osq⟩, rfl⟩ := hw5
      have hb5 := hbel.trans (below_le (below_regrown wr dq osq) hbel.size)
      generalize Sort.grow (redrawn wr dq) osq = w5 at *
      clear g0' g1' g2' g3' g4' g5' k0' k1' k2' k3' k4' k5'
      go_wp2
      go_roundw
      case rel => exact ⟨k + 1, by omega, rfl, hb5⟩
      case measure => simp [intOf]; omega
end Go.Proofs.Ytkmmdajlbkbnmaa
