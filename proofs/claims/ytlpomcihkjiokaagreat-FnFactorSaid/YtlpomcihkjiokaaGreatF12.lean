/-
  Shared texts (F12).
-/
import Derived.Test.YtlpomcihkjiokaaGreatF10
import Derived.Test.YtlpomcihkjiokaaGreatF11
import Derived.Test.YtlpomcihkjiokaaGreatF1
import Derived.Test.YtlpomcihkjiokaaGreatF8
import Derived.Test.YtlpomcihkjiokaaGreatF4
import Derived.Test.YtlpomcihkjiokaaGreatF9
namespace Go.Proofs.YtlpomcihkjiokaaGreat
open Go.RowKit Go.Joins

/-- Of a matrix drawn: symmetric, small, its first i diagonal entries drawn. -/
structure DrI (E : Nat → Nat → Int) (i : Nat) : Prop where
  sym : ∀ p q, E p q = E q p
  off : ∀ p q, p ≠ q → -1 ≤ E p q ∧ E p q ≤ 1
  dia : ∀ p, p < i → 5 ≤ E p p ∧ E p p ≤ 7
  all : ∀ p q, -1 ≤ E p q ∧ E p q ≤ 7
def updE (E : Nat → Nat → Int) (i j : Nat) (y : Int) : Nat → Nat → Int := fun p q => if p = i ∧ q = j then y else E p q
theorem DrI.zero : DrI (fun _ _ => 0) 0 := ⟨fun _ _ => rfl, fun _ _ _ => by decide, fun p hp => by omega, fun _ _ => by decide⟩
theorem DrI.diag {E : Nat → Nat → Int} {i : Nat} (h : DrI E i) {y : Int} (h1 : 5 ≤ y) (h2 : y ≤ 7) : DrI (updE E i i y) (i + 1) := by
  refine ⟨fun p q => ?_, fun p q hpq => ?_, fun p hp => ?_, fun p q => ?_⟩
  · unfold updE
    by_cases e : p = i ∧ q = i
    · rw [if_pos e, if_pos ⟨e.2, e.1⟩]
    · rw [if_neg e, if_neg (fun e' => e ⟨e'.2, e'.1⟩)]; exact h.sym p q
  · unfold updE
    rw [if_neg (fun e => hpq (e.1.trans e.2.symm))]; exact h.off p q hpq
  · unfold updE
    by_cases e : p = i
    · rw [if_pos ⟨e, e⟩]; omega
    · rw [if_neg (fun e' => e e'.1)]; exact h.dia p (by omega)
  · unfold updE
    split
    · omega
    · exact h.all p q
theorem DrI.two {E : Nat → Nat → Int} {i j k : Nat} (h : DrI E k) {y : Int} (hij : i ≠ j) (h1 : -1 ≤ y) (h2 : y ≤ 1) : DrI (updE (updE E i j y) j i y) k := by
  refine ⟨fun p q => ?_, fun p q hpq => ?_, fun p hp => ?_, fun p q => ?_⟩
  · unfold updE
    by_cases e : p = j ∧ q = i
    · rw [if_pos e]
      by_cases e2 : q = j ∧ p = i
      · rw [if_pos e2]
      · rw [if_neg e2, if_pos ⟨e.2, e.1⟩]
    · rw [if_neg e]
      by_cases e2 : p = i ∧ q = j
      · rw [if_pos e2, if_pos ⟨e2.2, e2.1⟩]
      · rw [if_neg e2, if_neg (fun e' => e2 ⟨e'.2, e'.1⟩), if_neg (fun e' => e ⟨e'.2, e'.1⟩)]; exact h.sym p q
  · unfold updE
    split
    · omega
    · split
      · omega
      · exact h.off p q hpq
  · unfold updE
    rw [if_neg (fun e => hij (e.2.symm.trans e.1)), if_neg (fun e => hij (e.1.symm.trans e.2))]; exact h.dia p hp
  · unfold updE
    split
    · omega
    · split
      · omega
      · exact h.all p q
/-- The matrix of the ints E. -/
def intL (n : Nat) (E : Nat → Nat → Int) : List (List RatD) := fullL n fun i j => FE.rint (E i j)
theorem intL_len (n : Nat) (E : Nat → Nat → Int) : (intL n E).length = n := fullL_len _ _
theorem intL_row_len {n : Nat} {E : Nat → Nat → Int} {p : Nat} (hp : p < n) : ((intL n E).getD p []).length = n := fullL_row_len hp
theorem intL_get {n : Nat} {E : Nat → Nat → Int} {p q : Nat} (hp : p < n) (hq : q < n) : ((intL n E).getD p []).getD q zR = FE.rint (E p q) := fullL_get hp hq
theorem intL_set {n : Nat} {E : Nat → Nat → Int} {i j : Nat} (hi : i < n) (y : Int) : (intL n E).set i (((intL n E).getD i []).set j (FE.rint y)) = intL n (updE E i j y) := by
  refine eq_fullL (by simp [intL_len]) (fun p hp => ?_) (fun p q hp hq => ?_)
  · rw [getD_setG]
    split
    · rw [List.length_set]; exact intL_row_len hi
    · exact intL_row_len hp
  · rw [getD_setG, intL_len]
    unfold updE
    by_cases e : i = p
    · subst e
      rw [if_pos ⟨rfl, hp⟩, getD_setR, intL_row_len hi]
      by_cases e2 : j = q
      · subst e2
        rw [if_pos ⟨rfl, hq⟩, if_pos ⟨rfl, rfl⟩]
      · rw [if_neg (fun h => e2 h.1), if_neg (fun h => e2 h.2.symm), intL_get hi hq]
    · rw [if_neg (fun h => e h.1), if_neg (fun h => e h.1.symm), intL_get hp hq]
theorem rint_ok {y : Int} (h1 : -10 ≤ y) (h2 : y ≤ 1000) : FE.ratOk (FE.rint y) = true := by
  have e : FE.toL 1 = [1] := by rw [FE.toL_pos (by omega), show (1 / 1000000000 : Nat) = 0 from rfl, FE.toL_zero]; rfl
  refine FE.OkR.ok (p := y.natAbs) (q := 1) ⟨rfl, by rw [e]; rfl, fun h => ?_, by decide, ?_, by rw [e]; decide, Nat.gcd_one_right _⟩
  · simp only [FE.rint, decide_eq_true_eq] at h
    omega
  · have := toL_small3 (k := y.natAbs) (by omega)
    omega
theorem intL_ok {n : Nat} {E : Nat → Nat → Int} (h : ∀ p q, -1 ≤ E p q ∧ E p q ≤ 7) : spOk (intL n E) = true := by
  unfold spOk intL fullL
  simp only [List.all_eq_true, List.mem_map, List.mem_range]
  rintro x ⟨a, _, rfl⟩
  unfold vok
  simp only [List.all_eq_true, List.mem_map, List.mem_range]
  rintro y ⟨b, _, rfl⟩
  exact rint_ok (by have := (h a b).1; omega) (by have := (h a b).2; omega)
theorem rep_one (_n i : Nat) (x : List RatD) : List.replicate (i + 1) x = List.replicate i x ++ [x] := by rw [List.replicate_succ']
theorem LS.cf {w w' : World} {g lo hi : Nat} {v : Value} {vs : List Value} {rows : List (List RatD)} (h : LS w lo hi v vs rows) (hf : CF g w w') (hg : g < lo) : LS w' lo hi v vs rows := h.frame hf (fun b hb _ e => by omega)
theorem CF.up {g lo : Nat} {a b c : World} (h : CF g a b) (k : Frame (fun x => lo ≤ x) b c) (hl : a.heap.size ≤ lo) : CF g a c :=
  ⟨k.os.trans h.os, k.tape.trans h.tape, k.output.trans h.output, Nat.le_trans h.size k.size, fun i hi hs => (k.block i (Nat.lt_of_lt_of_le hi h.size) (by omega)).trans (h.block i hi hs)⟩

theorem draw_end {n : Nat} {E : Nat → Nat → Int} {gc m cc hi : Nat} {C : Option Addr} {w w' : World} {v : Value} {R : List RowD} (h1 : 1 ≤ n) (h2 : n ≤ 4) (hE : DrI E n) (hR : spM (intL n E) = R) (hm : MZ w' w.heap.size hi v R) (hh : hi = w'.heap.size) (hc : Cu w' gc C m cc) (hf : CF gc w w') :
    ∃ (n : Nat) (E : Nat → Nat → Int) (u : Value), 1 ≤ n ∧ n ≤ 4 ∧ DrI E n ∧ Ending.returned v = .returned u ∧ MZ w' w.heap.size w'.heap.size u (spM (intL n E)) ∧ Cu w' gc C m cc ∧ CF gc w w' := by
  subst hR hh
  exact ⟨n, E, v, h1, h2, hE, rfl, hm, hc, hf⟩

theorem mat_end {n : Nat} {E : Nat → Nat → Int} {hi : Nat} {w w' : World} {v : Value} {R : List RowD} (h1 : 1 ≤ n) (h2 : n ≤ 4) (hE : DrI E n) (hR : spM (intL n E) = R) (hm : MZ w' w.heap.size hi v R) (hh : hi = w'.heap.size) (hf : Below w.heap.size w w') :
    ∃ (n : Nat) (E : Nat → Nat → Int) (u : Value), 1 ≤ n ∧ n ≤ 4 ∧ DrI E n ∧ Ending.returned v = .returned u ∧ MZ w' w.heap.size w'.heap.size u (spM (intL n E)) ∧ Below w.heap.size w w' := by
  subst hR hh
  exact ⟨n, E, v, h1, h2, hE, rfl, hm, hf⟩

set_option maxRecDepth 100000 in
set_option maxHeartbeats 6400000 in
theorem sDraw14 (gc m cc : Nat) (C : Option Addr) (w : World) (h : Cu w gc C m cc) :
    Calls Tryz.prog 104 #[.pointer (some ⟨gc, 0, none⟩)] w fun e w' => ∃ (n : Nat) (E : Nat → Nat → Int) (v : Value), 1 ≤ n ∧ n ≤ 4 ∧ DrI E n ∧ e = .returned v ∧ MZ w' w.heap.size w'.heap.size v (spM (intL n E)) ∧ Cu w' gc C m cc ∧ CF gc w w' := by
  have HB4 := Lib.hid (fun W (hW : Cu W gc C m cc) => sBelow gc m cc C 4 (by decide) (by decide) W hW)
  have HB3 := Lib.hid (fun W (hW : Cu W gc C m cc) => sBelow gc m cc C 3 (by decide) (by decide) W hW)
  have HRI := Lib.hid (fun y (h1 : -10 ≤ y) (h2 : y ≤ 1000) W => sRatFromInt_small y h1 h2 W)
  have hg := h.lt
  have HM := Lib.hid h.mem
  have HC := Lib.hid h
  clear h
  go_enter Tryz.func104, Tryz.ntmps104
  go_wp2_with fail
  have al := below_alloc1 w (.cells #[.slice none 0 0] 52)
  have S0 := Slots.new (Below.refl _ (w.alloc (.cells #[.slice none 0 0] 52))) (g := w.heap.size) rfl
  refine (HB4.out _ (HC.out.later al)).mono ?_
  rintro e w1 ⟨x, ⟨hx0, hx1⟩, rfl, hc1, hf1⟩
  have hcf := (CF.later al).trans hf1
  replace S0 := Slots.frame S0 hf1 (by omega)
  have hz1 := S0.1
  obtain ⟨n, hn⟩ : ∃ n : Nat, 1 + x = (n : Int) := ⟨(1 + x).toNat, by omega⟩
  have hn1 : 1 ≤ n := by omega
  have hn4 : n ≤ 4 := by omega
  have HZ := Lib.hid (fun W => sZeros n (by omega) W)
  have hl0 := World.ownsRow_lit (base := w1.heap.size) (e := 28) (size := 1) w1 #[] 0 (by simp) (by unfold maxLen; omega) rfl
  have al := below_alloc1 w1 (.cells #[] 28)
  have hlw0 := LW.nil hl0
  replace S0 := S0.later al
  replace hcf := hcf.trans (CF.later al)
  have hc2 := hc1.later al
  have hB2 : w1.heap.size ≤ (w1.alloc (.cells #[] 28)).heap.size := by simp
  go_wp2_with fail
  generalize w1.alloc (.cells #[] 28) = w2 at *
  obtain ⟨lo, hlo⟩ : ∃ lo, w1.heap.size = lo := ⟨_, rfl⟩
  rw [hlo] at hlw0 hz1 hB2 ⊢
  clear hl0 al hf1 hc1 hx0 hx1 hn hlo HC HB4
  have HCF := Lib.hid hcf
  have HC2 := Lib.hid hc2
  clear hcf hc2
  go_loopw [4, 5] (fun o z wr => ∃ i : Nat, i ≤ n ∧ z = .int .i64 i ∧ Below lo w2 wr ∧ ∃ vs, LW wr lo wr.heap.size o vs (List.replicate i (List.replicate n (FE.rint 0)))) (fun _ z _ => n - (intOf z).toNat)
  case atStart => exact ⟨0, Nat.zero_le _, rfl, Below.refl _ _, [], hlw0⟩
  case round =>
    clear hlw0
    obtain ⟨i, hi, rfl, hb, vs, hlw⟩ := hrel
    obtain ⟨Ao, co, rfl, _⟩ := hlw.form
    have hll : (List.replicate i (List.replicate n (FE.rint 0))).length = i := by simp
    rw [hll]
    rw [hll] at hlw
    have HLW := Lib.hid hlw
    have HLL := Lib.hid hll
    have hzr := hb.size
    clear hlw hll
    by_cases hin : i = n
    · have hlf : ¬ (i < n) := by omega
      have hls0 : LS wr lo wr.heap.size (.slice Ao n co) vs (intL n fun _ _ => 0) := by
        have := HLW.out.ls
        rw [hin, rep_full] at this
        exact this
      have hcu := HC2.out.frame (S := fun x => lo ≤ x) ⟨hb.os, hb.tape, hb.output, hb.size, fun b _ hs => hb.block b (by omega)⟩ (by omega) (fun h0 a ha => by have := HM.out h0 a ha; omega)
      have hcf := HCF.out.up (lo := lo) ⟨hb.os, hb.tape, hb.output, hb.size, fun b _ hs => hb.block b (by omega)⟩ (by omega)
      have hs0 := S0.below hb (show w.heap.size < lo by omega)
      subst hin
      clear HLW S0 hb HCF HC2
      go_wp2_with fail
      generalize wr = w3 at *
      go_loopw [6] (fun z wr => ∃ (k : Nat) (E : Nat → Nat → Int), k ≤ i ∧ DrI E k ∧ z = .int .i64 k ∧ LS wr lo wr.heap.size (.slice Ao i co) vs (intL i E) ∧ Cu wr gc C m cc ∧ CF gc w wr ∧ Slots wr w.heap.size [.slice none 0 0] ∧ lo ≤ wr.heap.size) (fun z _ => i - (intOf z).toNat)
      case atStart => exact ⟨0, fun _ _ => 0, Nat.zero_le _, DrI.zero, rfl, hls0, hcu, hcf, hs0, by omega⟩
      case round =>
        clear hls0 hcu hcf hs0
        obtain ⟨k, E, hk, hE, rfl, hls, hcu, hcf, hs, hzr2⟩ := hrel
        have HE := Lib.hid hE
        have HCU := Lib.hid hcu
        have HCFr := Lib.hid hcf
        have HLS := Lib.hid hls
        clear hE hcu hcf hls
        by_cases hkn : k = i
        · have hlf : ¬ (k < i) := by omega
          subst hkn
          have hE := HE.out
          have hR : ∀ p q, FE.ratOk (FE.rint (E p q)) = true := fun p q => rint_ok (by have := (hE.all p q).1; omega) (by have := (hE.all p q).2; omega)
          have HSP := fun A c W (hF : FI W A (intL k E)) => sSparse (intL k E) k c A W (intL_len k E) hF (few_full (by omega) (fun p q _ _ => Or.inr (hR p q))) (full_res (fun p q _ _ => Or.inr (hR p q)))
          have hok := intL_ok (n := k) hE.all
          have hrx : spR (intL k E) = spM (intL k E) := by unfold spR; rw [hok]; rfl
          rw [hok, hrx] at HSP
          replace HSP := Lib.hid HSP
          have HFI := Lib.hid HLS.out.reads
          clear hok hrx hR hE HLS
          obtain ⟨RX, hRX⟩ : ∃ R, spM (intL k E) = R := ⟨_, rfl⟩
          rw [hRX] at HSP
          replace hRX := Lib.hid hRX
          obtain ⟨XL, hXL⟩ : ∃ X, intL k E = X := ⟨_, rfl⟩
          rw [hXL] at HSP HFI
          clear hXL
          go_wp2_with fail
          refine (HSP.out _ _ _ HFI.out).mono ?_
          intro e8 w8 hp
          obtain ⟨v8, rfl, hmz, hb8⟩ := hp
          obtain ⟨A8, c8, rfl⟩ := hmz.form
          have hs8 := hs.later hb8
          have hz8 := hb8.size
          obtain ⟨q0, z0⟩ := hs8.c1
          have al := below_alloc1 w8 (.cells #[.slice A8 RX.length c8] 52)
          obtain ⟨q1, z1⟩ := (hs8.later al).c1
          have hz9 : (w8.alloc (.cells #[.slice A8 RX.length c8] 52)).heap.size = w8.heap.size + 1 := by simp
          have hmz9 := ((hmz.later al).frame (frame1 (g := w.heap.size) (o := 0) (.slice A8 RX.length c8)) (fun b h1 _ e => by omega)).wide (lo' := w.heap.size) (hi' := w8.heap.size + 1) (by omega) (by omega)
          have hbA := below_trans hb8 al
          have hcu9 := (HCU.out.later hbA).far (k := w.heap.size) (o := 0) (by omega) (fun h0 a ha => by have := HM.out h0 a ha; omega) (.slice A8 RX.length c8)
          have hcf9 := (HCFr.out.trans (CF.later hbA)).fresh (p := ⟨w.heap.size, 0, none⟩) (Nat.le_refl _) (.slice A8 RX.length c8)
          have hfin := Lib.hid (And.intro hmz9 (And.intro hcu9 hcf9))
          clear hmz hmz9 hcu9 hcf9 hb8 hbA hs8 al hs
          go_wp2
          exact bodyPost_ret (v := .agg #[.slice A8 RX.length c8]) (by simp [results, Tryz.results104, go_sem, q1]) rfl (draw_end hn1 hn4 HE.out hRX.out hfin.out.1 (by simp) hfin.out.2.1 hfin.out.2.2)
        · have hlt : (k : Int) < (i : Int) := by omega
          have hlt2 : k < i := by omega
          obtain ⟨g, gi, ci, eA, hg1, hg2, row0, hvi, hgi1, hgi2, hggi, hfz, hvx⟩ := HLS.out.pick k (by rw [intL_len]; omega) k (by rw [intL_row_len hlt2]; omega)
          subst eA
          rw [intL_row_len hlt2] at row0 hvi hvx
          obtain ⟨A6, c6, B6, d6, r6, _⟩ := hvx.at k (by rw [intL_row_len hlt2]; omega)
          have R6 := Lib.hid r6
          clear hvx r6
          have hcud : Cu wr.drew gc C m cc := HCU.out.later ⟨rfl, rfl, rfl, Nat.le_refl _, fun _ _ => rfl⟩
          have HCD := Lib.hid hcud
          clear hcud
          go_wp2_with fail
          refine wp_region_held_drew (S := fun W => World.cell? W ⟨g, k, none⟩ = some (.slice (some ⟨gi, 0, none⟩) i ci)) (by kernel_rfl) row0 (fun hHeld => ?_)
          refine qL (i := 0) (v := ?_) rfl (by kernel_rfl) (fun _ _ _ h => h) (by assumption) (by rfl) (fun W _ => ?_) ?_
          rotate_left
          · go_simp
            try with_reducible rfl
          try simp only [Act.put, List.setIfInBounds_toArray]
          refine qL (i := 1) (v := ?_) rfl (by kernel_rfl) (fun _ _ _ h => h) (by assumption) (by rfl) (fun W _ => ?_) ?_
          rotate_left
          · go_simp
            try with_reducible rfl
          try simp only [Act.put]
          refine qL (i := 2) (v := ?_) rfl (by kernel_rfl) (fun _ _ _ h => h) (by assumption) (by rfl) (fun W _ => ?_) ?_
          rotate_left
          · go_simp
            try with_reducible rfl
          try simp only [Act.put]
          refine qL (i := 3) (v := ?_) rfl (by kernel_rfl) (fun _ _ _ h => h) (by assumption) (by rfl) (fun W hSw => ?_) ?_
          rotate_left
          · have row := hSw
            go_simp
            try with_reducible rfl
          try simp only [Act.put]
          refine qL (i := 4) (v := ?_) rfl (by kernel_rfl) (fun _ _ _ h => h) (by assumption) (by rfl) (fun W _ => ?_) ?_
          rotate_left
          · go_simp
            try with_reducible rfl
          try simp only [Act.put]
          refine qL (i := 5) (v := ?_) rfl (by kernel_rfl) (fun _ _ _ h => h) (by assumption) (by rfl) (fun W _ => ?_) ?_
          rotate_left
          · go_simp
            try with_reducible rfl
          try simp only [Act.put]
          refine qR (i := 6) (by kernel_rfl) rfl (fun K hK => ?_)
          simp only [List.getElem_toArray, List.getElem_cons_succ, List.getElem_cons_zero]
          go_simp
          (go_at_call 172; (with_reducible refine (HB3.out _ HCD.out).mono ?_); rintro e11 w11 ⟨x, ⟨hx0, hx1⟩, rfl, hc11, hf11⟩)
          try (go_wp2_with fail)
          replace hf11 : CF gc wr w11 := ⟨hf11.os, hf11.tape, hf11.output, hf11.size, hf11.block⟩
          have row11 := (hf11.cell hg2 (show g ≠ gc by omega)).trans row0
          have r11 := R6.out.frame hf11 (by omega) (by omega)
          have hz11 := fun o => (hf11.frozen (b := gi) (o := o) hgi2 (show gi ≠ gc by omega)).trans (hfz o)
          have hcf11 := HCFr.out.trans hf11
          have hs11 := hs.frame hf11 (show w.heap.size ≠ gc by omega)
          have hzz11 := hf11.size
          refine hK.out _ _ (row11) (fun h2 => ?_)
          clear hK K hHeld
          have hHeld := h2
          clear h2
          try simp only [Act.put, List.setIfInBounds_toArray, List.set_cons_zero, List.set_cons_succ]
          refine qL (i := 7) (v := ?_) rfl (by kernel_rfl) (fun _ _ _ h => h) (by assumption) (by rfl) (fun W _ => ?_) ?_
          rotate_left
          · go_simp
            try with_reducible rfl
          try simp only [Act.put, List.setIfInBounds_toArray]
          refine qR (i := 8) (by kernel_rfl) rfl (fun K hK => ?_)
          simp only [List.getElem_toArray, List.getElem_cons_succ, List.getElem_cons_zero]
          have hwr : IntKind.i64.wrap (5 + x) = 5 + x := by rw [IntKind.wrap_i64]; omega
          go_simp
          try simp only [hwr]
          (go_at_call 173; (with_reducible refine (HRI.out (5 + x) (by omega) (by omega) _).mono ?_); rintro e12 w12 ⟨v12, rfl, hp12, hb12⟩)
          try (go_wp2_with fail)
          have row12 := cell_later (by omega) row11 hb12
          obtain ⟨A9, n9, c9, B9, m9, d9, rfl⟩ := hp12.shape
          have hc12 := hc11.later hb12
          have hcf12 := hcf11.trans (CF.later hb12)
          have hs12 := hs11.later hb12
          have hz12 := hb12.size
          refine hK.out _ _ (row12) (fun h2 => ?_)
          clear hK K hHeld
          have hHeld := h2
          clear h2
          try simp only [Act.put, List.setIfInBounds_toArray, List.set_cons_zero, List.set_cons_succ]
          refine qL (i := 9) (v := ?_) rfl (by kernel_rfl) (fun _ _ _ h => h) (by assumption) (by rfl) (fun W _ => ?_) ?_
          rotate_left
          · go_simp
            try with_reducible rfl
          try simp only [Act.put, List.setIfInBounds_toArray]
          refine qR (i := 10) (by kernel_rfl) rfl (fun K hK => ?_)
          simp only [List.getElem_toArray, List.getElem_cons_succ, List.getElem_cons_zero]
          have r69 := (r11.later hb12)
          have t0 := r69.1
          have t1 := r69.2.1
          have t2 := r69.2.2
          have z0 := (hb12.frozen (p := ⟨gi, k * 3, none⟩) (show gi < w11.heap.size by omega)).trans (hz11 (k * 3))
          have z1 := (hb12.frozen (p := ⟨gi, k * 3 + 1, none⟩) (show gi < w11.heap.size by omega)).trans (hz11 (k * 3 + 1))
          have z2 := (hb12.frozen (p := ⟨gi, k * 3 + 2, none⟩) (show gi < w11.heap.size by omega)).trans (hz11 (k * 3 + 2))
          clear r69
          go_simp
          refine hK.out _ _ (((set3_frame w12 gi (k * 3) _ _ _).cell (by omega) (fun e => hggi e)).trans row12) (fun h2 => ?_)
          clear hK K hHeld
          have hHeld := h2
          clear h2
          try simp only [Act.put, List.setIfInBounds_toArray, List.set_cons_zero, List.set_cons_succ]
          refine wpAnyH_done (by kernel_rfl) ?_ _
          clear hHeld
          have hls1 := (((HLS.out.cf hf11 (by omega)).later hb12).put (i := k) (j := k) (by rw [intL_len]; omega) (by rw [hvi]) (by rw [intL_row_len hlt2]; omega) hp12 (by omega) (by omega) (by omega))
          rw [intL_set hlt2] at hls1
          have hdr := HE.out.diag (i := k) (y := 5 + x) (by omega) (by omega)
          have hsz : (set3 w12 gi (k * 3) (.bool (FE.rint (5 + x)).neg) (.slice A9 n9 c9) (.slice B9 m9 d9)).heap.size = w12.heap.size := by simp [set3]
          have hfs := set3_frame w12 gi (k * 3) (.bool (FE.rint (5 + x)).neg) (.slice A9 n9 c9) (.slice B9 m9 d9)
          have hcu3 := hc12.frame hfs (by omega) (fun h0 a ha => by have := HM.out h0 a ha; omega)
          have hcf3 := hcf12.up (lo := lo) (hfs.mono (fun b hb => by omega)) (by omega)
          have hs3 := hs12.frame hfs (by omega)
          have hls2 := hls1.wide (Nat.le_refl lo) (Nat.le_of_eq hsz.symm)
          have hzf : lo ≤ (set3 w12 gi (k * 3) (.bool (FE.rint (5 + x)).neg) (.slice A9 n9 c9) (.slice B9 m9 d9)).heap.size := by rw [hsz]; omega
          have HY := Lib.hid (And.intro hls2 (And.intro hcu3 (And.intro hcf3 (And.intro hs3 hzf))))
          have HDR := Lib.hid hdr
          clear hls1 hls2 hcu3 hcf3 hs3 hzf hsz hfs t0 t1 t2 z0 z1 z2 hp12 hb12 hf11 hc11 hc12 hcf12 hs12 hdr R6 row0 HLS HCU HCFr hs row11 row12 hz11 r11 HE HCD hvi hfz
          go_wp2_with fail
          generalize wr = wb at *
          clear hx0 hx1 hwr
          go_loopw [7] (fun z wr => ∃ (j : Nat) (E : Nat → Nat → Int), j ≤ k ∧ DrI E (k + 1) ∧ z = .int .i64 j ∧ LS wr lo wr.heap.size (.slice (some ⟨g, 0, none⟩) i co) vs (intL i E) ∧ Cu wr gc C m cc ∧ CF gc w wr ∧ Slots wr w.heap.size [.slice none 0 0] ∧ lo ≤ wr.heap.size) (fun z _ => k - (intOf z).toNat)
          case atStart => exact ⟨0, _, Nat.zero_le _, HDR.out, rfl, HY.out.1, HY.out.2.1, HY.out.2.2.1, HY.out.2.2.2.1, HY.out.2.2.2.2⟩
          case round =>
            clear HY HDR
            obtain ⟨j, E2, hj, hE, rfl, hls, hcu, hcf, hs, hzr2⟩ := hrel
            have HE := Lib.hid hE
            have HCU := Lib.hid hcu
            have HCFr := Lib.hid hcf
            have HLS := Lib.hid hls
            clear hE hcu hcf hls
            by_cases hjk : j = k
            · have hlf : ¬ (j < k) := by omega
              go_wp2
              go_roundw
              case rel => exact ⟨k + 1, E2, by omega, HE.out, rfl, HLS.out, HCU.out, HCFr.out, hs, hzr2⟩
              case measure => simp [intOf]; omega
            · have hlj : (j : Int) < (k : Int) := by omega
              go_wp2_with fail
              refine (HB3.out _ HCU.out).mono ?_
              rintro e11 w11 ⟨x, ⟨hx0, hx1⟩, rfl, hc11, hf11⟩
              have hls11 := HLS.out.cf hf11 (by omega)
              have hcf11 := HCFr.out.trans hf11
              have hs11 := hs.frame hf11 (show w.heap.size ≠ gc by omega)
              have hz11 := hf11.size
              have HX1 := Lib.hid (And.intro hc11 (And.intro hls11 (And.intro hcf11 hs11)))
              clear hc11 hls11 hcf11 hs11 hf11 hs HLS HCU HCFr
              have hki : k < i := by omega
              have hji : j < i := by omega
              obtain ⟨g2, gi, ci, eA, hg1, hg2, row0, hvi, hgi1, hgi2, hggi, hfz, hvx⟩ := HX1.out.2.1.pick k (by rw [intL_len]; omega) j (by rw [intL_row_len hki]; omega)
              injection eA with eA
              injection eA with eA
              subst eA
              rw [intL_row_len hki] at row0 hvi hvx
              obtain ⟨A6, c6, B6, d6, r6, _⟩ := hvx.at j (by rw [intL_row_len hki]; omega)
              clear hvx
              obtain ⟨_, gj, cj, -, -, -, -, hvj, hgj1, hgj2, -, -, -⟩ := HX1.out.2.1.pick j (by rw [intL_len]; omega) k (by rw [intL_row_len hji]; omega)
              rw [intL_row_len hji] at hvj
              have HVJ := Lib.hid hvj
              have HVI := Lib.hid hvi
              clear hvj hvi
              have hwr : IntKind.i64.wrap (x - 1) = x - 1 := by rw [IntKind.wrap_i64]; omega
              go_wp2_with fail
              refine (HRI.out (x - 1) (by omega) (by omega) _).mono ?_
              rintro e12 w12 ⟨v12, rfl, hp12, hb12⟩
              obtain ⟨A9, n9, c9, B9, m9, d9, rfl⟩ := hp12.shape
              obtain ⟨y, hy⟩ : ∃ y, x - 1 = y := ⟨_, rfl⟩
              have hy1 : -1 ≤ y ∧ y ≤ 1 := by omega
              rw [hy] at hp12 ⊢
              clear hwr hy hx0 hx1
              have hz12 := hb12.size
              have HX2 := Lib.hid (And.intro (HX1.out.1.later hb12) (And.intro (HX1.out.2.1.later hb12) (And.intro (HX1.out.2.2.1.trans (CF.later hb12)) (HX1.out.2.2.2.later hb12))))
              have al := below_alloc1 w12 (.cells #[.bool (FE.rint y).neg, .slice A9 n9 c9, .slice B9 m9 d9] 57)
              have S8 := Slots.new (Below.refl _ (w12.alloc (.cells #[.bool (FE.rint y).neg, .slice A9 n9 c9, .slice B9 m9 d9] 57))) (g := w12.heap.size) rfl
              have HX3 := Lib.hid (And.intro (HX2.out.1.later al) (And.intro (HX2.out.2.1.later al) (And.intro (HX2.out.2.2.1.trans (CF.later al)) (HX2.out.2.2.2.later al))))
              have HP3 := Lib.hid (hp12.later al)
              have hz13 : (w12.alloc (.cells #[.bool (FE.rint y).neg, .slice A9 n9 c9, .slice B9 m9 d9] 57)).heap.size = w12.heap.size + 1 := by simp
              have hb13 := below_trans hb12 al
              replace row0 := cell_later hg2 row0 hb13
              replace r6 := r6.later hb13
              replace hfz := fun o => (hb13.frozen (p := ⟨gi, o, none⟩) hgi2).trans (hfz o)
              clear HX1 HX2 hb12 hp12 al hb13
              go_wp2_with fail
              generalize w12.alloc (.cells #[.bool (FE.rint y).neg, .slice A9 n9 c9, .slice B9 m9 d9] 57) = w13 at *
              obtain ⟨s0, s1, s2, _⟩ := S8.c3
              refine wp_region_held_drew (S := fun W => World.cell? W ⟨g, k, none⟩ = some (.slice (some ⟨gi, 0, none⟩) i ci) ∧ World.cell? W ⟨w12.heap.size, 0, none⟩ = some (.bool (FE.rint y).neg) ∧ World.cell? W ⟨w12.heap.size, 1, none⟩ = some (.slice A9 n9 c9) ∧ World.cell? W ⟨w12.heap.size, 2, none⟩ = some (.slice B9 m9 d9)) (by kernel_rfl) ⟨row0, s0, s1, s2⟩ (fun hHeld => ?_)
              refine qL (i := 0) (v := ?_) rfl (by kernel_rfl) (fun _ _ _ h => h) (by assumption) (by rfl) (fun W _ => ?_) ?_
              rotate_left
              · go_simp
                try with_reducible rfl
              try simp only [Act.put, List.setIfInBounds_toArray]
              refine qL (i := 1) (v := ?_) rfl (by kernel_rfl) (fun _ _ _ h => h) (by assumption) (by rfl) (fun W _ => ?_) ?_
              rotate_left
              · go_simp
                try with_reducible rfl
              try simp only [Act.put]
              refine qL (i := 2) (v := ?_) rfl (by kernel_rfl) (fun _ _ _ h => h) (by assumption) (by rfl) (fun W _ => ?_) ?_
              rotate_left
              · go_simp
                try with_reducible rfl
              try simp only [Act.put]
              refine qL (i := 3) (v := ?_) rfl (by kernel_rfl) (fun _ _ _ h => h) (by assumption) (by rfl) (fun W hSw => ?_) ?_
              rotate_left
              · have row := And.left hSw
                go_simp
                try with_reducible rfl
              try simp only [Act.put]
              refine qL (i := 4) (v := ?_) rfl (by kernel_rfl) (fun _ _ _ h => h) (by assumption) (by rfl) (fun W _ => ?_) ?_
              rotate_left
              · go_simp
                try with_reducible rfl
              try simp only [Act.put]
              refine qL (i := 5) (v := ?_) rfl (by kernel_rfl) (fun _ _ _ h => h) (by assumption) (by rfl) (fun W hSw => ?_) ?_
              rotate_left
              · have v0 := And.left (And.right hSw)
                have v1 := And.left (And.right (And.right hSw))
                have v2 := (And.right (And.right (And.right hSw)))
                go_simp
                try with_reducible rfl
              try simp only [Act.put]
              refine qL (i := 6) (v := ?_) rfl (by kernel_rfl) (fun _ _ _ h => h) (by assumption) (by rfl) (fun W _ => ?_) ?_
              rotate_left
              · go_simp
                try with_reducible rfl
              try simp only [Act.put]
              refine qR (i := 7) (by kernel_rfl) rfl (fun K hK => ?_)
              simp only [List.getElem_toArray, List.getElem_cons_succ, List.getElem_cons_zero]
              have t0 := r6.1
              have t1 := r6.2.1
              have t2 := r6.2.2
              have z0 := hfz (j * 3)
              have z1 := hfz (j * 3 + 1)
              have z2 := hfz (j * 3 + 2)
              go_simp
              refine hK.out _ _ ⟨((set3_frame w13 gi (j * 3) _ _ _).cell (by omega) (fun e => hggi e)).trans row0, ((set3_frame w13 gi (j * 3) _ _ _).cell (by omega) (fun e => by omega)).trans s0, ((set3_frame w13 gi (j * 3) _ _ _).cell (by omega) (fun e => by omega)).trans s1, ((set3_frame w13 gi (j * 3) _ _ _).cell (by omega) (fun e => by omega)).trans s2⟩ (fun h2 => ?_)
              clear hK K hHeld
              have hHeld := h2
              clear h2
              try simp only [Act.put, List.setIfInBounds_toArray, List.set_cons_zero, List.set_cons_succ]
              refine wpAnyH_done (by kernel_rfl) ?_ _
              clear hHeld
              have hsz : ((set3 w13 gi (j * 3) (.bool (FE.rint y).neg) (.slice A9 n9 c9) (.slice B9 m9 d9)).drew).heap.size = w13.heap.size := by simp [set3]
              have hfs : Frame (fun b => b = gi) w13 ((set3 w13 gi (j * 3) (.bool (FE.rint y).neg) (.slice A9 n9 c9) (.slice B9 m9 d9)).drew) := (set3_frame w13 gi (j * 3) (.bool (FE.rint y).neg) (.slice A9 n9 c9) (.slice B9 m9 d9)).drew
              have hls1 := HX3.out.2.1.put (i := k) (j := j) (by rw [intL_len]; omega) (by rw [HVI.out]) (by rw [intL_row_len hki]; omega) HP3.out (by omega) (by omega) (by omega)
              rw [intL_set hki] at hls1
              have hls2 : LS ((set3 w13 gi (j * 3) (.bool (FE.rint y).neg) (.slice A9 n9 c9) (.slice B9 m9 d9)).drew) lo w13.heap.size (.slice (some ⟨g, 0, none⟩) i co) vs (intL i (updE E2 k j y)) := hls1.later ⟨rfl, rfl, rfl, Nat.le_refl _, fun _ _ => rfl⟩
              have HY2 := Lib.hid (And.intro (HX3.out.1.frame hfs (by omega) (fun h0 a ha => by have := HM.out h0 a ha; omega)) (And.intro (HX3.out.2.2.1.up (lo := lo) (hfs.mono (fun b hb => by omega)) (by omega)) (And.intro (HX3.out.2.2.2.frame hfs (by omega)) (S8.frame hfs (by omega)))))
              have HLS2 := Lib.hid hls2
              have hrv : RatV ((set3 w13 gi (j * 3) (.bool (FE.rint y).neg) (.slice A9 n9 c9) (.slice B9 m9 d9)).drew) (.agg #[.bool (FE.rint y).neg, .slice A9 n9 c9, .slice B9 m9 d9]) (FE.rint y) := (((HP3.out.far (p := ⟨gi, j * 3, none⟩) hgi2 _).far (p := ⟨gi, j * 3 + 1, none⟩) hgi2 _).far (p := ⟨gi, j * 3 + 2, none⟩) hgi2 _).reads.later (w' := (set3 w13 gi (j * 3) (.bool (FE.rint y).neg) (.slice A9 n9 c9) (.slice B9 m9 d9)).drew) ⟨rfl, rfl, rfl, Nat.le_refl _, fun _ _ => rfl⟩
              have HRV := Lib.hid hrv
              clear hls1 hls2 hfs hrv t0 t1 t2 z0 z1 z2 r6 row0 s0 s1 s2 S8 HX3 HP3
              go_wp2_with fail
              rw [show (((w13.setCell ⟨gi, j * 3, none⟩ (.bool (FE.rint y).neg)).setCell ⟨gi, j * 3 + 1, none⟩ (.slice A9 n9 c9)).setCell ⟨gi, j * 3 + 2, none⟩ (.slice B9 m9 d9)).drew = (set3 w13 gi (j * 3) (.bool (FE.rint y).neg) (.slice A9 n9 c9) (.slice B9 m9 d9)).drew from rfl]
              generalize (set3 w13 gi (j * 3) (.bool (FE.rint y).neg) (.slice A9 n9 c9) (.slice B9 m9 d9)).drew = w14 at *
              obtain ⟨g3, gi2, ci2, eA, _, hg4, row0, hvi2, hgi3, hgi4, hggi2, hfz2, hvx⟩ := HLS2.out.pick j (by rw [intL_len]; omega) k (by rw [intL_row_len hji]; omega)
              injection eA with eA
              injection eA with eA
              subst eA
              rw [intL_row_len hji] at row0 hvi2 hvx
              rw [HVJ.out] at hvi2
              injection hvi2 with hvi2 _ _
              injection hvi2 with hvi2
              injection hvi2 with hvi2
              subst hvi2
              obtain ⟨A6, c6, B6, d6, r6, _⟩ := hvx.at k (by rw [intL_row_len hji]; omega)
              obtain ⟨s0, s1, s2, _⟩ := HY2.out.2.2.2.c3
              have HRV2 := Lib.hid (HRV.out.later (w' := w14.drew) ⟨rfl, rfl, rfl, Nat.le_refl _, fun _ _ => rfl⟩)
              have hrl := rint_ok (y := y) (by omega) (by omega)
              have HSC := Lib.hid (fun v W (hv : RatV W v (FE.rint y)) => sCopy (FE.rint y) v W hv (res_few (Or.inr hrl)).1 (res_few (Or.inr hrl)).2)
              clear hvx hrl
              refine wp_region_held_drew (S := fun W => World.cell? W ⟨g, j, none⟩ = some (.slice (some ⟨gj, 0, none⟩) i ci2) ∧ World.cell? W ⟨w12.heap.size, 0, none⟩ = some (.bool (FE.rint y).neg) ∧ World.cell? W ⟨w12.heap.size, 1, none⟩ = some (.slice A9 n9 c9) ∧ World.cell? W ⟨w12.heap.size, 2, none⟩ = some (.slice B9 m9 d9)) (by kernel_rfl) ⟨row0, s0, s1, s2⟩ (fun hHeld => ?_)
              refine qL (i := 0) (v := ?_) rfl (by kernel_rfl) (fun _ _ _ h => h) (by assumption) (by rfl) (fun W _ => ?_) ?_
              rotate_left
              · go_simp
                try with_reducible rfl
              try simp only [Act.put, List.setIfInBounds_toArray]
              refine qL (i := 1) (v := ?_) rfl (by kernel_rfl) (fun _ _ _ h => h) (by assumption) (by rfl) (fun W _ => ?_) ?_
              rotate_left
              · go_simp
                try with_reducible rfl
              try simp only [Act.put]
              refine qL (i := 2) (v := ?_) rfl (by kernel_rfl) (fun _ _ _ h => h) (by assumption) (by rfl) (fun W _ => ?_) ?_
              rotate_left
              · go_simp
                try with_reducible rfl
              try simp only [Act.put]
              refine qL (i := 3) (v := ?_) rfl (by kernel_rfl) (fun _ _ _ h => h) (by assumption) (by rfl) (fun W hSw => ?_) ?_
              rotate_left
              · have row := And.left hSw
                go_simp
                try with_reducible rfl
              try simp only [Act.put]
              refine qL (i := 4) (v := ?_) rfl (by kernel_rfl) (fun _ _ _ h => h) (by assumption) (by rfl) (fun W _ => ?_) ?_
              rotate_left
              · go_simp
                try with_reducible rfl
              try simp only [Act.put]
              refine qL (i := 5) (v := ?_) rfl (by kernel_rfl) (fun _ _ _ h => h) (by assumption) (by rfl) (fun W hSw => ?_) ?_
              rotate_left
              · have v0 := And.left (And.right hSw)
                have v1 := And.left (And.right (And.right hSw))
                have v2 := (And.right (And.right (And.right hSw)))
                go_simp
                try with_reducible rfl
              try simp only [Act.put]
              refine qR (i := 6) (by kernel_rfl) rfl (fun K hK => ?_)
              simp only [List.getElem_toArray, List.getElem_cons_succ, List.getElem_cons_zero]
              go_simp
              (go_at_call 154; (with_reducible refine (HSC.out _ _ HRV2.out).mono ?_); rintro e15 w15 ⟨v15, rfl, hp15, hb15⟩)
              try (go_wp2_with fail)
              replace hb15 : Below w14.heap.size w14 w15 := ⟨hb15.os, hb15.tape, hb15.output, hb15.size, hb15.block⟩
              replace hp15 : RatP w15 w14.heap.size _ _ := hp15
              have row15 := cell_later hg4 row0 hb15
              have s015 := cell_later (by omega) s0 hb15
              have s115 := cell_later (by omega) s1 hb15
              have s215 := cell_later (by omega) s2 hb15
              obtain ⟨A10, n10, c10, B10, m10, d10, rfl⟩ := hp15.shape
              have hz15 := hb15.size
              refine hK.out _ _ ⟨row15, s015, s115, s215⟩ (fun h2 => ?_)
              clear hK K hHeld
              have hHeld := h2
              clear h2
              try simp only [Act.put, List.setIfInBounds_toArray, List.set_cons_zero, List.set_cons_succ]
              refine qL (i := 7) (v := ?_) rfl (by kernel_rfl) (fun _ _ _ h => h) (by assumption) (by rfl) (fun W _ => ?_) ?_
              rotate_left
              · go_simp
                try with_reducible rfl
              try simp only [Act.put, List.setIfInBounds_toArray]
              refine qR (i := 8) (by kernel_rfl) rfl (fun K hK => ?_)
              simp only [List.getElem_toArray, List.getElem_cons_succ, List.getElem_cons_zero]
              have r69 := r6.later hb15
              have t0 := r69.1
              have t1 := r69.2.1
              have t2 := r69.2.2
              have z0 := (hb15.frozen (p := ⟨gj, k * 3, none⟩) hgi4).trans (hfz2 (k * 3))
              have z1 := (hb15.frozen (p := ⟨gj, k * 3 + 1, none⟩) hgi4).trans (hfz2 (k * 3 + 1))
              have z2 := (hb15.frozen (p := ⟨gj, k * 3 + 2, none⟩) hgi4).trans (hfz2 (k * 3 + 2))
              clear r69
              go_simp
              refine hK.out _ _ ⟨((set3_frame w15 gj (k * 3) _ _ _).cell (by omega) (fun e => hggi2 e)).trans row15, ((set3_frame w15 gj (k * 3) _ _ _).cell (by omega) (fun e => by omega)).trans s015, ((set3_frame w15 gj (k * 3) _ _ _).cell (by omega) (fun e => by omega)).trans s115, ((set3_frame w15 gj (k * 3) _ _ _).cell (by omega) (fun e => by omega)).trans s215⟩ (fun h2 => ?_)
              clear hK K hHeld
              have hHeld := h2
              clear h2
              try simp only [Act.put, List.setIfInBounds_toArray, List.set_cons_zero, List.set_cons_succ]
              refine wpAnyH_done (by kernel_rfl) ?_ _
              clear hHeld
              have hsz : (set3 w15 gj (k * 3) (.bool (FE.rint y).neg) (.slice A10 n10 c10) (.slice B10 m10 d10)).heap.size = w15.heap.size := by simp [set3]
              have hfs := set3_frame w15 gj (k * 3) (.bool (FE.rint y).neg) (.slice A10 n10 c10) (.slice B10 m10 d10)
              have hls1 := (HLS2.out.later hb15).put (i := j) (j := k) (by rw [intL_len]; omega) (by rw [HVJ.out]) (by rw [intL_row_len hji]; omega) hp15 (by omega) (by omega) (by omega)
              rw [intL_set hji] at hls1
              have hls2 := hls1.wide (Nat.le_refl lo) (Nat.le_of_eq hsz.symm)
              have hdr := HE.out.two (i := k) (j := j) (y := y) (by omega) hy1.1 hy1.2
              have hcu3 := (HY2.out.1.later hb15).frame hfs (by omega) (fun h0 a ha => by have := HM.out h0 a ha; omega)
              have hcf3 := (HY2.out.2.1.trans (CF.later hb15)).up (lo := lo) (hfs.mono (fun b hb => by omega)) (by omega)
              have hs3 := (HY2.out.2.2.1.later hb15).frame hfs (by omega)
              have hzf : lo ≤ (set3 w15 gj (k * 3) (.bool (FE.rint y).neg) (.slice A10 n10 c10) (.slice B10 m10 d10)).heap.size := by rw [hsz]; omega
              have HY := Lib.hid (And.intro hls2 (And.intro hcu3 (And.intro hcf3 (And.intro hs3 hzf))))
              have HDR := Lib.hid hdr
              clear hls1 hls2 hcu3 hcf3 hs3 hzf hsz hfs t0 t1 t2 z0 z1 z2 hp15 hb15 hdr r6 row0 s0 s1 s2 row15 s015 s115 s215 HRV HRV2 HY2 HLS2
              go_wp2
              go_roundw
              case rel => exact ⟨j + 1, _, by omega, HDR.out, rfl, HY.out.1, HY.out.2.1, HY.out.2.2.1, HY.out.2.2.2.1, HY.out.2.2.2.2⟩
              case measure => simp [intOf]; omega
    · have hltn : (i : Int) < (n : Int) := by omega
      go_wp2_with fail
      refine (HZ.out _).mono ?_
      rintro e w5 ⟨v5, ps5, rfl, hv5, hb5⟩
      obtain ⟨A5, c5, rfl, _⟩ := hv5.form
      rw [List.length_replicate]
      rw [List.length_replicate] at hv5
      have HX5 := Lib.hid (show VX w5 wr.heap.size w5.heap.size (.slice A5 n c5) (List.replicate n (FE.rint 0)) from ⟨ps5, hv5⟩)
      have hz5 := hb5.size
      have al7 := below_alloc1 w5 (.cells #[.slice A5 n c5] 28)
      have hz7 : (w5.alloc (.cells #[.slice A5 n c5] 28)).heap.size = w5.heap.size + 1 := by simp
      have HL7 := (HLW.out.later hb5).later al7
      have HX7 := Lib.hid (HX5.out.later al7)
      have HO7 := Lib.hid (show (w5.alloc (.cells #[.slice A5 n c5] 28)).ownsRow lo 28 1 (.slice Ao i co) i vs from by have := HL7.2.2.1; rwa [HLL.out] at this)
      have HL := Lib.hid HL7
      have hbb := hb.trans ((below_trans hb5 al7).mono (by omega))
      have HC7 := Lib.hid (cell_new1s w5 (.slice A5 n c5) 28)
      have HN7 := Lib.hid (show ∀ u ∈ ([.slice A5 n c5] : List Value), u.oneCell' = true from fun u hu => by simp only [List.mem_cons, List.not_mem_nil, or_false] at hu; rw [hu]; rfl)
      clear HL7 al7 hv5 HX5 HLW
      go_wp2_with (at_builtin; refine appOwn rfl _ _ 30 28 rfl Tryz.underlying30 (.slice none 0 0) 1 24 Tryz.rowsInfo rfl (by decide) (by decide) rfl HO7.out (by omega) (by omega) ⟨w5.heap.size, 0, none⟩ rfl [.slice A5 n c5] rfl HC7.out HN7.out ?_; intro v8 w8 ho8 hf8 hob8)
      have HLS := Lib.hid (HL.out.snoc HX7.out (by omega) (by omega) (by omega) (by rw [HLL.out]; exact ho8) hf8 hob8)
      rw [← rep_one n] at HLS
      have hb8 := hbb.trans (hf8.to_below (B := lo) (by omega) (fun b hb hs => by have := (own_lt HO7.out hs).1; omega))
      clear ho8 hf8 hob8 HC7 HN7 HX7
      go_wp2
      go_roundw
      case rel => exact ⟨i + 1, by omega, rfl, hb8, _, HLS.out⟩
      case measure => simp [intOf]; omega
set_option maxRecDepth 100000 in
set_option maxHeartbeats 1600000 in
theorem sMakeMatrix (m c : Nat) (C : Option Addr) (hm : m ≤ 1048576) (w : World) (h : BI w C m) :
    Calls Tryz.prog 37 #[.slice C m c] w fun e w' => ∃ (n : Nat) (E : Nat → Nat → Int) (v : Value), 1 ≤ n ∧ n ≤ 4 ∧ DrI E n ∧ e = .returned v ∧ MZ w' w.heap.size w'.heap.size v (spM (intL n E)) ∧ Below w.heap.size w w' := by
  have HN := Lib.hid (fun W (hW : Below w.heap.size w W) => sNew m c C hm W (h.frame (S := fun _ => False) (Frame.of_below hW) (fun _ _ _ h => h)))
  clear h
  go_enter Tryz.func37, Tryz.ntmps37
  go_wp2_with fail
  have al := below_alloc1 w (.cells #[.slice none 0 0] 52)
  have S0 := Slots.new (Below.refl _ (w.alloc (.cells #[.slice none 0 0] 52))) (g := w.heap.size) rfl
  refine (HN.out _ al).mono ?_
  rintro e w1 ⟨g, rfl, hg, hc, hb⟩
  simp only [World.size_alloc] at hg
  replace S0 := S0.later hb
  replace hb := below_trans al hb
  have HC := Lib.hid hc
  clear al hc
  go_wp2_with fail
  refine (sDraw14 g m c C _ HC.out).mono ?_
  rintro e w2 ⟨n, E, v, h1, h4, hE, rfl, hmz, hc2, hf2⟩
  obtain ⟨A8, c8, rfl⟩ := hmz.form
  obtain ⟨q0, z0⟩ := (S0.frame hf2 (by omega)).c1
  have hz1 := S0.1
  have hz2 := hf2.size
  have hb2 := hb.trans (hf2.below hb.size (by omega))
  have HE := Lib.hid hE
  have hmz9 := (hmz.frame (frame1 (g := w.heap.size) (o := 0) (.slice A8 (spM (intL n E)).length c8)) (fun b h1 _ e => by omega)).wide (lo' := w.heap.size) (hi' := w2.heap.size) (by omega) (by omega)
  have hfin := Lib.hid (And.intro hmz9 (hb2.setCell (p := ⟨w.heap.size, 0, none⟩) (Nat.le_refl _) (.slice A8 (spM (intL n E)).length c8)))
  obtain ⟨R, hR⟩ : ∃ R, spM (intL n E) = R := ⟨_, rfl⟩
  rw [hR] at hfin ⊢
  replace hR := Lib.hid hR
  clear hmz hmz9 hE hb2 hc2 hf2 S0 hb
  go_wp2
  exact bodyPost_ret (v := .agg #[.slice A8 R.length c8]) (by simp [results, Tryz.results37, go_sem, q0]) rfl (mat_end h1 h4 HE.out hR.out hfin.out.1 (by simp) hfin.out.2)
end Go.Proofs.YtlpomcihkjiokaaGreat

namespace Go.Proofs.YtlpomcihkjiokaaGreat
namespace FE

theorem few_iff {p : Nat} : few p = true ↔ p < 10 ^ 216 := by
  unfold few
  rw [decide_eq_true_iff, toL_len_le]
  have e : bp 24 = ((10 ^ 216 : Nat) : Int) := by decide
  rw [e]
  exact Int.ofNat_lt
/-- Whether a rational number has few digits. -/
def small (v : Rat) : Bool := few v.num.natAbs && few v.den
theorem small_iff {v : Rat} : small v = true ↔ v.num.natAbs < 10 ^ 216 ∧ v.den < 10 ^ 216 := by
  rw [small, Bool.and_eq_true, few_iff, few_iff]
/-- The fraction of a rational number. -/
def ofQ (v : Rat) : RatD := mkR (decide (v.num < 0)) v.num.natAbs v.den
/-- The fraction r is valid and its value is v. -/
def Is (r : RatD) (v : Rat) : Prop := r = ofQ v ∧ small v = true
theorem lowI_eq {n : Int} {q : Nat} (hq : q ≠ 0) : lowI n q = if small (_root_.mkRat n q) then ofQ (_root_.mkRat n q) else zR := by
  have h1 : (_root_.mkRat n q).num = n / (Nat.gcd n.natAbs q : Nat) := by rw [Rat.num_mkRat, if_neg hq, Nat.gcd_comm]
  have h2 : (_root_.mkRat n q).den = q / Nat.gcd n.natAbs q := by rw [Rat.den_mkRat, if_neg hq, Nat.gcd_comm]
  have hd : ((Nat.gcd n.natAbs q : Nat) : Int) ∣ n := Int.ofNat_dvd_left.2 (Nat.gcd_dvd_left _ _)
  have h3 : (_root_.mkRat n q).num.natAbs = n.natAbs / Nat.gcd n.natAbs q := by
    rw [h1, Int.natAbs_ediv_of_dvd hd]; rfl
  have hg : 0 < Nat.gcd n.natAbs q := Nat.gcd_pos_of_pos_right _ (by omega)
  have h4 : decide ((_root_.mkRat n q).num < 0) = decide (n < 0) := by
    rw [h1]
    obtain ⟨k, hk⟩ := hd
    have hg' : (0 : Int) < (Nat.gcd n.natAbs q : Nat) := by omega
    have e : n / ((Nat.gcd n.natAbs q : Nat) : Int) = k := by
      have := Int.mul_ediv_cancel_left k (Int.ne_of_gt hg')
      rw [← hk] at this
      exact this
    rw [e]
    generalize ((Nat.gcd n.natAbs q : Nat) : Int) = g at *
    rw [Bool.eq_iff_iff, decide_eq_true_iff, decide_eq_true_iff, hk]
    constructor
    · intro h; exact Int.mul_neg_of_pos_of_neg hg' h
    · intro h
      rcases Int.lt_or_le k 0 with h5 | h5
      · exact h5
      · have := Int.mul_nonneg (Int.le_of_lt hg') h5; omega
  unfold lowI low small ofQ
  rw [if_neg hq, h3, h2, h4]
theorem Is.okr {r : RatD} {v : Rat} (h : Is r v) : OkR r v.num.natAbs v.den := by
  obtain ⟨rfl, hs⟩ := h
  simp only [small, few, Bool.and_eq_true, decide_eq_true_eq] at hs
  refine ⟨rfl, rfl, fun h => ?_, v.den_nz, hs.1, hs.2, v.reduced⟩
  simp only [ofQ, mkR, Bool.and_eq_true, decide_eq_true_eq] at h
  exact h.2
theorem Is.ok {r : RatD} {v : Rat} (h : Is r v) : ratOk r = true := h.okr.ok
theorem Is.num {r : RatD} {v : Rat} (h : Is r v) : num r = v.num := by
  have h1 := h.okr.nmag
  obtain ⟨rfl, _⟩ := h
  unfold FE.num
  rw [h1]
  by_cases c : v.num < 0
  · have e0 : v.num ≠ 0 := by omega
    have e : (ofQ v).neg = true := by simp [ofQ, mkR, c, e0]
    rw [e, if_pos rfl]; omega
  · have e : (ofQ v).neg = false := by simp [ofQ, mkR, c]
    rw [e, if_neg (by decide)]; omega
theorem Is.den {r : RatD} {v : Rat} (h : Is r v) : nv r.den = v.den := h.okr.nden
theorem Is.mag {r : RatD} {v : Rat} (h : Is r v) : nv r.mag = v.num.natAbs := h.okr.nmag
theorem Is.neg {r : RatD} {v : Rat} (h : Is r v) : r.neg = decide (v.num < 0) := by
  obtain ⟨rfl, _⟩ := h
  by_cases c : v.num < 0
  · have e : v.num ≠ 0 := by omega
    simp [ofQ, mkR, c, e]
  · simp [ofQ, mkR, c]
theorem Is.of_low {n : Int} {q : Nat} (hq : q ≠ 0) {v : Rat} (hv : _root_.mkRat n q = v) (hs : small v = true) : Is (lowI n q) v := by
  rw [lowI_eq hq, hv, hs]; exact ⟨rfl, hs⟩
theorem Is.inj {r : RatD} {u v : Rat} (h : Is r u) (h' : Is r v) : u = v := by
  refine Rat.ext ?_ ?_
  · rw [← h.num, h'.num]
  · rw [← h.den, h'.den]
theorem Is.same {r s : RatD} {v : Rat} (h : Is r v) (h' : Is s v) : r = s := h.1.trans h'.1.symm
theorem Is.add {r s : RatD} {u v : Rat} (h : Is r u) (k : Is s v) (hs : small (u + v) = true) : Is (radd r s) (u + v) := by
  unfold radd
  rw [h.ok, k.ok, h.num, k.num, h.den, k.den]
  exact Is.of_low (Nat.mul_ne_zero u.den_nz v.den_nz) (Rat.add_def' u v).symm hs
theorem Is.sub {r s : RatD} {u v : Rat} (h : Is r u) (k : Is s v) (hs : small (u - v) = true) : Is (rsub r s) (u - v) := by
  unfold rsub
  rw [h.ok, k.ok, h.num, k.num, h.den, k.den]
  exact Is.of_low (Nat.mul_ne_zero u.den_nz v.den_nz) (Rat.sub_def' u v).symm hs
theorem Is.mul {r s : RatD} {u v : Rat} (h : Is r u) (k : Is s v) (hs : small (u * v) = true) : Is (rmul r s) (u * v) := by
  unfold rmul
  rw [h.ok, k.ok, h.num, k.num, h.den, k.den]
  exact Is.of_low (Nat.mul_ne_zero u.den_nz v.den_nz) (Rat.mul_def' u v).symm hs
theorem div_as (u v : Rat) (hv : v ≠ 0) : _root_.mkRat (if (decide (u.num < 0) != decide (v.num < 0)) = true then -((u.num.natAbs * v.den : Nat) : Int) else ((u.num.natAbs * v.den : Nat) : Int)) (u.den * v.num.natAbs) = u / v := by
  have hn : v.num ≠ 0 := fun h => hv (Rat.num_eq_zero.1 h)
  have hd : u.den * v.num.natAbs ≠ 0 := Nat.mul_ne_zero u.den_nz (by omega)
  have e1 : u / v = Rat.divInt (u.num * v.den) (u.den * v.num) := by
    rw [Rat.div_def, Rat.inv_def]
    conv => lhs; lhs; rw [← Rat.num_divInt_den u]
    rw [Rat.divInt_mul_divInt]
  rw [e1]
  by_cases c : v.num < 0
  · have e2 : Rat.divInt (u.num * v.den) (u.den * v.num) = _root_.mkRat (-(u.num * v.den)) (u.den * v.num.natAbs) := by
      rw [← Rat.neg_divInt_neg, ← Rat.divInt_ofNat]
      congr 1
      have : ((v.num.natAbs : Nat) : Int) = -v.num := by omega
      rw [Int.natCast_mul, this, Int.mul_neg]
    rw [e2]
    congr 1
    by_cases c2 : u.num < 0
    · simp only [c, c2, decide_true, bne_self_eq_false, Bool.false_eq_true, if_false, Int.natCast_mul]
      have : ((u.num.natAbs : Nat) : Int) = -u.num := by omega
      rw [this, Int.neg_mul]
    · have : ((u.num.natAbs : Nat) : Int) = u.num := by omega
      simp [c, c2, Int.natCast_mul, this]
  · have e2 : Rat.divInt (u.num * v.den) (u.den * v.num) = _root_.mkRat (u.num * v.den) (u.den * v.num.natAbs) := by
      rw [← Rat.divInt_ofNat]
      congr 1
      have : ((v.num.natAbs : Nat) : Int) = v.num := by omega
      rw [Int.natCast_mul, this]
    rw [e2]
    congr 1
    by_cases c2 : u.num < 0
    · have : ((u.num.natAbs : Nat) : Int) = -u.num := by omega
      simp [c, c2, Int.natCast_mul, this, Int.neg_mul]
    · have : ((u.num.natAbs : Nat) : Int) = u.num := by omega
      simp [c, c2, Int.natCast_mul, this]
theorem low_as (s : Bool) (p q : Nat) : low s p q = lowI (if s = true then -(p : Int) else (p : Int)) q ∨ p = 0 := by
  by_cases hp : p = 0
  · exact .inr hp
  · left
    unfold lowI
    cases s
    · simp only [Bool.false_eq_true, if_false, Int.natAbs_natCast]
      have e : decide ((p : Int) < 0) = false := by rw [decide_eq_false_iff_not]; omega
      rw [e]
    · simp only [if_true, Int.natAbs_neg, Int.natAbs_natCast]
      have e : decide (-(p : Int) < 0) = true := by rw [decide_eq_true_iff]; omega
      rw [e]
theorem low_p0 (s : Bool) (q : Nat) : low s 0 q = low false 0 q := by
  unfold low mkR
  simp
theorem Is.div {r s : RatD} {u v : Rat} (h : Is r u) (k : Is s v) (hv : v ≠ 0) (hs : small (u / v) = true) : Is (rdiv r s) (u / v) := by
  unfold rdiv
  have hn : v.num ≠ 0 := fun h => hv (Rat.num_eq_zero.1 h)
  have hd : u.den * v.num.natAbs ≠ 0 := Nat.mul_ne_zero u.den_nz (by omega)
  rw [h.ok, k.ok, h.mag, k.mag, h.den, k.den, h.neg, k.neg]
  have key := div_as u v hv
  rcases low_as (decide (u.num < 0) != decide (v.num < 0)) (u.num.natAbs * v.den) (u.den * v.num.natAbs) with e | e
  · simp only [Bool.and_self, if_true]
    rw [e]
    exact Is.of_low hd key hs
  · simp only [Bool.and_self, if_true]
    rw [e, low_p0]
    have e0 : low false 0 (u.den * v.num.natAbs) = lowI 0 (u.den * v.num.natAbs) := rfl
    rw [e0]
    refine Is.of_low hd ?_ hs
    rw [← key, e]
    simp
theorem Is.int {n : Int} (h : n.natAbs < 10 ^ 216) : Is (rint n) (n : Rat) := by
  refine ⟨?_, small_iff.2 ⟨by simpa using h, by simp⟩⟩
  unfold rint ofQ mkR
  simp only [Rat.num_intCast, Rat.den_intCast]
  have e : toL 1 = [1] := by rw [toL_pos (by omega), show (1 / 1000000000 : Nat) = 0 from rfl, toL_zero]; rfl
  rw [e]
  congr 1
  by_cases c : n < 0
  · have h0 : n ≠ 0 := by omega
    simp [c, h0]
  · simp [c]
theorem Is.sign {r : RatD} {v : Rat} (h : Is r v) : rsign r = v.num.sign := by
  unfold rsign
  rw [h.ok, if_pos rfl, h.neg]
  have hm : r.mag = toL v.num.natAbs := h.okr.mag
  by_cases c : v.num = 0
  · have e : r.mag.isEmpty = true := by rw [hm, c]; show (toL 0).isEmpty = true; rw [toL_zero]; rfl
    rw [e, if_pos rfl, c]; rfl
  · have e : r.mag.isEmpty = false := by
      rw [List.isEmpty_eq_false_iff, hm]
      intro e; exact c (by have := toL_eq_nil.1 e; omega)
    rw [e, if_neg (by decide)]
    by_cases c2 : v.num < 0
    · simp only [c2, decide_true, if_true]; rw [Int.sign_eq_neg_one_of_neg c2]
    · simp only [c2, decide_false, Bool.false_eq_true, if_false]; rw [Int.sign_eq_one_of_pos (by omega)]

/-- The number v times D is an integer of size at most B. -/
def Lat (D B : Int) (v : Rat) : Prop := 0 < D ∧ ∃ z : Int, v * (D : Rat) = (z : Rat) ∧ -B ≤ z ∧ z ≤ B
theorem Lat.small {D B : Int} {v : Rat} (h : Lat D B v) (hD : D < 10 ^ 216) (hB : B < 10 ^ 216) : small v = true := by
  obtain ⟨h0, z, hz, h1, h2⟩ := h
  have hv : v = _root_.mkRat z D.toNat := by
    have hD' : ((D.toNat : Nat) : Int) = D := by omega
    rw [Rat.mkRat_eq_div, ← hz]
    have : ((D.toNat : Nat) : Rat) = (D : Rat) := by rw [← Rat.intCast_natCast, hD']
    rw [this, Rat.mul_div_cancel]
    intro e
    rw [Rat.intCast_eq_zero_iff] at e
    omega
  have hne : D.toNat ≠ 0 := by omega
  rw [small_iff, hv, Rat.num_mkRat, Rat.den_mkRat, if_neg hne, if_neg hne]
  have hd : ((Nat.gcd D.toNat z.natAbs : Nat) : Int) ∣ z := Int.ofNat_dvd_left.2 (Nat.gcd_dvd_right _ _)
  constructor
  · refine Nat.lt_of_le_of_lt (Int.natAbs_ediv_of_dvd hd ▸ Nat.div_le_self _ _) ?_
    omega
  · refine Nat.lt_of_le_of_lt (Nat.div_le_self _ _) ?_
    omega
theorem Lat.mono {D B C : Int} {v : Rat} (h : Lat D B v) (hc : B ≤ C) : Lat D C v := by
  obtain ⟨h0, z, hz, h1, h2⟩ := h
  exact ⟨h0, z, hz, by omega, by omega⟩
theorem Lat.nonneg {D B : Int} {v : Rat} (h : Lat D B v) : 0 ≤ B := by
  obtain ⟨h0, z, hz, h1, h2⟩ := h
  omega
theorem Lat.add {D B C : Int} {u v : Rat} (h : Lat D B u) (k : Lat D C v) : Lat D (B + C) (u + v) := by
  obtain ⟨h0, z, hz, h1, h2⟩ := h
  obtain ⟨_, y, hy, k1, k2⟩ := k
  refine ⟨h0, z + y, ?_, by omega, by omega⟩
  rw [Rat.add_mul, hz, hy, Rat.intCast_add]
theorem Lat.neg {D B : Int} {u : Rat} (h : Lat D B u) : Lat D B (-u) := by
  obtain ⟨h0, z, hz, h1, h2⟩ := h
  exact ⟨h0, -z, by rw [Rat.neg_mul, hz, Rat.intCast_neg], by omega, by omega⟩
theorem Lat.sub {D B C : Int} {u v : Rat} (h : Lat D B u) (k : Lat D C v) : Lat D (B + C) (u - v) := by
  rw [Rat.sub_eq_add_neg]; exact h.add k.neg
theorem abs_mul_le {z y B C : Int} (h1 : -B ≤ z) (h2 : z ≤ B) (k1 : -C ≤ y) (k2 : y ≤ C) : -(B * C) ≤ z * y ∧ z * y ≤ B * C := by
  have hz : z.natAbs ≤ B.toNat := by omega
  have hy : y.natAbs ≤ C.toNat := by omega
  have hm : (z * y).natAbs ≤ B.toNat * C.toNat := by rw [Int.natAbs_mul]; exact Nat.mul_le_mul hz hy
  have e : ((B.toNat * C.toNat : Nat) : Int) = B * C := by
    rw [Int.natCast_mul, Int.toNat_of_nonneg (by omega), Int.toNat_of_nonneg (by omega)]
  omega
theorem Lat.mul {D B E C : Int} {u v : Rat} (h : Lat D B u) (k : Lat E C v) : Lat (D * E) (B * C) (u * v) := by
  obtain ⟨h0, z, hz, h1, h2⟩ := h
  obtain ⟨k0, y, hy, k1, k2⟩ := k
  obtain ⟨m1, m2⟩ := abs_mul_le h1 h2 k1 k2
  refine ⟨Int.mul_pos h0 k0, z * y, ?_, m1, m2⟩
  rw [Rat.intCast_mul, Rat.intCast_mul, ← hz, ← hy]
  grind
theorem Lat.wide {D B : Int} {u : Rat} (h : Lat D B u) {k : Int} (hk : 0 < k) : Lat (D * k) (B * k) u := by
  obtain ⟨h0, z, hz, h1, h2⟩ := h
  obtain ⟨m1, m2⟩ := abs_mul_le h1 h2 (show -k ≤ k by omega) (Int.le_refl k)
  refine ⟨Int.mul_pos h0 hk, z * k, ?_, m1, m2⟩
  rw [Rat.intCast_mul, Rat.intCast_mul, ← hz]
  grind
theorem Lat.int {z B : Int} (h1 : -B ≤ z) (h2 : z ≤ B) : Lat 1 B (z : Rat) := ⟨by decide, z, by rw [show ((1 : Int) : Rat) = 1 from rfl, Rat.mul_one], h1, h2⟩
end FE
end Go.Proofs.YtlpomcihkjiokaaGreat

namespace Go.Proofs.YtlpomcihkjiokaaGreat

theorem FE.Is.rsgn {x : RatD} {v : Rat} (h : FE.Is x v) : rsgn x = v.num.sign := by
  unfold Go.Proofs.YtlpomcihkjiokaaGreat.rsgn
  rw [h.neg, h.okr.mag]
  by_cases c : v.num = 0
  · rw [c]; simp [FE.toL_zero]
  · have e : (FE.toL v.num.natAbs).length ≠ 0 := fun e => c (by have := FE.toL_eq_nil.1 (List.eq_nil_of_length_eq_zero e); omega)
    rw [if_neg e]
    by_cases c2 : v.num < 0
    · simp only [c2, decide_true, if_true]; rw [Int.sign_eq_neg_one_of_neg c2]
    · simp only [c2, decide_false, Bool.false_eq_true, if_false]; rw [Int.sign_eq_one_of_pos (by omega)]
theorem FE.Is.rsgn_zero {x : RatD} {v : Rat} (h : FE.Is x v) : Go.Proofs.YtlpomcihkjiokaaGreat.rsgn x = 0 ↔ v = 0 := by
  rw [h.rsgn, Int.sign_eq_zero_iff_zero]
  exact Rat.num_eq_zero
theorem FE.Is.zero_eq {x : RatD} (h : FE.Is x 0) : x = FE.rint 0 := h.same (FE.Is.int (n := 0) (by decide))
theorem FE.Lat.lt18 {D B : Int} {v : Rat} (h : FE.Lat D B v) (hD : D ≤ 1000000000000000000) (hB : B ≤ 1000000000000000000) : FE.small v = true := by
  have e : (1000000000000000000 : Int) < 10 ^ 216 := by decide +kernel
  exact h.small (by omega) (by omega)

theorem getD_snoc_lt {α : Type} {d : α} {l : List α} {x : α} {i : Nat} (h : i < l.length) : (l ++ [x]).getD i d = l.getD i d := by
  rw [List.getD_eq_getElem?_getD, List.getElem?_append_left h, ← List.getD_eq_getElem?_getD]
theorem getD_snoc_eq {α : Type} {d : α} {l : List α} {x : α} : (l ++ [x]).getD l.length d = x := by
  rw [List.getD_eq_getElem?_getD, List.getElem?_append_right (Nat.le_refl _)]; simp
theorem spC_pre (xs : List RatD) (k : Nat) : ∀ m i, i < (spC xs k).length → (spC xs (k + m)).getD i 0 = (spC xs k).getD i 0 ∧ (spV xs (k + m)).getD i zR = (spV xs k).getD i zR ∧ (spC xs k).length ≤ (spC xs (k + m)).length
  | 0, _, _ => ⟨rfl, rfl, Nat.le_refl _⟩
  | m + 1, i, hi => by
    obtain ⟨h1, h2, h3⟩ := spC_pre xs k m i hi
    have e : k + (m + 1) = (k + m) + 1 := by omega
    rw [e]
    by_cases h : rsgn (xs.getD (k + m) zR) = 0
    · rw [spC_miss h, spV_miss h]; exact ⟨h1, h2, h3⟩
    · rw [spC_hit h, spV_hit h, getD_snoc_lt (by omega), getD_snoc_lt (by rw [spV_le]; omega), List.length_append]
      exact ⟨h1, h2, by omega⟩
theorem spC_get (xs : List RatD) : ∀ k i, i < (spC xs k).length → ∃ j, j < k ∧ (spC xs k).getD i 0 = (j : Int) ∧ (spV xs k).getD i zR = xs.getD j zR ∧ rsgn (xs.getD j zR) ≠ 0
  | 0, i, hi => by simp [spC] at hi
  | k + 1, i, hi => by
    by_cases h : rsgn (xs.getD k zR) = 0
    · rw [spC_miss h] at hi ⊢
      rw [spV_miss h]
      obtain ⟨j, h1, h2⟩ := spC_get xs k i hi
      exact ⟨j, by omega, h2⟩
    · rw [spC_hit h] at hi ⊢
      rw [spV_hit h]
      rw [List.length_append, List.length_cons, List.length_nil] at hi
      by_cases e : i < (spC xs k).length
      · obtain ⟨j, h1, h2⟩ := spC_get xs k i e
        rw [getD_snoc_lt e, getD_snoc_lt (by rw [spV_le]; exact e)]
        exact ⟨j, by omega, h2⟩
      · have e2 : i = (spC xs k).length := by omega
        subst e2
        refine ⟨k, by omega, getD_snoc_eq, ?_, h⟩
        rw [← spV_le]; exact getD_snoc_eq
theorem spC_asc (xs : List RatD) : ∀ k i, i + 1 < (spC xs k).length → (spC xs k).getD i 0 < (spC xs k).getD (i + 1) 0
  | 0, i, hi => by simp [spC] at hi
  | k + 1, i, hi => by
    by_cases h : rsgn (xs.getD k zR) = 0
    · rw [spC_miss h] at hi ⊢; exact spC_asc xs k i hi
    · rw [spC_hit h] at hi ⊢
      rw [List.length_append, List.length_cons, List.length_nil] at hi
      by_cases e : i + 1 < (spC xs k).length
      · rw [getD_snoc_lt e, getD_snoc_lt (by omega)]; exact spC_asc xs k i e
      · have e2 : i + 1 = (spC xs k).length := by omega
        rw [e2, getD_snoc_eq, getD_snoc_lt (by omega)]
        obtain ⟨j, h1, h2, _⟩ := spC_get xs k i (by omega)
        rw [h2]; omega
theorem spC_has (xs : List RatD) : ∀ k j, j < k → rsgn (xs.getD j zR) ≠ 0 → ∃ i, i < (spC xs k).length ∧ (spC xs k).getD i 0 = (j : Int)
  | 0, j, hj, _ => by omega
  | k + 1, j, hj, hx => by
    by_cases e : j = k
    · subst e
      rw [spC_hit hx]
      exact ⟨(spC xs j).length, by simp, getD_snoc_eq⟩
    · obtain ⟨i, h1, h2⟩ := spC_has xs k j (by omega) hx
      by_cases h : rsgn (xs.getD k zR) = 0
      · rw [spC_miss h]; exact ⟨i, h1, h2⟩
      · rw [spC_hit h]
        exact ⟨i, by rw [List.length_append]; omega, by rw [getD_snoc_lt h1]; exact h2⟩
theorem spRow_asc (xs : List RatD) : Asc (spRow xs).cols := by
  intro i j hij hj
  induction j with
  | zero => omega
  | succ j ih =>
    have h2 := spC_asc xs xs.length j hj
    have hj' : j + 1 < (spC xs xs.length).length := hj
    by_cases e : i = j
    · subst e; exact h2
    · have := ih (by omega) (show j < (spC xs xs.length).length by omega)
      show (spC xs xs.length).getD i 0 < (spC xs xs.length).getD (j + 1) 0
      have this' : (spC xs xs.length).getD i 0 < (spC xs xs.length).getD j 0 := this
      omega
/-- The elements of a row are those of the full one. -/
theorem rowAt_sp {xs : List RatD} {j : Nat} (hj : j < xs.length) {v : Rat} (hv : FE.Is (xs.getD j zR) v) : rowAt (spRow xs) (j : Int) = xs.getD j zR := by
  by_cases h : rsgn (xs.getD j zR) = 0
  · have hv0 : v = 0 := hv.rsgn_zero.1 h
    subst hv0
    rw [hv.zero_eq]
    refine rowAt_miss (fun q hq e => ?_)
    obtain ⟨i, _, h2, _, h3⟩ := spC_get xs xs.length q hq
    have e' : (spC xs xs.length).getD q 0 = (j : Int) := e
    rw [e'] at h2
    have : j = i := by omega
    subst this
    exact h3 h
  · obtain ⟨i, h1, h2⟩ := spC_has xs xs.length j hj h
    have hi : i < (spRow xs).cols.length := h1
    rw [rowAt_hit (k := i) hi h2 (fun q hq e => ?_)]
    · obtain ⟨i', _, h4, h5, _⟩ := spC_get xs xs.length i h1
      rw [h2] at h4
      have : j = i' := by omega
      subst this
      exact h5
    · have e1 := spRow_asc xs q i hq hi
      have h2' : (spRow xs).cols.getD i 0 = (j : Int) := h2
      omega
theorem spRow_ok {xs : List RatD} {n : Nat} (hl : xs.length = n) (h : ∀ j, j < n → FE.ratOk (xs.getD j zR) = true) : rowB n (spRow xs) = true := by
  subst hl
  simp only [rowB, Bool.and_eq_true, decide_eq_true_eq, Bool.not_eq_true', List.all_eq_true, List.mem_range]
  refine ⟨⟨⟨spV_le xs xs.length, ?_⟩, ?_⟩, fun i hi => ?_⟩
  · unfold vok
    rw [List.all_eq_true]
    intro y hy
    obtain ⟨i, hi, rfl⟩ := mem_getD (d := zR) hy
    have hi' : i < (spC xs xs.length).length := by rw [← spV_le]; exact hi
    obtain ⟨j, h1, _, h3, _⟩ := spC_get xs xs.length i hi'
    have h3' : (spRow xs).vals.getD i zR = xs.getD j zR := h3
    rw [h3']; exact h j h1
  · rw [List.any_eq_false]
    intro y hy
    obtain ⟨i, hi, rfl⟩ := mem_getD (d := zR) hy
    have hi' : i < (spC xs xs.length).length := by rw [← spV_le]; exact hi
    obtain ⟨j, h1, _, h3, h4⟩ := spC_get xs xs.length i hi'
    have h3' : (spRow xs).vals.getD i zR = xs.getD j zR := h3
    rw [h3']
    exact fun e => h4 (eq_of_beq e)
  · have hi' : i < (spC xs xs.length).length := hi
    obtain ⟨j, h1, h2, _, _⟩ := spC_get xs xs.length i hi'
    have h2' : (spRow xs).cols.getD i 0 = (j : Int) := h2
    simp only [colOk, Bool.and_eq_true, Bool.or_eq_true, decide_eq_true_eq]
    refine ⟨inB_true (by omega) (by omega), ?_⟩
    by_cases e : i = 0
    · exact .inl e
    · right
      have := spC_asc xs xs.length (i - 1) (by omega)
      have e2 : i - 1 + 1 = i := by omega
      rw [e2] at this
      exact this
theorem spM_len (rows : List (List RatD)) : (spM rows).length = rows.length := by simp [spM]
theorem spM_get {rows : List (List RatD)} {i : Nat} (h : i < rows.length) : (spM rows).getD i zRow = spRow (rows.getD i []) := by simp [spM, h]
theorem spM_ok {n : Nat} {F : Nat → Nat → RatD} (hn : n ≤ 40) (h : ∀ i j, i < n → j < n → FE.ratOk (F i j) = true) : mOk (spM (fullL n F)) = true := by
  simp only [mOk, Bool.and_eq_true, decide_eq_true_eq, spM_len, fullL_len]
  refine ⟨hn, all_of (d := zRow) (fun i hi => ?_)⟩
  rw [spM_len, fullL_len] at hi
  rw [spM_get (by rw [fullL_len]; exact hi)]
  exact spRow_ok (fullL_row_len hi) (fun j hj => by rw [fullL_get hi hj]; exact h i j hi hj)
/-- A sum of products. -/
def qdot (f g : Nat → Rat) : Nat → Rat
  | 0 => 0
  | k + 1 => qdot f g k + f k * g k
/-- The product of a stored row and a vector is the sum over all columns. -/
theorem sp_sum {xs us : List RatD} {X U : Nat → Rat} (hX : ∀ j, j < xs.length → FE.Is (xs.getD j zR) (X j)) (hU : ∀ j, j < xs.length → FE.Is (us.getD j zR) (U j)) (h1 : ∀ j, j < xs.length → FE.small (X j * U j) = true) (h2 : ∀ k, k ≤ xs.length → FE.small (qdot X U k) = true) :
    ∀ k, k ≤ xs.length → FE.Is (sumK (spRow xs) us (spC xs k).length) (qdot X U k)
  | 0, _ => FE.Is.int (n := 0) (by decide)
  | k + 1, hk => by
    have ih := sp_sum hX hU h1 h2 k (by omega)
    by_cases h : rsgn (xs.getD k zR) = 0
    · rw [spC_miss h]
      have hz : X k = 0 := (hX k (by omega)).rsgn_zero.1 h
      have e : qdot X U (k + 1) = qdot X U k := by
        show qdot X U k + X k * U k = _
        rw [hz, Rat.zero_mul, Rat.add_zero]
      rw [e]; exact ih
    · rw [spC_hit h, List.length_append, List.length_cons, List.length_nil]
      show FE.Is (FE.radd (sumK (spRow xs) us (spC xs k).length) (FE.rmul ((spRow xs).vals.getD (spC xs k).length zR) (us.getD ((spRow xs).cols.getD (spC xs k).length 0).toNat zR))) _
      have hl : (spC xs k).length < (spC xs (k + 1)).length := by rw [spC_hit h]; simp
      obtain ⟨e1, e2, _⟩ := spC_pre xs (k + 1) (xs.length - (k + 1)) (spC xs k).length hl
      rw [show k + 1 + (xs.length - (k + 1)) = xs.length by omega] at e1 e2
      have e3 : (spRow xs).cols.getD (spC xs k).length 0 = (k : Int) := by
        show (spC xs xs.length).getD _ 0 = _
        rw [e1, spC_hit h, getD_snoc_eq]
      have e4 : (spRow xs).vals.getD (spC xs k).length zR = xs.getD k zR := by
        show (spV xs xs.length).getD _ zR = _
        rw [e2, spV_hit h, ← spV_le, getD_snoc_eq]
      rw [e3, e4, Int.toNat_natCast]
      exact ih.add ((hX k (by omega)).mul (hU k (by omega)) (h1 k (by omega))) (h2 (k + 1) hk)
theorem vApply_get {rs : List RowD} {us : List RatD} {i : Nat} (h : i < rs.length) : (vApply rs us).getD i zR = sumK (rs.getD i zRow) us (rs.getD i zRow).cols.length := by
  simp [vApply, h]
theorem vok_getD {us : List RatD} (h : ∀ j, j < us.length → FE.ratOk (us.getD j zR) = true) : vok us = true := by
  unfold vok
  rw [List.all_eq_true]
  intro y hy
  obtain ⟨i, hi, rfl⟩ := mem_getD (d := zR) hy
  exact h i hi
end Go.Proofs.YtlpomcihkjiokaaGreat

namespace Go.Proofs.YtlpomcihkjiokaaGreat
open Go.RowKit Go.Joins

end Go.Proofs.YtlpomcihkjiokaaGreat

namespace Go.Proofs.YtlpomcihkjiokaaGreat

theorem FewR.is {r : RatD} (h : FewR r) : ∃ v, FE.Is r v ∧ FE.Lat 6 60 v := by
  obtain ⟨n, d, h1, h2, h3, h4, rfl⟩ := h
  have hl : FE.Lat 6 60 (_root_.mkRat n d) := by
    have hd : d = 1 ∨ d = 2 ∨ d = 3 := by omega
    refine ⟨by decide, n * (6 / d : Nat), ?_, ?_, ?_⟩
    · rw [Rat.mkRat_eq_div, Rat.intCast_mul]
      rcases hd with rfl | rfl | rfl
      · show (n : Rat) / (1 : Nat) * ((6 : Int) : Rat) = (n : Rat) * ((6 : Int) : Rat)
        grind
      · show (n : Rat) / (2 : Nat) * ((6 : Int) : Rat) = (n : Rat) * ((3 : Int) : Rat)
        grind
      · show (n : Rat) / (3 : Nat) * ((6 : Int) : Rat) = (n : Rat) * ((2 : Int) : Rat)
        grind
    · rcases hd with rfl | rfl | rfl <;> simp <;> omega
    · rcases hd with rfl | rfl | rfl <;> simp <;> omega
  exact ⟨_, FE.Is.of_low (by omega) rfl (hl.lt18 (by decide) (by decide)), hl⟩
theorem getD_mem {us : List RatD} {j : Nat} (hj : j < us.length) : us.getD j zR ∈ us := by
  rw [List.getD_eq_getElem?_getD, List.getElem?_eq_getElem hj]; exact List.getElem_mem hj
theorem few_lats {us : List RatD} (h : ∀ r ∈ us, FewR r) : ∃ U : Nat → Rat, ∀ j, j < us.length → FE.Is (us.getD j zR) (U j) ∧ FE.Lat 6 60 (U j) := by
  refine ⟨fun j => if hj : j < us.length then (h (us.getD j zR) (getD_mem hj)).is.choose else 0, fun j hj => ?_⟩
  simp only [hj, dif_pos]
  exact (h (us.getD j zR) (getD_mem hj)).is.choose_spec
theorem rint_is {y : Int} (h1 : -10 ≤ y) (h2 : y ≤ 1000) : FE.Is (FE.rint y) (y : Rat) := FE.Is.int (by
  have e : (1000 : Nat) < 10 ^ 216 := by decide +kernel
  omega)
theorem qdot_lat {f g : Nat → Rat} {D B : Int} {n : Nat} (hD : 0 < D) (h : ∀ j, j < n → FE.Lat D B (f j * g j)) : ∀ k, k ≤ n → FE.Lat D (B * k) (qdot f g k)
  | 0, _ => by
    refine ⟨hD, 0, ?_, by simp, by simp⟩
    show (0 : Rat) * _ = _
    rw [Rat.zero_mul]; rfl
  | k + 1, hk => by
    have h1 := qdot_lat hD h k (by omega)
    have h2 := h1.add (h k (by omega))
    have e : B * (k : Int) + B = B * ((k + 1 : Nat) : Int) := by
      rw [Int.natCast_add, Int.mul_add]; simp
    rw [← e]; exact h2
theorem intL_rowAt {n : Nat} {E : Nat → Nat → Int} (h : ∀ p q, -1 ≤ E p q ∧ E p q ≤ 7) {i j : Nat} (hi : i < n) (hj : j < n) : rowAt ((spM (intL n E)).getD i zRow) (j : Int) = FE.rint (E i j) := by
  rw [spM_get (by rw [intL_len]; exact hi)]
  have hv : FE.Is (((intL n E).getD i []).getD j zR) (E i j : Rat) := by
    rw [intL_get hi hj]; exact rint_is (by have := (h i j).1; omega) (by have := (h i j).2; omega)
  rw [rowAt_sp (by rw [intL_row_len hi]; exact hj) hv, intL_get hi hj]
theorem intL_mOk {n : Nat} {E : Nat → Nat → Int} (hn : n ≤ 40) (h : ∀ p q, -1 ≤ E p q ∧ E p q ≤ 7) : mOk (spM (intL n E)) = true :=
  spM_ok hn (fun i j _ _ => (rint_is (by have := (h i j).1; omega) (by have := (h i j).2; omega)).ok)
theorem intL_mSym {n : Nat} {E : Nat → Nat → Int} (hn : n ≤ 40) (h : DrI E n) : mSym (spM (intL n E)) = true := by
  refine mSym_yes (intL_mOk hn h.all) (fun i hi => ?_)
  rw [spM_len, intL_len] at hi
  unfold symRow
  rw [List.all_eq_true]
  intro k hk
  rw [List.mem_range] at hk
  unfold symAt
  rw [spM_get (by rw [intL_len]; exact hi)] at hk ⊢
  have hl : ((intL n E).getD i []).length = n := intL_row_len hi
  have hk' : k < (spC ((intL n E).getD i []) ((intL n E).getD i []).length).length := hk
  obtain ⟨j, h1, h2, h3, _⟩ := spC_get _ _ k hk'
  have h2' : (spRow ((intL n E).getD i [])).cols.getD k 0 = (j : Int) := h2
  have h3' : (spRow ((intL n E).getD i [])).vals.getD k zR = ((intL n E).getD i []).getD j zR := h3
  rw [hl] at h1
  rw [h2', h3', Int.toNat_natCast, intL_get hi h1, intL_rowAt h.all h1 hi, h.sym i j]
  exact RatD.same_refl _
end Go.Proofs.YtlpomcihkjiokaaGreat

namespace Go.Proofs.YtlpomcihkjiokaaGreat
namespace FE

/-- Elimination without fractions: the matrix behind k steps. -/
def elM (E : Nat → Nat → Int) : Nat → Nat → Nat → Int
  | 0, i, j => E i j
  | k + 1, i, j => elM E k i j * elM E k k k - elM E k i k * elM E k j k
/-- The common denominator behind k steps. -/
def elD (E : Nat → Nat → Int) : Nat → Int
  | 0 => 1
  | k + 1 => elD E k * elM E k k k
theorem elM_sym {E : Nat → Nat → Int} (h : ∀ i j, E i j = E j i) : ∀ k i j, elM E k i j = elM E k j i
  | 0, i, j => h i j
  | k + 1, i, j => by
    simp only [elM]
    rw [elM_sym h k i j, Int.mul_comm (elM E k i k)]
theorem elM_zero {E : Nat → Nat → Int} (h : ∀ i j, E i j = E j i) : ∀ k i j, i < k → elM E k i j = 0
  | 0, i, j, hi => by omega
  | k + 1, i, j, hi => by
    simp only [elM]
    by_cases e : i = k
    · subst e
      rw [elM_sym h i j i, Int.mul_comm]; omega
    · rw [elM_zero h k i j (by omega), elM_zero h k i k (by omega)]; simp
/-- The sum of the sizes of n numbers. -/
def asum (f : Nat → Int) : Nat → Int
  | 0 => 0
  | n + 1 => asum f n + (f n).natAbs
theorem asum_nonneg (f : Nat → Int) : ∀ n, 0 ≤ asum f n
  | 0 => Int.le_refl _
  | n + 1 => by have := asum_nonneg f n; simp only [asum]; omega
theorem asum_one (f : Nat → Int) : ∀ n i, i < n → ((f i).natAbs : Int) ≤ asum f n
  | 0, i, h => by omega
  | n + 1, i, h => by
    simp only [asum]
    by_cases e : i = n
    · subst e; have := asum_nonneg f i; omega
    · have := asum_one f n i (by omega); omega
theorem asum_two (f : Nat → Int) : ∀ n i j, i < n → j < n → i ≠ j → ((f i).natAbs : Int) + (f j).natAbs ≤ asum f n
  | 0, i, j, h, _, _ => by omega
  | n + 1, i, j, h, h2, h3 => by
    simp only [asum]
    by_cases e : i = n
    · subst e; have := asum_one f i j (by omega); omega
    · by_cases e2 : j = n
      · subst e2; have := asum_one f j i (by omega); omega
      · have := asum_two f n i j (by omega) (by omega) h3; omega
theorem asum_le {f g h : Nat → Int} {p c a b : Int} {k i : Nat} (hf : ∀ j, ((f j).natAbs : Int) ≤ p * (g j).natAbs + c * (h j).natAbs - (if j = k then a else 0) - (if j = i then b else 0)) : ∀ n, asum f n ≤ p * asum g n + c * asum h n - (if k < n then a else 0) - (if i < n then b else 0)
  | 0 => by simp [asum]
  | n + 1 => by
    have h1 := asum_le hf n
    have h2 := hf n
    simp only [asum, Int.mul_add]
    have s1 : (if k < n + 1 then a else 0) = (if k < n then a else 0) + (if n = k then a else 0) := by
      by_cases e1 : n = k
      · subst e1; simp
      · by_cases e2 : k < n
        · rw [if_pos e2, if_pos (by omega), if_neg e1]; omega
        · rw [if_neg e2, if_neg (by omega), if_neg e1]; omega
    have s2 : (if i < n + 1 then b else 0) = (if i < n then b else 0) + (if n = i then b else 0) := by
      by_cases e1 : n = i
      · subst e1; simp
      · by_cases e2 : i < n
        · rw [if_pos e2, if_pos (by omega), if_neg e1]; omega
        · rw [if_neg e2, if_neg (by omega), if_neg e1]; omega
    rw [s1, s2]
    omega
/-- Behind k steps the diagonal is larger than the rest of its row. -/
def Dom (E : Nat → Nat → Int) (n k : Nat) : Prop := ∀ i, k ≤ i → i < n → asum (elM E k i) n < 2 * elM E k i i
theorem Dom.pos {E : Nat → Nat → Int} {n k : Nat} (h : Dom E n k) {i : Nat} (hi : k ≤ i) (hn : i < n) : 0 < elM E k i i := by
  have := h i hi hn
  have := asum_nonneg (elM E k i) n
  omega
theorem Dom.step {E : Nat → Nat → Int} {n k : Nat} (hs : ∀ i j, E i j = E j i) (h : Dom E n k) (hk : k < n) : Dom E n (k + 1) := by
  intro i hi hn
  have hp := h.pos (Nat.le_refl k) hk
  have hq := h.pos (show k ≤ i by omega) hn
  have d1 := h k (Nat.le_refl k) hk
  have d2 := h i (by omega) hn
  have t1 := asum_two (elM E k k) n k i hk hn (by omega)
  have t2 := asum_two (elM E k i) n i k hn hk (by omega)
  rw [elM_sym hs k k i] at t1
  have hsym := elM_sym hs k
  -- c = M(i,k), p = M(k,k), q = M(i,i)
  have key : ∀ j, ((elM E (k + 1) i j).natAbs : Int) ≤ elM E k k k * (elM E k i j).natAbs + (elM E k i k).natAbs * (elM E k k j).natAbs - (if j = k then 2 * (elM E k k k * (elM E k i k).natAbs) else 0) - (if j = i then 2 * (elM E k i k * elM E k i k) else 0) := by
    intro j
    have e : elM E (k + 1) i j = elM E k i j * elM E k k k - elM E k i k * elM E k j k := rfl
    by_cases e1 : j = k
    · subst e1
      rw [if_pos rfl, if_neg (by omega), e]
      have : elM E j i j * elM E j j j - elM E j i j * elM E j j j = 0 := by omega
      rw [this]
      have h2 : ((elM E j j j).natAbs : Int) = elM E j j j := by omega
      rw [h2, Int.mul_comm ((elM E j i j).natAbs : Int)]
      simp; omega
    · rw [if_neg e1]
      by_cases e2 : j = i
      · subst e2
        rw [if_pos rfl, e, hsym k j]
        generalize elM E k j j = q at *
        generalize elM E k k k = p at *
        generalize elM E k j k = c at *
        have h3 : ((q : Int).natAbs : Int) = q := by omega
        have h4 : ((c.natAbs : Nat) : Int) * ((c.natAbs : Nat) : Int) = c * c := Int.natAbs_mul_self
        have h5 : c * c ≤ q * p := by
          rw [← h4]
          exact Int.mul_le_mul (by omega) (by omega) (by omega) (by omega)
        rw [h3, h4, Int.mul_comm p q]
        omega
      · rw [if_neg e2, e, hsym j k]
        have h1 : ((elM E k i j * elM E k k k).natAbs : Int) = elM E k k k * (elM E k i j).natAbs := by
          rw [Int.natAbs_mul, Int.natCast_mul, Int.mul_comm]
          congr 1
          omega
        have h2 : ((elM E k i k * elM E k k j).natAbs : Int) = (elM E k i k).natAbs * (elM E k k j).natAbs := by
          rw [Int.natAbs_mul, Int.natCast_mul]
        omega
  have hsum := asum_le key n
  rw [if_pos hk, if_pos hn] at hsum
  have e : elM E (k + 1) i i = elM E k i i * elM E k k k - elM E k i k * elM E k i k := rfl
  rw [e]
  generalize asum (elM E (k + 1) i) n = s at *
  generalize asum (elM E k i) n = a at *
  generalize asum (elM E k k) n = b at *
  generalize elM E k i i = q at *
  generalize elM E k k k = p at *
  generalize elM E k i k = c at *
  have m1 : p * a ≤ p * (2 * q - 1) := Int.mul_le_mul_of_nonneg_left (by omega) (by omega)
  have m2 : (c.natAbs : Int) * b ≤ c.natAbs * (2 * p - 1) := Int.mul_le_mul_of_nonneg_left (by omega) (by omega)
  have x1 : p * (2 * q - 1) = 2 * (q * p) - p := by rw [Int.mul_sub, Int.mul_comm q p, Int.mul_left_comm]; omega
  have x2 : (c.natAbs : Int) * (2 * p - 1) = 2 * (p * c.natAbs) - c.natAbs := by rw [Int.mul_sub, Int.mul_comm p, Int.mul_left_comm]; omega
  rw [x1] at m1
  rw [x2] at m2
  omega
/-- Bounds. -/
def elB : Nat → Int
  | 0 => 7
  | k + 1 => 2 * (elB k * elB k)
theorem elB_pos : ∀ k, 0 < elB k
  | 0 => by decide
  | k + 1 => by
    have h := elB_pos k
    have := Int.mul_pos h h
    simp only [elB]; omega
theorem elM_le {E : Nat → Nat → Int} (h : ∀ i j, -7 ≤ E i j ∧ E i j ≤ 7) : ∀ k i j, -elB k ≤ elM E k i j ∧ elM E k i j ≤ elB k
  | 0, i, j => h i j
  | k + 1, i, j => by
    have h1 := elM_le h k i j
    have h2 := elM_le h k k k
    have h3 := elM_le h k i k
    have h4 := elM_le h k j k
    have a1 := abs_mul_le h1.1 h1.2 h2.1 h2.2
    have a2 := abs_mul_le h3.1 h3.2 h4.1 h4.2
    simp only [elM, elB]
    omega
def elC : Nat → Int
  | 0 => 1
  | k + 1 => elC k * elB k
theorem elD_pos {E : Nat → Nat → Int} {n : Nat} (hp : ∀ k, k < n → 0 < elM E k k k) : ∀ k, k ≤ n → 0 < elD E k
  | 0, _ => by show (0 : Int) < 1; decide
  | k + 1, hk => Int.mul_pos (elD_pos hp k (by omega)) (hp k (by omega))
theorem elD_le {E : Nat → Nat → Int} {n : Nat} (h : ∀ i j, -7 ≤ E i j ∧ E i j ≤ 7) (hp : ∀ k, k < n → 0 < elM E k k k) : ∀ k, k ≤ n → elD E k ≤ elC k
  | 0, _ => Int.le_refl _
  | k + 1, hk => by
    have h1 := elD_le h hp k (by omega)
    have h2 := elD_pos hp k (by omega)
    have h3 := hp k (by omega)
    have h4 := (elM_le h k k k).2
    exact Int.mul_le_mul h1 h4 (by omega) (by omega)
theorem elB_mono (k : Nat) : elB k ≤ elB (k + 1) := by
  have h := elB_pos k
  have h1 : elB k * 1 ≤ elB k * elB k := Int.mul_le_mul_of_nonneg_left (by omega) (by omega)
  have e : elB (k + 1) = 2 * (elB k * elB k) := rfl
  omega
/-- Sums of rational numbers. -/
def rsum (f : Nat → Rat) : Nat → Rat
  | 0 => 0
  | n + 1 => rsum f n + f n
theorem rsum_congr {f g : Nat → Rat} : ∀ n, (∀ k, k < n → f k = g k) → rsum f n = rsum g n
  | 0, _ => rfl
  | n + 1, h => by rw [rsum, rsum, rsum_congr n (fun k hk => h k (by omega)), h n (by omega)]
theorem rsum_add (f g : Nat → Rat) : ∀ n, rsum (fun k => f k + g k) n = rsum f n + rsum g n
  | 0 => by simp [rsum, Rat.add_zero]
  | n + 1 => by rw [rsum, rsum, rsum, rsum_add f g n]; grind
theorem rsum_mul (c : Rat) (f : Nat → Rat) : ∀ n, rsum (fun k => c * f k) n = c * rsum f n
  | 0 => by simp [rsum, Rat.mul_zero]
  | n + 1 => by rw [rsum, rsum, rsum_mul c f n]; grind
theorem rsum_zero : ∀ n, rsum (fun _ => 0) n = 0
  | 0 => rfl
  | n + 1 => by rw [rsum, rsum_zero n, Rat.add_zero]
theorem rsum_swap (f : Nat → Nat → Rat) (m : Nat) : ∀ n, rsum (fun i => rsum (fun j => f i j) m) n = rsum (fun j => rsum (fun i => f i j) n) m
  | 0 => by simp only [rsum]; rw [rsum_zero]
  | n + 1 => by
    show rsum (fun i => rsum (fun j => f i j) m) n + rsum (fun j => f n j) m = rsum (fun j => rsum (fun i => f i j) n + f n j) m
    rw [rsum_swap f m n, rsum_add]
/-- What stands behind m is 0. -/
theorem rsum_tail {f : Nat → Rat} {m : Nat} (h : ∀ k, m ≤ k → f k = 0) : ∀ n, m ≤ n → rsum f n = rsum f m
  | 0, hn => by rw [show m = 0 by omega]
  | n + 1, hn => by
    by_cases e : m = n + 1
    · rw [e]
    · rw [rsum, rsum_tail h n (by omega), h n (by omega), Rat.add_zero]
theorem rsum_split (f : Nat → Rat) (m : Nat) : ∀ n, rsum f (m + n) = rsum f m + rsum (fun k => f (m + k)) n
  | 0 => by simp [rsum, Rat.add_zero]
  | n + 1 => by
    show rsum f (m + n) + f (m + n) = rsum f m + (rsum (fun k => f (m + k)) n + f (m + n))
    rw [rsum_split f m n]; grind
/-- Recursion over all that went before. -/
def covL (F : Nat → (Nat → Rat) → Rat) : Nat → List Rat
  | 0 => []
  | i + 1 => covL F i ++ [F i (fun k => (covL F i).getD k 0)]
def cov (F : Nat → (Nat → Rat) → Rat) (i : Nat) : Rat := (covL F (i + 1)).getD i 0
theorem covL_len (F : Nat → (Nat → Rat) → Rat) : ∀ i, (covL F i).length = i
  | 0 => rfl
  | i + 1 => by simp [covL, covL_len F i]
theorem covL_get (F : Nat → (Nat → Rat) → Rat) (k : Nat) : ∀ i, k < i → (covL F i).getD k 0 = cov F k
  | 0, h => by omega
  | i + 1, h => by
    by_cases e : k = i
    · subst e; rfl
    · have hl := covL_len F i
      rw [covL, List.getD_eq_getElem?_getD, List.getElem?_append_left (by omega), ← List.getD_eq_getElem?_getD]
      exact covL_get F k i (by omega)
theorem cov_eq {F : Nat → (Nat → Rat) → Rat} (hF : ∀ i f g, (∀ k, k < i → f k = g k) → F i f = F i g) (i : Nat) : cov F i = F i (cov F) := by
  have hl := covL_len F i
  rw [cov, covL, List.getD_eq_getElem?_getD, List.getElem?_append_right (by omega), hl]
  simp only [Nat.sub_self, List.getElem?_cons_zero, Option.getD_some]
  exact hF i _ _ (fun k hk => covL_get F k i hk)

def qL (E : Nat → Nat → Int) (i k : Nat) : Rat := (elM E k i k : Rat) / (elM E k k k : Rat)
def qP (E : Nat → Nat → Int) (k : Nat) : Rat := (elM E k k k : Rat) / (elD E k : Rat)
def qT (E : Nat → Nat → Int) (k i j : Nat) : Rat := (elM E k i j : Rat) / (elD E k : Rat)
/-- The pivots of E are positive, its entries are small, it is symmetric. -/
structure PD (E : Nat → Nat → Int) (n : Nat) : Prop where
  sym : ∀ i j, E i j = E j i
  le : ∀ i j, -7 ≤ E i j ∧ E i j ≤ 7
  pos : ∀ k, k < n → 0 < elM E k k k
theorem castI_ne {z : Int} (h : z ≠ 0) : (z : Rat) ≠ 0 := fun e => h (Rat.intCast_eq_zero_iff.1 e)
theorem PD.m0 {E : Nat → Nat → Int} {n k : Nat} (h : PD E n) (hk : k < n) : (elM E k k k : Rat) ≠ 0 := castI_ne (by have := h.pos k hk; omega)
theorem PD.d0 {E : Nat → Nat → Int} {n k : Nat} (h : PD E n) (hk : k ≤ n) : (elD E k : Rat) ≠ 0 := castI_ne (by have := elD_pos h.pos k hk; omega)
theorem PD.p0 {E : Nat → Nat → Int} {n k : Nat} (h : PD E n) (hk : k < n) : qP E k ≠ 0 := by
  have h1 := h.m0 hk
  have h2 := h.d0 (show k ≤ n by omega)
  intro e
  unfold qP at e
  apply h1
  have : (elM E k k k : Rat) = (elM E k k k : Rat) / (elD E k : Rat) * (elD E k : Rat) := by grind
  rw [this, e, Rat.zero_mul]
theorem qT_zero (E : Nat → Nat → Int) (i j : Nat) : qT E 0 i j = (E i j : Rat) := by
  show (E i j : Rat) / ((1 : Int) : Rat) = _
  grind
theorem qT_succ {E : Nat → Nat → Int} {n k : Nat} (h : PD E n) (hk : k < n) (i j : Nat) : qT E (k + 1) i j = qT E k i j - qL E i k * qP E k * qL E j k := by
  have h1 := h.m0 hk
  have h2 := h.d0 (show k ≤ n by omega)
  unfold qT qL qP
  simp only [elM, elD, Rat.intCast_mul, Rat.intCast_sub]
  generalize (elM E k i j : Rat) = a at *
  generalize (elM E k k k : Rat) = p at *
  generalize (elM E k i k : Rat) = b at *
  generalize (elM E k j k : Rat) = c at *
  generalize (elD E k : Rat) = d at *
  grind
theorem qT_piv {E : Nat → Nat → Int} {n k : Nat} (h : PD E n) (hk : k < n) (i : Nat) : qL E i k * qP E k = qT E k i k := by
  have h1 := h.m0 hk
  have h2 := h.d0 (show k ≤ n by omega)
  unfold qT qL qP
  generalize (elM E k k k : Rat) = p at *
  generalize (elM E k i k : Rat) = b at *
  generalize (elD E k : Rat) = d at *
  grind
theorem qL_div {E : Nat → Nat → Int} {n k : Nat} (h : PD E n) (hk : k < n) (i : Nat) : qT E k i k / qP E k = qL E i k := by
  have h1 := h.p0 hk
  rw [← qT_piv h hk i]
  generalize qP E k = p at *
  generalize qL E i k = b at *
  grind
theorem qL_one {E : Nat → Nat → Int} {n k : Nat} (h : PD E n) (hk : k < n) : qL E k k = 1 := by
  have h1 := h.m0 hk
  unfold qL
  generalize (elM E k k k : Rat) = p at *
  grind
theorem qL_none {E : Nat → Nat → Int} {n i k : Nat} (h : PD E n) (hk : i < k) : qL E i k = 0 := by
  unfold qL
  rw [elM_zero h.sym k i k hk]
  show (0 : Rat) / _ = 0
  rw [Rat.div_def, Rat.zero_mul]
theorem qT_none {E : Nat → Nat → Int} {n i j k : Nat} (h : PD E n) (hk : i < k ∨ j < k) : qT E k i j = 0 := by
  unfold qT
  have : elM E k i j = 0 := by
    rcases hk with hk | hk
    · exact elM_zero h.sym k i j hk
    · rw [elM_sym h.sym]; exact elM_zero h.sym k j i hk
  rw [this]
  show (0 : Rat) / _ = 0
  rw [Rat.div_def, Rat.zero_mul]
/-- What k steps took from an entry. -/
theorem qT_sum {E : Nat → Nat → Int} {n : Nat} (h : PD E n) (i j : Nat) : ∀ k, k ≤ n → rsum (fun l => qL E i l * qP E l * qL E j l) k = (E i j : Rat) - qT E k i j
  | 0, _ => by rw [qT_zero]; show (0 : Rat) = _; grind
  | k + 1, hk => by
    rw [rsum, qT_sum h i j k (by omega), qT_succ h (show k < n by omega)]; grind
theorem qE_sum {E : Nat → Nat → Int} {n : Nat} (h : PD E n) {i : Nat} (j : Nat) (hi : i < n) : (E i j : Rat) = rsum (fun l => qL E i l * qP E l * qL E j l) n := by
  rw [qT_sum h i j n (Nat.le_refl _), qT_none h (Or.inl hi)]; grind
/-- The solution by a factorization satisfies the equations. -/
theorem q_solves {E : Nat → Nat → Int} {n : Nat} (h : PD E n) {b y z x : Nat → Rat} (h1 : ∀ i, i < n → b i = rsum (fun k => qL E i k * y k) n) (h2 : ∀ k, k < n → y k = qP E k * z k) (h3 : ∀ k, k < n → z k = rsum (fun j => qL E j k * x j) n) :
    ∀ i, i < n → rsum (fun j => (E i j : Rat) * x j) n = b i := by
  intro i hi
  have e1 : rsum (fun j => (E i j : Rat) * x j) n = rsum (fun j => rsum (fun k => qL E i k * qP E k * qL E j k * x j) n) n := by
    refine rsum_congr n (fun j hj => ?_)
    rw [qE_sum h j hi]
    have := rsum_mul (x j) (fun l => qL E i l * qP E l * qL E j l) n
    rw [Rat.mul_comm, ← this]
    exact rsum_congr n (fun k _ => by grind)
  rw [e1, rsum_swap, h1 i hi]
  refine rsum_congr n (fun k hk => ?_)
  rw [h2 k hk, h3 k hk, ← Rat.mul_assoc, ← rsum_mul]
  exact rsum_congr n (fun j _ => by grind)
theorem lat_frac {a m B : Int} (hm : 0 < m) (h : -B ≤ a ∧ a ≤ B) : Lat m B ((a : Rat) / (m : Rat)) := by
  have h0 := castI_ne (show m ≠ 0 by omega)
  refine ⟨hm, a, ?_, h.1, h.2⟩
  generalize (m : Rat) = x at *
  generalize (a : Rat) = y at *
  grind
theorem qT_lat {E : Nat → Nat → Int} {n k : Nat} (h : PD E n) (hk : k ≤ n) (i j : Nat) : Lat (elD E k) (elB k) (qT E k i j) := lat_frac (elD_pos h.pos k hk) (elM_le h.le k i j)
theorem qL_lat {E : Nat → Nat → Int} {n k : Nat} (h : PD E n) (hk : k < n) (i : Nat) : Lat (elM E k k k) (elB k) (qL E i k) := lat_frac (h.pos k hk) (elM_le h.le k i k)
theorem qP_lat {E : Nat → Nat → Int} {n k : Nat} (h : PD E n) (hk : k < n) : Lat (elD E k) (elB k) (qP E k) := lat_frac (elD_pos h.pos k (by omega)) (elM_le h.le k k k)
theorem Lat.cast {D D' B : Int} {v : Rat} (h : Lat D B v) (e : D = D') : Lat D' B v := e ▸ h

def qY (E : Nat → Nat → Int) (b : Nat → Rat) : Nat → Rat := cov (fun i f => b i - rsum (fun k => qL E i k * f k) i)
/-- Behind t steps of row i. -/
def qYp (E : Nat → Nat → Int) (b : Nat → Rat) (i t : Nat) : Rat := b i - rsum (fun k => qL E i k * qY E b k) t
theorem qY_eq (E : Nat → Nat → Int) (b : Nat → Rat) (i : Nat) : qY E b i = qYp E b i i := by
  unfold qY qYp
  rw [cov_eq]
  · rfl
  · intro i f g h
    show _ - _ = _ - _
    rw [rsum_congr i (fun k hk => by rw [h k hk])]
theorem qYp_zero (E : Nat → Nat → Int) (b : Nat → Rat) (i : Nat) : qYp E b i 0 = b i := by show b i - 0 = b i; grind
theorem qYp_succ (E : Nat → Nat → Int) (b : Nat → Rat) (i t : Nat) : qYp E b i (t + 1) = qYp E b i t - qL E i t * qY E b t := by
  unfold qYp
  rw [rsum]; grind
def yB : Nat → Int
  | 0 => 60
  | t + 1 => 2 * (elB t * yB t)
theorem yB_pos : ∀ t, 0 < yB t
  | 0 => by decide
  | t + 1 => by
    have := Int.mul_pos (elB_pos t) (yB_pos t)
    simp only [yB]; omega
theorem qYp_lat {E : Nat → Nat → Int} {n : Nat} (h : PD E n) {b : Nat → Rat} (hb : ∀ i, i < n → Lat 6 60 (b i)) : ∀ t i, t ≤ i → i < n → Lat (6 * elD E t) (yB t) (qYp E b i t)
  | 0, i, _, hi => by
    rw [qYp_zero]
    exact (hb i hi).cast (by show (6 : Int) = 6 * 1; decide)
  | t + 1, i, ht, hi => by
    have hm := h.pos t (by omega)
    have hmb := (elM_le h.le t t t).2
    have h1 := (qYp_lat h hb t i (by omega) hi).wide hm
    have h2 := qYp_lat h hb t t (Nat.le_refl t) (by omega)
    rw [← qY_eq] at h2
    have h3 := ((qL_lat h (show t < n by omega) i).mul h2).cast (D' := 6 * elD E t * elM E t t t) (by rw [Int.mul_comm])
    have h4 : yB t * elM E t t t ≤ elB t * yB t := by
      rw [Int.mul_comm]
      exact Int.mul_le_mul_of_nonneg_right hmb (Int.le_of_lt (yB_pos t))
    have h5 := ((h1.mono h4).sub h3).cast (D' := 6 * elD E (t + 1)) (by rw [elD, Int.mul_assoc])
    rw [qYp_succ]
    exact h5.mono (by simp only [yB]; omega)
theorem qY_lat {E : Nat → Nat → Int} {n : Nat} (h : PD E n) {b : Nat → Rat} (hb : ∀ i, i < n → Lat 6 60 (b i)) {i : Nat} (hi : i < n) : Lat (6 * elD E i) (yB i) (qY E b i) := by
  rw [qY_eq]; exact qYp_lat h hb i i (Nat.le_refl i) hi
def qZ (E : Nat → Nat → Int) (b : Nat → Rat) (i : Nat) : Rat := qY E b i / qP E i
theorem qZ_lat {E : Nat → Nat → Int} {n : Nat} (h : PD E n) {b : Nat → Rat} (hb : ∀ i, i < n → Lat 6 60 (b i)) {i : Nat} (hi : i < n) : Lat (6 * elM E i i i) (yB i) (qZ E b i) := by
  obtain ⟨_, z, hz, k1, k2⟩ := qY_lat h hb hi
  have hm := h.pos i hi
  refine ⟨by omega, z, ?_, k1, k2⟩
  rw [← hz]
  have h1 := h.m0 hi
  have h2 := h.d0 (show i ≤ n by omega)
  unfold qZ qP
  rw [Rat.intCast_mul, Rat.intCast_mul]
  generalize (elM E i i i : Rat) = p at *
  generalize (elD E i : Rat) = d at *
  generalize qY E b i = y at *
  generalize ((6 : Int) : Rat) = s at *
  grind
def qXr (E : Nat → Nat → Int) (b : Nat → Rat) (n : Nat) : Nat → Rat := cov (fun t f => qZ E b (n - 1 - t) - rsum (fun j => qL E (n - 1 - t + 1 + j) (n - 1 - t) * f (t - 1 - j)) t)
def qX (E : Nat → Nat → Int) (b : Nat → Rat) (n i : Nat) : Rat := qXr E b n (n - 1 - i)
/-- Behind j steps of the last loop at row i. -/
def qXp (E : Nat → Nat → Int) (b : Nat → Rat) (n i j : Nat) : Rat := qZ E b i - rsum (fun l => qL E (i + 1 + l) i * qX E b n (i + 1 + l)) j
theorem qX_eq (E : Nat → Nat → Int) (b : Nat → Rat) {n i : Nat} (hi : i < n) : qX E b n i = qXp E b n i (n - 1 - i) := by
  unfold qX qXp
  have hc := cov_eq (F := fun t f => qZ E b (n - 1 - t) - rsum (fun j => qL E (n - 1 - t + 1 + j) (n - 1 - t) * f (t - 1 - j)) t) (fun t f g h => by
    show _ - _ = _ - _
    rw [rsum_congr t (fun k hk => by rw [h (t - 1 - k) (by omega)])]) (n - 1 - i)
  have e : n - 1 - (n - 1 - i) = i := by omega
  have e2 : qXr E b n (n - 1 - i) = _ := hc
  rw [e2, e]
  congr 1
  refine rsum_congr _ (fun j hj => ?_)
  unfold qX qXr
  rw [show n - 1 - i - 1 - j = n - 1 - (i + 1 + j) by omega]
theorem qXp_zero (E : Nat → Nat → Int) (b : Nat → Rat) (n i : Nat) : qXp E b n i 0 = qZ E b i := by show qZ E b i - 0 = _; grind
theorem qXp_succ (E : Nat → Nat → Int) (b : Nat → Rat) (n i j : Nat) : qXp E b n i (j + 1) = qXp E b n i j - qL E (i + 1 + j) i * qX E b n (i + 1 + j) := by
  unfold qXp
  rw [rsum]; grind
/-- The solution solves. -/
theorem qX_solves {E : Nat → Nat → Int} {n : Nat} (h : PD E n) (b : Nat → Rat) : ∀ i, i < n → rsum (fun j => (E i j : Rat) * qX E b n j) n = b i := by
  refine q_solves h (y := qY E b) (z := qZ E b) (fun i hi => ?_) (fun k hk => ?_) (fun k hk => ?_)
  · have e := rsum_tail (f := fun k => qL E i k * qY E b k) (m := i + 1) (fun k hk => by rw [qL_none h (show i < k by omega), Rat.zero_mul]) n (by omega)
    rw [e, rsum, qL_one h hi, qY_eq]
    unfold qYp
    grind
  · have h1 := h.p0 hk
    unfold qZ
    generalize qP E k = p at *
    generalize qY E b k = y at *
    grind
  · have e : n = k + (1 + (n - 1 - k)) := by omega
    rw [e, rsum_split, rsum_split]
    have e1 : rsum (fun j => qL E j k * qX E b (k + (1 + (n - 1 - k))) j) k = 0 := by
      rw [rsum_congr (g := fun _ => 0) k (fun j hj => by rw [qL_none h hj, Rat.zero_mul]), rsum_zero]
    rw [e1, ← e]
    have e2 : rsum (fun j => qL E (k + j) k * qX E b n (k + j)) 1 = qX E b n k := by
      show (0 : Rat) + qL E (k + 0) k * qX E b n (k + 0) = _
      rw [Nat.add_zero, qL_one h hk]; grind
    rw [e2, qX_eq E b hk]
    unfold qXp
    rw [rsum_congr (f := fun j => qL E (k + (1 + j)) k * qX E b n (k + (1 + j))) (g := fun l => qL E (k + 1 + l) k * qX E b n (k + 1 + l)) _ (fun j _ => by rw [Nat.add_assoc k 1 j])]
    grind
theorem elB_le {i j : Nat} (h : i ≤ j) : elB i ≤ elB j := by
  induction j with
  | zero => rw [show i = 0 by omega]; exact Int.le_refl _
  | succ j ih =>
    by_cases e : i = j + 1
    · rw [e]; exact Int.le_refl _
    · exact Int.le_trans (ih (by omega)) (elB_mono j)
theorem yB_mono (k : Nat) : yB k ≤ yB (k + 1) := by
  have h1 := elB_pos k
  have h2 := yB_pos k
  have h3 : 1 * yB k ≤ elB k * yB k := Int.mul_le_mul_of_nonneg_right (by omega) (by omega)
  have e : yB (k + 1) = 2 * (elB k * yB k) := rfl
  omega
theorem yB_le {i j : Nat} (h : i ≤ j) : yB i ≤ yB j := by
  induction j with
  | zero => rw [show i = 0 by omega]; exact Int.le_refl _
  | succ j ih =>
    by_cases e : i = j + 1
    · rw [e]; exact Int.le_refl _
    · exact Int.le_trans (ih (by omega)) (yB_mono j)
/-- The product of the last t pivots. -/
def qR (E : Nat → Nat → Int) (n : Nat) : Nat → Int
  | 0 => 1
  | t + 1 => qR E n t * elM E (n - 1 - t) (n - 1 - t) (n - 1 - t)
theorem qR_pos {E : Nat → Nat → Int} {n : Nat} (h : PD E n) : ∀ t, t ≤ n → 0 < qR E n t
  | 0, _ => by show (0 : Int) < 1; decide
  | t + 1, ht => Int.mul_pos (qR_pos h t (by omega)) (h.pos _ (by omega))
def rB : Nat → Int
  | 0 => 1
  | t + 1 => rB t * elB (3 - t)
theorem rB_pos : ∀ t, 0 < rB t
  | 0 => by decide
  | t + 1 => Int.mul_pos (rB_pos t) (elB_pos _)
theorem qR_le {E : Nat → Nat → Int} {n : Nat} (h : PD E n) (hn : n ≤ 4) : ∀ t, t ≤ n → qR E n t ≤ rB t
  | 0, _ => Int.le_refl _
  | t + 1, ht => by
    have h1 := qR_le h hn t (by omega)
    have h3 := h.pos (n - 1 - t) (by omega)
    have h4 := (elM_le h.le (n - 1 - t) (n - 1 - t) (n - 1 - t)).2
    have h5 := elB_le (show n - 1 - t ≤ 3 - t by omega)
    have h6 := rB_pos t
    exact Int.mul_le_mul h1 (by omega) (by omega) (by omega)
def xB : Nat → Int
  | 0 => 0
  | t + 1 => yB (3 - t) * rB t + 3 * (elB (3 - t) * xB t)
theorem xB_ge : ∀ t, 0 ≤ xB t
  | 0 => Int.le_refl _
  | t + 1 => by
    have h1 := Int.mul_pos (yB_pos (3 - t)) (rB_pos t)
    have h2 := Int.mul_nonneg (Int.le_of_lt (elB_pos (3 - t))) (xB_ge t)
    simp only [xB]; omega
theorem xB4 {k : Nat} (h : k ≤ 4) : xB k ≤ 10 ^ 19 := by
  have : k = 0 ∨ k = 1 ∨ k = 2 ∨ k = 3 ∨ k = 4 := by omega
  rcases this with rfl | rfl | rfl | rfl | rfl <;> decide +kernel
/-- One row of the last loop. -/
theorem qXp_lat {E : Nat → Nat → Int} {n : Nat} (h : PD E n) (hn : n ≤ 4) {b : Nat → Rat} (hb : ∀ i, i < n → Lat 6 60 (b i)) {t i : Nat} (hi : i + 1 + t = n) (hx : ∀ j, i < j → j < n → Lat (6 * qR E n t) (xB t) (qX E b n j)) :
    ∀ j, j ≤ t → Lat (6 * qR E n (t + 1)) (yB (3 - t) * rB t + j * (elB (3 - t) * xB t)) (qXp E b n i j)
  | 0, _ => by
    rw [qXp_zero]
    have h1 := (qZ_lat h hb (show i < n by omega)).wide (qR_pos h t (by omega))
    have h2 : yB i * qR E n t ≤ yB (3 - t) * rB t := Int.mul_le_mul (yB_le (by omega)) (qR_le h hn t (by omega)) (Int.le_of_lt (qR_pos h t (by omega))) (Int.le_of_lt (yB_pos _))
    have e : 6 * elM E i i i * qR E n t = 6 * qR E n (t + 1) := by
      rw [qR, show n - 1 - t = i by omega, Int.mul_assoc, Int.mul_comm (elM E i i i)]
    exact (h1.cast e).mono (by simp; omega)
  | j + 1, hj => by
    have ih := qXp_lat h hn hb hi hx j (by omega)
    have h1 := (qL_lat h (show i < n by omega) (i + 1 + j)).mul (hx (i + 1 + j) (by omega) (by omega))
    have e : elM E i i i * (6 * qR E n t) = 6 * qR E n (t + 1) := by
      rw [qR, show n - 1 - t = i by omega, Int.mul_left_comm, Int.mul_comm (elM E i i i)]
    have h2 : elB i * xB t ≤ elB (3 - t) * xB t := Int.mul_le_mul_of_nonneg_right (elB_le (by omega)) (xB_ge t)
    rw [qXp_succ]
    refine (ih.sub ((h1.cast e).mono h2)).mono ?_
    rw [Int.natCast_add, Int.add_mul]; simp; omega
theorem qX_lats {E : Nat → Nat → Int} {n : Nat} (h : PD E n) (hn : n ≤ 4) {b : Nat → Rat} (hb : ∀ i, i < n → Lat 6 60 (b i)) : ∀ t, t ≤ n → ∀ j, n ≤ j + t → j < n → Lat (6 * qR E n t) (xB t) (qX E b n j)
  | 0, _, j, h1, h2 => by omega
  | t + 1, ht, j, h1, h2 => by
    have ih := qX_lats h hn hb t (by omega)
    have hge := xB_ge t
    have hmp := Int.mul_pos (yB_pos (3 - t)) (rB_pos t)
    have hmn := Int.mul_nonneg (Int.le_of_lt (elB_pos (3 - t))) hge
    by_cases e : n ≤ j + t
    · have hm := h.pos (n - 1 - t) (by omega)
      have h5 := ((ih j e h2).wide hm).cast (D' := 6 * qR E n (t + 1)) (by rw [qR, Int.mul_assoc])
      refine h5.mono ?_
      have hb := Int.le_trans (elM_le h.le (n - 1 - t) (n - 1 - t) (n - 1 - t)).2 (elB_le (show n - 1 - t ≤ 3 - t by omega))
      have h6 : xB t * elM E (n - 1 - t) (n - 1 - t) (n - 1 - t) ≤ xB t * elB (3 - t) := Int.mul_le_mul_of_nonneg_left hb (by omega)
      rw [Int.mul_comm (xB t) (elB (3 - t))] at h6
      simp only [xB]; omega
    · have hi : j + 1 + t = n := by omega
      have h3 := qXp_lat h hn hb hi (fun l hl hl2 => ih l (by omega) hl2) t (Nat.le_refl t)
      rw [qX_eq E b h2, show n - 1 - j = t by omega]
      refine h3.mono ?_
      have ht4 : (t : Int) ≤ 3 := by omega
      have h6 : (t : Int) * (elB (3 - t) * xB t) ≤ 3 * (elB (3 - t) * xB t) := Int.mul_le_mul_of_nonneg_right ht4 hmn
      simp only [xB]; omega
theorem qX_lat {E : Nat → Nat → Int} {n : Nat} (h : PD E n) (hn : n ≤ 4) {b : Nat → Rat} (hb : ∀ i, i < n → Lat 6 60 (b i)) {j : Nat} (hj : j < n) : Lat (6 * qR E n n) (10 ^ 19) (qX E b n j) :=
  (qX_lats h hn hb n (Nat.le_refl n) j (by omega) hj).mono (xB4 hn)
theorem qR_lt {E : Nat → Nat → Int} {n : Nat} (h : PD E n) (hn : n ≤ 4) {t : Nat} (ht : t ≤ n) : 6 * qR E n t ≤ 10 ^ 17 := by
  have h1 := qR_le h hn t ht
  have h2 : 6 * rB t ≤ 10 ^ 17 := by
    have : t = 0 ∨ t = 1 ∨ t = 2 ∨ t = 3 ∨ t = 4 := by omega
    rcases this with rfl | rfl | rfl | rfl | rfl <;> decide +kernel
  omega
theorem qXp_bound {t j : Nat} (ht : t ≤ 3) (hj : j ≤ t) : yB (3 - t) * rB t + (j : Int) * (elB (3 - t) * xB t) ≤ 10 ^ 19 := by
  have hmn := Int.mul_nonneg (Int.le_of_lt (elB_pos (3 - t))) (xB_ge t)
  have ht4 : (j : Int) ≤ 3 := by omega
  have h6 : (j : Int) * (elB (3 - t) * xB t) ≤ 3 * (elB (3 - t) * xB t) := Int.mul_le_mul_of_nonneg_right ht4 hmn
  have h7 := xB4 (show t + 1 ≤ 4 by omega)
  simp only [xB] at h7
  omega
end FE
end Go.Proofs.YtlpomcihkjiokaaGreat

namespace Go.Proofs.YtlpomcihkjiokaaGreat
open Go.RowKit Go.Joins

/-- What a call ends in that makes an iterate. -/
def CPost (w : World) (d : ItD) (e : Ending) (w' : World) : Prop := ∃ v', e = .returned v' ∧ ITD w' w.heap.size w'.heap.size v' d ∧ Below w.heap.size w w'
theorem CPost.s {w W w' : World} {d : ItD} {e : Ending} (hW : Below w.heap.size w W) (h : CPost W d e w') : ∃ A c B b C f, e = .returned (.agg #[.slice A d.x.length c, .slice B d.r.length b, .slice C d.p.length f]) ∧ ITD w' W.heap.size w'.heap.size (.agg #[.slice A d.x.length c, .slice B d.r.length b, .slice C d.p.length f]) d ∧ Below w.heap.size w w' := by
  obtain ⟨v, rfl, hv, hb⟩ := h
  obtain ⟨A, c, B, b, C, f, rfl⟩ := hv.form
  exact ⟨A, c, B, b, C, f, rfl, hv, below_trans hW hb⟩

end Go.Proofs.YtlpomcihkjiokaaGreat
