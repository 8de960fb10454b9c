/-
  Shared texts (D12).
-/
import Derived.Test.YtlpomcihkjiokaaGreatD9
import Derived.Test.YtlpomcihkjiokaaGreatD11
import Derived.Test.YtlpomcihkjiokaaGreatD8
import Derived.Test.YtlpomcihkjiokaaGreatD4
import Derived.Test.YtlpomcihkjiokaaGreatD6
import Derived.Test.YtlpomcihkjiokaaGreatD2
import Derived.Test.YtlpomcihkjiokaaGreatD1
import Derived.ProofKit
namespace Go.Proofs.YtlpomcihkjiokaaGreat

theorem FE.Is.rsgn {x : RatD} {v : Rat} (h : FE.Is x v) : rsgn x = v.num.sign := by
  unfold Go.Proofs.YtlpomcihkjiokaaGreat.rsgn
  rw [h.neg, h.okr.mag]
  by_cases c : v.num = 0
  · rw [c]; simp [FE.toL_zero]
  · have e : (FE.toL v.num.natAbs).length ≠ 0 := fun e => c (by have := FE.toL_eq_nil.1 (List.eq_nil_of_length_eq_zero e); omega)
    rw [if_neg e]
    by_cases c2 : v.num < 0
    · simp only [c2, decide_true, if_true]; rw [Int.sign_eq_neg_one_of_neg c2]
    · simp only [c2, decide_false, Bool.false_eq_true, if_false]; rw [Int.sign_eq_one_of_pos (by omega)]
theorem FE.Is.rsgn_zero {x : RatD} {v : Rat} (h : FE.Is x v) : Go.Proofs.YtlpomcihkjiokaaGreat.rsgn x = 0 ↔ v = 0 := by
  rw [h.rsgn, Int.sign_eq_zero_iff_zero]
  exact Rat.num_eq_zero
theorem FE.Is.zero_eq {x : RatD} (h : FE.Is x 0) : x = FE.rint 0 := h.same (FE.Is.int (n := 0) (by decide))
theorem FE.Is.same_iff {x y : RatD} {u v : Rat} (h : FE.Is x u) (k : FE.Is y v) (e : u = v) : x.same y = true := by
  subst e
  rw [h.same k]; exact RatD.same_refl _
theorem FE.Lat.lt18 {D B : Int} {v : Rat} (h : FE.Lat D B v) (hD : D ≤ 1000000000000000000) (hB : B ≤ 1000000000000000000) : FE.small v = true := by
  have e : (1000000000000000000 : Int) < 10 ^ 216 := by decide +kernel
  exact h.small (by omega) (by omega)

theorem getD_snoc_lt {α : Type} {d : α} {l : List α} {x : α} {i : Nat} (h : i < l.length) : (l ++ [x]).getD i d = l.getD i d := by
  rw [List.getD_eq_getElem?_getD, List.getElem?_append_left h, ← List.getD_eq_getElem?_getD]
theorem getD_snoc_eq {α : Type} {d : α} {l : List α} {x : α} : (l ++ [x]).getD l.length d = x := by
  rw [List.getD_eq_getElem?_getD, List.getElem?_append_right (Nat.le_refl _)]; simp
theorem spC_pre (xs : List RatD) (k : Nat) : ∀ m i, i < (spC xs k).length → (spC xs (k + m)).getD i 0 = (spC xs k).getD i 0 ∧ (spV xs (k + m)).getD i zR = (spV xs k).getD i zR ∧ (spC xs k).length ≤ (spC xs (k + m)).length
  | 0, _, _ => ⟨rfl, rfl, Nat.le_refl _⟩
  | m + 1, i, hi => by
    obtain ⟨h1, h2, h3⟩ := spC_pre xs k m i hi
    have e : k + (m + 1) = (k + m) + 1 := by omega
    rw [e]
    by_cases h : rsgn (xs.getD (k + m) zR) = 0
    · rw [spC_miss h, spV_miss h]; exact ⟨h1, h2, h3⟩
    · rw [spC_hit h, spV_hit h, getD_snoc_lt (by omega), getD_snoc_lt (by rw [spV_le]; omega), List.length_append]
      exact ⟨h1, h2, by omega⟩
theorem spC_get (xs : List RatD) : ∀ k i, i < (spC xs k).length → ∃ j, j < k ∧ (spC xs k).getD i 0 = (j : Int) ∧ (spV xs k).getD i zR = xs.getD j zR ∧ rsgn (xs.getD j zR) ≠ 0
  | 0, i, hi => by simp [spC] at hi
  | k + 1, i, hi => by
    by_cases h : rsgn (xs.getD k zR) = 0
    · rw [spC_miss h] at hi ⊢
      rw [spV_miss h]
      obtain ⟨j, h1, h2⟩ := spC_get xs k i hi
      exact ⟨j, by omega, h2⟩
    · rw [spC_hit h] at hi ⊢
      rw [spV_hit h]
      rw [List.length_append, List.length_cons, List.length_nil] at hi
      by_cases e : i < (spC xs k).length
      · obtain ⟨j, h1, h2⟩ := spC_get xs k i e
        rw [getD_snoc_lt e, getD_snoc_lt (by rw [spV_le]; exact e)]
        exact ⟨j, by omega, h2⟩
      · have e2 : i = (spC xs k).length := by omega
        subst e2
        refine ⟨k, by omega, getD_snoc_eq, ?_, h⟩
        rw [← spV_le]; exact getD_snoc_eq
theorem spC_asc (xs : List RatD) : ∀ k i, i + 1 < (spC xs k).length → (spC xs k).getD i 0 < (spC xs k).getD (i + 1) 0
  | 0, i, hi => by simp [spC] at hi
  | k + 1, i, hi => by
    by_cases h : rsgn (xs.getD k zR) = 0
    · rw [spC_miss h] at hi ⊢; exact spC_asc xs k i hi
    · rw [spC_hit h] at hi ⊢
      rw [List.length_append, List.length_cons, List.length_nil] at hi
      by_cases e : i + 1 < (spC xs k).length
      · rw [getD_snoc_lt e, getD_snoc_lt (by omega)]; exact spC_asc xs k i e
      · have e2 : i + 1 = (spC xs k).length := by omega
        rw [e2, getD_snoc_eq, getD_snoc_lt (by omega)]
        obtain ⟨j, h1, h2, _⟩ := spC_get xs k i (by omega)
        rw [h2]; omega
theorem spC_has (xs : List RatD) : ∀ k j, j < k → rsgn (xs.getD j zR) ≠ 0 → ∃ i, i < (spC xs k).length ∧ (spC xs k).getD i 0 = (j : Int)
  | 0, j, hj, _ => by omega
  | k + 1, j, hj, hx => by
    by_cases e : j = k
    · subst e
      rw [spC_hit hx]
      exact ⟨(spC xs j).length, by simp, getD_snoc_eq⟩
    · obtain ⟨i, h1, h2⟩ := spC_has xs k j (by omega) hx
      by_cases h : rsgn (xs.getD k zR) = 0
      · rw [spC_miss h]; exact ⟨i, h1, h2⟩
      · rw [spC_hit h]
        exact ⟨i, by rw [List.length_append]; omega, by rw [getD_snoc_lt h1]; exact h2⟩
theorem spRow_asc (xs : List RatD) : Asc (spRow xs).cols := by
  intro i j hij hj
  induction j with
  | zero => omega
  | succ j ih =>
    have h2 := spC_asc xs xs.length j hj
    have hj' : j + 1 < (spC xs xs.length).length := hj
    by_cases e : i = j
    · subst e; exact h2
    · have := ih (by omega) (show j < (spC xs xs.length).length by omega)
      show (spC xs xs.length).getD i 0 < (spC xs xs.length).getD (j + 1) 0
      have this' : (spC xs xs.length).getD i 0 < (spC xs xs.length).getD j 0 := this
      omega
/-- The elements of a row are those of the full one. -/
theorem rowAt_sp {xs : List RatD} {j : Nat} (hj : j < xs.length) {v : Rat} (hv : FE.Is (xs.getD j zR) v) : rowAt (spRow xs) (j : Int) = xs.getD j zR := by
  by_cases h : rsgn (xs.getD j zR) = 0
  · have hv0 : v = 0 := hv.rsgn_zero.1 h
    subst hv0
    rw [hv.zero_eq]
    refine rowAt_miss (fun q hq e => ?_)
    obtain ⟨i, _, h2, _, h3⟩ := spC_get xs xs.length q hq
    have e' : (spC xs xs.length).getD q 0 = (j : Int) := e
    rw [e'] at h2
    have : j = i := by omega
    subst this
    exact h3 h
  · obtain ⟨i, h1, h2⟩ := spC_has xs xs.length j hj h
    have hi : i < (spRow xs).cols.length := h1
    rw [rowAt_hit (k := i) hi h2 (fun q hq e => ?_)]
    · obtain ⟨i', _, h4, h5, _⟩ := spC_get xs xs.length i h1
      rw [h2] at h4
      have : j = i' := by omega
      subst this
      exact h5
    · have e1 := spRow_asc xs q i hq hi
      have h2' : (spRow xs).cols.getD i 0 = (j : Int) := h2
      omega
theorem spRow_ok {xs : List RatD} {n : Nat} (hl : xs.length = n) (h : ∀ j, j < n → FE.ratOk (xs.getD j zR) = true) : rowB n (spRow xs) = true := by
  subst hl
  simp only [rowB, Bool.and_eq_true, decide_eq_true_eq, Bool.not_eq_true', List.all_eq_true, List.mem_range]
  refine ⟨⟨⟨spV_le xs xs.length, ?_⟩, ?_⟩, fun i hi => ?_⟩
  · unfold vok
    rw [List.all_eq_true]
    intro y hy
    obtain ⟨i, hi, rfl⟩ := mem_getD (d := zR) hy
    have hi' : i < (spC xs xs.length).length := by rw [← spV_le]; exact hi
    obtain ⟨j, h1, _, h3, _⟩ := spC_get xs xs.length i hi'
    have h3' : (spRow xs).vals.getD i zR = xs.getD j zR := h3
    rw [h3']; exact h j h1
  · rw [List.any_eq_false]
    intro y hy
    obtain ⟨i, hi, rfl⟩ := mem_getD (d := zR) hy
    have hi' : i < (spC xs xs.length).length := by rw [← spV_le]; exact hi
    obtain ⟨j, h1, _, h3, h4⟩ := spC_get xs xs.length i hi'
    have h3' : (spRow xs).vals.getD i zR = xs.getD j zR := h3
    rw [h3']
    exact fun e => h4 (eq_of_beq e)
  · have hi' : i < (spC xs xs.length).length := hi
    obtain ⟨j, h1, h2, _, _⟩ := spC_get xs xs.length i hi'
    have h2' : (spRow xs).cols.getD i 0 = (j : Int) := h2
    simp only [colOk, Bool.and_eq_true, Bool.or_eq_true, decide_eq_true_eq]
    refine ⟨inB_true (by omega) (by omega), ?_⟩
    by_cases e : i = 0
    · exact .inl e
    · right
      have := spC_asc xs xs.length (i - 1) (by omega)
      have e2 : i - 1 + 1 = i := by omega
      rw [e2] at this
      exact this
theorem spM_len (rows : List (List RatD)) : (spM rows).length = rows.length := by simp [spM]
theorem spM_get {rows : List (List RatD)} {i : Nat} (h : i < rows.length) : (spM rows).getD i zRow = spRow (rows.getD i []) := by simp [spM, h]
theorem spM_ok {n : Nat} {F : Nat → Nat → RatD} (hn : n ≤ 40) (h : ∀ i j, i < n → j < n → FE.ratOk (F i j) = true) : mOk (spM (fullL n F)) = true := by
  simp only [mOk, Bool.and_eq_true, decide_eq_true_eq, spM_len, fullL_len]
  refine ⟨hn, all_of (d := zRow) (fun i hi => ?_)⟩
  rw [spM_len, fullL_len] at hi
  rw [spM_get (by rw [fullL_len]; exact hi)]
  exact spRow_ok (fullL_row_len hi) (fun j hj => by rw [fullL_get hi hj]; exact h i j hi hj)
/-- A sum of products. -/
def qdot (f g : Nat → Rat) : Nat → Rat
  | 0 => 0
  | k + 1 => qdot f g k + f k * g k
/-- The product of a stored row and a vector is the sum over all columns. -/
theorem sp_sum {xs us : List RatD} {X U : Nat → Rat} (hX : ∀ j, j < xs.length → FE.Is (xs.getD j zR) (X j)) (hU : ∀ j, j < xs.length → FE.Is (us.getD j zR) (U j)) (h1 : ∀ j, j < xs.length → FE.small (X j * U j) = true) (h2 : ∀ k, k ≤ xs.length → FE.small (qdot X U k) = true) :
    ∀ k, k ≤ xs.length → FE.Is (sumK (spRow xs) us (spC xs k).length) (qdot X U k)
  | 0, _ => FE.Is.int (n := 0) (by decide)
  | k + 1, hk => by
    have ih := sp_sum hX hU h1 h2 k (by omega)
    by_cases h : rsgn (xs.getD k zR) = 0
    · rw [spC_miss h]
      have hz : X k = 0 := (hX k (by omega)).rsgn_zero.1 h
      have e : qdot X U (k + 1) = qdot X U k := by
        show qdot X U k + X k * U k = _
        rw [hz, Rat.zero_mul, Rat.add_zero]
      rw [e]; exact ih
    · rw [spC_hit h, List.length_append, List.length_cons, List.length_nil]
      show FE.Is (FE.radd (sumK (spRow xs) us (spC xs k).length) (FE.rmul ((spRow xs).vals.getD (spC xs k).length zR) (us.getD ((spRow xs).cols.getD (spC xs k).length 0).toNat zR))) _
      have hl : (spC xs k).length < (spC xs (k + 1)).length := by rw [spC_hit h]; simp
      obtain ⟨e1, e2, _⟩ := spC_pre xs (k + 1) (xs.length - (k + 1)) (spC xs k).length hl
      rw [show k + 1 + (xs.length - (k + 1)) = xs.length by omega] at e1 e2
      have e3 : (spRow xs).cols.getD (spC xs k).length 0 = (k : Int) := by
        show (spC xs xs.length).getD _ 0 = _
        rw [e1, spC_hit h, getD_snoc_eq]
      have e4 : (spRow xs).vals.getD (spC xs k).length zR = xs.getD k zR := by
        show (spV xs xs.length).getD _ zR = _
        rw [e2, spV_hit h, ← spV_le, getD_snoc_eq]
      rw [e3, e4, Int.toNat_natCast]
      exact ih.add ((hX k (by omega)).mul (hU k (by omega)) (h1 k (by omega))) (h2 (k + 1) hk)
theorem vApply_get {rs : List RowD} {us : List RatD} {i : Nat} (h : i < rs.length) : (vApply rs us).getD i zR = sumK (rs.getD i zRow) us (rs.getD i zRow).cols.length := by
  simp [vApply, h]
theorem vok_getD {us : List RatD} (h : ∀ j, j < us.length → FE.ratOk (us.getD j zR) = true) : vok us = true := by
  unfold vok
  rw [List.all_eq_true]
  intro y hy
  obtain ⟨i, hi, rfl⟩ := mem_getD (d := zR) hy
  exact h i hi
/-- The product of a matrix that stores the full matrix F with a vector. -/
theorem apM_is {n : Nat} {F : Nat → Nat → RatD} {us : List RatD} {X : Nat → Nat → Rat} {U : Nat → Rat} (hn : n ≤ 40) (hl : us.length = n) (hX : ∀ i j, i < n → j < n → FE.Is (F i j) (X i j)) (hU : ∀ j, j < n → FE.Is (us.getD j zR) (U j))
    (h1 : ∀ i j, i < n → j < n → FE.small (X i j * U j) = true) (h2 : ∀ i k, i < n → k ≤ n → FE.small (qdot (X i) U k) = true) :
    (apM (spM (fullL n F)) us).length = n ∧ ∀ i, i < n → FE.Is ((apM (spM (fullL n F)) us).getD i zR) (qdot (X i) U n) := by
  have e : ∀ i, i < n → FE.Is ((vApply (spM (fullL n F)) us).getD i zR) (qdot (X i) U n) := by
    intro i hi
    rw [vApply_get (by rw [spM_len, fullL_len]; exact hi), spM_get (by rw [fullL_len]; exact hi)]
    have hrl : ((fullL n F).getD i []).length = n := fullL_row_len hi
    have := sp_sum (xs := (fullL n F).getD i []) (us := us) (X := X i) (U := U) (fun j hj => by rw [hrl] at hj; rw [fullL_get hi hj]; exact hX i j hi hj) (fun j hj => by rw [hrl] at hj; exact hU j hj) (fun j hj => by rw [hrl] at hj; exact h1 i j hi hj) (fun k hk => by rw [hrl] at hk; exact h2 i k hi hk) n (by rw [hrl]; exact Nat.le_refl _)
    have e2 : (spRow ((fullL n F).getD i [])).cols.length = (spC ((fullL n F).getD i []) n).length := by
      show (spC _ ((fullL n F).getD i []).length).length = _
      rw [hrl]
    rw [e2]; exact this
  have hv : vok (vApply (spM (fullL n F)) us) = true := vok_getD (fun j hj => (e j (by rw [vApply_len, spM_len, fullL_len] at hj; exact hj)).ok)
  have ha : apM (spM (fullL n F)) us = vApply (spM (fullL n F)) us := by
    unfold apM vFull
    rw [spM_ok hn (fun i j hi hj => (hX i j hi hj).ok), hv, vok_getD (fun j hj => (hU j (by omega)).ok), spM_len, fullL_len, hl]
    simp
  rw [ha]
  exact ⟨by rw [vApply_len, spM_len, fullL_len], e⟩
end Go.Proofs.YtlpomcihkjiokaaGreat

namespace Go.Proofs.YtlpomcihkjiokaaGreat
open Go.RowKit Go.Joins

def entR (rs : List RowD) (i j : Int) : RatD := if mOk rs && inB i 0 ((rs.length : Int) - 1) && inB j 0 ((rs.length : Int) - 1) then rowAt (rs.getD i.toNat zRow) j else zR
theorem inB_of {n lo hi : Int} (h : inB n lo hi = true) : lo ≤ n ∧ n ≤ hi := by simpa [inB] using h

set_option maxRecDepth 100000 in
set_option maxHeartbeats 1600000 in
theorem iEntryOf (rs : List RowD) (u : Value) (i j : Int) (w : World) (hu : MatV w u rs) (hf : MFew rs) :
    Calls Tryz.prog 48 #[u, .int .i64 i, .int .i64 j] w fun e w' => ∃ v', e = .returned v' ∧ RatP w' w.heap.size v' (entR rs i j) ∧ Below w.heap.size w w' := by
  have HU := Lib.hid (fun W (hW : Below w.heap.size w W) => hu.later hW)
  obtain ⟨A, c, rfl, _, _⟩ := hu
  have hn1 := hf.1
  have HF := Lib.hid hf
  clear hf
  have HM := fun W hW => iIsMatrix rs _ W (HU.out W hW) HF.out
  have HI := fun W => iWithin i 0 ((rs.length : Int) - 1) W
  have HJ := fun W => iWithin j 0 ((rs.length : Int) - 1) W
  have HE := show entR rs i j = if mOk rs && inB i 0 ((rs.length : Int) - 1) && inB j 0 ((rs.length : Int) - 1) then rowAt (rs.getD i.toNat zRow) j else zR from rfl
  have HBI := fun h => inB_of (n := i) (lo := 0) (hi := (rs.length : Int) - 1) h
  have HOK := fun (h : mOk rs = true) (k : Nat) (hk : k < rs.length) => mOk_row h hk
  obtain ⟨R, hR⟩ : ∃ R, entR rs i j = R := ⟨_, rfl⟩
  rw [hR] at HE ⊢
  clear hR
  generalize mOk rs = bm at *
  generalize inB i 0 ((rs.length : Int) - 1) = bi at *
  generalize inB j 0 ((rs.length : Int) - 1) = bj at *
  obtain ⟨n, hn⟩ : ∃ n, rs.length = n := ⟨_, rfl⟩
  have HN := Lib.hid hn
  rw [hn] at HI HJ HM HU HBI HOK hn1 ⊢
  clear hn
  have hW := below_alloc2 w (.cells #[.slice A n c] 52) (.cells #[.bool false, .slice none 0 0, .slice none 0 0] 57)
  have S0 := Slots.new (below_step (Below.refl _ ((w.alloc (.cells #[.slice A n c] 52)).alloc (.cells #[.bool false, .slice none 0 0, .slice none 0 0] 57)))) (g := w.heap.size) rfl
  have R0 := Slots.new (Below.refl _ ((w.alloc (.cells #[.slice A n c] 52)).alloc (.cells #[.bool false, .slice none 0 0, .slice none 0 0] 57))) (g := w.heap.size + 1) (by simp)
  obtain ⟨a0, _⟩ := S0.k1
  replace HOK := Lib.hid HOK
  replace HBI := Lib.hid HBI
  cases bi
  · simp only [Bool.and_false, Bool.false_and, Bool.false_eq_true, if_false] at HE
    replace HI := Lib.hid HI
    replace HJ := Lib.hid HJ
    replace HM := Lib.hid HM
    replace HE := HE
    have HE1 := Lib.hid (show R = zR from HE)
    clear HE
    go_enter Tryz.func48, Tryz.ntmps48
    go_wp2_with fail
    refine (HI.out _).mono ?_
    rintro e w3 ⟨rfl, hw3⟩
    subst w3
    have hb := hW
    obtain ⟨b0, b1, b2, z0, z1, z2⟩ := R0.c3
    have hb' := below3 hb (show w.heap.size ≤ w.heap.size + 1 by omega) (.bool false) (.slice none 0 0) (.slice none 0 0)
    clear S0 R0 HI HJ HM
    go_wp2
    exact bodyPost_ret (v := .agg #[.bool false, .slice none 0 0, .slice none 0 0]) (by simp [results, Tryz.results48, go_sem, b0, b1, b2]) rfl ⟨_, rfl, HE1.out ▸ RatP.zero _ _, (by first | exact hb' | exact hb)⟩
  · skip
    cases bj
    · simp only [Bool.and_false, Bool.false_eq_true, if_false] at HE
      replace HI := Lib.hid HI
      replace HJ := Lib.hid HJ
      replace HM := Lib.hid HM
      replace HE := HE
      have HE1 := Lib.hid (show R = zR from HE)
      clear HE
      go_enter Tryz.func48, Tryz.ntmps48
      go_wp2_with fail
      refine (HI.out _).mono ?_
      rintro e w3 ⟨rfl, hw3⟩
      subst w3
      go_wp2_with fail
      refine (HJ.out _).mono ?_
      rintro e w4 ⟨rfl, hw4⟩
      subst w4
      have hb := hW
      obtain ⟨b0, b1, b2, z0, z1, z2⟩ := R0.c3
      have hb' := below3 hb (show w.heap.size ≤ w.heap.size + 1 by omega) (.bool false) (.slice none 0 0) (.slice none 0 0)
      clear S0 R0 HI HJ HM
      go_wp2
      exact bodyPost_ret (v := .agg #[.bool false, .slice none 0 0, .slice none 0 0]) (by simp [results, Tryz.results48, go_sem, b0, b1, b2]) rfl ⟨_, rfl, HE1.out ▸ RatP.zero _ _, (by first | exact hb' | exact hb)⟩
    · skip
      cases bm
      · simp only [Bool.false_and, Bool.false_eq_true, if_false] at HE
        replace HI := Lib.hid HI
        replace HJ := Lib.hid HJ
        replace HM := Lib.hid HM
        replace HE := HE
        have HE1 := Lib.hid (show R = zR from HE)
        clear HE
        go_enter Tryz.func48, Tryz.ntmps48
        go_wp2_with fail
        refine (HI.out _).mono ?_
        rintro e w3 ⟨rfl, hw3⟩
        subst w3
        go_wp2_with fail
        refine (HJ.out _).mono ?_
        rintro e w4 ⟨rfl, hw4⟩
        subst w4
        go_wp2_with fail
        refine (HM.out _ hW).mono ?_
        rintro e w5 ⟨rfl, hb5⟩
        replace S0 := S0.later hb5
        replace R0 := R0.later hb5
        have hb := below_trans hW hb5
        obtain ⟨b0, b1, b2, z0, z1, z2⟩ := R0.c3
        have hb' := below3 hb (show w.heap.size ≤ w.heap.size + 1 by omega) (.bool false) (.slice none 0 0) (.slice none 0 0)
        clear S0 R0 HI HJ HM
        go_wp2
        exact bodyPost_ret (v := .agg #[.bool false, .slice none 0 0, .slice none 0 0]) (by simp [results, Tryz.results48, go_sem, b0, b1, b2]) rfl ⟨_, rfl, HE1.out ▸ RatP.zero _ _, (by first | exact hb' | exact hb)⟩
      · skip
        replace HI := Lib.hid HI
        replace HJ := Lib.hid HJ
        replace HM := Lib.hid HM
        replace HE := Lib.hid HE
        go_enter Tryz.func48, Tryz.ntmps48
        go_wp2_with fail
        refine (HI.out _).mono ?_
        rintro e w3 ⟨rfl, hw3⟩
        subst w3
        go_wp2_with fail
        refine (HJ.out _).mono ?_
        rintro e w4 ⟨rfl, hw4⟩
        subst w4
        go_wp2_with fail
        refine (HM.out _ hW).mono ?_
        rintro e w5 ⟨rfl, hb5⟩
        replace S0 := S0.later hb5
        replace R0 := R0.later hb5
        have hb := below_trans hW hb5
        clear a0
        have hlt := HBI.out (by trivial)
        obtain ⟨i', rfl⟩ : ∃ k : Nat, i = (k : Int) := ⟨i.toNat, by omega⟩
        have hil : i' < rs.length := by rw [HN.out]; omega
        obtain ⟨okA, _, okC, _⟩ := HOK.out (by trivial) i' (by rw [← HN.out]; exact hil)
        obtain ⟨fr1, fr2⟩ := rowAt_few (HF.out.2 i' hil) j
        have hE0 := HE.out
        simp only [Bool.and_self, if_true, Int.toNat_natCast] at hE0
        rw [← hE0] at fr1 fr2
        have HEN := Lib.hid (fun W (hW : Below w.heap.size w W) => (hE0.symm ▸ iEntry rs _ i' j W (HU.out W hW) HF.out hil (by rw [okA]; exact Nat.le_refl _) okC : Calls Tryz.prog 91 #[_, .int .i64 i', .int .i64 j] W fun e w' => ∃ v', e = .returned v' ∧ RatV w' v' R ∧ Below W.heap.size W w'))
        have HCR := Lib.hid (fun W v (hv : RatV W v R) => iCopyRat R v W hv fr1 fr2)
        clear hE0 HE hil okA okC fr1 fr2
        obtain ⟨a0, _⟩ := S0.k1
        go_wp2_with fail
        refine (HEN.out _ hb).mono ?_
        rintro e w6 ⟨v6, rfl, hv6, hb6⟩
        replace R0 := R0.later hb6
        replace hb := below_trans hb hb6
        clear a0
        go_wp2_with fail
        refine (HCR.out _ _ hv6).mono ?_
        rintro e w7 ⟨v7, rfl, hrp, hb7⟩
        replace hrp := hrp.mono (base' := w.heap.size + 1 + 1) (by have := R0.1; omega)
        replace R0 := R0.later hb7
        replace hb := below_trans hb hb7
        obtain ⟨A6, n6, c6, B6, m6, d6, rfl⟩ := hrp.shape
        obtain ⟨b0, b1, b2, z0, z1, z2⟩ := R0.c3
        have hb' := below3 hb (show w.heap.size ≤ w.heap.size + 1 by omega) (.bool R.neg) (.slice A6 n6 c6) (.slice B6 m6 d6)
        have f6 := hrp.far3 (g := w.heap.size + 1) (Nat.lt_succ_self _) (.bool R.neg) (.slice A6 n6 c6) (.slice B6 m6 d6)
        replace f6 := f6.mono (base' := w.heap.size) (by omega)
        clear S0 R0 hrp HI HJ HM hv6
        go_wp2
        exact bodyPost_ret (v := .agg #[.bool R.neg, .slice A6 n6 c6, .slice B6 m6 d6]) (by simp [results, Tryz.results48, go_sem, b0, b1, b2]) rfl ⟨_, rfl, f6, hb'⟩

end Go.Proofs.YtlpomcihkjiokaaGreat

namespace Go.Proofs.YtlpomcihkjiokaaGreat

theorem FewR.is {r : RatD} (h : FewR r) : ∃ v, FE.Is r v ∧ FE.Lat 6 60 v := by
  obtain ⟨n, d, h1, h2, h3, h4, rfl⟩ := h
  have hl : FE.Lat 6 60 (_root_.mkRat n d) := by
    have hd : d = 1 ∨ d = 2 ∨ d = 3 := by omega
    refine ⟨by decide, n * (6 / d : Nat), ?_, ?_, ?_⟩
    · rw [Rat.mkRat_eq_div, Rat.intCast_mul]
      rcases hd with rfl | rfl | rfl
      · show (n : Rat) / (1 : Nat) * ((6 : Int) : Rat) = (n : Rat) * ((6 : Int) : Rat)
        grind
      · show (n : Rat) / (2 : Nat) * ((6 : Int) : Rat) = (n : Rat) * ((3 : Int) : Rat)
        grind
      · show (n : Rat) / (3 : Nat) * ((6 : Int) : Rat) = (n : Rat) * ((2 : Int) : Rat)
        grind
    · rcases hd with rfl | rfl | rfl <;> simp <;> omega
    · rcases hd with rfl | rfl | rfl <;> simp <;> omega
  exact ⟨_, FE.Is.of_low (by omega) rfl (hl.lt18 (by decide) (by decide)), hl⟩
theorem getD_mem {us : List RatD} {j : Nat} (hj : j < us.length) : us.getD j zR ∈ us := by
  rw [List.getD_eq_getElem?_getD, List.getElem?_eq_getElem hj]; exact List.getElem_mem hj
theorem few_lats {us : List RatD} (h : ∀ r ∈ us, FewR r) : ∃ U : Nat → Rat, ∀ j, j < us.length → FE.Is (us.getD j zR) (U j) ∧ FE.Lat 6 60 (U j) := by
  refine ⟨fun j => if hj : j < us.length then (h (us.getD j zR) (getD_mem hj)).is.choose else 0, fun j hj => ?_⟩
  simp only [hj, dif_pos]
  exact (h (us.getD j zR) (getD_mem hj)).is.choose_spec
theorem rint_is {y : Int} (h1 : -10 ≤ y) (h2 : y ≤ 1000) : FE.Is (FE.rint y) (y : Rat) := FE.Is.int (by
  have e : (1000 : Nat) < 10 ^ 216 := by decide +kernel
  omega)
theorem qdot_lat {f g : Nat → Rat} {D B : Int} {n : Nat} (hD : 0 < D) (h : ∀ j, j < n → FE.Lat D B (f j * g j)) : ∀ k, k ≤ n → FE.Lat D (B * k) (qdot f g k)
  | 0, _ => by
    refine ⟨hD, 0, ?_, by simp, by simp⟩
    show (0 : Rat) * _ = _
    rw [Rat.zero_mul]; rfl
  | k + 1, hk => by
    have h1 := qdot_lat hD h k (by omega)
    have h2 := h1.add (h k (by omega))
    have e : B * (k : Int) + B = B * ((k + 1 : Nat) : Int) := by
      rw [Int.natCast_add, Int.mul_add]; simp
    rw [← e]; exact h2
theorem qdot_comb (r s : Rat) (f g : Nat → Rat) : ∀ k, qdot (fun j => r * f j + s * f j) g k = (r + s) * qdot f g k
  | 0 => by show (0 : Rat) = (r + s) * 0; rw [Rat.mul_zero]
  | k + 1 => by
    have ih := qdot_comb r s f g k
    show qdot (fun j => r * f j + s * f j) g k + (r * f k + s * f k) * g k = (r + s) * (qdot f g k + f k * g k)
    rw [ih]; grind
theorem intL_rowAt {n : Nat} {E : Nat → Nat → Int} (h : ∀ p q, -1 ≤ E p q ∧ E p q ≤ 7) {i j : Nat} (hi : i < n) (hj : j < n) : rowAt ((spM (intL n E)).getD i zRow) (j : Int) = FE.rint (E i j) := by
  rw [spM_get (by rw [intL_len]; exact hi)]
  have hv : FE.Is (((intL n E).getD i []).getD j zR) (E i j : Rat) := by
    rw [intL_get hi hj]; exact rint_is (by have := (h i j).1; omega) (by have := (h i j).2; omega)
  rw [rowAt_sp (by rw [intL_row_len hi]; exact hj) hv, intL_get hi hj]
theorem intL_mOk {n : Nat} {E : Nat → Nat → Int} (hn : n ≤ 40) (h : ∀ p q, -1 ≤ E p q ∧ E p q ≤ 7) : mOk (spM (intL n E)) = true :=
  spM_ok hn (fun i j _ _ => (rint_is (by have := (h i j).1; omega) (by have := (h i j).2; omega)).ok)
theorem intL_mSym {n : Nat} {E : Nat → Nat → Int} (hn : n ≤ 40) (h : DrI E n) : mSym (spM (intL n E)) = true := by
  refine mSym_yes (intL_mOk hn h.all) (fun i hi => ?_)
  rw [spM_len, intL_len] at hi
  unfold symRow
  rw [List.all_eq_true]
  intro k hk
  rw [List.mem_range] at hk
  unfold symAt
  rw [spM_get (by rw [intL_len]; exact hi)] at hk ⊢
  have hl : ((intL n E).getD i []).length = n := intL_row_len hi
  have hk' : k < (spC ((intL n E).getD i []) ((intL n E).getD i []).length).length := hk
  obtain ⟨j, h1, h2, h3, _⟩ := spC_get _ _ k hk'
  have h2' : (spRow ((intL n E).getD i [])).cols.getD k 0 = (j : Int) := h2
  have h3' : (spRow ((intL n E).getD i [])).vals.getD k zR = ((intL n E).getD i []).getD j zR := h3
  rw [hl] at h1
  rw [h2', h3', Int.toNat_natCast, intL_get hi h1, intL_rowAt h.all h1 hi, h.sym i j]
  exact RatD.same_refl _
theorem matrices_plain {n : Nat} {E : Nat → Nat → Int} {us : List RatD} {r : RatD} (h1 : 1 ≤ n) (h4 : n ≤ 4) (hE : DrI E n) (hl : us.length = n) (hu : ∀ x ∈ us, FewR x) (hr : FewR r) :
    (combOk r (spM (intL n E)) (FE.rint 2) (spM (intL n E)) = true ∧ (apM (combM r (spM (intL n E)) (FE.rint 2) (spM (intL n E))) us).length = n) ∧ (apM (spM (intL n E)) us).length = n ∧ mOk (spM (intL n E)) = true ∧ mSym (spM (intL n E)) = true ∧
    (∀ i, i < n → ((apM (combM r (spM (intL n E)) (FE.rint 2) (spM (intL n E))) us).getD i zR).same (FE.rmul (FE.radd r (FE.rint 2)) ((apM (spM (intL n E)) us).getD i zR)) = true) ∧
    (entR (spM (intL n E)) 0 ((n : Int) - 1)).same (entR (spM (intL n E)) ((n : Int) - 1) 0) = true := by
  have hok := intL_mOk (n := n) (by omega) hE.all
  obtain ⟨v, hv, hlv⟩ := hr.is
  obtain ⟨U, hU⟩ := few_lats hu
  rw [hl] at hU
  have hEl : ∀ i j, FE.Lat 1 7 ((E i j : Int) : Rat) := fun i j => FE.Lat.int (by have := (hE.all i j).1; omega) (by have := (hE.all i j).2; omega)
  have h2l : FE.Lat 1 2 ((2 : Int) : Rat) := FE.Lat.int (by decide) (by decide)
  have h2 : FE.Is (FE.rint 2) ((2 : Int) : Rat) := rint_is (by decide) (by decide)
  -- the entries of the combination
  have hmr : ∀ i j, FE.Lat 6 420 (v * (E i j : Rat)) := fun i j => hlv.mul (hEl i j)
  have hms : ∀ i j, FE.Lat 6 84 (((2 : Int) : Rat) * (E i j : Rat)) := fun i j => (h2l.mul (hEl i j)).wide (k := 6) (by decide)
  have hcl : ∀ i j, FE.Lat 6 504 (v * (E i j : Rat) + ((2 : Int) : Rat) * (E i j : Rat)) := fun i j => (hmr i j).add (hms i j)
  have hC : ∀ i j, i < n → j < n → FE.Is (combE r (spM (intL n E)) (FE.rint 2) (spM (intL n E)) i j) (v * (E i j : Rat) + ((2 : Int) : Rat) * (E i j : Rat)) := by
    intro i j hi hj
    unfold combE
    rw [intL_rowAt hE.all hi hj]
    have he := rint_is (y := E i j) (by have := (hE.all i j).1; omega) (by have := (hE.all i j).2; omega)
    exact (hv.mul he ((hmr i j).lt18 (by decide) (by decide))).add (h2.mul he ((hms i j).lt18 (by decide) (by decide))) ((hcl i j).lt18 (by decide) (by decide))
  have hin : combIn r (spM (intL n E)) (FE.rint 2) (spM (intL n E)) = true := by
    unfold combIn
    rw [hok, hv.ok, h2.ok]
    simp
  have hlen : (spM (intL n E)).length = n := by rw [spM_len, intL_len]
  have hsp : spOk (combL r (spM (intL n E)) (FE.rint 2) (spM (intL n E))) = true := by
    unfold spOk combL
    rw [hlen]
    refine all_of (d := []) (fun i hi => ?_)
    rw [fullL_len] at hi
    exact vok_of (fun j hj => by rw [fullL_row_len hi] at hj; rw [fullL_get hi hj]; exact (hC i j hi hj).ok)
  have hcm : combM r (spM (intL n E)) (FE.rint 2) (spM (intL n E)) = spM (fullL n (combE r (spM (intL n E)) (FE.rint 2) (spM (intL n E)))) := by
    unfold combM spR
    rw [hin, hsp]
    simp only [if_true]
    unfold combL
    rw [hlen]
  have hx := apM_is (F := fun i j => FE.rint (E i j)) (X := fun i j => (E i j : Rat)) (U := U) (us := us) (n := n) (by omega) hl (fun i j _ _ => rint_is (by have := (hE.all i j).1; omega) (by have := (hE.all i j).2; omega)) (fun j hj => (hU j hj).1)
    (fun i j _ hj => ((hEl i j).mul (hU j hj).2).lt18 (by decide) (by decide)) (fun i k _ hk => (qdot_lat (D := 6) (B := 420) (n := n) (by decide) (fun j hj => (hEl i j).mul (hU j hj).2) k hk).lt18 (by decide) (by omega))
  have hy := apM_is (F := combE r (spM (intL n E)) (FE.rint 2) (spM (intL n E))) (X := fun i j => v * (E i j : Rat) + ((2 : Int) : Rat) * (E i j : Rat)) (U := U) (us := us) (n := n) (by omega) hl hC (fun j hj => (hU j hj).1)
    (fun i j _ hj => ((hcl i j).mul (hU j hj).2).lt18 (by decide) (by decide)) (fun i k _ hk => (qdot_lat (D := 36) (B := 30240) (n := n) (by decide) (fun j hj => (hcl i j).mul (hU j hj).2) k hk).lt18 (by decide) (by omega))
  refine ⟨⟨by unfold combOk; rw [hin, hsp]; rfl, by rw [hcm]; exact hy.1⟩, hx.1, hok, intL_mSym (by omega) hE, fun i hi => ?_, ?_⟩
  · have hsum : FE.Lat 6 72 (v + ((2 : Int) : Rat)) := hlv.add (h2l.wide (k := 6) (by decide))
    have ha := hv.add h2 (hsum.lt18 (by decide) (by decide))
    have hq := qdot_lat (D := 6) (B := 420) (n := n) (f := fun j => (E i j : Rat)) (g := U) (by decide) (fun j hj => (hEl i j).mul (hU j hj).2) n (Nat.le_refl _)
    have hm := ha.mul (hx.2 i hi) ((hsum.mul hq).lt18 (by decide) (by omega))
    rw [hcm]
    exact (hy.2 i hi).same_iff hm (qdot_comb v _ _ U n)
  · have hn : (n : Int) - 1 = ((n - 1 : Nat) : Int) := by omega
    unfold entR
    rw [hok, hlen]
    have i1 : inB 0 0 ((n : Int) - 1) = true := inB_true (by omega) (by omega)
    have i2 : inB ((n : Int) - 1) 0 ((n : Int) - 1) = true := inB_true (by omega) (by omega)
    rw [i1, i2]
    simp only [Bool.and_self, if_true]
    rw [hn, Int.toNat_natCast]
    have e1 := intL_rowAt hE.all (show 0 < n by omega) (show n - 1 < n by omega)
    have e2 := intL_rowAt hE.all (show n - 1 < n by omega) (show 0 < n by omega)
    rw [show ((0 : Int)).toNat = 0 from rfl, e1]
    rw [show ((0 : Nat) : Int) = 0 from rfl] at e2
    rw [e2, hE.sym]
    exact RatD.same_refl _
end Go.Proofs.YtlpomcihkjiokaaGreat

namespace Go.Proofs.YtlpomcihkjiokaaGreat
open Go.RowKit Go.Joins

theorem MX.frame {S : Nat → Prop} {w w' : World} {lo hi : Nat} {v : Value} {rs : List RowD} (h : MX w lo hi v rs) (hf : Frame S w w') (hs : ∀ b, lo ≤ b → b < hi → ¬ S b) : MX w' lo hi v rs := by
  obtain ⟨qs, h⟩ := h
  exact ⟨qs, h.frame hf hs⟩
/-- A fraction of the call's own; its parts may lie in one block. -/
def RX (w : World) (lo hi : Nat) (v : Value) (x : RatD) : Prop := ∃ va vb, v = .agg #[.bool x.neg, va, vb] ∧ PO w lo hi va x.mag ∧ PO w lo hi vb x.den
theorem RX.form {w : World} {lo hi : Nat} {v : Value} {x : RatD} (h : RX w lo hi v x) : ∃ A c B d, v = .agg #[.bool x.neg, .slice A x.mag.length c, .slice B x.den.length d] := by
  obtain ⟨va, vb, rfl, h1, h2⟩ := h
  obtain ⟨A, c, rfl, _⟩ := h1.form
  obtain ⟨B, d, rfl, _⟩ := h2.form
  exact ⟨A, c, B, d, rfl⟩
theorem RX.frame {S : Nat → Prop} {w w' : World} {lo hi : Nat} {v : Value} {x : RatD} (h : RX w lo hi v x) (hf : Frame S w w') (hs : ∀ b, lo ≤ b → b < hi → ¬ S b) : RX w' lo hi v x := by
  obtain ⟨va, vb, rfl, h1, h2⟩ := h
  exact ⟨va, vb, rfl, h1.frame hf (fun b hb => hs b (h1.2 b hb).1 (h1.2 b hb).2), h2.frame hf (fun b hb => hs b (h2.2 b hb).1 (h2.2 b hb).2)⟩
theorem RX.later {w w' : World} {lo hi : Nat} {v : Value} {x : RatD} (h : RX w lo hi v x) (hb : Below w.heap.size w w') : RX w' lo hi v x := h.frame (Frame.of_below (S := fun _ => False) hb) (fun _ _ _ h => h)
theorem RX.reads {w : World} {lo hi : Nat} {v : Value} {x : RatD} (h : RX w lo hi v x) : RatV w v x := by
  obtain ⟨va, vb, rfl, h1, h2⟩ := h
  exact RatO.reads ⟨va, vb, rfl, h1.1, h2.1⟩
end Go.Proofs.YtlpomcihkjiokaaGreat

namespace Go.Proofs.YtlpomcihkjiokaaGreat
open Go.ChangeShapes Go.RowKit Go.Joins Go.Deep

section
variable {H : Type} {enc : TypeId × Value → H} {w : World}

end
end Go.Proofs.YtlpomcihkjiokaaGreat

namespace Go.Proofs.YtlpomcihkjiokaaGreat
open Go.ChangeShapes Go.RowKit Go.Joins Go.Deep Go.WideShapes

section
variable {H : Type} {enc : TypeId × Value → H} {w : World}

end
end Go.Proofs.YtlpomcihkjiokaaGreat

namespace Go.Proofs.YtlpomcihkjiokaaGreat
open Go.ChangeShapes Go.WideShapes Go.ChangeAt Go.RowKit Go.Joins Go.WideElems Go.Deep
theorem u8_of_wf {n : Int} (h : (Lit.int .u8 n).wf = true) : 0 ≤ n ∧ n < 256 := by
  have h2 : IntKind.u8.min ≤ n ∧ n ≤ IntKind.u8.max := by simpa [Lit.wf] using h
  rw [show IntKind.u8.min = 0 from rfl, show IntKind.u8.max = 255 from rfl] at h2
  omega
section
variable {H : Type} {enc : TypeId × Value → H} {w : World}
theorem openBytes {v : Value} {d : DataW H} {p : List MemPlace} (hv : ∃ a len cap, v = .slice a len cap) (h : DataW.Trod enc Tryz.prog w 0 (fun _ => true) true 72 v d p) :
    ∃ (A : Option Addr) (n c : Nat), v = .slice A n c ∧ n ≤ maxLen ∧ BI w A n := by
  obtain ⟨a, n, cap, rfl⟩ := hv
  obtain ⟨fuel, hf⟩ := h
  rcases Go.ChangeShapes.open_ints Tryz.underlying72 Tryz.underlying5 (by kernel_rfl) hf with ⟨h1, _⟩ | ⟨a', len, cap', zs, h1, _, hlc, hcm, hzl, _, hcell, hwf⟩
  · simp [Value.cells] at h1
    obtain ⟨rfl, rfl, rfl⟩ := h1
    exact ⟨none, 0, 0, rfl, Nat.zero_le _, fun h => absurd rfl h⟩
  · simp [Value.cells] at h1
    obtain ⟨rfl, rfl, rfl⟩ := h1
    simp only [if_true] at hzl
    refine ⟨_, n, cap, rfl, Nat.le_trans hlc hcm, fun h0 => ?_⟩
    have hc0 := hcell 0 (by omega)
    obtain ⟨b, o, s⟩ := a'
    simp only [Addr.add, if_true] at hc0
    obtain ⟨hb, rfl⟩ := lt_of_cell' hc0
    refine ⟨b, o, rfl, hb, fun j hj => ⟨zs.getD j 0, ?_, ?_⟩⟩
    · have hm : zs.getD j 0 ∈ zs := by
        rw [List.getD_eq_getElem?_getD, List.getElem?_eq_getElem (by omega)]; exact List.getElem_mem (by omega)
      exact u8_of_wf (hwf _ hm)
    · have e1 : (⟨b, o, none⟩ : Addr).add j = ⟨b, o + j, none⟩ := by
        unfold Addr.add
        split
        · rename_i h; subst h; rfl
        · rfl
      have h2 := hcell j (by omega)
      rw [e1] at h2
      exact h2
end
end Go.Proofs.YtlpomcihkjiokaaGreat
