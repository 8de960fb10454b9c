/-
  Shared texts (F15).
-/
import Derived.Test.YtlpomcihkjiokaaGreatF14
import Derived.Test.YtlpomcihkjiokaaGreatF10
namespace Go.Proofs.YtlpomcihkjiokaaGreat

section
variable {n : Nat} {E : Nat → Nat → Int}
theorem six_le {z : Int} (h : z ≤ 10 ^ 19) : 6 * z ≤ 10 ^ 20 := by
  have e : (10 : Int) ^ 20 = 10 ^ 19 * 10 := by decide +kernel
  have := p10_pos 19
  omega
theorem yB_20 {k : Nat} (h : k ≤ 3) : FE.yB k ≤ 10 ^ 20 := by
  have : k = 0 ∨ k = 1 ∨ k = 2 ∨ k = 3 := by omega
  rcases this with rfl | rfl | rfl | rfl <;> decide +kernel
theorem qYp_sz (h : FE.PD E n) (hn : n ≤ 4) {b : Nat → Rat} (hb : ∀ i, i < n → FE.Lat 6 60 (b i)) {t i : Nat} (ht : t ≤ i) (hi : i < n) : Sz 20 (FE.qYp E b i t) :=
  (FE.qYp_lat h hb t i ht hi).sz (six_le (Int.le_trans (FE.elD_le h.le h.pos t (by omega)) (elC_19 (by omega)))) (yB_20 (by omega))
theorem qY_sz (h : FE.PD E n) (hn : n ≤ 4) {b : Nat → Rat} (hb : ∀ i, i < n → FE.Lat 6 60 (b i)) {i : Nat} (hi : i < n) : Sz 20 (FE.qY E b i) := by
  rw [FE.qY_eq]; exact qYp_sz h hn hb (Nat.le_refl i) hi
theorem qZ_sz (h : FE.PD E n) (hn : n ≤ 4) {b : Nat → Rat} (hb : ∀ i, i < n → FE.Lat 6 60 (b i)) {i : Nat} (hi : i < n) : Sz 20 (FE.qZ E b i) :=
  (FE.qZ_lat h hb hi).sz (six_le (Int.le_trans (FE.elM_le h.le i i i).2 (elB_19 (by omega)))) (yB_20 (by omega))
theorem qX_sz (h : FE.PD E n) (hn : n ≤ 4) {b : Nat → Rat} (hb : ∀ i, i < n → FE.Lat 6 60 (b i)) {i : Nat} (hi : i < n) : Sz 19 (FE.qX E b n i) :=
  (FE.qX_lat h hn hb hi).sz (Int.le_trans (FE.qR_lt h hn (Nat.le_refl n)) (p10_mono (by decide))) (Int.le_refl _)
theorem qXp_sz (h : FE.PD E n) (hn : n ≤ 4) {b : Nat → Rat} (hb : ∀ i, i < n → FE.Lat 6 60 (b i)) {t i j : Nat} (hi : i + 1 + t = n) (hj : j ≤ t) : Sz 19 (FE.qXp E b n i j) :=
  (FE.qXp_lat h hn hb hi (fun l hl hl2 => FE.qX_lats h hn hb t (by omega) l (by omega) hl2) j hj).sz (Int.le_trans (FE.qR_lt h hn (show t + 1 ≤ n by omega)) (p10_mono (by decide))) (FE.qXp_bound (by omega) hj)
theorem upd_get (x : List RatD) (i k : Nat) (r : RatD) (j : Nat) : (upd x i k r).getD j zR = if i = j ∧ j < x.length then FE.rsub (x.getD i zR) (FE.rmul r (x.getD k zR)) else x.getD j zR := by
  unfold upd
  rw [getD_setR]
/-- What a solution's first loop needs of the factorization. -/
structure LowIs (E : Nat → Nat → Int) (n : Nat) (L : List (List RatD)) (P : List RatD) : Prop where
  low : ∀ i k, i < n → k < i → FE.Is (lowE L i k) (FE.qL E i k)
  piv : ∀ i, i < n → FE.Is (P.getD i zR) (FE.qP E i)
theorem fw1_is (h : FE.PD E n) (hn : n ≤ 4) {L : List (List RatD)} {P x : List RatD} (hL : LowIs E n L P) {b : Nat → Rat} (hb : ∀ i, i < n → FE.Lat 6 60 (b i)) {i : Nat} (hi : i < n) (hx : x.length = n)
    (h0 : ∀ j, j < i → FE.Is (x.getD j zR) (FE.qY E b j)) (h1 : FE.Is (x.getD i zR) (b i)) : ∀ k, k ≤ i → FE.Is ((fw1 L i x k).getD i zR) (FE.qYp E b i k) ∧ ∀ j, j ≠ i → (fw1 L i x k).getD j zR = x.getD j zR
  | 0, _ => ⟨by rw [FE.qYp_zero]; exact h1, fun _ _ => rfl⟩
  | k + 1, hk => by
    obtain ⟨a1, a2⟩ := fw1_is h hn hL hb hi hx h0 h1 k (by omega)
    have hl : (fw1 L i x k).length = n := (fw1_len _ _ _ _).trans hx
    rw [fw1]
    refine ⟨?_, fun j hj => ?_⟩
    · rw [upd_get, if_pos ⟨rfl, by omega⟩, a2 k (by omega)]
      have s := (qL_sz h hn (show k < n by omega) i).mul (qY_sz h hn hb (show k < n by omega))
      have s2 := (qYp_sz h hn hb hk hi).small (by decide)
      rw [FE.qYp_succ] at s2 ⊢
      exact a1.sub ((hL.low i k hi (by omega)).mul (h0 k (by omega)) (s.small (by decide))) s2
    · rw [upd_get, if_neg (fun e => hj e.1.symm)]
      exact a2 j hj
theorem fwd_is (h : FE.PD E n) (hn : n ≤ 4) {L : List (List RatD)} {P bs : List RatD} (hL : LowIs E n L P) {b : Nat → Rat} (hb : ∀ i, i < n → FE.Lat 6 60 (b i)) (hbs : bs.length = n) (hB : ∀ i, i < n → FE.Is (bs.getD i zR) (b i)) :
    ∀ i, i ≤ n → ∀ j, j < n → FE.Is ((fwd L bs i).getD j zR) (if j < i then FE.qY E b j else b j)
  | 0, _, j, hj => by rw [if_neg (by omega)]; exact hB j hj
  | i + 1, hi, j, hj => by
    have ih := fwd_is h hn hL hb hbs hB i (by omega)
    have hl : (fwd L bs i).length = n := (fwd_len _ _ _).trans hbs
    rw [fwd]
    obtain ⟨a1, a2⟩ := fw1_is h hn hL hb (show i < n by omega) hl (fun j hj => by have := ih j (by omega); rw [if_pos hj] at this; exact this) (by have := ih i (by omega); rw [if_neg (by omega)] at this; exact this) i (Nat.le_refl i)
    by_cases e : j = i
    · subst e
      rw [if_pos (by omega), FE.qY_eq]; exact a1
    · rw [a2 j e]
      have := ih j hj
      by_cases e2 : j < i
      · rw [if_pos e2] at this
        rw [if_pos (by omega)]; exact this
      · rw [if_neg e2] at this
        rw [if_neg (by omega)]; exact this
theorem pvd_is (h : FE.PD E n) (hn : n ≤ 4) {L : List (List RatD)} {P x : List RatD} (hL : LowIs E n L P) {b : Nat → Rat} (hb : ∀ i, i < n → FE.Lat 6 60 (b i)) (hx : x.length = n) (hX : ∀ i, i < n → FE.Is (x.getD i zR) (FE.qY E b i)) :
    ∀ i, i ≤ n → ∀ j, j < n → FE.Is ((pvd P x i).getD j zR) (if j < i then FE.qZ E b j else FE.qY E b j)
  | 0, _, j, hj => by rw [if_neg (by omega)]; exact hX j hj
  | i + 1, hi, j, hj => by
    have ih := pvd_is h hn hL hb hx hX i (by omega)
    have hl : (pvd P x i).length = n := (pvd_len _ _ _).trans hx
    rw [pvd, getD_setR]
    by_cases e : i = j
    · subst e
      rw [if_pos ⟨rfl, by omega⟩, if_pos (by omega)]
      have := ih i hj
      rw [if_neg (by omega)] at this
      exact this.div (hL.piv i hj) (h.p0 hj) ((qZ_sz h hn hb hj).small (by decide))
    · rw [if_neg (fun c => e c.1)]
      have := ih j hj
      by_cases e2 : j < i
      · rw [if_pos e2] at this
        rw [if_pos (by omega)]; exact this
      · rw [if_neg e2] at this
        rw [if_neg (by omega)]; exact this
theorem bk1_is (h : FE.PD E n) (hn : n ≤ 4) {L : List (List RatD)} {P x : List RatD} (hL : LowIs E n L P) {b : Nat → Rat} (hb : ∀ i, i < n → FE.Lat 6 60 (b i)) {i t : Nat} (hi : i + 1 + t = n) (hx : x.length = n)
    (h0 : ∀ j, i < j → j < n → FE.Is (x.getD j zR) (FE.qX E b n j)) (h1 : FE.Is (x.getD i zR) (FE.qZ E b i)) : ∀ k, k ≤ t → FE.Is ((bk1 L i x k).getD i zR) (FE.qXp E b n i k) ∧ ∀ j, j ≠ i → (bk1 L i x k).getD j zR = x.getD j zR
  | 0, _ => ⟨by rw [FE.qXp_zero]; exact h1, fun _ _ => rfl⟩
  | k + 1, hk => by
    obtain ⟨a1, a2⟩ := bk1_is h hn hL hb hi hx h0 h1 k (by omega)
    have hl : (bk1 L i x k).length = n := (bk1_len _ _ _ _).trans hx
    rw [bk1]
    refine ⟨?_, fun j hj => ?_⟩
    · rw [upd_get, if_pos ⟨rfl, by omega⟩, a2 (i + 1 + k) (by omega)]
      have s := (qL_sz h hn (show i < n by omega) (i + 1 + k)).mul (qX_sz h hn hb (show i + 1 + k < n by omega))
      have s2 := (qXp_sz h hn hb hi hk).small (by decide)
      rw [FE.qXp_succ] at s2 ⊢
      exact a1.sub ((hL.low (i + 1 + k) i (by omega) (by omega)).mul (h0 (i + 1 + k) (by omega) (by omega)) (s.small (by decide))) s2
    · rw [upd_get, if_neg (fun e => hj e.1.symm)]
      exact a2 j hj
theorem bks_is (h : FE.PD E n) (hn : n ≤ 4) {L : List (List RatD)} {P x : List RatD} (hL : LowIs E n L P) {b : Nat → Rat} (hb : ∀ i, i < n → FE.Lat 6 60 (b i)) (hx : x.length = n) (hX : ∀ i, i < n → FE.Is (x.getD i zR) (FE.qZ E b i)) :
    ∀ t, t ≤ n → ∀ j, j < n → FE.Is ((bks L n x t).getD j zR) (if j + t < n then FE.qZ E b j else FE.qX E b n j)
  | 0, _, j, hj => by rw [if_pos (by omega)]; exact hX j hj
  | t + 1, ht, j, hj => by
    have ih := bks_is h hn hL hb hx hX t (by omega)
    have hl : (bks L n x t).length = n := (bks_len _ _ _ _).trans hx
    rw [bks]
    have hi : (n - 1 - t) + 1 + t = n := by omega
    obtain ⟨a1, a2⟩ := bk1_is h hn hL hb hi hl (fun j hj hj2 => by have := ih j hj2; rw [if_neg (by omega)] at this; exact this) (by have := ih (n - 1 - t) (by omega); rw [if_pos (by omega)] at this; exact this) t (Nat.le_refl t)
    by_cases e : j = n - 1 - t
    · rw [if_neg (by omega), e, FE.qX_eq E b (show n - 1 - t < n by omega), show n - 1 - (n - 1 - t) = t by omega]; exact a1
    · rw [a2 j e]
      have := ih j hj
      by_cases e2 : j + t < n
      · rw [if_pos e2] at this
        rw [if_pos (by omega)]; exact this
      · rw [if_neg e2] at this
        rw [if_neg (by omega)]; exact this
theorem fac_low (h : FE.PD E n) (hn : n ≤ 4) (hE : DrI E n) : LowIs E n (facN (spM (intL n E)) n).lower (facN (spM (intL n E)) n).pivots := by
  have hF := facIs h hn hE n (Nat.le_refl n)
  refine ⟨fun i k hi hk => ?_, fun i hi => ?_⟩
  · unfold lowE
    rw [(facN_row _ i n hi).1]
    exact (hF i hi).2 k hk
  · rw [(facN_row _ i n hi).2]
    exact (hF i hi).1
/-- The solution that the program finds. -/
theorem sol_is (h : FE.PD E n) (hn : n ≤ 4) (hE : DrI E n) {bs : List RatD} {b : Nat → Rat} (hb : ∀ i, i < n → FE.Is (bs.getD i zR) (b i) ∧ FE.Lat 6 60 (b i)) (hbs : bs.length = n) :
    ∀ j, j < n → FE.Is ((solB (facN (spM (intL n E)) n) bs).getD j zR) (FE.qX E b n j) := by
  intro j hj
  have hL := fac_low h hn hE
  have hb2 := fun i hi => (hb i hi).2
  unfold solB
  rw [hbs]
  have h1 := fwd_is h hn hL hb2 hbs (fun i hi => (hb i hi).1) n (Nat.le_refl n)
  have h2 := pvd_is h hn hL hb2 ((fwd_len _ _ _).trans hbs) (fun i hi => by have := h1 i hi; rw [if_pos hi] at this; exact this) n (Nat.le_refl n)
  have h3 := bks_is h hn hL hb2 ((pvd_len _ _ _).trans ((fwd_len _ _ _).trans hbs)) (fun i hi => by have := h2 i hi; rw [if_pos hi] at this; exact this) n (Nat.le_refl n) j hj
  rw [if_neg (by omega)] at h3
  exact h3
theorem qdot_rsum (f g : Nat → Rat) : ∀ k, qdot f g k = FE.rsum (fun j => f j * g j) k
  | 0 => rfl
  | k + 1 => by rw [qdot, FE.rsum, qdot_rsum f g k]
/-- The product of a drawn matrix and a vector whose numbers have a common denominator. -/
theorem vApply_is (hn : n ≤ 4) (hE : DrI E n) {us : List RatD} {U : Nat → Rat} (hl : us.length = n) {D B : Int} (hU : ∀ j, j < n → FE.Is (us.getD j zR) (U j) ∧ FE.Lat D B (U j)) (hD : D ≤ 10 ^ 210) (hB : B ≤ 10 ^ 210) :
    ∀ i, i < n → FE.Is ((vApply (spM (intL n E)) us).getD i zR) (FE.rsum (fun j => (E i j : Rat) * U j) n) ∧ FE.Lat D (28 * B) (FE.rsum (fun j => (E i j : Rat) * U j) n) := by
  intro i hi
  have hEl : ∀ j, FE.Lat 1 7 ((E i j : Int) : Rat) := fun j => FE.Lat.int (by have := (hE.all i j).1; omega) (by have := (hE.all i j).2; omega)
  have e0 := p10_pos 210
  have e1 : (10 : Int) ^ 216 = 10 ^ 6 * 10 ^ 210 := by decide +kernel
  have hp : ∀ j, j < n → FE.Lat D (7 * B) ((E i j : Rat) * U j) := fun j hj => ((hEl j).mul (hU j hj).2).cast (Int.one_mul D)
  have hD0 := (hU i hi).2.1
  have hB0 := (hU i hi).2.nonneg
  have hs : ∀ k, k ≤ n → FE.Lat D (7 * B * k) (qdot (fun j => (E i j : Rat)) U k) := fun k hk => qdot_lat hD0 hp k hk
  have hb : ∀ k : Nat, k ≤ n → 7 * B * (k : Int) ≤ 28 * B := fun k hk => by
    have h4 : (k : Int) ≤ 4 := by omega
    have := Int.mul_le_mul_of_nonneg_left h4 (show 0 ≤ 7 * B by omega)
    omega
  have hrl : ((intL n E).getD i []).length = n := intL_row_len hi
  have hv : (vApply (spM (intL n E)) us).getD i zR = sumK (spRow ((intL n E).getD i [])) us (spC ((intL n E).getD i []) n).length := by
    rw [vApply_get (by rw [spM_len, intL_len]; exact hi), spM_get (by rw [intL_len]; exact hi)]
    show sumK _ us (spC ((intL n E).getD i []) ((intL n E).getD i []).length).length = _
    rw [hrl]
  have key := sp_sum (xs := (intL n E).getD i []) (us := us) (X := fun j => (E i j : Rat)) (U := U) (fun j hj => by
      rw [hrl] at hj
      rw [intL_get hi hj]
      exact rint_is (by have := (hE.all i j).1; omega) (by have := (hE.all i j).2; omega)) (fun j hj => by rw [hrl] at hj; exact (hU j hj).1)
    (fun j hj => by rw [hrl] at hj; exact (hp j hj).small (by omega) (by omega)) (fun k hk => by rw [hrl] at hk; exact (hs k hk).small (by omega) (by have := hb k hk; omega)) n (by rw [hrl]; exact Nat.le_refl n)
  rw [hv, ← qdot_rsum]
  exact ⟨key, (hs n (Nat.le_refl n)).mono (hb n (Nat.le_refl n))⟩
theorem rm1_is : FE.Is rm1 (-1) := FE.Is.int (n := -1) (by decide)
theorem is_zero_of {x : RatD} {v : Rat} (h : FE.Is x v) (e : v = 0) : FE.Is x 0 := e ▸ h
theorem sz_zero : FE.small (0 : Rat) = true := (FE.Is.int (n := 0) (by decide)).2
/-- The residual of the solution is 0. -/
theorem sol_resid (h : FE.PD E n) (hn : n ≤ 4) (hE : DrI E n) {bs : List RatD} {b : Nat → Rat} (hb : ∀ i, i < n → FE.Is (bs.getD i zR) (b i) ∧ FE.Lat 6 60 (b i)) (hbs : bs.length = n) :
    ∀ j, j < n → FE.Is ((resB (spM (intL n E)) bs (solB (facN (spM (intL n E)) n) bs)).getD j zR) 0 := by
  intro j hj
  have hX := sol_is h hn hE hb hbs
  have hl : (solB (facN (spM (intL n E)) n) bs).length = n := (solB_len _ _).trans hbs
  obtain ⟨h1, _⟩ := vApply_is hn hE (U := FE.qX E b n) hl (D := 6 * FE.qR E n n) (B := 10 ^ 19) (fun j hj => ⟨hX j hj, FE.qX_lat h hn (fun i hi => (hb i hi).2) hj⟩) (Int.le_trans (FE.qR_lt h hn (Nat.le_refl n)) (p10_mono (by decide))) (p10_mono (by decide)) j hj
  rw [FE.qX_solves h b j hj] at h1
  unfold resB
  rw [hbs, comb_get _ _ _ hj]
  have s := (hb j hj).2.neg
  have e1 : (-1 : Rat) * b j = - b j := by grind
  have e2 : b j + (-1 : Rat) * b j = 0 := by grind
  have m := rm1_is.mul h1 (by rw [e1]; exact s.lt18 (by decide) (by decide))
  exact is_zero_of ((hb j hj).1.add m (by rw [e2]; exact sz_zero)) e2

theorem loE_is (h : FE.PD E n) {F : FacD} (hF : LowIs E n F.lower F.pivots) {i k : Nat} (hi : i < n) (hk : k ≤ i) : FE.Is (loE F i k) (FE.qL E i k) := by
  unfold loE
  by_cases e : i = k
  · subst e
    rw [if_pos rfl, FE.qL_one h hi]
    exact FE.Is.int (n := 1) (by decide)
  · rw [if_neg e]
    exact hF.low i k hi (by omega)
theorem expK_is (h : FE.PD E n) (hn : n ≤ 4) {F : FacD} (hF : LowIs E n F.lower F.pivots) {i j : Nat} (hi : i < n) (hj : j < n) :
    ∀ t, t ≤ min i j + 1 → FE.Is (expK F i j t) ((E i j : Rat) - FE.qT E t i j)
  | 0, _ => by
    rw [FE.qT_zero]
    have e : (E i j : Rat) - (E i j : Rat) = 0 := by grind
    rw [e]
    exact FE.Is.int (n := 0) (by decide)
  | t + 1, ht => by
    have ih := expK_is h hn hF hi hj t (by omega)
    have htn : t < n := by omega
    have s1 := (qL_sz h hn htn i).mul (qP_sz h hn htn)
    have s2 := s1.mul (qL_sz h hn htn j)
    have s0 : Sz 19 ((E i j : Rat)) := by rw [← FE.qT_zero]; exact qT_sz h hn (Nat.zero_le n) i j
    have s3 := (s0.sub (qT_sz h hn (show t + 1 ≤ n by omega) i j)).small (by decide)
    have e : (E i j : Rat) - FE.qT E (t + 1) i j = ((E i j : Rat) - FE.qT E t i j) + FE.qL E i t * FE.qP E t * FE.qL E j t := by
      rw [FE.qT_succ h htn]; grind
    rw [e] at s3 ⊢
    rw [expK]
    exact ih.add (((loE_is h hF hi (by omega)).mul (hF.piv t htn) (s1.small (by decide))).mul (loE_is h hF hj (by omega)) (s2.small (by decide))) s3
theorem expE_is (h : FE.PD E n) (hn : n ≤ 4) {F : FacD} (hF : LowIs E n F.lower F.pivots) {i j : Nat} (hi : i < n) (hj : j < n) : expE F i j = FE.rint (E i j) := by
  have h1 := expK_is h hn hF hi hj (min i j + 1) (Nat.le_refl _)
  rw [FE.qT_none h (by omega)] at h1
  have e : (E i j : Rat) - 0 = (E i j : Rat) := by grind
  rw [e] at h1
  exact h1.same (FE.Is.int (by
    have e : (1000 : Nat) < 10 ^ 216 := by decide +kernel
    have := h.le i j
    omega))
def qDet (E : Nat → Nat → Int) : Nat → Rat
  | 0 => 1
  | k + 1 => qDet E k * FE.qP E k
theorem qDet_sz (h : FE.PD E n) (hn : n ≤ 4) : ∀ k, k ≤ n → Sz (1 + 19 * k) (qDet E k) ∧ 0 < qDet E k
  | 0, _ => ⟨⟨1, 1, FE.Lat.int (z := 1) (by decide) (by decide), by decide, by decide⟩, by show (0 : Rat) < 1; decide⟩
  | k + 1, hk => by
    obtain ⟨h1, h2⟩ := qDet_sz h hn k (by omega)
    refine ⟨(h1.mul (qP_sz h hn (show k < n by omega))).mono (by omega), Rat.mul_pos h2 (qP_pos h (show k < n by omega))⟩
theorem detK_is (h : FE.PD E n) (hn : n ≤ 4) {F : FacD} (hF : LowIs E n F.lower F.pivots) : ∀ k, k ≤ n → FE.Is (detK F.pivots k) (qDet E k)
  | 0, _ => FE.Is.int (n := 1) (by decide)
  | k + 1, hk => (detK_is h hn hF k (by omega)).mul (hF.piv k (by omega)) ((qDet_sz h hn (k + 1) hk).1.small (by omega))
end
end Go.Proofs.YtlpomcihkjiokaaGreat

namespace Go.Proofs.YtlpomcihkjiokaaGreat
open Go.RowKit Go.Joins

set_option maxRecDepth 100000 in
set_option maxHeartbeats 6400000 in
theorem iSolve (F : FacD) (b : List RatD) (u : Value) (n c : Nat) (A0 : Option Addr) (w : World) (hu : FacV w u F) (hb : VI w A0 b) (hok : F.ok = true) (hn : F.pivots.length = n) (hlb : b.length = n) (hvb : vok b = true) (hf : F.few) (hg : Few b) :
    Calls Tryz.prog 72 #[u, .slice A0 n c] w (VRes w (vFull (solB F b))) := by
  obtain ⟨e1, e2, e3⟩ := ok_rows hok
  have HCP := Lib.hid (fun W (hW : Below w.heap.size w W) => iCopyVec b n c hlb hg A0 W (hb.later hW))
  have HLB := Lib.hid hlb
  have hn40 : n ≤ 40 := hn ▸ e2
  have HRES := Lib.hid (AllRes.ofOk hvb)
  have HFL := Lib.hid hf.1.2
  have HFP := Lib.hid hf.2.2
  have HLL := Lib.hid (e1.trans hn)
  have HPL := Lib.hid hn
  have HROW := Lib.hid e3
  have hsol : solB F b = bks F.lower n (pvd F.pivots (fwd F.lower b n) n) n := by unfold solB; rw [hlb]
  have hsr := solB_res (F := F) hvb
  have hsl := (solB_len F b).trans hlb
  rw [hsol] at hsr hsl ⊢
  obtain ⟨AL, cL, AP, cP, rfl, _, hL, hP⟩ := hu
  rw [hn, e1, hn]
  have HL := Lib.hid hL
  have HP := Lib.hid hP
  have S0 := Slots.new (Below.refl _ (w.alloc (.cells #[.slice AL n cL, .slice AP n cP] 32))) (g := w.heap.size) rfl
  have hb0 := below_alloc1 w (.cells #[.slice AL n cL, .slice AP n cP] 32)
  clear hok hf hg hb hlb hvb hn e1 e2 e3 hL hP hsol
  generalize F.lower = L at *
  generalize F.pivots = PV at *
  go_enter Tryz.func72, Tryz.ntmps72
  go_wp2_with fail
  generalize w.alloc (.cells #[.slice AL n cL, .slice AP n cP] 32) = w0 at *
  have hlo0 := S0.1
  refine (HCP.out _ hb0).mono ?_
  intro e w1 hp
  obtain ⟨A, c1, rfl, hx, hb1⟩ := hp.vz
  rw [HLB.out]
  rw [HLB.out] at hx
  have hlo1 := hb1.size
  replace S0 := S0.later hb1
  obtain ⟨lo, hlo⟩ : ∃ lo, w0.heap.size = lo := ⟨_, rfl⟩
  rw [hlo] at hx hlo0 hlo1 hb1
  replace hb0 := hb0.trans (hb1.mono (by omega))
  have hx0 : VZ w1 lo w1.heap.size (.slice A n c1) (fwd L b 0) := hx
  clear hp hx HCP hb1 hlo
  obtain ⟨m0, m1, _, _⟩ := S0.p2
  go_wp2_with fail
  clear m0 m1

  go_loopw [19] (fun z wr => ∃ i : Nat, i ≤ n ∧ z = .int .i64 i ∧ Below lo w1 wr ∧ VZ wr lo wr.heap.size (.slice A n c1) (fwd L b i)) (fun z _ => n - (intOf z).toNat)
  case atStart => exact ⟨0, Nat.zero_le _, rfl, Below.refl _ _, hx0⟩
  case round =>
    clear hx0
    obtain ⟨i, hi, rfl, hbw, hx⟩ := hrel
    have hww := hb0.trans (hbw.mono (by omega))
    by_cases hin : i = n
    · have hlf : decide ((i : Int) < (n : Int)) = false := by simp; omega
      rw [hin] at hx
      have hx3 : VZ wr lo wr.heap.size (.slice A n c1) (pvd PV (fwd L b n) 0) := hx
      clear hx
      obtain ⟨_, m1, _, _⟩ := (S0.below hbw (show w.heap.size < lo by omega)).p2
      go_wp2_with fail
      clear m1
      generalize wr = wq at *
      go_loopw [50] (fun z wp => ∃ i : Nat, i ≤ n ∧ z = .int .i64 i ∧ Below lo w1 wp ∧ VZ wp lo wp.heap.size (.slice A n c1) (pvd PV (fwd L b n) i)) (fun z _ => n - (intOf z).toNat)
      case atStart => exact ⟨0, Nat.zero_le _, rfl, hbw, hx3⟩
      case round =>
        clear hx3 hlf hin hi hbw hww
        obtain ⟨i, hi, rfl, hbw, hx⟩ := hrel
        have hww := hb0.trans (hbw.mono (by omega))
        by_cases hin : i = n
        · have hlf : decide ((i : Int) < (n : Int)) = false := by simp; omega
          rw [hin] at hx
          obtain ⟨Z0, hZ0⟩ : ∃ Z, pvd PV (fwd L b n) n = Z := ⟨_, rfl⟩
          have HZR := Lib.hid (show AllRes Z0 from hZ0 ▸ (HRES.out.fwd n).pvd n)
          have HZL := Lib.hid (show Z0.length = n from hZ0 ▸ ((pvd_len _ _ _).trans ((fwd_len _ _ _).trans HLB.out)))
          rw [hZ0] at hx hsr hsl ⊢
          have hx3 : VZ wr lo wr.heap.size (.slice A n c1) (bks L n Z0 0) := hx
          have HZ0 := Lib.hid hZ0
          clear hx hZ0 HPL HFP HP
          go_wp2_with fail
          generalize wr = wq at *
          go_loopw [12] (fun z wp => ∃ (t : Nat) (e : Int), t ≤ n ∧ z = .int .i64 e ∧ Hid (e = (n : Int) - 1 - (t : Int)) ∧ Below lo w1 wp ∧ VZ wp lo wp.heap.size (.slice A n c1) (bks L n Z0 t)) (fun z _ => (intOf z + 1).toNat)
          case atStart => exact ⟨0, _, Nat.zero_le _, rfl, Lib.hid (by simp), hbw, hx3⟩
          case round =>
            clear hx3 hlf hin hi hbw hww
            obtain ⟨t, e, ht, rfl, HE, hbw, hx⟩ := hrel
            have hww := hb0.trans (hbw.mono (by omega))
            by_cases htn : t = n
            · have he : e = -1 := by have := HE.out; omega
              rw [he]
              rw [htn] at hx
              clear HE he
              obtain ⟨v9, hv9⟩ : ∃ v, (if vok (bks L n Z0 n) then Value.slice A n c1 else .slice none 0 0) = v := ⟨_, rfl⟩
              have HIF := fun W (hW : VI W A (bks L n Z0 n)) => iIfVector (bks L n Z0 n) hsr n c1 hsl (hsr.few (by omega)) A W hW
              rw [hv9] at HIF
              replace HIF := Lib.hid HIF
              have HV9 := Lib.hid hv9
              clear hv9
              go_wp2_with fail
              refine (HIF.out _ hx.reads).mono ?_
              rintro e9 w9 ⟨rfl, hb9⟩
              have hww9 := below_trans hww hb9
              have hfin : VRes w (vFull (bks L n Z0 n)) (.returned v9) w9 := by
                rw [← HV9.out]
                unfold vFull
                cases hq : vok (bks L n Z0 n)
                · exact VRes.nil hww9
                · exact (hx.later hb9).res (by omega) hb9.size hww9
              rw [← HZ0.out] at hfin
              replace hfin := Lib.hid hfin
              go_wp2
              go_ret
              exact hfin.out
            · obtain ⟨i, hie⟩ : ∃ i : Nat, e = i := ⟨e.toNat, by have := HE.out; omega⟩
              rw [hie] at HE ⊢
              have hit : i + 1 + t = n := by have := HE.out; omega
              clear hie HE
              have hn0 : 0 < n := by omega
              have hge : decide ((0 : Int) ≤ (i : Int)) = true := by simp
              have hx4 : VZ wr lo wr.heap.size (.slice A n c1) (bk1 L i (bks L n Z0 t) 0) := hx
              clear hx
              have HIT := Lib.hid hit
              have hin : i < n := by omega
              have hltn : (i : Int) < (n : Int) := by omega
              clear hit
              go_wp2_with fail
              generalize wr = wq at *
              go_loopw [13] (fun z wp => ∃ (j k : Nat), j ≤ t ∧ z = .int .i64 k ∧ Hid (k = i + 1 + j) ∧ Below lo w1 wp ∧ VZ wp lo wp.heap.size (.slice A n c1) (bk1 L i (bks L n Z0 t) j)) (fun z _ => n - (intOf z).toNat)
              case atStart => exact ⟨0, i + 1, Nat.zero_le _, rfl, Lib.hid rfl, hbw, hx4⟩
              case round =>
                clear hx4 hbw hww
                obtain ⟨j, k, hj, rfl, HK, hbw2, hx⟩ := hrel
                by_cases hjt : j = t
                · have hlf : ¬ (k < n) := by have := HK.out; have := HIT.out; omega
                  have hx2 : VZ wr lo wr.heap.size (.slice A n c1) (bks L n Z0 (t + 1)) := by
                    show VZ _ _ _ _ (bk1 L (n - 1 - t) (bks L n Z0 t) t)
                    rw [show n - 1 - t = i by have := HIT.out; omega]
                    rw [hjt] at hx
                    exact hx
                  clear hx
                  go_wp2
                  go_roundw
                  case rel => exact ⟨t + 1, _, by omega, rfl, Lib.hid (by have := HIT.out; omega), hbw2, hx2⟩
                  case measure => simp [intOf]
                · have hjt' : j < t := by omega
                  have hki : i < k ∧ k < n := by have := HK.out; have := HIT.out; omega
                  have hik : (i : Int) < (k : Int) := by omega
                  have hltk : (k : Int) < (n : Int) := by omega
                  have hww2 := hb0.trans (hbw2.mono (by omega))
                  obtain ⟨b4, o4, C, e4, rfl, hb4, l0, hvi⟩ := HL.out.row k (by rw [HLL.out]; omega)
                  rw [HROW.out k (by rw [HLL.out]; omega)] at l0
                  replace l0 := cell_later hb4 l0 hww2
                  have hb4l : b4 < lo := by omega
                  obtain ⟨b5, o5, rfl, hb5, hat⟩ := hvi.cells i (by rw [HROW.out k (by rw [HLL.out]; omega)]; omega)
                  replace hat := RatAt.stays _ _ _ _ _ hb5 hat hww2
                  have fr := (HFL.out k (by rw [HLL.out]; omega)).2 i (by rw [HROW.out k (by rw [HLL.out]; omega)]; omega)
                  obtain ⟨r, hr⟩ : ∃ y, (L.getD k []).getD i zR = y := ⟨_, rfl⟩
                  rw [hr] at hat fr
                  obtain ⟨A5, c5, B5, d5, k0, k1, k2, hl5, q1, q2⟩ := hat
                  have vr : RatV wr (.agg #[.bool r.neg, .slice A5 r.mag.length c5, .slice B5 r.den.length d5]) r := ⟨_, _, _, _, rfl, hl5, q1, q2⟩
                  have hb5l : b5 < lo := by omega
                  obtain ⟨m0, _, _⟩ := (S0.below hbw2 (show w.heap.size < lo by omega)).p2
                  clear q1 q2 hl5 hvi
                  obtain ⟨X, hX⟩ : ∃ X, bk1 L i (bks L n Z0 t) j = X := ⟨_, rfl⟩
                  have HXR := Lib.hid (show AllRes X from hX ▸ ((HZR.out.bks t).bk1 j))
                  have HXL := Lib.hid (show X.length = n from hX ▸ ((bk1_len _ _ _ _).trans ((bks_len _ _ _ _).trans HZL.out)))
                  have HXN := Lib.hid (show bk1 L i (bks L n Z0 t) (j + 1) = X.set i (FE.rsub (X.getD i zR) (FE.rmul r (X.getD k zR))) by rw [← hX, ← hr, HK.out]; rfl)
                  rw [hX] at hx
                  clear hX
                  obtain ⟨g, rfl, hlg, hgs, _⟩ := hx.base hn0
                  obtain ⟨A6, c6, B6, d6, r6, v6⟩ := hx.at i (by rw [HXL.out]; omega)
                  have fi := res_few (HXR.out i (by rw [HXL.out]; omega))
                  obtain ⟨A7, c7, B7, d7, r7, v7⟩ := hx.at k (by rw [HXL.out]; omega)
                  have fk := res_few (HXR.out k (by rw [HXL.out]; omega))
                  obtain ⟨xk, hxk⟩ : ∃ y, X.getD k zR = y := ⟨_, rfl⟩
                  rw [hxk] at r7 v7 fk HXN
                  obtain ⟨xi, hxi⟩ : ∃ y, X.getD i zR = y := ⟨_, rfl⟩
                  rw [hxi] at r6 v6 fi HXN
                  obtain ⟨Y, hY⟩ : ∃ Y, FE.rsub xi (FE.rmul r xk) = Y := ⟨_, rfl⟩
                  rw [hY] at HXN
                  have HSET := Lib.hid HXN.out.symm
                  have HYE := Lib.hid hY
                  clear hxi HXN hY hxk
                  have hxz := hx
                  have v5 := vr
                  have hbwb := hbw2
                  clear hx
                  go_wp2_with fail
                  generalize wr = wb at *
                  have KM := Lib.hid (fun W (hW : Below wb.heap.size wb W) => iRatMul r xk _ _ W (v5.later hW) (v7.later hW) fr fk)
                  have KS := fun W (hW : Below wb.heap.size wb W) v (hv : RatV W v (FE.rmul r xk)) => iRatSub xi (FE.rmul r xk) _ v W (v6.later hW) hv fi (res_few (FE.rmul_res r xk))
                  rw [HYE.out] at KS
                  replace KS := Lib.hid KS
                  clear HYE v7 fk
                  have hlob : lo ≤ wb.heap.size := Nat.le_trans hlo1 hbwb.size
                  have hwrs : Below wb.heap.size wb wb.drew := ⟨rfl, rfl, rfl, Nat.le_refl _, fun _ _ => rfl⟩
                  have hwrl : Below lo wb wb.drew := ⟨rfl, rfl, rfl, Nat.le_refl _, fun _ _ => rfl⟩
                  clear v5 v6 fi fr vr
                  generalize FE.rmul r xk = M at *
                  refine wp_region_held_drew (S := fun W => Below lo wb W ∧ R3 W g (k * 3) (.bool xk.neg) (.slice A7 xk.mag.length c7) (.slice B7 xk.den.length d7)) (by kernel_rfl) ⟨hwrl, r7⟩ (fun hHeld => ?_)
                  refine qL (i := 0) (v := ?_) rfl (by kernel_rfl) (fun _ _ _ h => h) (by assumption) (by rfl) (fun W _ => ?_) ?_
                  rotate_left
                  · go_simp
                    try with_reducible rfl
                  try simp only [Act.put, List.setIfInBounds_toArray]
                  refine qL (i := 1) (v := ?_) rfl (by kernel_rfl) (fun _ _ _ h => h) (by assumption) (by rfl) (fun W _ => ?_) ?_
                  rotate_left
                  · go_simp
                    try with_reducible rfl
                  try simp only [Act.put]
                  refine qL (i := 2) (v := ?_) rfl (by kernel_rfl) (fun _ _ _ h => h) (by assumption) (by rfl) (fun W _ => ?_) ?_
                  rotate_left
                  · go_simp
                    try with_reducible rfl
                  try simp only [Act.put]
                  refine qL (i := 3) (v := ?_) rfl (by kernel_rfl) (fun _ _ _ h => h) (by assumption) (by rfl) (fun W _ => ?_) ?_
                  rotate_left
                  · go_simp
                    try with_reducible rfl
                  try simp only [Act.put]
                  refine qL (i := 4) (v := ?_) rfl (by kernel_rfl) (fun _ _ _ h => h) (by assumption) (by rfl) (fun W _ => ?_) ?_
                  rotate_left
                  · go_simp
                    try with_reducible rfl
                  try simp only [Act.put]
                  refine qL (i := 6) (v := ?_) rfl (by kernel_rfl) (fun _ _ _ h => h) (by assumption) (by rfl) (fun W _ => ?_) ?_
                  rotate_left
                  · go_simp
                    try with_reducible rfl
                  try simp only [Act.put]
                  refine qL (i := 7) (v := ?_) rfl (by kernel_rfl) (fun _ _ _ h => h) (by assumption) (by rfl) (fun W hSw => ?_) ?_
                  rotate_left
                  · have f0 := (Below.cell (And.left hSw) (p := ⟨w.heap.size, 0, none⟩) hlo0).trans m0
                    go_simp
                    try with_reducible rfl
                  try simp only [Act.put]
                  refine qL (i := 8) (v := ?_) rfl (by kernel_rfl) (fun _ _ _ h => h) (by assumption) (by rfl) (fun W _ => ?_) ?_
                  rotate_left
                  · go_simp
                    try with_reducible rfl
                  try simp only [Act.put]
                  refine qL (i := 9) (v := ?_) rfl (by kernel_rfl) (fun _ _ _ h => h) (by assumption) (by rfl) (fun W _ => ?_) ?_
                  rotate_left
                  · go_simp
                    try with_reducible rfl
                  try simp only [Act.put]
                  refine qL (i := 10) (v := ?_) rfl (by kernel_rfl) (fun _ _ _ h => h) (by assumption) (by rfl) (fun W hSw => ?_) ?_
                  rotate_left
                  · have f1 := (Below.cell (And.left hSw) (p := ⟨b4, o4 + k, none⟩) hb4l).trans l0
                    go_simp
                    try with_reducible rfl
                  try simp only [Act.put]
                  refine qL (i := 11) (v := ?_) rfl (by kernel_rfl) (fun _ _ _ h => h) (by assumption) (by rfl) (fun W _ => ?_) ?_
                  rotate_left
                  · go_simp
                    try with_reducible rfl
                  try simp only [Act.put]
                  refine qL (i := 12) (v := ?_) rfl (by kernel_rfl) (fun _ _ _ h => h) (by assumption) (by rfl) (fun W _ => ?_) ?_
                  rotate_left
                  · go_simp
                    try with_reducible rfl
                  try simp only [Act.put]
                  refine qL (i := 13) (v := ?_) rfl (by kernel_rfl) (fun _ _ _ h => h) (by assumption) (by rfl) (fun W hSw => ?_) ?_
                  rotate_left
                  · have f2 := (Below.cell (And.left hSw) (p := ⟨b5, o5 + i * 3, none⟩) hb5l).trans k0
                    have f3 := (Below.cell (And.left hSw) (p := ⟨b5, o5 + i * 3 + 1, none⟩) hb5l).trans k1
                    have f4 := (Below.cell (And.left hSw) (p := ⟨b5, o5 + i * 3 + 2, none⟩) hb5l).trans k2
                    go_simp
                    try with_reducible rfl
                  try simp only [Act.put]
                  refine qL (i := 14) (v := ?_) rfl (by kernel_rfl) (fun _ _ _ h => h) (by assumption) (by rfl) (fun W _ => ?_) ?_
                  rotate_left
                  · go_simp
                    try with_reducible rfl
                  try simp only [Act.put]
                  refine qL (i := 15) (v := ?_) rfl (by kernel_rfl) (fun _ _ _ h => h) (by assumption) (by rfl) (fun W _ => ?_) ?_
                  rotate_left
                  · go_simp
                    try with_reducible rfl
                  try simp only [Act.put]
                  refine qL (i := 16) (v := ?_) rfl (by kernel_rfl) (fun _ _ _ h => h) (by assumption) (by rfl) (fun W _ => ?_) ?_
                  rotate_left
                  · go_simp
                    try with_reducible rfl
                  try simp only [Act.put]
                  refine qL (i := 17) (v := ?_) rfl (by kernel_rfl) (fun _ _ _ h => h) (by assumption) (by rfl) (fun W hSw => ?_) ?_
                  rotate_left
                  · have xk := (And.right hSw)
                    have fxk0 := xk.1
                    have fxk1 := xk.2.1
                    have fxk2 := xk.2.2
                    go_simp
                    try with_reducible rfl
                  try simp only [Act.put]
                  refine qR2 (i := 5) (j := 18) (by kernel_rfl) rfl rfl (fun K hK => ?_) (fun K hK => ?_)
                  ·simp only [List.getElem_toArray, List.getElem_cons_succ, List.getElem_cons_zero]
                   have u0 := r6.1
                   have u1 := r6.2.1
                   have u2 := r6.2.2
                   go_simp
                   refine hK.out _ _ (hHeld) (fun h2 => ?_)
                   clear hK K hHeld
                   have hHeld := h2
                   clear h2
                   try simp only [Act.put, List.setIfInBounds_toArray, List.set_cons_zero, List.set_cons_succ]
                   refine qR (i := 18) (by kernel_rfl) rfl (fun K hK => ?_)
                   simp only [List.getElem_toArray, List.getElem_cons_succ, List.getElem_cons_zero]
                   go_simp
                   (go_at_call 45; (with_reducible refine (KM.out _ (by first | exact hwrs | exact Below.refl _ _)).mono ?_); rintro e3 w3 ⟨v3, rfl, hp3, hb3⟩)
                   try (go_wp2_with fail)
                   have hb3' : Below wb.heap.size wb w3 := ⟨hb3.os, hb3.tape, hb3.output, hb3.size, hb3.block⟩
                   have hz3 := hb3'.size
                   refine hK.out _ _ ⟨hb3'.mono hlob, r7.later hb3'⟩ (fun h2 => ?_)
                   clear hK K hHeld
                   have hHeld := h2
                   clear h2
                   try simp only [Act.put, List.setIfInBounds_toArray, List.set_cons_zero, List.set_cons_succ]
                   refine qR (i := 19) (by kernel_rfl) rfl (fun K hK => ?_)
                   simp only [List.getElem_toArray, List.getElem_cons_succ, List.getElem_cons_zero]
                   go_simp
                   (go_at_call 147; (with_reducible refine (KS.out _ hb3' v3 hp3.reads).mono ?_); rintro e6 w6 ⟨v6, rfl, hp6, hb6⟩)
                   try (go_wp2_with fail)
                   have hb63 := below_trans hb3' hb6
                   obtain ⟨A8, n8, c8, B8, m8, d8, rfl⟩ := hp6.shape
                   have hz6 := hb63.size
                   refine hK.out _ _ ⟨hb63.mono hlob, r7.later hb63⟩ (fun h2 => ?_)
                   clear hK K hHeld
                   have hHeld := h2
                   clear h2
                   try simp only [Act.put, List.setIfInBounds_toArray, List.set_cons_zero, List.set_cons_succ]
                   refine qL (i := 20) (v := ?_) rfl (by kernel_rfl) (fun _ _ _ h => h) (by assumption) (by rfl) (fun W _ => ?_) ?_
                   rotate_left
                   · go_simp
                     try with_reducible rfl
                   try simp only [Act.put, List.setIfInBounds_toArray]
                   refine qR (i := 21) (by kernel_rfl) rfl (fun K hK => ?_)
                   simp only [List.getElem_toArray, List.getElem_cons_succ, List.getElem_cons_zero]
                   have r63 := r6.later hb63
                   have t0 := r63.1
                   have t1 := r63.2.1
                   have t2 := r63.2.2
                   have z0 := (hxz.later hb63).frz hn0 (i * 3)
                   have z1 := (hxz.later hb63).frz hn0 (i * 3 + 1)
                   have z2 := (hxz.later hb63).frz hn0 (i * 3 + 2)
                   go_simp
                   refine hK.out _ _ ⟨below_set3 (hb63.mono hlob) hlg _ _ _, (r7.later hb63).off (Or.inr (by omega))⟩ (fun h2 => ?_)
                   clear hK K hHeld
                   have hHeld := h2
                   clear h2
                   try simp only [Act.put, List.setIfInBounds_toArray, List.set_cons_zero, List.set_cons_succ]
                   refine wpAnyH_done (by kernel_rfl) ?_ _
                   clear hHeld
                   have hx' := (hxz.later hb63).swap (i := i) (by rw [HXL.out]; omega) hp6 (by omega) (by omega) (by omega)
                   rw [HSET.out] at hx'
                   have hbr := hbwb.trans (below_set3 (hb63.mono hlob) hlg (o := i * 3) (.bool Y.neg) (.slice A8 n8 c8) (.slice B8 m8 d8))
                   have hsz : (set3 w6 g (i * 3) (.bool Y.neg) (.slice A8 n8 c8) (.slice B8 m8 d8)).heap.size = w6.heap.size := by simp [set3]
                   clear t0 t1 t2 z0 z1 z2 r6 hp6 hb63 hxz r7
                   go_wp2
                   go_roundw
                   case rel => exact ⟨j + 1, k + 1, by omega, rfl, Lib.hid (by have := HK.out; omega), hbr, hx'.up (Nat.le_of_eq hsz.symm)⟩
                   case measure => simp [intOf]; omega
                  ·simp only [List.getElem_toArray, List.getElem_cons_succ, List.getElem_cons_zero]
                   go_simp
                   (go_at_call 45; (with_reducible refine (KM.out _ (by first | exact hwrs | exact Below.refl _ _)).mono ?_); rintro e3 w3 ⟨v3, rfl, hp3, hb3⟩)
                   try (go_wp2_with fail)
                   have hb3' : Below wb.heap.size wb w3 := ⟨hb3.os, hb3.tape, hb3.output, hb3.size, hb3.block⟩
                   have hz3 := hb3'.size
                   refine hK.out _ _ ⟨hb3'.mono hlob, r7.later hb3'⟩ (fun h2 => ?_)
                   clear hK K hHeld
                   have hHeld := h2
                   clear h2
                   try simp only [Act.put, List.setIfInBounds_toArray, List.set_cons_zero, List.set_cons_succ]
                   refine qR (i := 5) (by kernel_rfl) rfl (fun K hK => ?_)
                   simp only [List.getElem_toArray, List.getElem_cons_succ, List.getElem_cons_zero]
                   have r63 := r6.later hb3'
                   have u0 := r63.1
                   have u1 := r63.2.1
                   have u2 := r63.2.2
                   go_simp
                   refine hK.out _ _ ⟨hb3'.mono hlob, r7.later hb3'⟩ (fun h2 => ?_)
                   clear hK K hHeld
                   have hHeld := h2
                   clear h2
                   try simp only [Act.put, List.setIfInBounds_toArray, List.set_cons_zero, List.set_cons_succ]
                   refine qR (i := 19) (by kernel_rfl) rfl (fun K hK => ?_)
                   simp only [List.getElem_toArray, List.getElem_cons_succ, List.getElem_cons_zero]
                   go_simp
                   (go_at_call 147; (with_reducible refine (KS.out _ hb3' v3 hp3.reads).mono ?_); rintro e6 w6 ⟨v6, rfl, hp6, hb6⟩)
                   try (go_wp2_with fail)
                   have hb63 := below_trans hb3' hb6
                   obtain ⟨A8, n8, c8, B8, m8, d8, rfl⟩ := hp6.shape
                   have hz6 := hb63.size
                   refine hK.out _ _ ⟨hb63.mono hlob, r7.later hb63⟩ (fun h2 => ?_)
                   clear hK K hHeld
                   have hHeld := h2
                   clear h2
                   try simp only [Act.put, List.setIfInBounds_toArray, List.set_cons_zero, List.set_cons_succ]
                   refine qL (i := 20) (v := ?_) rfl (by kernel_rfl) (fun _ _ _ h => h) (by assumption) (by rfl) (fun W _ => ?_) ?_
                   rotate_left
                   · go_simp
                     try with_reducible rfl
                   try simp only [Act.put, List.setIfInBounds_toArray]
                   refine qR (i := 21) (by kernel_rfl) rfl (fun K hK => ?_)
                   simp only [List.getElem_toArray, List.getElem_cons_succ, List.getElem_cons_zero]
                   have r63 := r6.later hb63
                   have t0 := r63.1
                   have t1 := r63.2.1
                   have t2 := r63.2.2
                   have z0 := (hxz.later hb63).frz hn0 (i * 3)
                   have z1 := (hxz.later hb63).frz hn0 (i * 3 + 1)
                   have z2 := (hxz.later hb63).frz hn0 (i * 3 + 2)
                   go_simp
                   refine hK.out _ _ ⟨below_set3 (hb63.mono hlob) hlg _ _ _, (r7.later hb63).off (Or.inr (by omega))⟩ (fun h2 => ?_)
                   clear hK K hHeld
                   have hHeld := h2
                   clear h2
                   try simp only [Act.put, List.setIfInBounds_toArray, List.set_cons_zero, List.set_cons_succ]
                   refine wpAnyH_done (by kernel_rfl) ?_ _
                   clear hHeld
                   have hx' := (hxz.later hb63).swap (i := i) (by rw [HXL.out]; omega) hp6 (by omega) (by omega) (by omega)
                   rw [HSET.out] at hx'
                   have hbr := hbwb.trans (below_set3 (hb63.mono hlob) hlg (o := i * 3) (.bool Y.neg) (.slice A8 n8 c8) (.slice B8 m8 d8))
                   have hsz : (set3 w6 g (i * 3) (.bool Y.neg) (.slice A8 n8 c8) (.slice B8 m8 d8)).heap.size = w6.heap.size := by simp [set3]
                   clear t0 t1 t2 z0 z1 z2 r6 hp6 hb63 hxz r7
                   go_wp2
                   go_roundw
                   case rel => exact ⟨j + 1, k + 1, by omega, rfl, Lib.hid (by have := HK.out; omega), hbr, hx'.up (Nat.le_of_eq hsz.symm)⟩
                   case measure => simp [intOf]; omega
        · have hltn : (i : Int) < (n : Int) := by omega
          have hn0 : 0 < n := by omega
          obtain ⟨b5, o5, rfl, hb5, hat⟩ := HP.out.cells i (by rw [HPL.out]; omega)
          replace hat := RatAt.stays _ _ _ _ _ hb5 hat hww
          have fr := HFP.out i (by rw [HPL.out]; omega)
          obtain ⟨r, hr⟩ : ∃ y, PV.getD i zR = y := ⟨_, rfl⟩
          rw [hr] at hat fr
          obtain ⟨A5, c5, B5, d5, k0, k1, k2, hl5, q1, q2⟩ := hat
          have vr : RatV wr (.agg #[.bool r.neg, .slice A5 r.mag.length c5, .slice B5 r.den.length d5]) r := ⟨_, _, _, _, rfl, hl5, q1, q2⟩
          have hb5l : b5 < lo := by omega
          obtain ⟨_, m0, _⟩ := (S0.below hbw (show w.heap.size < lo by omega)).p2
          clear q1 q2 hl5 hww
          obtain ⟨X, hX⟩ : ∃ X, pvd PV (fwd L b n) i = X := ⟨_, rfl⟩
          have HXR := Lib.hid (show AllRes X from hX ▸ ((HRES.out.fwd n).pvd i))
          have HXL := Lib.hid (show X.length = n from hX ▸ ((pvd_len _ _ _).trans ((fwd_len _ _ _).trans HLB.out)))
          have HXN := Lib.hid (show pvd PV (fwd L b n) (i + 1) = X.set i (FE.rdiv (X.getD i zR) r) by rw [← hX, ← hr]; rfl)
          rw [hX] at hx
          clear hX
          obtain ⟨g, rfl, hlg, hgs, _⟩ := hx.base hn0
          obtain ⟨A6, c6, B6, d6, r6, v6⟩ := hx.at i (by rw [HXL.out]; omega)
          have fi := res_few (HXR.out i (by rw [HXL.out]; omega))
          obtain ⟨xi, hxi⟩ : ∃ y, X.getD i zR = y := ⟨_, rfl⟩
          rw [hxi] at r6 v6 fi HXN
          obtain ⟨Y, hY⟩ : ∃ Y, FE.rdiv xi r = Y := ⟨_, rfl⟩
          rw [hY] at HXN
          have HSET := Lib.hid HXN.out.symm
          have HYE := Lib.hid hY
          clear hxi HXN hY
          have al := below_alloc1 wr (.cells #[.bool r.neg, .slice A5 r.mag.length c5, .slice B5 r.den.length d5] 57)
          have S9 := Slots.new (Below.refl _ (wr.alloc (.cells #[.bool r.neg, .slice A5 r.mag.length c5, .slice B5 r.den.length d5] 57))) (g := wr.heap.size) rfl
          have r5 := S9.r3
          have v5 := vr.later al
          replace v6 := v6.later al
          replace r6 := r6.later al
          have hxz := (hx.later al).up al.size
          have hbwb := hbw.trans (al.mono (by omega))
          have hgne : wr.heap.size ≠ g := by omega
          clear hx S9
          go_wp2_with fail
          generalize wr.alloc (.cells #[.bool r.neg, .slice A5 r.mag.length c5, .slice B5 r.den.length d5] 57) = wb at *
          clear al
          obtain ⟨g9, hg9⟩ : ∃ y, wr.heap.size = y := ⟨_, rfl⟩
          rw [hg9] at r5 hgne
          have KD := fun W (hW : Below wb.heap.size wb W) => (show Calls Tryz.prog 124 _ W (RPost W (FE.rdiv xi r)) from iRatDiv xi r _ _ W (v6.later hW) (v5.later hW) fi fr)
          rw [HYE.out] at KD
          replace KD := Lib.hid KD
          clear HYE
          have hlob : lo ≤ wb.heap.size := Nat.le_trans hlo1 hbwb.size
          have hwrs : Below wb.heap.size wb wb.drew := ⟨rfl, rfl, rfl, Nat.le_refl _, fun _ _ => rfl⟩
          have hwrl : Below lo wb wb.drew := ⟨rfl, rfl, rfl, Nat.le_refl _, fun _ _ => rfl⟩
          clear v5 v6 fi fr vr
          refine wp_region_held_drew (S := fun W => Below lo wb W ∧ R3 W g9 0 (.bool r.neg) (.slice A5 r.mag.length c5) (.slice B5 r.den.length d5)) (by kernel_rfl) ⟨hwrl, r5⟩ (fun hHeld => ?_)
          refine qL (i := 0) (v := ?_) rfl (by kernel_rfl) (fun _ _ _ h => h) (by assumption) (by rfl) (fun W _ => ?_) ?_
          rotate_left
          · go_simp
            try with_reducible rfl
          try simp only [Act.put, List.setIfInBounds_toArray]
          refine qL (i := 1) (v := ?_) rfl (by kernel_rfl) (fun _ _ _ h => h) (by assumption) (by rfl) (fun W _ => ?_) ?_
          rotate_left
          · go_simp
            try with_reducible rfl
          try simp only [Act.put]
          refine qL (i := 2) (v := ?_) rfl (by kernel_rfl) (fun _ _ _ h => h) (by assumption) (by rfl) (fun W _ => ?_) ?_
          rotate_left
          · go_simp
            try with_reducible rfl
          try simp only [Act.put]
          refine qL (i := 3) (v := ?_) rfl (by kernel_rfl) (fun _ _ _ h => h) (by assumption) (by rfl) (fun W _ => ?_) ?_
          rotate_left
          · go_simp
            try with_reducible rfl
          try simp only [Act.put]
          refine qL (i := 4) (v := ?_) rfl (by kernel_rfl) (fun _ _ _ h => h) (by assumption) (by rfl) (fun W _ => ?_) ?_
          rotate_left
          · go_simp
            try with_reducible rfl
          try simp only [Act.put]
          refine qL (i := 6) (v := ?_) rfl (by kernel_rfl) (fun _ _ _ h => h) (by assumption) (by rfl) (fun W hSw => ?_) ?_
          rotate_left
          · have bx := (And.right hSw)
            have fbx0 := bx.1
            have fbx1 := bx.2.1
            have fbx2 := bx.2.2
            go_simp
            try with_reducible rfl
          try simp only [Act.put]
          refine qR (i := 5) (by kernel_rfl) rfl (fun K hK => ?_)
          simp only [List.getElem_toArray, List.getElem_cons_succ, List.getElem_cons_zero]
          have u0 := r6.1
          have u1 := r6.2.1
          have u2 := r6.2.2
          go_simp
          refine hK.out _ _ (hHeld) (fun h2 => ?_)
          clear hK K hHeld
          have hHeld := h2
          clear h2
          try simp only [Act.put, List.setIfInBounds_toArray, List.set_cons_zero, List.set_cons_succ]
          refine qR (i := 7) (by kernel_rfl) rfl (fun K hK => ?_)
          simp only [List.getElem_toArray, List.getElem_cons_succ, List.getElem_cons_zero]
          go_simp
          (go_at_call 124; (with_reducible refine (KD.out _ (by first | exact hwrs | exact Below.refl _ _)).mono ?_); rintro e6 w6 ⟨v6, rfl, hp6, hb6⟩)
          try (go_wp2_with fail)
          have hb63 : Below wb.heap.size wb w6 := ⟨hb6.os, hb6.tape, hb6.output, hb6.size, hb6.block⟩
          obtain ⟨A8, n8, c8, B8, m8, d8, rfl⟩ := hp6.shape
          have hz6 := hb63.size
          refine hK.out _ _ ⟨hb63.mono hlob, r5.later hb63⟩ (fun h2 => ?_)
          clear hK K hHeld
          have hHeld := h2
          clear h2
          try simp only [Act.put, List.setIfInBounds_toArray, List.set_cons_zero, List.set_cons_succ]
          refine qL (i := 8) (v := ?_) rfl (by kernel_rfl) (fun _ _ _ h => h) (by assumption) (by rfl) (fun W _ => ?_) ?_
          rotate_left
          · go_simp
            try with_reducible rfl
          try simp only [Act.put, List.setIfInBounds_toArray]
          refine qR (i := 9) (by kernel_rfl) rfl (fun K hK => ?_)
          simp only [List.getElem_toArray, List.getElem_cons_succ, List.getElem_cons_zero]
          have r63 := r6.later hb63
          have t0 := r63.1
          have t1 := r63.2.1
          have t2 := r63.2.2
          have z0 := (hxz.later hb63).frz hn0 (i * 3)
          have z1 := (hxz.later hb63).frz hn0 (i * 3 + 1)
          have z2 := (hxz.later hb63).frz hn0 (i * 3 + 2)
          go_simp
          refine hK.out _ _ ⟨below_set3 (hb63.mono hlob) hlg _ _ _, (r5.later hb63).off (Or.inl (by omega))⟩ (fun h2 => ?_)
          clear hK K hHeld
          have hHeld := h2
          clear h2
          try simp only [Act.put, List.setIfInBounds_toArray, List.set_cons_zero, List.set_cons_succ]
          refine wpAnyH_done (by kernel_rfl) ?_ _
          clear hHeld
          have hx' := (hxz.later hb63).swap (i := i) (by rw [HXL.out]; omega) hp6 (Nat.le_refl _) hlob hz6
          rw [HSET.out] at hx'
          have hbr := hbwb.trans (below_set3 (hb63.mono hlob) hlg (o := i * 3) (.bool Y.neg) (.slice A8 n8 c8) (.slice B8 m8 d8))
          have hsz : (set3 w6 g (i * 3) (.bool Y.neg) (.slice A8 n8 c8) (.slice B8 m8 d8)).heap.size = w6.heap.size := by simp [set3]
          clear t0 t1 t2 z0 z1 z2 r5 r6 hp6 hb63 hxz
          go_wp2
          go_roundw
          case rel => exact ⟨i + 1, by omega, rfl, hbr, hx'.up (Nat.le_of_eq hsz.symm)⟩
          case measure => simp [intOf]; omega
    · have hltn : (i : Int) < (n : Int) := by omega
      have hn0 : 0 < n := by omega
      have hx1 : VZ wr lo wr.heap.size (.slice A n c1) (fw1 L i (fwd L b i) 0) := hx
      clear hx
      obtain ⟨b4, o4, C, e4, rfl, hb4, l0, hvi⟩ := HL.out.row i (by rw [HLL.out]; omega)
      rw [HROW.out i (by rw [HLL.out]; omega)] at l0
      replace l0 := cell_later hb4 l0 hww
      have HVI := Lib.hid hvi
      clear hvi
      obtain ⟨m0, _, _⟩ := (S0.below hbw (show w.heap.size < lo by omega)).p2
      go_wp2_with fail
      clear l0 m0
      generalize wr = wq at *
      go_loopw [26] (fun z wp => ∃ k : Nat, k ≤ i ∧ z = .int .i64 k ∧ Below lo w1 wp ∧ VZ wp lo wp.heap.size (.slice A n c1) (fw1 L i (fwd L b i) k)) (fun z _ => i - (intOf z).toNat)
      case atStart => exact ⟨0, Nat.zero_le _, rfl, hbw, hx1⟩
      case round =>
        clear hx1
        obtain ⟨k, hk, rfl, hbw2, hx⟩ := hrel
        by_cases hki : k = i
        · subst hki
          have hlf : decide ((k : Int) < (k : Int)) = false := by simp
          have hx2 : VZ wr lo wr.heap.size (.slice A n c1) (fwd L b (k + 1)) := hx
          clear hx
          go_wp2
          go_roundw
          case rel => exact ⟨k + 1, by omega, rfl, hbw2, hx2⟩
          case measure => simp [intOf]; omega
        · have hlti : (k : Int) < (i : Int) := by omega
          have hltk : (k : Int) < (n : Int) := by omega
          have hww2 := hb0.trans (hbw2.mono (by omega))
          obtain ⟨b5, o5, rfl, hb5, hat⟩ := HVI.out.cells k (by rw [HROW.out i (by rw [HLL.out]; omega)]; omega)
          replace hat := RatAt.stays _ _ _ _ _ hb5 hat hww2
          have fr := (HFL.out i (by rw [HLL.out]; omega)).2 k (by rw [HROW.out i (by rw [HLL.out]; omega)]; omega)
          obtain ⟨r, hr⟩ : ∃ y, (L.getD i []).getD k zR = y := ⟨_, rfl⟩
          rw [hr] at hat fr
          obtain ⟨A5, c5, B5, d5, k0, k1, k2, hl5, q1, q2⟩ := hat
          have vr : RatV wr (.agg #[.bool r.neg, .slice A5 r.mag.length c5, .slice B5 r.den.length d5]) r := ⟨_, _, _, _, rfl, hl5, q1, q2⟩
          clear q1 q2 hl5
          obtain ⟨X, hX⟩ : ∃ X, fw1 L i (fwd L b i) k = X := ⟨_, rfl⟩
          have HXR := Lib.hid (show AllRes X from hX ▸ ((HRES.out.fwd i).fw1 k))
          have HXL := Lib.hid (show X.length = n from hX ▸ ((fw1_len _ _ _ _).trans ((fwd_len _ _ _).trans HLB.out)))
          have HXN := Lib.hid (show fw1 L i (fwd L b i) (k + 1) = X.set i (FE.rsub (X.getD i zR) (FE.rmul r (X.getD k zR))) by rw [← hX, ← hr]; rfl)
          rw [hX] at hx
          clear hX
          obtain ⟨g, rfl, hlg, hgs, _⟩ := hx.base hn0
          obtain ⟨A6, c6, B6, d6, r6, v6⟩ := hx.at i (by rw [HXL.out]; omega)
          have fi := res_few (HXR.out i (by rw [HXL.out]; omega))
          obtain ⟨A7, c7, B7, d7, r7, v7⟩ := hx.at k (by rw [HXL.out]; omega)
          have fk := res_few (HXR.out k (by rw [HXL.out]; omega))
          obtain ⟨xk, hxk⟩ : ∃ y, X.getD k zR = y := ⟨_, rfl⟩
          rw [hxk] at r7 v7 fk HXN
          obtain ⟨xi, hxi⟩ : ∃ y, X.getD i zR = y := ⟨_, rfl⟩
          rw [hxi] at r6 v6 fi HXN
          obtain ⟨Y, hY⟩ : ∃ Y, FE.rsub xi (FE.rmul r xk) = Y := ⟨_, rfl⟩
          rw [hY] at HXN
          have HSET := Lib.hid HXN.out.symm
          have HYE := Lib.hid hY
          clear hxi HXN hY hxk
          have al := below_alloc1 wr (.cells #[.bool r.neg, .slice A5 r.mag.length c5, .slice B5 r.den.length d5] 57)
          have S9 := Slots.new (Below.refl _ (wr.alloc (.cells #[.bool r.neg, .slice A5 r.mag.length c5, .slice B5 r.den.length d5] 57))) (g := wr.heap.size) rfl
          have r5 := S9.r3
          have v5 := vr.later al
          replace v6 := v6.later al
          replace r6 := r6.later al
          have hxz := (hx.later al).up al.size
          have hbwb := hbw2.trans (al.mono (by omega))
          have hgne : wr.heap.size ≠ g := by omega
          clear hx S9
          replace v7 := v7.later al
          replace r7 := r7.later al
          go_wp2_with fail
          generalize wr.alloc (.cells #[.bool r.neg, .slice A5 r.mag.length c5, .slice B5 r.den.length d5] 57) = wb at *
          clear al
          obtain ⟨g9, hg9⟩ : ∃ y, wr.heap.size = y := ⟨_, rfl⟩
          rw [hg9] at r5 hgne
          have KM := Lib.hid (fun W (hW : Below wb.heap.size wb W) => iRatMul r xk _ _ W (v5.later hW) (v7.later hW) fr fk)
          have KS := fun W (hW : Below wb.heap.size wb W) v (hv : RatV W v (FE.rmul r xk)) => iRatSub xi (FE.rmul r xk) _ v W (v6.later hW) hv fi (res_few (FE.rmul_res r xk))
          rw [HYE.out] at KS
          replace KS := Lib.hid KS
          clear HYE v7 fk
          have hlob : lo ≤ wb.heap.size := Nat.le_trans hlo1 hbwb.size
          have hwrs : Below wb.heap.size wb wb.drew := ⟨rfl, rfl, rfl, Nat.le_refl _, fun _ _ => rfl⟩
          have hwrl : Below lo wb wb.drew := ⟨rfl, rfl, rfl, Nat.le_refl _, fun _ _ => rfl⟩
          clear v5 v6 fi fr vr
          generalize FE.rmul r xk = M at *
          refine wp_region_held_drew (S := fun W => Below lo wb W ∧ R3 W g9 0 (.bool r.neg) (.slice A5 r.mag.length c5) (.slice B5 r.den.length d5) ∧ R3 W g (k * 3) (.bool xk.neg) (.slice A7 xk.mag.length c7) (.slice B7 xk.den.length d7)) (by kernel_rfl) ⟨hwrl, r5, r7⟩ (fun hHeld => ?_)
          refine qL (i := 0) (v := ?_) rfl (by kernel_rfl) (fun _ _ _ h => h) (by assumption) (by rfl) (fun W _ => ?_) ?_
          rotate_left
          · go_simp
            try with_reducible rfl
          try simp only [Act.put, List.setIfInBounds_toArray]
          refine qL (i := 1) (v := ?_) rfl (by kernel_rfl) (fun _ _ _ h => h) (by assumption) (by rfl) (fun W _ => ?_) ?_
          rotate_left
          · go_simp
            try with_reducible rfl
          try simp only [Act.put]
          refine qL (i := 2) (v := ?_) rfl (by kernel_rfl) (fun _ _ _ h => h) (by assumption) (by rfl) (fun W _ => ?_) ?_
          rotate_left
          · go_simp
            try with_reducible rfl
          try simp only [Act.put]
          refine qL (i := 3) (v := ?_) rfl (by kernel_rfl) (fun _ _ _ h => h) (by assumption) (by rfl) (fun W _ => ?_) ?_
          rotate_left
          · go_simp
            try with_reducible rfl
          try simp only [Act.put]
          refine qL (i := 4) (v := ?_) rfl (by kernel_rfl) (fun _ _ _ h => h) (by assumption) (by rfl) (fun W _ => ?_) ?_
          rotate_left
          · go_simp
            try with_reducible rfl
          try simp only [Act.put]
          refine qL (i := 6) (v := ?_) rfl (by kernel_rfl) (fun _ _ _ h => h) (by assumption) (by rfl) (fun W hSw => ?_) ?_
          rotate_left
          · have bx := And.left (And.right hSw)
            have fbx0 := bx.1
            have fbx1 := bx.2.1
            have fbx2 := bx.2.2
            go_simp
            try with_reducible rfl
          try simp only [Act.put]
          refine qL (i := 7) (v := ?_) rfl (by kernel_rfl) (fun _ _ _ h => h) (by assumption) (by rfl) (fun W _ => ?_) ?_
          rotate_left
          · go_simp
            try with_reducible rfl
          try simp only [Act.put]
          refine qL (i := 8) (v := ?_) rfl (by kernel_rfl) (fun _ _ _ h => h) (by assumption) (by rfl) (fun W _ => ?_) ?_
          rotate_left
          · go_simp
            try with_reducible rfl
          try simp only [Act.put]
          refine qL (i := 9) (v := ?_) rfl (by kernel_rfl) (fun _ _ _ h => h) (by assumption) (by rfl) (fun W _ => ?_) ?_
          rotate_left
          · go_simp
            try with_reducible rfl
          try simp only [Act.put]
          refine qL (i := 10) (v := ?_) rfl (by kernel_rfl) (fun _ _ _ h => h) (by assumption) (by rfl) (fun W hSw => ?_) ?_
          rotate_left
          · have xk := (And.right (And.right hSw))
            have fxk0 := xk.1
            have fxk1 := xk.2.1
            have fxk2 := xk.2.2
            go_simp
            try with_reducible rfl
          try simp only [Act.put]
          refine qR2 (i := 5) (j := 11) (by kernel_rfl) rfl rfl (fun K hK => ?_) (fun K hK => ?_)
          ·simp only [List.getElem_toArray, List.getElem_cons_succ, List.getElem_cons_zero]
           have u0 := r6.1
           have u1 := r6.2.1
           have u2 := r6.2.2
           go_simp
           refine hK.out _ _ (hHeld) (fun h2 => ?_)
           clear hK K hHeld
           have hHeld := h2
           clear h2
           try simp only [Act.put, List.setIfInBounds_toArray, List.set_cons_zero, List.set_cons_succ]
           refine qR (i := 11) (by kernel_rfl) rfl (fun K hK => ?_)
           simp only [List.getElem_toArray, List.getElem_cons_succ, List.getElem_cons_zero]
           go_simp
           (go_at_call 45; (with_reducible refine (KM.out _ (by first | exact hwrs | exact Below.refl _ _)).mono ?_); rintro e3 w3 ⟨v3, rfl, hp3, hb3⟩)
           try (go_wp2_with fail)
           have hb3' : Below wb.heap.size wb w3 := ⟨hb3.os, hb3.tape, hb3.output, hb3.size, hb3.block⟩
           have hz3 := hb3'.size
           refine hK.out _ _ ⟨hb3'.mono hlob, r5.later hb3', r7.later hb3'⟩ (fun h2 => ?_)
           clear hK K hHeld
           have hHeld := h2
           clear h2
           try simp only [Act.put, List.setIfInBounds_toArray, List.set_cons_zero, List.set_cons_succ]
           refine qR (i := 12) (by kernel_rfl) rfl (fun K hK => ?_)
           simp only [List.getElem_toArray, List.getElem_cons_succ, List.getElem_cons_zero]
           go_simp
           (go_at_call 147; (with_reducible refine (KS.out _ hb3' v3 hp3.reads).mono ?_); rintro e6 w6 ⟨v6, rfl, hp6, hb6⟩)
           try (go_wp2_with fail)
           have hb63 := below_trans hb3' hb6
           obtain ⟨A8, n8, c8, B8, m8, d8, rfl⟩ := hp6.shape
           have hz6 := hb63.size
           refine hK.out _ _ ⟨hb63.mono hlob, r5.later hb63, r7.later hb63⟩ (fun h2 => ?_)
           clear hK K hHeld
           have hHeld := h2
           clear h2
           try simp only [Act.put, List.setIfInBounds_toArray, List.set_cons_zero, List.set_cons_succ]
           refine qL (i := 13) (v := ?_) rfl (by kernel_rfl) (fun _ _ _ h => h) (by assumption) (by rfl) (fun W _ => ?_) ?_
           rotate_left
           · go_simp
             try with_reducible rfl
           try simp only [Act.put, List.setIfInBounds_toArray]
           refine qR (i := 14) (by kernel_rfl) rfl (fun K hK => ?_)
           simp only [List.getElem_toArray, List.getElem_cons_succ, List.getElem_cons_zero]
           have r63 := r6.later hb63
           have t0 := r63.1
           have t1 := r63.2.1
           have t2 := r63.2.2
           have z0 := (hxz.later hb63).frz hn0 (i * 3)
           have z1 := (hxz.later hb63).frz hn0 (i * 3 + 1)
           have z2 := (hxz.later hb63).frz hn0 (i * 3 + 2)
           go_simp
           refine hK.out _ _ ⟨below_set3 (hb63.mono hlob) hlg _ _ _, (r5.later hb63).off (Or.inl (by omega)), (r7.later hb63).off (Or.inr (by omega))⟩ (fun h2 => ?_)
           clear hK K hHeld
           have hHeld := h2
           clear h2
           try simp only [Act.put, List.setIfInBounds_toArray, List.set_cons_zero, List.set_cons_succ]
           refine wpAnyH_done (by kernel_rfl) ?_ _
           clear hHeld
           have hx' := (hxz.later hb63).swap (i := i) (by rw [HXL.out]; omega) hp6 (by omega) (by omega) (by omega)
           rw [HSET.out] at hx'
           have hbr := hbwb.trans (below_set3 (hb63.mono hlob) hlg (o := i * 3) (.bool Y.neg) (.slice A8 n8 c8) (.slice B8 m8 d8))
           have hsz : (set3 w6 g (i * 3) (.bool Y.neg) (.slice A8 n8 c8) (.slice B8 m8 d8)).heap.size = w6.heap.size := by simp [set3]
           clear t0 t1 t2 z0 z1 z2 r5 r6 hp6 hb63 hxz r7
           go_wp2
           go_roundw
           case rel => exact ⟨k + 1, by omega, rfl, hbr, hx'.up (Nat.le_of_eq hsz.symm)⟩
           case measure => simp [intOf]; omega
          ·simp only [List.getElem_toArray, List.getElem_cons_succ, List.getElem_cons_zero]
           go_simp
           (go_at_call 45; (with_reducible refine (KM.out _ (by first | exact hwrs | exact Below.refl _ _)).mono ?_); rintro e3 w3 ⟨v3, rfl, hp3, hb3⟩)
           try (go_wp2_with fail)
           have hb3' : Below wb.heap.size wb w3 := ⟨hb3.os, hb3.tape, hb3.output, hb3.size, hb3.block⟩
           have hz3 := hb3'.size
           refine hK.out _ _ ⟨hb3'.mono hlob, r5.later hb3', r7.later hb3'⟩ (fun h2 => ?_)
           clear hK K hHeld
           have hHeld := h2
           clear h2
           try simp only [Act.put, List.setIfInBounds_toArray, List.set_cons_zero, List.set_cons_succ]
           refine qR (i := 5) (by kernel_rfl) rfl (fun K hK => ?_)
           simp only [List.getElem_toArray, List.getElem_cons_succ, List.getElem_cons_zero]
           have r63 := r6.later hb3'
           have u0 := r63.1
           have u1 := r63.2.1
           have u2 := r63.2.2
           go_simp
           refine hK.out _ _ ⟨hb3'.mono hlob, r5.later hb3', r7.later hb3'⟩ (fun h2 => ?_)
           clear hK K hHeld
           have hHeld := h2
           clear h2
           try simp only [Act.put, List.setIfInBounds_toArray, List.set_cons_zero, List.set_cons_succ]
           refine qR (i := 12) (by kernel_rfl) rfl (fun K hK => ?_)
           simp only [List.getElem_toArray, List.getElem_cons_succ, List.getElem_cons_zero]
           go_simp
           (go_at_call 147; (with_reducible refine (KS.out _ hb3' v3 hp3.reads).mono ?_); rintro e6 w6 ⟨v6, rfl, hp6, hb6⟩)
           try (go_wp2_with fail)
           have hb63 := below_trans hb3' hb6
           obtain ⟨A8, n8, c8, B8, m8, d8, rfl⟩ := hp6.shape
           have hz6 := hb63.size
           refine hK.out _ _ ⟨hb63.mono hlob, r5.later hb63, r7.later hb63⟩ (fun h2 => ?_)
           clear hK K hHeld
           have hHeld := h2
           clear h2
           try simp only [Act.put, List.setIfInBounds_toArray, List.set_cons_zero, List.set_cons_succ]
           refine qL (i := 13) (v := ?_) rfl (by kernel_rfl) (fun _ _ _ h => h) (by assumption) (by rfl) (fun W _ => ?_) ?_
           rotate_left
           · go_simp
             try with_reducible rfl
           try simp only [Act.put, List.setIfInBounds_toArray]
           refine qR (i := 14) (by kernel_rfl) rfl (fun K hK => ?_)
           simp only [List.getElem_toArray, List.getElem_cons_succ, List.getElem_cons_zero]
           have r63 := r6.later hb63
           have t0 := r63.1
           have t1 := r63.2.1
           have t2 := r63.2.2
           have z0 := (hxz.later hb63).frz hn0 (i * 3)
           have z1 := (hxz.later hb63).frz hn0 (i * 3 + 1)
           have z2 := (hxz.later hb63).frz hn0 (i * 3 + 2)
           go_simp
           refine hK.out _ _ ⟨below_set3 (hb63.mono hlob) hlg _ _ _, (r5.later hb63).off (Or.inl (by omega)), (r7.later hb63).off (Or.inr (by omega))⟩ (fun h2 => ?_)
           clear hK K hHeld
           have hHeld := h2
           clear h2
           try simp only [Act.put, List.setIfInBounds_toArray, List.set_cons_zero, List.set_cons_succ]
           refine wpAnyH_done (by kernel_rfl) ?_ _
           clear hHeld
           have hx' := (hxz.later hb63).swap (i := i) (by rw [HXL.out]; omega) hp6 (by omega) (by omega) (by omega)
           rw [HSET.out] at hx'
           have hbr := hbwb.trans (below_set3 (hb63.mono hlob) hlg (o := i * 3) (.bool Y.neg) (.slice A8 n8 c8) (.slice B8 m8 d8))
           have hsz : (set3 w6 g (i * 3) (.bool Y.neg) (.slice A8 n8 c8) (.slice B8 m8 d8)).heap.size = w6.heap.size := by simp [set3]
           clear t0 t1 t2 z0 z1 z2 r5 r6 hp6 hb63 hxz r7
           go_wp2
           go_roundw
           case rel => exact ⟨k + 1, by omega, rfl, hbr, hx'.up (Nat.le_of_eq hsz.symm)⟩
           case measure => simp [intOf]; omega
end Go.Proofs.YtlpomcihkjiokaaGreat

namespace Go.Proofs.YtlpomcihkjiokaaGreat
open Go.RowKit Go.Joins

/-- A matrix whose factorization the program finds. -/
def FGood (rs : List RowD) : Prop := mSym rs = true ∧ ∀ i, i < rs.length → 0 < rsig (facPiv rs i) ∧ vok (facRow rs i) = true
theorem rsig_yes {x : RatD} (h : 0 < rsig x) : FE.ratOk x = true ∧ 0 < rsgn x := by
  unfold rsig at h
  split at h
  · rename_i h1
    exact ⟨h1, h⟩
  · omega
theorem facN_ok {rs : List RowD} (h : FGood rs) : (facN rs rs.length).ok = true := by
  obtain ⟨h1, h2⟩ := facN_len rs rs.length
  have hm : mOk rs = true := by
    have hs := h.1
    unfold mSym at hs
    rw [Bool.and_eq_true] at hs
    exact hs.1
  have hl : rs.length ≤ 40 := by
    unfold mOk at hm
    rw [Bool.and_eq_true, decide_eq_true_eq] at hm
    exact hm.1
  unfold FacD.ok
  simp only [Bool.and_eq_true, decide_eq_true_eq, Bool.not_eq_true', List.all_eq_true, List.mem_range, h1, h2]
  refine ⟨⟨trivial, hl⟩, ⟨?_, ?_⟩, fun i hi => ?_⟩
  · unfold vok
    rw [List.all_eq_true]
    intro y hy
    obtain ⟨k, hk, rfl⟩ := mem_getD (d := zR) hy
    rw [h2] at hk
    rw [(facN_row rs k _ hk).2]
    exact (rsig_yes (h.2 k hk).1).1
  · rw [List.any_eq_false]
    intro y hy
    obtain ⟨k, hk, rfl⟩ := mem_getD (d := zR) hy
    rw [h2] at hk
    rw [(facN_row rs k _ hk).2]
    have := (rsig_yes (h.2 k hk).1).2
    simp only [decide_eq_true_eq]
    omega
  · rw [(facN_row rs i _ hi).1]
    unfold lowB
    rw [Bool.and_eq_true, decide_eq_true_eq]
    exact ⟨fRow_len _ _ _ _, (h.2 i hi).2⟩

set_option maxRecDepth 100000 in
set_option maxHeartbeats 3200000 in
theorem iSolveMatrix (rs : List RowD) (b : List RatD) (u : Value) (n c : Nat) (B : Option Addr) (w : World) (hu : MatV w u rs) (hb : VI w B b) (hf : MFew rs) (hg : Few b) (hn : rs.length = n) (hbn : b.length = n) (hgood : FGood rs) (hvb : vok b = true) (hx : vok (solB (facN rs n) b) = true) :
    Calls Tryz.prog 51 #[u, .slice B n c] w fun e w' => ∃ v ps, e = .returned (.tuple #[v, .bool true]) ∧ VS w' w.heap.size w'.heap.size v ps (solB (facN rs n) b) ∧ Below w.heap.size w w' := by
  have hok := facN_ok hgood
  rw [hn] at hok
  have hm : mOk rs = true := by
    have hs := hgood.1
    unfold mSym at hs
    rw [Bool.and_eq_true] at hs
    exact hs.1
  have HF := Lib.hid (fun W (hW : Below w.heap.size w W) => iFactorMatrix rs u n W (hu.later hW) hf hn hgood.1 (fun i hi => hgood.2 i (by rw [hn]; exact hi)))
  have HV := fun W (hW : Below w.heap.size w W) => iIsVector b n c (n : Int) hbn hg B W (hb.later hW)
  have hcond : (decide ((b.length : Int) = (n : Int)) && vok b) = true := by rw [hbn, hvb]; simp
  rw [hcond] at HV
  replace HV := Lib.hid HV
  have hfew := facN_few hm (i := n) (by omega)
  have HS := fun fv W (hW : Below w.heap.size w W) (hF : FacV W fv (facN rs n)) => iSolve (facN rs n) b fv n c B W hF (hb.later hW) hok (by exact (facN_len rs n).2) hbn hvb hfew hg
  have hvf : vFull (solB (facN rs n) b) = solB (facN rs n) b := by unfold vFull; rw [hx]; rfl
  rw [hvf] at HS
  replace HS := Lib.hid HS
  have hlen : (solB (facN rs n) b).length = n := by rw [solB_len]; exact hbn
  have HL := Lib.hid hlen
  obtain ⟨A, cA, rfl, _, _⟩ := hu
  rw [hn] at HF ⊢
  clear hok hm hcond hfew hvf hx hvb hf hg hb hbn hn hgood hlen
  generalize solB (facN rs n) b = X at *
  go_enter Tryz.func51, Tryz.ntmps51
  have al := below_alloc1 w (.cells #[.slice A n cA] 52)
  have S1 := Slots.new (Below.refl _ (w.alloc (.cells #[.slice A n cA] 52))) (g := w.heap.size) rfl
  go_wp2_with fail
  refine (HF.out _ al).mono ?_
  rintro e w1 ⟨fv, rfl, hF, hb1⟩
  replace S1 := S1.later hb1
  have hb2 := below_trans al hb1
  have hF0 := Lib.hid hF
  obtain ⟨AL, cL, AP, cP, rfl, _, _, _⟩ := hF
  have al3 := below_alloc1 w1 (.cells #[.slice AL (facN rs n).lower.length cL, .slice AP (facN rs n).pivots.length cP] 32)
  have S3 := Slots.new (Below.refl _ (w1.alloc (.cells #[.slice AL (facN rs n).lower.length cL, .slice AP (facN rs n).pivots.length cP] 32))) (g := w1.heap.size) rfl
  replace S1 := S1.later al3
  replace hb2 := below_trans hb2 al3
  replace hF0 := Lib.hid (hF0.out.later al3)
  have a0 := S1.c1.1
  clear hb1 al al3 HF
  go_wp2_with fail
  generalize w1.alloc (.cells #[.slice AL (facN rs n).lower.length cL, .slice AP (facN rs n).pivots.length cP] 32) = w2 at *
  refine (HV.out _ hb2).mono ?_
  rintro e w3 ⟨rfl, hb3⟩
  replace S3 := S3.later hb3
  replace hb2 := below_trans hb2 hb3
  replace hF0 := Lib.hid (hF0.out.later hb3)
  obtain ⟨p0, p1, _⟩ := S3.k2
  clear a0 S1 hb3 HV
  go_wp2_with fail
  refine (HS.out _ _ hb2 hF0.out).mono ?_
  rintro e w4 ⟨v4, ps4, rfl, hx4, _, hb4⟩
  obtain ⟨Ax, cx, rfl, _⟩ := hx4.form
  have hb5 := below_trans hb2 hb4
  have HX := Lib.hid (hx4.wide (lo' := w.heap.size) (hi' := w4.heap.size) hb2.size (Nat.le_refl _))
  rw [HL.out] at HX ⊢
  clear hx4 p0 p1 S3 hb2 hb4
  go_wp2
  exact bodyPost_ret (v := .tuple #[.slice Ax n cx, .bool true]) (by simp [results, Tryz.results51, go_sem]) rfl ⟨_, _, rfl, HX.out, hb5⟩
end Go.Proofs.YtlpomcihkjiokaaGreat

namespace Go.Proofs.YtlpomcihkjiokaaGreat
open Go.RowKit Go.Joins

end Go.Proofs.YtlpomcihkjiokaaGreat

namespace Go.Proofs.YtlpomcihkjiokaaGreat
open Go.RowKit Go.Joins

end Go.Proofs.YtlpomcihkjiokaaGreat

namespace Go.Proofs.YtlpomcihkjiokaaGreat
open Go.RowKit Go.Joins

def solF (F : FacD) (b : List RatD) : List RatD := if F.ok && (decide ((b.length : Int) = (F.pivots.length : Int)) && vok b) then vFull (solB F b) else []
set_option maxRecDepth 100000 in
set_option maxHeartbeats 1600000 in
theorem iSolFac (F : FacD) (b : List RatD) (u : Value) (n c : Nat) (A0 : Option Addr) (w : World) (hn : b.length = n) (hu : FacV w u F) (hb : VI w A0 b) (hf : F.few) (hg : Few b) :
    Calls Tryz.prog 15 #[u, .slice A0 n c] w (VRes w (solF F b)) := by
  have HM := fun W (hW : Below w.heap.size w W) => iIsFactor F u W (hu.later hW) hf
  have HS := fun W (hW : Below w.heap.size w W) h1 h2 h3 => iSolve F b u n c A0 W (hu.later hW) (hb.later hW) h1 h2 hn h3 hf hg
  have HV := fun W (hW : Below w.heap.size w W) => iIsVector b n c F.pivots.length hn hg A0 W (hb.later hW)
  obtain ⟨AL, cL, AP, cP, rfl, _, _, _⟩ := hu
  have hn1 := hg.1
  unfold solF
  rw [hn] at hn1 ⊢
  have HN := Lib.hid hn
  have S0 := Slots.new (Below.refl _ (w.alloc (.cells #[.slice AL F.lower.length cL, .slice AP F.pivots.length cP] 32))) (g := w.heap.size) rfl
  have hb0 := below_alloc1 w (.cells #[.slice AL F.lower.length cL, .slice AP F.pivots.length cP] 32)
  clear hb hf hg hn
  rw [HN.out] at HV
  cases hq : F.ok
  · simp only [Bool.false_and, Bool.false_eq_true, if_false]
    rw [hq] at HM
    replace HM := Lib.hid HM
    clear HV HS hq
    generalize F.lower.length = nl at *
    generalize F.pivots.length = np at *
    go_enter Tryz.func15, Tryz.ntmps15
    go_wp2_with fail
    refine (HM.out _ hb0).mono ?_
    rintro e w1 ⟨rfl, hb1⟩
    replace S0 := S0.later hb1
    replace hb0 := below_trans hb0 hb1
    obtain ⟨a0, a1, _, _⟩ := S0.p2
    go_wp2
    go_ret
    exact VRes.nil hb0
  · simp only [Bool.true_and]
    rw [hq] at HM
    replace HM := Lib.hid HM
    obtain ⟨bv, hbv⟩ : ∃ bv, (decide ((n : Int) = (F.pivots.length : Int)) && vok b) = bv := ⟨_, rfl⟩
    rw [hbv] at HV ⊢
    replace HV := Lib.hid HV
    cases bv
    · simp only [Bool.false_eq_true, if_false]
      clear HS hq hbv
      generalize F.lower.length = nl at *
      generalize F.pivots.length = np at *
      go_enter Tryz.func15, Tryz.ntmps15
      go_wp2_with fail
      refine (HM.out _ hb0).mono ?_
      rintro e w1 ⟨rfl, hb1⟩
      replace S0 := S0.later hb1
      replace hb0 := below_trans hb0 hb1
      obtain ⟨a0, a1, _, _⟩ := S0.p2
      go_wp2_with fail
      refine (HV.out _ hb0).mono ?_
      rintro e w2 ⟨rfl, hb2⟩
      replace hb0 := below_trans hb0 hb2
      clear S0 a0 a1
      go_wp2
      go_ret
      exact VRes.nil hb0
    · simp only [if_true]
      have h2 : F.pivots.length = n ∧ vok b = true := by
        simp only [Bool.and_eq_true, decide_eq_true_eq] at hbv
        exact ⟨by omega, hbv.2⟩
      replace HS := Lib.hid (fun W hW => HS W hW hq h2.1 h2.2)
      clear hbv hq h2
      generalize solB F b = Z at *
      generalize F.lower.length = nl at *
      generalize F.pivots.length = np at *
      go_enter Tryz.func15, Tryz.ntmps15
      go_wp2_with fail
      refine (HM.out _ hb0).mono ?_
      rintro e w1 ⟨rfl, hb1⟩
      replace S0 := S0.later hb1
      replace hb0 := below_trans hb0 hb1
      obtain ⟨a0, a1, _, _⟩ := S0.p2
      go_wp2_with fail
      refine (HV.out _ hb0).mono ?_
      rintro e w2 ⟨rfl, hb2⟩
      replace S0 := S0.later hb2
      replace hb0 := below_trans hb0 hb2
      clear a0 a1
      obtain ⟨a0, a1, _, _⟩ := S0.p2
      go_wp2_with fail
      refine (HS.out _ hb0).mono ?_
      intro e w3 hp
      obtain ⟨v3, ps3, rfl, hv3, ha3, hb3⟩ := VRes.up hb0 hp
      clear S0 a0 a1 hp
      go_wp2
      go_ret
      exact ⟨v3, ps3, rfl, hv3, ha3, hb3⟩

end Go.Proofs.YtlpomcihkjiokaaGreat

namespace Go.Proofs.YtlpomcihkjiokaaGreat

/-- The facts that the law on the factorization needs. -/
structure FactL (rs : List RowD) (bs : List RatD) (n : Nat) : Prop where
  good : FGood rs
  ok : (facN rs n).ok = true
  few : (facN rs n).few
  piv : (facN rs n).pivots.length = n
  exp : spR (fullL (facN rs n).pivots.length (expE (facN rs n))) = rs
  expOk : spOk (fullL (facN rs n).pivots.length (expE (facN rs n))) = true
  vb : vok bs = true
  vx : vok (solB (facN rs n) bs) = true
  xl : (solB (facN rs n) bs).length = n
  sol : solF (facN rs n) bs = solB (facN rs n) bs
  rl : (resid rs bs (solB (facN rs n) bs)).length = n
  r0 : ∀ i, i < n → rsig ((resid rs bs (solB (facN rs n) bs)).getD i zR) = 0
  rf : ∀ i, i < n → FE.Res ((resid rs bs (solB (facN rs n) bs)).getD i zR)
  det : rsig (detK (facN rs n).pivots n) = 1
theorem FE.Is.rsig_zero {x : RatD} (h : FE.Is x 0) : rsig x = 0 := by
  unfold rsig
  rw [h.ok, if_pos rfl]
  exact h.rsgn_zero.2 rfl
theorem fact_plain {n : Nat} {E : Nat → Nat → Int} {bs : List RatD} (h4 : n ≤ 4) (hE : DrI E n) (hl : bs.length = n) (hu : ∀ x ∈ bs, FewR x) : FactL (spM (intL n E)) bs n := by
  have hp := dri_pd h4 hE
  obtain ⟨U, hU⟩ := few_lats hu
  rw [hl] at hU
  have hlen : (spM (intL n E)).length = n := by rw [spM_len, intL_len]
  have hgood : FGood (spM (intL n E)) := ⟨intL_mSym (by omega) hE, fun i hi => fac_good hp h4 hE i (by rw [hlen] at hi; exact hi)⟩
  have hok := facN_ok hgood
  rw [hlen] at hok
  have hF := fac_low hp h4 hE
  have hX := sol_is hp h4 hE hU hl
  have hxl : (solB (facN (spM (intL n E)) n) bs).length = n := (solB_len _ _).trans hl
  have hpl := (facN_len (spM (intL n E)) n).2
  have hexp : fullL (facN (spM (intL n E)) n).pivots.length (expE (facN (spM (intL n E)) n)) = intL n E := by
    rw [hpl]
    exact fullL_ext (fun i j hi hj => expE_is hp h4 hF hi hj)
  have hsp := intL_ok (n := n) hE.all
  have hvx : vok (solB (facN (spM (intL n E)) n) bs) = true := vok_getD (fun j hj => (hX j (by omega)).ok)
  have hvb : vok bs = true := vok_getD (fun j hj => (hU j (by omega)).1.ok)
  have hR := sol_resid hp h4 hE hU hl
  have hrl : (resB (spM (intL n E)) bs (solB (facN (spM (intL n E)) n) bs)).length = n := by unfold resB; rw [comb_len, hl]
  have hres : resid (spM (intL n E)) bs (solB (facN (spM (intL n E)) n) bs) = resB (spM (intL n E)) bs (solB (facN (spM (intL n E)) n) bs) := by
    unfold resid
    have hfit : fitsB (spM (intL n E)) [bs, solB (facN (spM (intL n E)) n) bs] = true := by
      simp only [fitsB, List.all_cons, List.all_nil, fitB, hlen, hl, hxl, hvb, hvx, intL_mOk (n := n) (by omega) hE.all]
      simp
    rw [hfit, if_pos rfl]
    unfold vFull
    rw [if_pos (vok_getD (fun j hj => (hR j (by omega)).ok))]
  refine ⟨hgood, hok, facN_few (intL_mOk (by omega) hE.all) (by rw [hlen]; exact Nat.le_refl n), hpl, ?_, ?_, hvb, hvx, hxl, ?_, ?_, fun i hi => ?_, fun i hi => ?_, ?_⟩
  · rw [hexp]
    unfold spR
    rw [hsp, if_pos rfl]
  · rw [hexp, hsp]
  · unfold solF vFull
    rw [hok, hvb, hvx, hpl, hl]
    simp
  · rw [hres, hrl]
  · rw [hres]; exact (hR i hi).rsig_zero
  · rw [hres]; exact Or.inr (hR i hi).ok
  · exact (detK_is hp h4 hF n (Nat.le_refl n)).rsig_pos (qDet_sz hp h4 n (Nat.le_refl n)).2
end Go.Proofs.YtlpomcihkjiokaaGreat

namespace Go.Proofs.YtlpomcihkjiokaaGreat
open Go.RowKit Go.Joins

set_option maxRecDepth 100000 in
set_option maxHeartbeats 1600000 in
theorem iLower (F : FacD) (u : Value) (i k : Nat) (w : World) (hu : FacV w u F) (hf : F.few) (hi : i < F.lower.length) (hk : i = k ∨ k < (F.lower.getD i []).length) :
    Calls Tryz.prog 127 #[u, .int .i64 i, .int .i64 k] w fun e w' => ∃ v', e = .returned v' ∧ RatV w' v' (loE F i k) ∧ Below w.heap.size w w' := by
  have hn1 := hf.1.1
  have hn2 := (hf.1.2 i hi).1
  obtain ⟨AL, cL, AP, cP, rfl, _, hL, _⟩ := hu
  have hW := below_alloc2 w (.cells #[.slice AL F.lower.length cL, .slice AP F.pivots.length cP] 32) (.cells #[.bool false, .slice none 0 0, .slice none 0 0] 57)
  have S0 := Slots.new (below_step (Below.refl _ ((w.alloc (.cells #[.slice AL F.lower.length cL, .slice AP F.pivots.length cP] 32)).alloc (.cells #[.bool false, .slice none 0 0, .slice none 0 0] 57)))) (g := w.heap.size) rfl
  have R0 := Slots.new (Below.refl _ ((w.alloc (.cells #[.slice AL F.lower.length cL, .slice AP F.pivots.length cP] 32)).alloc (.cells #[.bool false, .slice none 0 0, .slice none 0 0] 57))) (g := w.heap.size + 1) (by simp)
  by_cases e : i = k
  · subst e
    have H5 := fun W => iRatFromInt 1 (by decide) W
    rw [show FE.rint 1 = loE F i i from (by unfold loE; rw [if_pos rfl])] at H5
    replace H5 := Lib.hid H5
    clear hi hk hL hn2 S0
    generalize loE F i i = R at *
    go_enter Tryz.func127, Tryz.ntmps127
    go_wp2_with fail
    generalize (w.alloc (.cells #[.slice AL F.lower.length cL, .slice AP F.pivots.length cP] 32)).alloc (.cells #[.bool false, .slice none 0 0, .slice none 0 0] 57) = w2 at *
    refine (H5.out _).mono ?_
    rintro e w5 ⟨v5, rfl, hrp, hb5⟩
    have hsz := R0.1
    replace R0 := R0.later hb5
    have hbel := below_trans hW hb5
    replace hrp := hrp.mono (base' := w.heap.size + 1 + 1) (by omega)
    obtain ⟨A6, n6, c6, B6, m6, d6, rfl⟩ := hrp.shape
    obtain ⟨b0, b1, b2, z0, z1, z2⟩ := R0.c3
    have hb' := below3 hbel (show w.heap.size ≤ w.heap.size + 1 by omega) (.bool R.neg) (.slice A6 n6 c6) (.slice B6 m6 d6)
    have f6 := hrp.far3 (g := w.heap.size + 1) (Nat.lt_succ_self _) (.bool R.neg) (.slice A6 n6 c6) (.slice B6 m6 d6)
    clear R0 hrp
    go_wp2
    exact bodyPost_ret (v := .agg #[.bool R.neg, .slice A6 n6 c6, .slice B6 m6 d6]) (by simp [results, Tryz.results127, go_sem, b0, b1, b2]) rfl ⟨_, rfl, f6.reads, hb'⟩
  · have hkl : k < (F.lower.getD i []).length := hk.resolve_left e
    have hne : ¬ ((i : Int) = (k : Int)) := by omega
    have hin : (i : Int) < (F.lower.length : Int) := by omega
    have hR : (F.lower.getD i []).getD k zR = loE F i k := by unfold loE lowE; rw [if_neg e]
    obtain ⟨b, off, C, ec, rfl, hb, g0, hV⟩ := hL.row i hi
    obtain ⟨b2, o2, rfl, hb2, hat⟩ := hV.cells k hkl
    rw [hR] at hat
    have hkv' : (k : Int) < ((F.lower.getD i []).length : Int) := by omega
    obtain ⟨A3, c3, B3, d3, k0, k1, k2, hl3, q1, q2⟩ := hat
    have g0' := cell_later hb g0 hW
    have k0' := cell_later hb2 k0 hW
    have k1' := cell_later hb2 k1 hW
    have k2' := cell_later hb2 k2 hW
    generalize loE F i k = R at *
    generalize (F.lower.getD i []).length = m at *
    generalize F.lower.length = n at *
    have HQ := Lib.hid (fun W (hW : Below w.heap.size w W) => (⟨_, _, _, _, rfl, hl3, q1.later hW, q2.later hW⟩ : RatV W (.agg #[.bool R.neg, .slice A3 R.mag.length c3, .slice B3 R.den.length d3]) R))
    obtain ⟨s0, s1, _⟩ := S0.k2
    obtain ⟨b0, b1, b2, z0, z1, z2⟩ := R0.c3
    clear q1 q2 hl3 k0 k1 k2 g0 hV hL hR hk hi hkl e S0 R0
    go_enter Tryz.func127, Tryz.ntmps127
    go_wp2
    exact bodyPost_ret (v := .agg #[.bool R.neg, .slice A3 R.mag.length c3, .slice B3 R.den.length d3]) (by simp [results, Tryz.results127, go_sem]) rfl ⟨_, rfl, HQ.out _ (below_alloc2 _ _ _), below_alloc2 _ _ _⟩
end Go.Proofs.YtlpomcihkjiokaaGreat
