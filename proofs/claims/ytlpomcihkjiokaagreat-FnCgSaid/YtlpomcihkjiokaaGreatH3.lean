/-
 Shared texts (H3).
-/
import Derived.Test.YtlpomcihkjiokaaGreatH2
import Derived.Test.YtlpomcihkjiokaaGreatH1
import Derived.Deep.LoopGhost
namespace Go.Proofs.YtlpomcihkjiokaaGreat
open Go.RowKit Go.Joins
set_option maxHeartbeats 800000 in
theorem iSameIterate (x r p x' r' p' : List RatD) (u v : Value) (w : World) (hu : ItV w u x r p) (hv : ItV w v x' r' p') (f1 : Few x) (f2 : Few r) (f3 : Few p) (g1 : Few x') (g2 : Few r') (g3 : Few p') :
 Calls Tryz.prog 64 #[u, v] w fun e w' => e = .returned (.bool (itSame x r p x' r' p')) ∧ Below w.heap.size w w' := by
 obtain ⟨A, c, B, d, C, e, rfl, _, hx, hr, hp⟩ := hu
 obtain ⟨A', c', B', d', C', e', rfl, _, hx', hr', hp'⟩ := hv
 have q1 := Lib.hid (fun W hW => iSame x x' _ _ c c' rfl rfl f1 g1 A A' W (hx.later (w' := W) hW) (hx'.later hW))
 have q2 := Lib.hid (fun W hW => iSame r r' _ _ d d' rfl rfl f2 g2 B B' W (hr.later (w' := W) hW) (hr'.later hW))
 have q3 := Lib.hid (fun W hW => iSame p p' _ _ e e' rfl rfl f3 g3 C C' W (hp.later (w' := W) hW) (hp'.later hW))
 have HS := Lib.hid (show itSame x r p x' r' p' = (vsame x x' && (vsame r r' && vsame p p')) from rfl)
 clear hx hr hp hx' hr' hp' f1 f2 f3 g1 g2 g3
 generalize itSame x r p x' r' p' = res at *
 generalize vsame x x' = b1 at *
 generalize vsame r r' = b2 at *
 generalize vsame p p' = b3 at *
 generalize x.length = n1 at *
 generalize r.length = n2 at *
 generalize p.length = n3 at *
 generalize x'.length = m1 at *
 generalize r'.length = m2 at *
 generalize p'.length = m3 at *
 cases b1
 ·skip
  go_enter Tryz.func64, Tryz.ntmps64
  go_wp2_with fail
  refine (q1.out _ (below_alloc2 _ _ _)).mono ?_
  rintro z w1 ⟨rfl, hb1⟩
  replace hb1 := below_trans (below_alloc2 _ _ _) hb1
  go_wp2
  go_ret
  exact ⟨ret_bool (by rw [HS.out]; rfl), hb1⟩
 ·cases b2
  ·skip
   go_enter Tryz.func64, Tryz.ntmps64
   go_wp2_with fail
   refine (q1.out _ (below_alloc2 _ _ _)).mono ?_
   rintro z w1 ⟨rfl, hb1⟩
   have hi := own_cell hb1 (g := w.heap.size + 1) (by simp)
   have hj := own_cell (below_step hb1) (g := w.heap.size) rfl
   have i1 := hi.1 1 _ rfl
   have j1 := hj.1 1 _ rfl
   have hsz : w.heap.size + 1 < w1.heap.size := (by have := hb1.size; simp only [World.size_alloc] at this; omega)
   clear hi hj
   replace hb1 := below_trans (below_alloc2 _ _ _) hb1
   go_wp2_with fail
   refine (q2.out _ hb1).mono ?_
   rintro z w2 ⟨rfl, hb2⟩
   replace hb2 := below_trans hb1 hb2
   go_wp2
   go_ret
   exact ⟨ret_bool (by rw [HS.out]; rfl), hb2⟩
  ·cases b3
   ·skip
    go_enter Tryz.func64, Tryz.ntmps64
    go_wp2_with fail
    refine (q1.out _ (below_alloc2 _ _ _)).mono ?_
    rintro z w1 ⟨rfl, hb1⟩
    have hi := own_cell hb1 (g := w.heap.size + 1) (by simp)
    have hj := own_cell (below_step hb1) (g := w.heap.size) rfl
    have i1 := hi.1 1 _ rfl
    have j1 := hj.1 1 _ rfl
    have i2 := hi.1 2 _ rfl
    have j2 := hj.1 2 _ rfl
    have hsz : w.heap.size + 1 < w1.heap.size := (by have := hb1.size; simp only [World.size_alloc] at this; omega)
    clear hi hj
    replace hb1 := below_trans (below_alloc2 _ _ _) hb1
    go_wp2_with fail
    refine (q2.out _ hb1).mono ?_
    rintro z w2 ⟨rfl, hb2⟩
    have i3 := cell_later hsz i2 hb2
    have j3 := cell_later (Nat.lt_of_succ_lt hsz) j2 hb2
    clear i1 j1 i2 j2
    replace hb2 := below_trans hb1 hb2
    go_wp2_with fail
    refine (q3.out _ hb2).mono ?_
    rintro z w3 ⟨rfl, hb3⟩
    replace hb3 := below_trans hb2 hb3
    go_wp2
    go_ret
    exact ⟨ret_bool (by rw [HS.out]; rfl), hb3⟩
   ·skip
    go_enter Tryz.func64, Tryz.ntmps64
    go_wp2_with fail
    refine (q1.out _ (below_alloc2 _ _ _)).mono ?_
    rintro z w1 ⟨rfl, hb1⟩
    have hi := own_cell hb1 (g := w.heap.size + 1) (by simp)
    have hj := own_cell (below_step hb1) (g := w.heap.size) rfl
    have i1 := hi.1 1 _ rfl
    have j1 := hj.1 1 _ rfl
    have i2 := hi.1 2 _ rfl
    have j2 := hj.1 2 _ rfl
    have hsz : w.heap.size + 1 < w1.heap.size := (by have := hb1.size; simp only [World.size_alloc] at this; omega)
    clear hi hj
    replace hb1 := below_trans (below_alloc2 _ _ _) hb1
    go_wp2_with fail
    refine (q2.out _ hb1).mono ?_
    rintro z w2 ⟨rfl, hb2⟩
    have i3 := cell_later hsz i2 hb2
    have j3 := cell_later (Nat.lt_of_succ_lt hsz) j2 hb2
    clear i1 j1 i2 j2
    replace hb2 := below_trans hb1 hb2
    go_wp2_with fail
    refine (q3.out _ hb2).mono ?_
    rintro z w3 ⟨rfl, hb3⟩
    replace hb3 := below_trans hb2 hb3
    go_wp2
    go_ret
    exact ⟨ret_bool (by rw [HS.out]; rfl), hb3⟩
open Go.RowKit Go.Joins
def Slots (w : World) (g : Nat) (cs : List Value) : Prop := g < w.heap.size ∧ (∀ i, i < cs.length → w.cell? ⟨g, i, none⟩ = cs[i]?) ∧ ∀ i, w.frozen? ⟨g, i, none⟩ = false
theorem Slots.later {w w' : World} {g : Nat} {cs : List Value} (h : Slots w g cs) (hb : Below w.heap.size w w') : Slots w' g cs :=
 ⟨Nat.lt_of_lt_of_le h.1 hb.size, fun i hi => by rw [hb.cell (p := ⟨g, i, none⟩) h.1]; exact h.2.1 i hi, fun i => by rw [hb.frozen (p := ⟨g, i, none⟩) h.1]; exact h.2.2 i⟩
theorem Slots.far {w : World} {g : Nat} {cs : List Value} (h : Slots w g cs) {p : Addr} (hp : p.block ≠ g) (u : Value) : Slots (w.setCell p u) g cs :=
 ⟨by simpa using h.1, fun i hi => by rw [World.cell?_setCell_other _ _ _ _ (by intro e; subst e; exact hp rfl)]; exact h.2.1 i hi, fun i => by simpa using h.2.2 i⟩
theorem Slots.set {w : World} {g : Nat} {cs : List Value} (h : Slots w g cs) (j : Nat) (hj : j < cs.length) (u : Value) : Slots (w.setCell ⟨g, j, none⟩ u) g (cs.set j u) := by
 refine ⟨by simpa using h.1, fun i hi => ?_, fun i => by simpa using h.2.2 i⟩
 rw [List.length_set] at hi
 by_cases hij : j = i
 ·subst hij
  have := h.2.1 j hj
  rw [List.getElem?_eq_getElem hj] at this
  rw [World.cell?_setCell_same _ _ _ this]
  simp [hj]
 ·rw [World.cell?_setCell_other _ _ _ _ (by intro e; injection e with _ e; exact hij e), h.2.1 i hi]
  simp [hij]
theorem Slots.new {w w2 : World} {C : Array Value} {t : TypeId} (hb : Below (w.alloc (.cells C t)).heap.size (w.alloc (.cells C t)) w2) {g : Nat} (hg : g = w.heap.size) : Slots w2 g C.toList := by
 have h := own_cell hb hg
 refine ⟨by subst hg; exact box_lt hb, fun i hi => ?_, h.2⟩
 have hi' : i < C.size := by simpa using hi
 rw [h.1 i _ (Array.getElem?_eq_getElem hi')]
 simp [hi']
theorem Slots.c3 {w : World} {g : Nat} {a b c : Value} (h : Slots w g [a, b, c]) : w.cell? ⟨g, 0, none⟩ = some a ∧ w.cell? ⟨g, 1, none⟩ = some b ∧ w.cell? ⟨g, 2, none⟩ = some c ∧
 w.frozen? ⟨g, 0, none⟩ = false ∧ w.frozen? ⟨g, 1, none⟩ = false ∧ w.frozen? ⟨g, 2, none⟩ = false :=
 ⟨h.2.1 0 (by simp), h.2.1 1 (by simp), h.2.1 2 (by simp), h.2.2 0, h.2.2 1, h.2.2 2⟩
theorem ROAt.far {w : World} {base b off : Nat} {r : RatD} (h : ROAt w base b off r) {p : Addr} (hp : p.block < base) (hq : p.block ≠ b) (u : Value) : ROAt (w.setCell p u) base b off r := by
 obtain ⟨va, vb, h0, h1, h2, h3, h4⟩ := h
 have hc : ∀ i, (w.setCell p u).cell? ⟨b, i, none⟩ = w.cell? ⟨b, i, none⟩ := fun i => World.cell?_setCell_other _ _ _ _ (by intro e; subst e; exact hq rfl)
 exact ⟨va, vb, by rw [hc]; exact h0, by rw [hc]; exact h1, by rw [hc]; exact h2, h3.far hp u, h4.far hp u⟩
theorem VO.far {w : World} {base : Nat} {v : Value} {rs : List RatD} (h : VO w base v rs) {p : Addr} (hp : p.block < base) (u : Value) : VO (w.setCell p u) base v rs := by
 obtain ⟨A, c, rfl, hl, hc, h⟩ := h
 refine ⟨A, c, rfl, hl, hc, fun hx => ?_⟩
 obtain ⟨g, rfl, hg, hs, hf, h⟩ := h hx
 exact ⟨g, rfl, hg, by simpa using hs, fun i => by simpa using hf i, fun j hj => (h j hj).far (by omega) (by omega) u⟩
theorem VO.later {w w' : World} {base : Nat} {v : Value} {rs : List RatD} (h : VO w base v rs) (hb : Below w.heap.size w w') : VO w' base v rs := by
 obtain ⟨A, c, rfl, hl, hc, h⟩ := h
 refine ⟨A, c, rfl, hl, hc, fun hx => ?_⟩
 obtain ⟨g, rfl, hg, hs, hf, h⟩ := h hx
 exact ⟨g, rfl, hg, Nat.lt_of_lt_of_le hs hb.size, fun i => by rw [hb.frozen (p := ⟨g, i, none⟩) hs]; exact hf i, fun j hj => (h j hj).later hs hb⟩
theorem VO.mono {w : World} {base base' : Nat} {v : Value} {rs : List RatD} (h : VO w base v rs) (hb : base' ≤ base) : VO w base' v rs := by
 obtain ⟨A, c, rfl, hl, hc, h⟩ := h
 refine ⟨A, c, rfl, hl, hc, fun hx => ?_⟩
 obtain ⟨g, rfl, hg, hs⟩ := h hx
 exact ⟨g, rfl, by omega, hs⟩
open Go.RowKit Go.Joins
theorem box_lat {w w2 : World} {C : Array Value} {t : TypeId} (hb : Below (w.alloc (.cells C t)).heap.size (w.alloc (.cells C t)) w2) : Slots w2 w.heap.size C.toList := Slots.new hb rfl
set_option maxHeartbeats 400000 in
theorem iBigIntOk (s : Bool) (xs : List Int) (n c : Nat) (hn : xs.length = n) (hn1 : n ≤ 4611686018427387904) (A : Option Addr) (w : World) (ha : RI w A xs) :
 Calls Tryz.prog 135 #[.agg #[.bool s, .slice A n c]] w fun e w' => e = .returned (.bool (FE.bigOk s xs)) ∧ Below w.heap.size w w' := by
 have HC := Lib.hid (fun o => iNatOk xs n c hn hn1 A (w.alloc o) (ha.alloc o))
 have HQ := Lib.hid (show FE.bigOk s xs = (FE.natOk xs && (!s || !xs.isEmpty)) from rfl)
 have HN := Lib.hid hn; clear hn
 generalize FE.bigOk s xs = res at *
 obtain ⟨q, hq⟩ : ∃ q, FE.natOk xs = q := ⟨_, rfl⟩
 rw [hq] at HC HQ
 clear hq
 cases q
 ·go_enter Tryz.func135, Tryz.ntmps135
  go_wp2_with fail
  refine (HC.out _).mono ?_
  rintro e w1 ⟨rfl, rfl⟩
  go_wp2
  go_ret
  exact ⟨ret_bool (by rw [HQ.out]; rfl), below_alloc1 _ _⟩
 ·cases s
  ·go_enter Tryz.func135, Tryz.ntmps135
   go_wp2_with fail
   refine (HC.out _).mono ?_
   rintro e w1 ⟨rfl, rfl⟩
   go_wp2
   go_ret
   exact ⟨ret_bool (by rw [HQ.out]; rfl), below_alloc1 _ _⟩
  ·by_cases hn0 : 0 < n
   ·have HR := Lib.hid (show res = true by
     rw [HQ.out]
     have h0 : xs ≠ [] := (by intro h; have := HN.out; rw [h] at this; simp at this; omega)
     simp [h0])
    go_enter Tryz.func135, Tryz.ntmps135
    go_wp2_with fail
    refine (HC.out _).mono ?_
    rintro e w1 ⟨rfl, rfl⟩
    go_wp2
    go_ret
    exact ⟨ret_bool HR.out.symm, below_alloc1 _ _⟩
   ·have HR := Lib.hid (show res = false by
     rw [HQ.out]
     have h0 : xs = [] := List.eq_nil_of_length_eq_zero (by have := HN.out; omega)
     simp [h0])
    go_enter Tryz.func135, Tryz.ntmps135
    go_wp2_with fail
    refine (HC.out _).mono ?_
    rintro e w1 ⟨rfl, rfl⟩
    go_wp2
    go_ret
    exact ⟨ret_bool HR.out.symm, below_alloc1 _ _⟩
def oneB (xs : List Int) : Bool := xs == [1]
theorem oneB_toL (n : Nat) : oneB (FE.toL n) = (n == 1) := by
 have h1 : FE.toL 1 = [1] := by rw [FE.toL_pos (by omega), show (1 / 1000000000 : Nat) = 0 from rfl, FE.toL_zero]; rfl
 unfold oneB
 rw [← h1, Bool.eq_iff_iff]
 simp only [beq_iff_eq]
 constructor
 ·intro h
  have := congrArg FE.nv h
  rwa [FE.nv_toL, FE.nv_toL] at this
 ·rintro rfl; rfl
set_option maxHeartbeats 400000 in
theorem iIsOne (xs : List Int) (n c : Nat) (hn : xs.length = n) (hn1 : n ≤ 4611686018427387904) (A : Option Addr) (w : World) (ha : RI w A xs) :
 Calls Tryz.prog 138 #[.slice A n c] w fun e w' => e = .returned (.bool (oneB xs)) ∧ w' = w := by
 by_cases h1 : n = 1
 ·subst h1
  obtain ⟨x, rfl⟩ := List.length_eq_one_iff.1 hn
  obtain ⟨b, off, rfl, hb, hc⟩ := ha (by simp)
  have e1 := hc 0 (by simp)
  simp only [List.getD_cons_zero, Nat.add_zero] at e1
  by_cases hx : x = 1
  ·subst hx
   go_enter Tryz.func138, Tryz.ntmps138
   go_wp2
   go_ret
   exact ⟨ret_bool (by simp [oneB]), rfl⟩
  ·have HR := Lib.hid (show oneB [x] = false by simp [oneB, hx])
   have hx1 : (x == 1) = false := by simp [hx]
   go_enter Tryz.func138, Tryz.ntmps138
   go_wp2
   go_ret
   exact ⟨ret_bool HR.out.symm, rfl⟩
 ·have HR := Lib.hid (show oneB xs = false by simp only [oneB, beq_eq_false_iff_ne, ne_eq]; intro h; rw [h] at hn; simp at hn; omega)
  have hx1 : ((n : Int) == 1) = false := by simp; omega
  clear hn h1
  go_enter Tryz.func138, Tryz.ntmps138
  go_wp2
  go_ret
  exact ⟨ret_bool HR.out.symm, rfl⟩
def smallB (x : RatD) : Bool := decide (x.mag.length ≤ 1) && (x.den.length == 1)
set_option maxHeartbeats 400000 in
theorem iIsSmall (x : RatD) (v : Value) (w : World) (hv : RatV w v x) :
 Calls Tryz.prog 114 #[v] w fun e w' => e = .returned (.bool (smallB x)) ∧ Below w.heap.size w w' := by
 obtain ⟨A, c, B, d, rfl, ⟨h1, h2, h3, h4⟩, _, _⟩ := hv
 have HR := Lib.hid (show smallB x = (decide (x.mag.length ≤ 1) && (x.den.length == 1)) from rfl)
 generalize smallB x = res at *
 generalize x.mag.length = n at *
 generalize x.den.length = m at *
 generalize x.neg = s at *
 have l1 : n ≤ 9223372036854775807 := by unfold maxLen at h2; omega
 have l2 : m ≤ 9223372036854775807 := by unfold maxLen at h4; omega
 clear h1 h2 h3 h4
 by_cases hn : n ≤ 1
 ·by_cases hm : m = 1
  ·subst hm
   have HF := Lib.hid (show res = true by rw [HR.out]; simp [hn])
   go_enter Tryz.func114, Tryz.ntmps114
   go_wp2
   go_ret
   exact ⟨ret_bool HF.out.symm, below_alloc1 _ _⟩
  ·have HF := Lib.hid (show res = false by rw [HR.out]; simp [hm])
   have hm1 : ((m : Int) == 1) = false := by simp; omega
   go_enter Tryz.func114, Tryz.ntmps114
   go_wp2
   go_ret
   exact ⟨ret_bool HF.out.symm, below_alloc1 _ _⟩
 ·have HF := Lib.hid (show res = false by rw [HR.out]; simp [hn])
  go_enter Tryz.func114, Tryz.ntmps114
  go_wp2
  go_ret
  exact ⟨ret_bool HF.out.symm, below_alloc1 _ _⟩
structure SmallR (x : RatD) (p q : Nat) : Prop where
 mag : x.mag = FE.toL p
 den : x.den = FE.toL q
 p1 : p < 1000000000
 q0 : 0 < q
 q1 : q < 1000000000
def sgnI (s : Bool) (p : Nat) : Int := if s then -(p : Int) else p
theorem toL_one {q : Nat} (h0 : 0 < q) (h1 : q < 1000000000) : FE.toL q = [(q : Int)] := by
 rw [FE.toL_pos (by omega), show q / 1000000000 = 0 by omega, FE.toL_zero]
 simp; omega
set_option maxHeartbeats 800000 in
theorem iSmall (x : RatD) (p q : Nat) (hx : SmallR x p q) (v : Value) (w : World) (hv : RatV w v x) :
 Calls Tryz.prog 115 #[v] w fun e w' => e = .returned (.tuple #[.int .i64 (sgnI x.neg p), .int .i64 q]) ∧ Below w.heap.size w w' := by
 obtain ⟨A, c, B, d, rfl, ⟨h1, h2, h3, h4⟩, ra, rb⟩ := hv
 obtain ⟨hm, hd, p1, q0, q1⟩ := hx
 rw [hm] at h1 ra
 rw [hd, toL_one q0 q1] at h3 rb
 rw [hm, hd, toL_one q0 q1]
 obtain ⟨b2, o2, rfl, hb2, hc2⟩ := rb (by simp)
 have e2 := hc2 0 (by simp)
 simp only [List.getD_cons_zero, Nat.add_zero] at e2
 have lb2 := Nat.lt_of_lt_of_le hb2 (Nat.le_succ _)
 clear hc2 h3 h4 hm hd h2
 generalize x.neg = s at *
 simp only [List.length_singleton]
 by_cases hp0 : p = 0
 ·subst hp0
  rw [FE.toL_zero] at h1 ra ⊢
  simp only [List.length_nil]
  clear ra
  cases s
  ·go_enter Tryz.func115, Tryz.ntmps115
   go_wp2
   go_quiet (fail)
   go_wp2
   go_ret2
   exact ⟨rfl, (below_alloc1 _ _).trans (below_draws _ _ _)⟩
  ·go_enter Tryz.func115, Tryz.ntmps115
   go_wp2
   go_quiet (fail)
   go_wp2
   go_ret2
   exact ⟨rfl, (below_alloc1 _ _).trans (below_draws _ _ _)⟩
 ·rw [toL_one (by omega) p1] at h1 ra ⊢
  obtain ⟨b1, o1, rfl, hb1, hc1⟩ := ra (by simp)
  have e1 := hc1 0 (by simp)
  simp only [List.getD_cons_zero, Nat.add_zero] at e1
  have lb1 := Nat.lt_of_lt_of_le hb1 (Nat.le_succ _)
  simp only [List.length_singleton]
  clear hc1
  have hp1 : 0 < p := by omega
  clear hp0
  cases s
  ·go_enter Tryz.func115, Tryz.ntmps115
   go_wp2
   go_quiet (fail)
   go_wp2
   go_ret2
   exact ⟨rfl, (below_alloc1 _ _).trans (below_draws _ _ _)⟩
  ·go_enter Tryz.func115, Tryz.ntmps115
   go_wp2
   go_quiet (fail)
   go_wp2
   go_ret2
   exact ⟨rfl, (below_alloc1 _ _).trans (below_draws _ _ _)⟩
open Go.RowKit Go.Joins
theorem smallR_of {x : RatD} (h1 : FE.natOk x.mag = true) (h2 : FE.natOk x.den = true) (hs : smallB x = true) : SmallR x (FE.nv x.mag) (FE.nv x.den) := by
 simp only [smallB, Bool.and_eq_true, decide_eq_true_eq, beq_iff_eq] at hs
 have e1 := FE.toL_nv h1
 have e2 := FE.toL_nv h2
 have b1 : ((FE.nv x.mag : Nat) : Int) < FE.bp 1 := (FE.toL_len_le _ _).1 (by rw [e1]; exact hs.1)
 have b2 : ((FE.nv x.den : Nat) : Int) < FE.bp 1 := (FE.toL_len_le _ _).1 (by rw [e2]; omega)
 rw [FE.bp_succ, FE.bp_zero] at b1 b2
 refine ⟨e1.symm, e2.symm, by omega, ?_, by omega⟩
 rcases Nat.eq_zero_or_pos (FE.nv x.den) with h | h
 ·rw [h, FE.toL_zero] at e2
  rw [← e2] at hs
  simp at hs
 ·exact h
theorem bigOk_nat {s : Bool} {l : List Int} (h : FE.bigOk s l = true) : FE.natOk l = true := by
 simp only [FE.bigOk, Bool.and_eq_true] at h
 exact h.1
theorem gcd_len (p q k : Nat) (h1 : (FE.toL p).length ≤ k) (h2 : (FE.toL q).length ≤ k) : (FE.toL (Nat.gcd p q)).length ≤ k := by
 rcases Nat.eq_zero_or_pos q with h | h
 ·rw [h, Nat.gcd_zero_right]; exact h1
 ·exact Nat.le_trans (toL_len_mono (Nat.gcd_le_right p h)) h2
theorem beq_cast (a b : Nat) : ((a : Int) == (b : Int)) = (a == b) := by
 rw [Bool.eq_iff_iff]; simp only [beq_iff_eq]; omega
theorem sgnI_or (s : Bool) (p : Nat) : sgnI s p = p ∨ sgnI s p = -(p : Int) := by cases s <;> simp [sgnI]
set_option maxRecDepth 100000 in
set_option maxHeartbeats 1600000 in
theorem iRatOk (x : RatD) (v : Value) (w : World) (hv : RatV w v x) (l1 : x.mag.length ≤ 1048576) (l2 : x.den.length ≤ 1048576) :
 Calls Tryz.prog 61 #[v] w fun e w' => e = .returned (.bool (FE.ratOk x)) ∧ Below w.heap.size w w' := by
 obtain ⟨A, c, B, d, rfl, hcd, ra, rb⟩ := hv
 have HQ := Lib.hid (show FE.ratOk x = ((FE.bigOk x.neg x.mag && (FE.natOk x.den && !x.den.isEmpty)) && ((decide (x.mag.length ≤ 24) && decide (x.den.length ≤ 24)) && Nat.gcd (FE.nv x.mag) (FE.nv x.den) == 1)) from rfl)
 have C1 := Lib.hid (fun W hW => iBigIntOk x.neg x.mag _ c rfl (by omega) A W (ra.later (w' := W) hW))
 have C2 := Lib.hid (fun W hW => iNatOk x.den _ d rfl (by omega) B W (rb.later (w' := W) hW))
 have C3 := Lib.hid (fun W hW => iIsSmall x _ W ⟨A, c, B, d, rfl, hcd, ra.later (w' := W) hW, rb.later hW⟩)
 have C4 := Lib.hid (fun p q (h : SmallR x p q) W hW => iSmall x p q h _ W ⟨A, c, B, d, rfl, hcd, ra.later (w' := W) hW, rb.later hW⟩)
 have C5 := Lib.hid (fun (h1 : FE.natOk x.mag = true) (h2 : FE.natOk x.den = true) (W : World) (hW : Below w.heap.size w W) => natGcd_nat (FE.nv x.mag) (FE.nv x.den) x.mag.length x.den.length c d (by rw [FE.toL_nv h1]) (by rw [FE.toL_nv h2]) (by have := FE.natOk_len h1; omega) (by have := FE.natOk_len h2; omega) A B W (by rw [FE.toL_nv h1]; exact ra.later (w' := W) hW) (by rw [FE.toL_nv h2]; exact rb.later hW))
 have HL := Lib.hid (fun (h1 : FE.natOk x.mag = true) (h2 : FE.natOk x.den = true) => gcd_len (FE.nv x.mag) (FE.nv x.den) 60 (by rw [FE.toL_nv h1]; exact FE.natOk_len h1) (by rw [FE.toL_nv h2]; exact FE.natOk_len h2))
 have HS := Lib.hid (fun (h1 : FE.natOk x.mag = true) (h2 : FE.natOk x.den = true) (hs : smallB x = true) => smallR_of h1 h2 hs)
 have HE := Lib.hid (show x.den.isEmpty = decide (x.den.length = 0) by rw [Bool.eq_iff_iff]; simp)
 have HK := Lib.hid (fun h => bigOk_nat (s := x.neg) (l := x.mag) h)
 clear hcd ra rb
 generalize FE.ratOk x = res at *
 generalize x.den.isEmpty = emp at *
 generalize smallB x = sm at *
 generalize FE.nv x.mag = p at *
 generalize FE.nv x.den = q at *
 generalize x.mag.length = n at *
 generalize x.den.length = m at *
 generalize x.neg = s at *
 generalize FE.bigOk s x.mag = q1 at *
 obtain ⟨q3, hq3⟩ : ∃ q, FE.natOk x.mag = q := ⟨_, rfl⟩
 rw [hq3] at C5 HS HK HL
 clear hq3
 generalize FE.natOk x.den = q2 at *
 go_enter Tryz.func61, Tryz.ntmps61
 go_wp2_with fail
 refine (C1.out _ (below_alloc1 _ _)).mono ?_
 rintro e w1 ⟨rfl, hb1⟩
 have S := box_lat hb1
 replace hb1 := box_below hb1
 cases q1
 ·have HF := Lib.hid (show res = false by rw [HQ.out]; rfl)
  clear S
  go_wp2
  go_ret
  exact ⟨ret_bool HF.out.symm, hb1⟩
 ·obtain ⟨a0, a1, a2, _, _, _⟩ := S.c3
  go_wp2_with fail
  refine (C2.out _ hb1).mono ?_
  rintro e w2 ⟨rfl, rfl⟩
  cases q2
  ·have HF := Lib.hid (show res = false by rw [HQ.out]; rfl)
   clear S a0 a1 a2
   go_wp2
   go_ret
   exact ⟨ret_bool HF.out.symm, hb1⟩
  ·have h3 : q3 = true := HK.out (by trivial)
   subst h3
   by_cases hm0 : m = 0
   ·subst hm0
    have HF := Lib.hid (show res = false by rw [HQ.out, HE.out]; simp)
    go_wp2
    go_ret
    exact ⟨ret_bool HF.out.symm, hb1⟩
   ·have he : emp = false := by rw [HE.out]; simp [hm0]
    subst he
    have z0 : ((m : Int) == 0) = false := by simp; omega
    by_cases hn24 : n ≤ 24
    ·by_cases hm24 : m ≤ 24
     ·have HR := Lib.hid (show res = (Nat.gcd p q == 1) by rw [HQ.out]; simp [hn24, hm24])
      have g1 : ¬ (24 < n) := by omega
      have g2 : ¬ (24 < m) := by omega
      clear hm0
      go_wp2_with fail
      refine (C3.out _ hb1).mono ?_
      rintro e w2 ⟨rfl, hb2⟩
      replace S := S.later hb2
      replace hb1 := below_trans hb1 hb2
      clear hb2 a0 a1 a2 z0 HQ
      obtain ⟨a0, a1, a2, _, _, _⟩ := S.c3
      cases sm
      ·go_wp2_with fail
       refine (C5.out (by trivial) (by trivial) _ hb1).mono ?_
       rintro e w3 ⟨v3, rfl, hro, hb3⟩
       replace hb1 := below_trans hb1 hb3
       obtain ⟨A3, c3, rfl, hl3⟩ := hro.form
       have hgl := HL.out (by trivial) (by trivial)
       have HG := Lib.hid (fun W hW => iIsOne (FE.toL (Nat.gcd p q)) _ c3 rfl (by omega) A3 W (hro.reads.later (w' := W) hW))
       clear hro hb3 S a0 a1 a2 hl3 hgl
       go_wp2_with fail
       refine (HG.out _ (Below.refl _ _)).mono ?_
       rintro e w4 ⟨rfl, rfl⟩
       go_wp2
       go_ret
       exact ⟨ret_bool (by rw [HR.out, oneB_toL]), hb1⟩
      ·have hS := HS.out (by trivial) (by trivial) (by trivial)
       have h4 := C4.out p q hS
       have hp1 := hS.p1
       have hq0 := hS.q0
       have hq1 := hS.q1
       have HX := Lib.hid hS
       clear hS
       have HG := Lib.hid (fun W => gcd_any p q (by omega) (by omega) W)
       by_cases hp0 : p = 0
       ·have hh : sgnI s p = p := by subst hp0; cases s <;> rfl
        rw [hh] at h4
        have H4 := Lib.hid h4
        clear hh h4
        subst hp0
        go_wp2_with fail
        refine (H4.out _ hb1).mono ?_
        rintro e w3 ⟨rfl, hb3⟩
        replace hb1 := below_trans hb1 hb3
        clear hb3 S a0 a1 a2
        go_wp2_with fail
        refine (HG.out _).mono ?_
        rintro e w4 ⟨rfl, k4, rfl⟩
        go_wp2
        go_ret
        exact ⟨ret_bool (by rw [HR.out, Nat.gcd_zero_left]; exact beq_cast _ 1), hb1.trans (below_draws _ _ _)⟩
       have hp2 : 0 < p := by omega
       clear hp0
       rcases sgnI_or s p with hh | hh
       ·rw [hh] at h4
        have H4 := Lib.hid h4
        clear hh h4
        go_wp2_with fail
        refine (H4.out _ hb1).mono ?_
        rintro e w3 ⟨rfl, hb3⟩
        replace hb1 := below_trans hb1 hb3
        clear hb3 S a0 a1 a2
        go_wp2_with fail
        refine (HG.out _).mono ?_
        rintro e w4 ⟨rfl, k4, rfl⟩
        go_wp2
        go_ret
        exact ⟨ret_bool (by rw [HR.out]; exact beq_cast _ 1), hb1.trans (below_draws _ _ _)⟩
       ·rw [hh] at h4
        have H4 := Lib.hid h4
        clear hh h4
        go_wp2_with fail
        refine (H4.out _ hb1).mono ?_
        rintro e w3 ⟨rfl, hb3⟩
        replace hb1 := below_trans hb1 hb3
        clear hb3 S a0 a1 a2
        go_wp2_with fail
        refine (HG.out _).mono ?_
        rintro e w4 ⟨rfl, k4, rfl⟩
        go_wp2
        go_ret
        exact ⟨ret_bool (by rw [HR.out]; exact beq_cast _ 1), hb1.trans (below_draws _ _ _)⟩
     ·have HF := Lib.hid (show res = false by rw [HQ.out]; simp [hm24])
      have g1 : ¬ (24 < n) := by omega
      have g2 : 24 < m := by omega
      go_wp2
      go_ret
      exact ⟨ret_bool HF.out.symm, hb1⟩
    ·have HF := Lib.hid (show res = false by rw [HQ.out]; simp [hn24])
     have g1 : 24 < n := by omega
     go_wp2
     go_ret
     exact ⟨ret_bool HF.out.symm, hb1⟩
open Go.RowKit
set_option maxHeartbeats 400000 in
theorem sTrim_any (xs : List Int) (n c : Nat) (hn : xs.length = n) (hn1 : n ≤ 1073741824) (hnc : n ≤ c) (A : Option Addr) (w : World) (ha : RI w A xs) :
 Calls Tryz.prog 214 #[.slice A n c] w fun e w' => e = .returned (.slice A (FE.trim xs).length c) ∧ w' = w := by
 go_enter Tryz.func214, Tryz.ntmps214
 go_wp2_with fail
 go_loop [3] (fun v => ∃ k : Nat, k ≤ n ∧ v = .int .i64 k ∧ FE.trim xs = FE.trim (xs.take k)) (fun v => (intOf v).toNat)
 case atStart => exact ⟨n, Nat.le_refl _, rfl, by rw [List.take_of_length_le (by omega)]⟩
 case round =>
  obtain ⟨k, hk, rfl, ht⟩ := hrel
  have HT := Lib.hid ht; clear ht
  by_cases hk0 : k = 0
  ·subst hk0
   have h0 : decide ((0 : Int) < ((0 : Nat) : Int)) = false := by simp
   go_wp2
   go_ret
   exact ⟨by rw [HT.out]; rfl, rfl⟩
  ·obtain ⟨j, rfl⟩ : ∃ j, k = j + 1 := ⟨k - 1, by omega⟩
   obtain ⟨b, o, rfl, hb, hc⟩ := ha (by intro h; subst h; simp at hn; omega)
   have e1 := hc j (by omega)
   clear hc
   have h0 : (0 : Int) < ((j + 1 : Nat) : Int) := by omega
   by_cases hx : xs.getD j 0 = 0
   ·have hz := trim_zero xs j (by omega) hx
    have HZ := Lib.hid hz; clear hz
    rw [hx] at e1
    clear hx
    go_wp2
    go_round
    case rel => exact ⟨j, by omega, by go_num, by rw [HT.out]; exact HZ.out⟩
    case measure => simp [intOf]
   ·have hz := trim_ne xs j (by omega) hx
    have HZ := Lib.hid hz; clear hz
    generalize xs.getD j 0 = x at *
    have hx0 : (x == 0) = false := by simpa using hx
    have HX := Lib.hid hx; clear hx
    go_wp2
    go_ret
    exact ⟨by rw [HT.out, HZ.out]; rfl, rfl⟩
set_option maxHeartbeats 800000 in
theorem sCmp_any (xs ys : List Int) (n m c d : Nat) (hn : xs.length = n) (hm : ys.length = m) (hn1 : n ≤ 4611686018427387904) (hm1 : m ≤ 4611686018427387904) (A B : Option Addr) (w : World) (ha : RI w A xs) (hb : RI w B ys) :
 Calls Tryz.prog 215 #[.slice A n c, .slice B m d] w fun e w' => e = .returned (.int .i64 (cmpL xs ys)) ∧ ∃ k, w' = w.drewN k := by
 by_cases hnm : n = m
 ·subst hnm
  have hh : ((n : Int) != n) = false := by simp
  have hL : cmpL xs ys = cmpAt xs ys n := by rw [cmpL, hn, hm, if_pos rfl]
  rw [hL]
  clear hL
  go_enter Tryz.func215, Tryz.ntmps215
  go_wp2_with fail
  go_loopw [5] (fun i wr => ∃ k : Nat, k ≤ n ∧ i = .int .i64 ((k : Int) - 1) ∧ cmpAt xs ys n = cmpAt xs ys k ∧ ∃ q, wr = w.drewN q) (fun i _ => (intOf i + 1).toNat)
  case atStart => exact ⟨n, Nat.le_refl _, rfl, rfl, 0, rfl⟩
  case round =>
   obtain ⟨k, hk, rfl, hc, q, rfl⟩ := hrel
   have HC := Lib.hid hc; clear hc
   by_cases hk0 : k = 0
   ·subst hk0
    go_wp2
    go_ret
    exact ⟨ret_int (by rw [HC.out]; rfl), q, rfl⟩
   ·obtain ⟨j, rfl⟩ : ∃ j, k = j + 1 := ⟨k - 1, by omega⟩
    rw [show ((j + 1 : Nat) : Int) - 1 = (j : Int) by omega]
    obtain ⟨b1, o1, rfl, hb1, hc1⟩ := ha (by intro h; subst h; simp at hn; omega)
    obtain ⟨b2, o2, rfl, hb2, hc2⟩ := hb (by intro h; subst h; simp at hm; omega)
    have e1 := hc1 j (by omega)
    have e2 := hc2 j (by omega)
    clear hc1 hc2
    have hj : cmpAt xs ys (j + 1) = if xs.getD j 0 = ys.getD j 0 then cmpAt xs ys j else cmpI (xs.getD j 0) (ys.getD j 0) := rfl
    generalize xs.getD j 0 = x at *
    generalize ys.getD j 0 = y at *
    have Hj := Lib.hid hj; clear hj
    rcases Int.lt_trichotomy x y with hxy | hxy | hxy
    ·have hd : decide (x < y) = true := by simpa using hxy
     go_wp2
     go_quiet (fail)
     go_wp2
     go_ret
     exact ⟨ret_int (by rw [HC.out, Hj.out, if_neg (by omega), cmpI, if_pos hxy]), q + nq, World.drewN_drewN _ _ _⟩
    ·subst hxy
     have hd : decide (x < x) = false := by simp
     go_wp2
     go_quiet (fail)
     simp only [World.drewN_drewN]
     generalize q + nq = q2
     go_wp2
     go_quiet (fail)
     go_wp2
     go_roundw
     case rel => exact ⟨j, by omega, rfl, by rw [HC.out, Hj.out, if_pos trivial], q2 + nq, rfl⟩
     case measure => simp [intOf]
    ·have hd : decide (x < y) = false := by simp; omega
     have hd2 : decide (y < x) = true := by simpa using hxy
     go_wp2
     go_quiet (fail)
     simp only [World.drewN_drewN]
     generalize q + nq = q2
     go_wp2
     go_quiet (fail)
     go_wp2
     go_ret
     exact ⟨ret_int (by rw [HC.out, Hj.out, if_neg (by omega), cmpI, if_neg (by omega), if_pos hxy]), q2 + nq, World.drewN_drewN _ _ _⟩
 ·have hh : ((n : Int) != m) = true := by simp; omega
  have hL : cmpL xs ys = cmpI n m := by rw [cmpL, hn, hm, if_neg hnm]
  rw [hL]
  clear hL
  rcases Nat.lt_or_ge n m with hlt | hge
  ·have hd : decide (n < m) = true := by simpa using hlt
   go_enter Tryz.func215, Tryz.ntmps215
   go_wp2
   go_ret
   exact ⟨ret_int (by rw [cmpI, if_pos (by omega)]), 0, rfl⟩
  ·have hd : decide (n < m) = false := by simp; omega
   go_enter Tryz.func215, Tryz.ntmps215
   go_wp2
   go_ret
   exact ⟨ret_int (by rw [cmpI, if_neg (by omega), if_pos (by omega)]), 0, rfl⟩
theorem sCmp_nat (p q : Nat) (n m c d : Nat) (hn : (FE.toL p).length = n) (hm : (FE.toL q).length = m) (hn1 : n ≤ 65536) (hm1 : m ≤ 65536) (A B : Option Addr) (w : World) (ha : RI w A (FE.toL p)) (hb : RI w B (FE.toL q)) :
 Calls Tryz.prog 215 #[.slice A n c, .slice B m d] w fun e w' => e = .returned (.int .i64 (cmpI p q)) ∧ ∃ k, w' = w.drewN k := by
 have h := sCmp_any _ _ n m c d hn hm (by omega) (by omega) A B w ha hb
 rwa [FE.cmpL_spec (FE.toL_dig _) (FE.toL_top _) (FE.toL_dig _) (FE.toL_top _), FE.val_toL, FE.val_toL] at h
set_option maxRecDepth 100000 in
set_option maxHeartbeats 800000 in
theorem sNatOf_any (N : Nat) (hN : N ≤ 4611686018427387904) (w : World) :
 Calls Tryz.prog 216 #[.int .i64 N] w fun e w' => ∃ v, e = .returned v ∧ RO w' w.heap.size v (FE.toL N) ∧ Below w.heap.size w w' := by
 go_enter Tryz.func216, Tryz.ntmps216
 go_wp2_with fail
 go_loopw [0, 3] (fun r v wr => ∃ (q : Nat) (zs : List Int), q ≤ N ∧ r = .int .i64 q ∧ 1000000000 ^ zs.length * q ≤ N ∧ FE.toL N = zs ++ FE.toL q ∧ OI wr w.heap.size v zs ∧ Below w.heap.size w wr) (fun r _ _ => (intOf r).toNat)
 case atStart => exact ⟨N, [], Nat.le_refl _, rfl, by simp, by simp, OI.of_arr (g := w.heap.size) (cap := 0) ⟨[], rfl, Nat.zero_le _, heap_alloc_new _ _⟩ (Nat.le_refl _), (Below.refl _ _).alloc (Nat.le_refl _) _⟩
 case round =>
  obtain ⟨q, zs, hq, rfl, hl1, hL, hown, hbel⟩ := hrel
  have HL := Lib.hid hL; clear hL
  by_cases hq0 : q = 0
  ·subst hq0
   go_wp2
   go_ret
   exact ⟨_, rfl, RO.of_own (by rw [HL.out, FE.toL_zero, List.append_nil]; exact hown), hbel⟩
  ·have hlen := natOf_len hq0 hl1 hN
   have HL1 := Lib.hid hl1; clear hl1
   go_wp2_with (at_builtin; refine append1 rfl _ _ _ rfl Tryz.underlying40 Tryz.intInfo w.heap.size _ zs rfl (hown.alloc _) ⟨wr.heap.size, 0, none⟩ _ rfl (cell_new1 _ _ _) (by omega) (by have := hbel.size; simp; omega) ?_)
   intro v' w1 hown1 hb1'
   go_wp2
   go_roundw
   case rel => exact ⟨q / 1000000000, zs ++ [((q % 1000000000 : Nat) : Int)], by omega, by go_num, natOf_step HL1.out, by rw [HL.out]; exact toL_step zs q hq0, by simpa using hown1, (hbel.alloc hbel.size _).trans hb1'⟩
   case measure => simp [intOf]; omega
open Go.RowKit
set_option maxHeartbeats 800000 in
theorem sSmall_any (xs : List Int) (n c : Nat) (d : Int) (hn : xs.length = n) (hn1 : n ≤ 1048576) (hxd : FE.Dig xs) (hd0 : 0 < d) (hd1 : d ≤ 1000000000)
 (A : Option Addr) (w : World) (ha : RI w A xs) :
 Calls Tryz.prog 217 #[.slice A n c, .int .i64 d] w fun e w' => ∃ v, e = .returned (.tuple #[v, .int .i64 (FE.val xs % d)]) ∧ RO w' w.heap.size v (FE.toL (FE.val xs / d).toNat) ∧ Below w.heap.size w w' := by
 go_enter Tryz.func217, Tryz.ntmps217
 go_wp2_with (at_make; refine makeInts rfl _ _ _ rfl Tryz.underlying40 Tryz.intInfo n n _ _ rfl rfl rfl rfl (Nat.le_refl _) (by omega) ?_; intro harr0)
 go_loopw [7, 8] (fun r i wr => ∃ (k : Nat) (zs : List Int) (q : Int), k ≤ n ∧ i = .int .i64 ((k : Int) - 1) ∧ r = .int .i64 q ∧ 0 ≤ q ∧ q < d ∧ zs.length = n ∧ FE.Dig zs ∧ (∀ j, j < k → zs.getD j 0 = 0) ∧
  FE.val xs = d * FE.val zs + FE.bp k * q + FE.val (xs.take k) ∧ Arr wr w.heap.size n zs ∧ Below w.heap.size w wr) (fun _ i _ => (intOf i + 1).toNat)
 case atStart => exact ⟨n, List.replicate n 0, 0, Nat.le_refl _, rfl, rfl, by omega, hd0, by simp, FE.Dig.replicate n, fun j hj => by simp [hj], by rw [FE.val_replicate, List.take_of_length_le (by omega)]; simp, harr0, (Below.refl _ _).alloc (Nat.le_refl _) _⟩
 case round =>
  obtain ⟨k, zs, q, hk, rfl, rfl, hq0, hq1, hz, hzd, hzz, hv, harr, hbel⟩ := hrel
  have HZ := Lib.hid hz; clear hz
  have HV := Lib.hid hv; clear hv
  have HZZ := Lib.hid hzz; clear hzz
  clear harr0
  by_cases hk0 : k = 0
  ·subst hk0
   have hfin : FE.val xs = d * FE.val zs + q := by have := HV.out; simp [FE.bp_zero, FE.val] at this; exact this
   have hz0 := FE.val_nonneg hzd
   have hq : FE.val xs / d = FE.val zs := by
    rw [hfin, Int.add_comm, Int.add_mul_ediv_left _ _ (by omega), Int.ediv_eq_zero_of_lt hq0 hq1]; omega
   have hr : FE.val xs % d = q := by rw [hfin, Int.add_comm, Int.add_mul_emod_self_left]; exact Int.emod_eq_of_lt hq0 hq1
   have ht : FE.trim zs = FE.toL (FE.val xs / d).toNat := FE.trim_eq hzd (by rw [hq]; omega)
   have HR := Lib.hid hr
   have HT := Lib.hid ht
   clear hfin hq hr ht
   go_wp2_with (go_at_call 214; refine (sTrim_any zs n n HZ.out (by omega) (Nat.le_refl _) _ _ harr.reads).mono ?_; rintro e w' ⟨rfl, rfl⟩)
   go_ret2
   refine ⟨_, by rw [HR.out]; rfl, ?_, hbel⟩
   rw [← HT.out]
   exact RO.of_trim harr (Nat.le_refl _)
  ·obtain ⟨j, rfl⟩ := Nat.exists_eq_succ_of_ne_zero hk0
   obtain ⟨b1, o1, rfl, hb1, hc1⟩ := ha (by intro h; subst h; simp at hn; omega)
   have e1 := (hbel.cell (p := ⟨b1, o1 + j, none⟩) hb1).trans (hc1 j (by omega))
   have hzl := HZ.out
   have e2 := harr.cell j (by omega)
   have e3 := harr.frozen j
   have hstep := FE.divStep hd0 hq0 hq1 hxd (by omega) (hzl.trans hn.symm) hzd (HZZ.out j (by omega)) HV.out rfl
   have hx := hxd.getD j
   clear hc1 hzl
   generalize hxe : xs.getD j 0 = x at *
   generalize hye : zs.getD j 0 = y at *
   have hs1 := hstep.1
   have hs2 := hstep.2.1
   have hm0 := Int.emod_nonneg (q * 1000000000 + x) (show d ≠ 0 by omega)
   have hm1 := Int.emod_lt_of_pos (q * 1000000000 + x) hd0
   have HS := Lib.hid hstep; clear hstep hxe hye
   go_wp2
   go_roundw
   case rel =>
    refine ⟨j, zs.set j ((q * 1000000000 + x) / d), _, by omega, by go_num, rfl, hm0, hm1, by simp; exact HZ.out, HS.out.2.2.1, ?_, HS.out.2.2.2, harr.set j (by have := HZ.out; omega) _, hbel.setCell (Nat.le_refl _) _⟩
    intro j' hj'
    rw [FE.getD_set, if_neg (by omega)]
    exact HZZ.out j' (by omega)
   case measure => simp [intOf]
open Go.RowKit
set_option maxHeartbeats 2000000 in
theorem sMul_core (xs ys : List Int) (n m c d : Nat) (hn : xs.length = n) (hm : ys.length = m) (hn1 : n ≤ 1048576) (hm1 : m ≤ 1048576) (hxd : FE.Dig xs) (hyd : FE.Dig ys) (hn0 : 0 < n) (hm0 : 0 < m)
 (A B : Option Addr) (w : World) (ha : RI w A xs) (hb : RI w B ys) :
 Calls Tryz.prog 194 #[.slice A n c, .slice B m d] w fun e w' => ∃ v, e = .returned v ∧ RO w' w.heap.size v (FE.toL (FE.val xs * FE.val ys).toNat) ∧ Below w.heap.size w w' := by
 have z1 : ((n : Int) == 0) = false := by simp; omega
 have z2 : ((m : Int) == 0) = false := by simp; omega
 go_enter Tryz.func194, Tryz.ntmps194
 go_wp2_with (at_make; refine makeInts rfl _ _ _ rfl Tryz.underlying40 Tryz.intInfo (n + m) (n + m) _ _ rfl rfl (by simp) (by simp) (Nat.le_refl _) (by omega) ?_; intro harr0)
 go_loopw [28] (fun i wr => ∃ (k : Nat) (zs : List Int), k ≤ n ∧ i = .int .i64 k ∧ zs.length = n + m ∧ FE.Dig zs ∧ (∀ j, k + m ≤ j → zs.getD j 0 = 0) ∧
  FE.val zs = FE.val (xs.take k) * FE.val ys ∧ Arr wr w.heap.size (n + m) zs ∧ Below w.heap.size w wr) (fun i _ => n - (intOf i).toNat)
 case atStart => exact ⟨0, List.replicate (n + m) 0, Nat.zero_le _, rfl, by simp, FE.Dig.replicate _, by intro j _; by_cases h : j < n + m <;> simp [h], by rw [FE.val_replicate]; simp [FE.val], harr0, (Below.refl _ _).alloc (Nat.le_refl _) _⟩
 case round =>
  obtain ⟨i, zs, hi, rfl, hz, hzd, hzz, hv, harr, hbel⟩ := hrel
  have HZ := Lib.hid hz; clear hz
  have HV := Lib.hid hv; clear hv
  have HZZ := Lib.hid hzz; clear hzz
  clear harr0
  by_cases hin : i < n
  ·obtain ⟨b1, o1, rfl, hb1', hc1⟩ := ha (by intro h; subst h; simp at hn; omega)
   have e1 := (hbel.cell (p := ⟨b1, o1 + i, none⟩) hb1').trans (hc1 i (by omega))
   have hx := hxd.getD i
   clear hc1
   generalize hxe : xs.getD i 0 = x at *
   have HX := Lib.hid hxe; clear hxe
   go_wp2_with fail
   obtain ⟨wo, hwo⟩ : ∃ wo : World, wo = wr := ⟨_, rfl⟩
   subst hwo
   go_loopw [8, 35] (fun r kk wq => ∃ (k : Nat) (us : List Int) (cy : Int), k ≤ m ∧ kk = .int .i64 k ∧ r = .int .i64 cy ∧ 0 ≤ cy ∧ cy < 1000000000 ∧ us.length = n + m ∧ FE.Dig us ∧ (∀ j, i + m ≤ j → us.getD j 0 = 0) ∧
    FE.val us + FE.bp (i + k) * cy = FE.val (xs.take i) * FE.val ys + FE.bp i * (x * FE.val (ys.take k)) ∧ Arr wq w.heap.size (n + m) us ∧ Below w.heap.size w wq) (fun _ kk _ => m - (intOf kk).toNat)
   case atStart => exact ⟨0, zs, 0, Nat.zero_le _, rfl, rfl, by omega, by omega, HZ.out, hzd, HZZ.out, by rw [HV.out]; simp [FE.val], harr, hbel⟩
   case round =>
    clear harr hzd HZ HV HZZ hbel e1
    obtain ⟨k, us, cy, hk, rfl, rfl, hq0, hq1, hu, hud, huz, hv, harr, hbel⟩ := hrel
    have HU := Lib.hid hu; clear hu
    have HV := Lib.hid hv; clear hv
    have HUZ := Lib.hid huz; clear huz
    by_cases hkm : k < m
    ·obtain ⟨b2, o2, rfl, hb2', hc2⟩ := hb (by intro h; subst h; simp at hm; omega)
     have e2 := (hbel.cell (p := ⟨b2, o2 + k, none⟩) hb2').trans (hc2 k (by omega))
     have hul := HU.out
     have e3 := harr.cell (i + k) (by omega)
     have e4 := harr.frozen (i + k)
     have hy := hyd.getD k
     have hu1 := hud.getD (i + k)
     have hmm := FE.mul_bound hx ⟨hy.1, by omega⟩
     have hstep := FE.mulStep hud (by omega) hx hyd hq0 hq1 HV.out rfl
     clear hc2 hul
     generalize hye : ys.getD k 0 = y at *
     generalize hze : us.getD (i + k) 0 = z at *
     have hp := hmm.1
     have hp1 := hmm.2.1
     generalize hpe : x * y = p at *
     have HP := Lib.hid hpe; clear hpe
     have HS := Lib.hid hstep; clear hstep hye hze
     rw [← HP.out] at hp hp1
     go_wp2
     go_roundw
     case rel =>
      refine ⟨k + 1, us.set (i + k) ((z + x * y + cy) % 1000000000), (z + x * y + cy) / 1000000000, by omega, by go_num, rfl, ?_, ?_, by simp; exact HU.out, ?_, ?_, ?_, harr.set (i + k) (by have := HU.out; omega) _, hbel.setCell (Nat.le_refl _) _⟩
      all_goals rw [HP.out]
      ·exact HS.out.2.2.1
      ·exact HS.out.2.2.2
      ·exact HS.out.1
      ·intro j' hj'
       rw [FE.getD_set, if_neg (by omega)]
       exact HUZ.out j' hj'
      ·exact HS.out.2.1
     case measure => simp [intOf]; omega
    ·have hkm' : k = m := by omega
     subst hkm'
     have hul := HU.out
     have e3 := harr.cell (i + k) (by omega)
     have e4 := harr.frozen (i + k)
     have hrow := FE.mulRow (xs := xs) (ys := ys) (i := i) hud (by omega) (by rw [hm]; exact HUZ.out _ (Nat.le_refl _)) hq0 hq1 (by rw [hm, HX.out]; exact HV.out)
     rw [hm] at hrow
     have hz0 : us.getD (i + k) 0 = 0 := HUZ.out _ (Nat.le_refl _)
     rw [hz0] at e3 hrow
     rw [Int.zero_add] at hrow
     clear hul hz0
     have HS := Lib.hid hrow; clear hrow
     go_wp2
     go_roundw
     case rel =>
      refine ⟨i + 1, us.set (i + k) cy, by omega, by go_num, by simp; exact HU.out, HS.out.1, ?_, HS.out.2, harr.set (i + k) (by have := HU.out; omega) _, hbel.setCell (Nat.le_refl _) _⟩
      intro j' hj'
      rw [FE.getD_set, if_neg (by omega)]
      exact HUZ.out j' (by omega)
     case measure => simp [intOf]; omega
  ·have hin' : i = n := by omega
   subst hin'
   have ht : FE.trim zs = FE.toL (FE.val xs * FE.val ys).toNat := FE.trim_eq hzd (by
    rw [HV.out, List.take_of_length_le (by omega)]
    have := Int.mul_nonneg (FE.val_nonneg hxd) (FE.val_nonneg hyd)
    omega)
   have HT := Lib.hid ht
   clear ht
   go_wp2_with (go_at_call 214; refine (sTrim_any zs (i + m) (i + m) HZ.out (by omega) (Nat.le_refl _) _ _ harr.reads).mono ?_; rintro e w' ⟨rfl, rfl⟩)
   go_ret
   refine ⟨_, rfl, ?_, hbel⟩
   rw [← HT.out]
   exact RO.of_trim harr (Nat.le_refl _)
set_option maxHeartbeats 800000 in
theorem sMul_any (xs ys : List Int) (n m c d : Nat) (hn : xs.length = n) (hm : ys.length = m) (hn1 : n ≤ 1048576) (hm1 : m ≤ 1048576) (hxd : FE.Dig xs) (hyd : FE.Dig ys)
 (A B : Option Addr) (w : World) (ha : RI w A xs) (hb : RI w B ys) :
 Calls Tryz.prog 194 #[.slice A n c, .slice B m d] w fun e w' => ∃ v, e = .returned v ∧ RO w' w.heap.size v (FE.toL (FE.val xs * FE.val ys).toNat) ∧ Below w.heap.size w w' := by
 by_cases hn0 : n = 0
 ·subst hn0
  have hx : xs = [] := List.eq_nil_of_length_eq_zero hn
  subst hx
  have e : FE.toL (FE.val [] * FE.val ys).toNat = [] := by simp [FE.val, FE.toL_zero]
  rw [e]
  clear e
  go_enter Tryz.func194, Tryz.ntmps194
  go_wp2
  go_ret
  exact ⟨_, rfl, RO.nil _ _ _ _ (Nat.zero_le _), Below.refl _ _⟩
 ·by_cases hm0 : m = 0
  ·subst hm0
   have hx : ys = [] := List.eq_nil_of_length_eq_zero hm
   subst hx
   have e : FE.toL (FE.val xs * FE.val []).toNat = [] := by simp [FE.val, FE.toL_zero]
   rw [e]
   clear e
   have z1 : ((n : Int) == 0) = false := by simp; omega
   have Z := Lib.hid hn0; clear hn0
   go_enter Tryz.func194, Tryz.ntmps194
   go_wp2
   go_ret
   exact ⟨_, rfl, RO.nil _ _ _ _ (Nat.zero_le _), Below.refl _ _⟩
  ·exact sMul_core xs ys n m c d hn hm hn1 hm1 hxd hyd (by omega) (by omega) A B w ha hb
theorem sMul_nat (p q : Nat) (n m c d : Nat) (hn : (FE.toL p).length = n) (hm : (FE.toL q).length = m) (hn1 : n ≤ 65536) (hm1 : m ≤ 65536) (A B : Option Addr) (w : World) (ha : RI w A (FE.toL p)) (hb : RI w B (FE.toL q)) :
 Calls Tryz.prog 194 #[.slice A n c, .slice B m d] w fun e w' => ∃ v, e = .returned v ∧ RO w' w.heap.size v (FE.toL (p * q)) ∧ Below w.heap.size w w' := by
 have h := sMul_any _ _ n m c d hn hm (by omega) (by omega) (FE.toL_dig _) (FE.toL_dig _) A B w ha hb
 rwa [FE.val_toL, FE.val_toL, ← Int.natCast_mul, Int.toNat_natCast] at h
open Go.RowKit
theorem OI.form {w : World} {base : Nat} {v : Value} {xs : List Int} (h : OI w base v xs) : ∃ A c, v = .slice A xs.length c ∧ xs.length ≤ c ∧ RI w A xs ∧ RO w base (.slice A (FE.trim xs).length c) (FE.trim xs) := by
 have hro := RO.of_own h
 obtain ⟨A, c, rfl, h1, h2, h3⟩ := hro
 refine ⟨A, c, rfl, h1, RO.reads (RO.of_own h), A, c, rfl, ?_, h2, fun hx => ?_⟩
 ·have := trim_len xs; omega
 ·obtain ⟨g, e, hg, ha⟩ := h3 (by intro e; subst e; exact hx rfl)
  refine ⟨g, e, hg, ?_⟩
  rw [trim_take xs]
  exact ha.cut _
open Go.RowKit
set_option maxRecDepth 100000 in
set_option maxHeartbeats 2000000 in
theorem sSub_any (xs ys : List Int) (n m c d : Nat) (hn : xs.length = n) (hm : ys.length = m) (hn1 : n ≤ 65536) (hmn : m ≤ n) (hxd : FE.Dig xs) (hyd : FE.Dig ys) (hle : FE.val ys ≤ FE.val xs)
 (A B : Option Addr) (w : World) (ha : RI w A xs) (hb : RI w B ys) :
 Calls Tryz.prog 219 #[.slice A n c, .slice B m d] w fun e w' => ∃ v, e = .returned v ∧ RO w' w.heap.size v (FE.toL (FE.val xs - FE.val ys).toNat) ∧ Below w.heap.size w w' := by
 have HLE := Lib.hid hle; clear hle
 go_enter Tryz.func219, Tryz.ntmps219
 go_wp2_with fail
 go_loopw [5, 6, 12] (fun v r i wr => ∃ (k : Nat) (zs : List Int) (bo : Int), k ≤ n ∧ i = .int .i64 k ∧ r = .int .i64 bo ∧ (bo = 0 ∨ bo = 1) ∧ zs.length = k ∧ FE.Dig zs ∧
  FE.val zs = FE.val (xs.take k) - FE.val (ys.take k) + FE.bp k * bo ∧ OI wr w.heap.size v zs ∧ Below w.heap.size w wr) (fun _ _ i _ => n - (intOf i).toNat)
 case atStart => exact ⟨0, [], 0, Nat.zero_le _, rfl, rfl, .inl rfl, rfl, FE.Dig.nil, by simp [FE.val], OI.of_arr (g := w.heap.size) (cap := 0) ⟨[], rfl, Nat.zero_le _, heap_alloc_new _ _⟩ (Nat.le_refl _), (Below.refl _ _).alloc (Nat.le_refl _) _⟩
 case round =>
  obtain ⟨k, zs, bo, hk, rfl, rfl, hbo, hz, hzd, hv, hown, hbel⟩ := hrel
  have HZ := Lib.hid hz; clear hz
  have HV := Lib.hid hv; clear hv
  have HBO := Lib.hid hbo
  have hbo1 : 0 ≤ bo ∧ bo ≤ 1 := by omega
  clear hbo
  by_cases hkn : k < n
  ·obtain ⟨b1, o1, rfl, hb1', hc1⟩ := ha (by intro h; subst h; simp at hn; omega)
   have e2 := (hbel.cell (p := ⟨b1, o1 + k, none⟩) hb1').trans (hc1 k (by omega))
   clear hc1
   have hx := hxd.getD k
   have hstep := FE.subStep (xs := xs) (ys := ys) HZ.out hzd hxd hyd HBO.out HV.out rfl
   by_cases hkm : k < m
   ·skip
    obtain ⟨b2, o2, rfl, hb2', hc2⟩ := hb (by intro h; subst h; simp at hm; omega)
    have e4 := (hbel.cell (p := ⟨b2, o2 + k, none⟩) hb2').trans (hc2 k (by omega))
    clear hc2
    have hy := hyd.getD k
    generalize hye : ys.getD k 0 = y at *
    generalize hxe : xs.getD k 0 = x at *
    clear hxe hye
    by_cases ht : x - bo - y < 0
    ·rw [if_pos ht, if_pos ht] at hstep
     have HS := Lib.hid hstep; clear hstep
     go_wp2_with (at_builtin; refine append1 rfl _ _ _ rfl Tryz.underlying40 Tryz.intInfo w.heap.size _ zs rfl (hown.alloc _) ⟨wr.heap.size, 0, none⟩ _ rfl (cell_new1 _ _ _) (by have := HZ.out; omega) (by have := hbel.size; simp; omega) ?_)
     intro v' w1 hown1 hb1'
     go_wp2
     go_roundw
     case rel => exact ⟨k + 1, zs ++ [x - bo - y + 1000000000], 1, by omega, by go_num, rfl, .inr rfl, by simp; exact HZ.out, HS.out.1, HS.out.2, hown1, (hbel.alloc hbel.size _).trans hb1'⟩
     case measure => simp [intOf]; omega
    ·rw [if_neg ht, if_neg ht] at hstep
     have HS := Lib.hid hstep; clear hstep
     go_wp2_with (at_builtin; refine append1 rfl _ _ _ rfl Tryz.underlying40 Tryz.intInfo w.heap.size _ zs rfl (hown.alloc _) ⟨wr.heap.size, 0, none⟩ _ rfl (cell_new1 _ _ _) (by have := HZ.out; omega) (by have := hbel.size; simp; omega) ?_)
     intro v' w1 hown1 hb1'
     go_wp2
     go_roundw
     case rel => exact ⟨k + 1, zs ++ [x - bo - y], 0, by omega, by go_num, rfl, .inl rfl, by simp; exact HZ.out, HS.out.1, HS.out.2, hown1, (hbel.alloc hbel.size _).trans hb1'⟩
     case measure => simp [intOf]; omega
   ·skip
    have hy0 : ys.getD k 0 = 0 := by simp [List.getElem?_eq_none (show ys.length ≤ k by omega)]
    rw [hy0] at hstep
    simp only [Int.sub_zero] at hstep
    clear hy0
    generalize hxe : xs.getD k 0 = x at *
    clear hxe
    by_cases ht : x - bo < 0
    ·rw [if_pos ht, if_pos ht] at hstep
     have HS := Lib.hid hstep; clear hstep
     go_wp2_with (at_builtin; refine append1 rfl _ _ _ rfl Tryz.underlying40 Tryz.intInfo w.heap.size _ zs rfl (hown.alloc _) ⟨wr.heap.size, 0, none⟩ _ rfl (cell_new1 _ _ _) (by have := HZ.out; omega) (by have := hbel.size; simp; omega) ?_)
     intro v' w1 hown1 hb1'
     go_wp2
     go_roundw
     case rel => exact ⟨k + 1, zs ++ [x - bo + 1000000000], 1, by omega, by go_num, rfl, .inr rfl, by simp; exact HZ.out, HS.out.1, HS.out.2, hown1, (hbel.alloc hbel.size _).trans hb1'⟩
     case measure => simp [intOf]; omega
    ·rw [if_neg ht, if_neg ht] at hstep
     have HS := Lib.hid hstep; clear hstep
     go_wp2_with (at_builtin; refine append1 rfl _ _ _ rfl Tryz.underlying40 Tryz.intInfo w.heap.size _ zs rfl (hown.alloc _) ⟨wr.heap.size, 0, none⟩ _ rfl (cell_new1 _ _ _) (by have := HZ.out; omega) (by have := hbel.size; simp; omega) ?_)
     intro v' w1 hown1 hb1'
     go_wp2
     go_roundw
     case rel => exact ⟨k + 1, zs ++ [x - bo], 0, by omega, by go_num, rfl, .inl rfl, by simp; exact HZ.out, HS.out.1, HS.out.2, hown1, (hbel.alloc hbel.size _).trans hb1'⟩
     case measure => simp [intOf]; omega
  ·have hkn' : k = n := by omega
   subst hkn'
   have hend := FE.subEnd (ys := ys) hxd (by omega) (HZ.out.trans hn.symm) hzd HBO.out (by rw [hn]; exact HV.out) HLE.out
   have HE := Lib.hid hend; clear hend
   obtain ⟨A', c', rfl, hlc, hri, hro⟩ := hown.form
   rw [HZ.out] at hlc ⊢
   go_wp2_with (go_at_call 214; refine (sTrim_any zs k c' HZ.out (by omega) hlc _ _ hri).mono ?_; rintro e w' ⟨rfl, rfl⟩)
   go_ret
   refine ⟨_, rfl, ?_, hbel⟩
   rw [← HE.out]
   exact hro
theorem sSub_nat (p q : Nat) (n m c d : Nat) (hn : (FE.toL p).length = n) (hm : (FE.toL q).length = m) (hn1 : n ≤ 65536) (hle : q ≤ p) (A B : Option Addr) (w : World) (ha : RI w A (FE.toL p)) (hb : RI w B (FE.toL q)) :
 Calls Tryz.prog 219 #[.slice A n c, .slice B m d] w fun e w' => ∃ v, e = .returned v ∧ RO w' w.heap.size v (FE.toL (p - q)) ∧ Below w.heap.size w w' := by
 have hl := toL_len_mono hle
 have h := sSub_any _ _ n m c d hn hm hn1 (by omega) (FE.toL_dig _) (FE.toL_dig _) (by rw [FE.val_toL, FE.val_toL]; omega) A B w ha hb
 rwa [FE.val_toL, FE.val_toL, ← Int.natCast_sub hle, Int.toNat_natCast] at h
open Go.RowKit
theorem sCmp_s (p q : Nat) (s : Int) (hs : cmpI p q = s) (n m c d : Nat) (hn : (FE.toL p).length = n) (hm : (FE.toL q).length = m) (hn1 : n ≤ 65536) (hm1 : m ≤ 65536) (A B : Option Addr) (w : World) (ha : RI w A (FE.toL p)) (hb : RI w B (FE.toL q)) :
 Calls Tryz.prog 215 #[.slice A n c, .slice B m d] w fun e w' => e = .returned (.int .i64 s) ∧ ∃ k, w' = w.drewN k := by
 rw [← hs]; exact sCmp_nat p q n m c d hn hm hn1 hm1 A B w ha hb
theorem mul_len {p q : Nat} {n : Nat} (hn : (FE.toL p).length = n) (hq : q < 1000000000) : (FE.toL (p * q)).length ≤ n + 1 := by
 have h1 := FE.val_lt (FE.toL_dig p)
 rw [FE.val_toL, hn] at h1
 refine (FE.toL_len_le _ _).2 ?_
 rw [FE.bp_succ, Int.natCast_mul]
 have h2 := Int.mul_le_mul_of_nonneg_left (show (q : Int) ≤ 1000000000 by omega) (show (0 : Int) ≤ p by omega)
 omega
theorem digit_len {q : Nat} (hq : q < 1000000000) : (FE.toL q).length ≤ 1 := (FE.toL_len_le _ _).2 (by rw [FE.bp_succ, FE.bp_zero]; omega)
set_option maxRecDepth 100000 in
set_option maxHeartbeats 1000000 in
theorem sDigit_any (r b : Nat) (n m c d : Nat) (hn : (FE.toL r).length = n) (hm : (FE.toL b).length = m) (hn1 : n ≤ 60000) (hm1 : m ≤ 60000) (_hb0 : 0 < b) (hrb : r < b * 1000000000)
 (A B : Option Addr) (w : World) (ha : RI w A (FE.toL r)) (hb : RI w B (FE.toL b)) :
 Calls Tryz.prog 218 #[.slice A n c, .slice B m d] w fun e w' => e = .returned (.int .i64 ((r / b : Nat) : Int)) ∧ Below w.heap.size w w' := by
 have HRB := Lib.hid hrb; clear hrb
 go_enter Tryz.func218, Tryz.ntmps218
 go_wp2_with fail
 go_loopw [5, 6] (fun u v wr => ∃ lo hi : Nat, u = .int .i64 lo ∧ v = .int .i64 hi ∧ lo ≤ hi ∧ hi ≤ 999999999 ∧ b * lo ≤ r ∧ r < b * (hi + 1) ∧ Below w.heap.size w wr) (fun u v _ => (intOf v - intOf u).toNat)
 case atStart => exact ⟨0, 999999999, rfl, rfl, by omega, by omega, by omega, HRB.out, Below.refl _ _⟩
 case round =>
  obtain ⟨lo, hi, rfl, rfl, hlh, hh, hlo, hhi, hbel⟩ := hrel
  have HLO := Lib.hid hlo
  have HHI := Lib.hid hhi
  clear hlo hhi
  by_cases hlt : lo < hi
  ·obtain ⟨q, hq⟩ : ∃ q, q = (lo + hi + 1) / 2 := ⟨_, rfl⟩
   have hq1 : lo < q ∧ q ≤ hi := by omega
   have hqe : ((lo : Int) + (hi : Int) + 1) / 2 = (q : Int) := by omega
   have HQ := Lib.hid hqe
   obtain ⟨s, hs⟩ : ∃ s, cmpI ((b * q : Nat) : Int) (r : Int) = s := ⟨_, rfl⟩
   have HS := Lib.hid hs
   have hl1 := mul_len hm (show q < 1000000000 by omega)
   have hl2 := digit_len (show q < 1000000000 by omega)
   clear hq hqe hs
   go_wp2_with fail
   rw [HQ.out]
   refine (sNatOf_any q (by omega) _).mono ?_
   rintro e w1 ⟨v1, rfl, hro1, hb1⟩
   obtain ⟨A1, c1, rfl, hc1⟩ := hro1.form
   have hbe1 := hbel.trans (hb1.mono hbel.size)
   go_wp2_with fail
   refine (sMul_nat b q m _ d c1 hm rfl (by omega) (by omega) B A1 _ (hb.later hbe1) hro1.reads).mono ?_
   rintro e w2 ⟨v2, rfl, hro2, hb2⟩
   obtain ⟨A2, c2, rfl, hc2⟩ := hro2.form
   have hbe2 := hbe1.trans (hb2.mono hbe1.size)
   go_wp2_with fail
   refine (sCmp_s (b * q) r s HS.out _ n c2 c rfl hn (by omega) (by omega) A2 A _ hro2.reads (ha.later hbe2)).mono ?_
   rintro e w3 ⟨rfl, k3, rfl⟩
   clear hro1 hro2 hb1 hb2 hbe1 hc1 hc2 hl1 hl2
   by_cases hle : b * q ≤ r
   ·have hs0 : s ≤ 0 := by rw [← HS.out]; unfold cmpI; split <;> (try split) <;> omega
    have HLE := Lib.hid hle; clear hle
    go_wp2
    go_roundw
    case rel => exact ⟨q, hi, rfl, rfl, by omega, hh, HLE.out, HHI.out, below_drewN hbe2 _⟩
    case measure => simp [intOf]; omega
   ·have hs0 : 0 < s := by rw [← HS.out]; unfold cmpI; rw [if_neg (by omega), if_pos (by omega)]; omega
    have HLE := Lib.hid hle; clear hle
    go_wp2
    go_roundw
    case rel => exact ⟨lo, q - 1, rfl, by go_num, by omega, by omega, HLO.out, by have := HLE.out; rw [show q - 1 + 1 = q by omega]; omega, below_drewN hbe2 _⟩
    case measure => simp [intOf]; omega
  ·have he : lo = hi := by omega
   subst he
   have hfin : r / b = lo := by
    refine Nat.div_eq_of_lt_le ?_ ?_
    ·rw [Nat.mul_comm]; exact HLO.out
    ·have := HHI.out; rw [Nat.mul_comm]; exact this
   have HF := Lib.hid hfin; clear hfin
   go_wp2
   go_ret
   exact ⟨by rw [HF.out]; rfl, hbel⟩
open Go.RowKit
theorem cons_trim (x R : Nat) (hx : x < 1000000000) : FE.trim (((x : Nat) : Int) :: FE.toL R) = FE.toL (x + 1000000000 * R) := by
 refine FE.trim_eq (FE.Dig.cons (by omega) (by omega) (FE.toL_dig _)) ?_
 rw [FE.val_cons, FE.val_toL]; omega
set_option maxRecDepth 100000 in
set_option maxHeartbeats 1000000 in
theorem sDiv_one (xs : List Int) (y : Nat) (n c d : Nat) (hn : xs.length = n) (hn1 : n ≤ 60000) (hxd : FE.Dig xs) (hy0 : 0 < y) (hy1 : y < 1000000000)
 (A B : Option Addr) (w : World) (ha : RI w A xs) (hb : RI w B [(y : Int)]) :
 Calls Tryz.prog 198 #[.slice A n c, .slice B 1 d] w fun e w' => ∃ v1 v2, e = .returned (.tuple #[v1, v2]) ∧ RO w' w.heap.size v1 (FE.toL (FE.val xs / y).toNat) ∧ RO w' w.heap.size v2 (FE.toL (FE.val xs % y).toNat) ∧ Below w.heap.size w w' := by
 obtain ⟨b2, o2, rfl, hb2, hc2⟩ := hb (by simp)
 have e2 := hc2 0 (by simp)
 simp only [List.getD_cons_zero, Nat.add_zero] at e2
 have hr0 := Int.emod_nonneg (FE.val xs) (show (y : Int) ≠ 0 by omega)
 have hr1 := Int.emod_lt_of_pos (FE.val xs) (show (0 : Int) < y by omega)
 obtain ⟨r, hr⟩ : ∃ r : Nat, FE.val xs % y = r := ⟨(FE.val xs % y).toNat, by omega⟩
 have hDS := fun W h1 => sSmall_any xs n c y hn (by omega) hxd (by omega) (by omega) A W h1
 have hNO := fun W => sNatOf_any r (by omega) W
 rw [hr]
 simp only [hr] at hDS
 simp only [Int.toNat_natCast]
 have HDS := Lib.hid hDS
 have HNO := Lib.hid hNO
 clear hDS hNO hr hr0 hr1
 go_enter Tryz.func198, Tryz.ntmps198
 go_wp2_with fail
 refine (HDS.out _ ha).mono ?_
 rintro e w2 ⟨v2, rfl, hro2, hb2'⟩
 go_wp2_with fail
 refine (HNO.out _).mono ?_
 rintro e w3 ⟨v3, rfl, hro3, hb3⟩
 go_wp2
 go_ret2
 exact ⟨_, _, rfl, hro2.later hb3, hro3.mono hb2'.size, hb2'.trans (hb3.mono hb2'.size)⟩
theorem set_self {l : List Int} {j : Nat} {v : Int} (hj : j < l.length) (h : l.getD j 0 = v) : l.set j v = l := by
 apply List.ext_getElem
 ·simp
 ·intro i h1 h2
  rw [List.getElem_set]
  split
  ·rename_i e
   subst e
   rw [← h]; simp [hj]
  ·rfl
theorem RO.drewN' {w : World} {base : Nat} {v : Value} {xs : List Int} (h : RO w base v xs) (n : Nat) : RO (w.drewN n) base v xs := h
set_option maxRecDepth 100000 in
set_option maxHeartbeats 2000000 in
theorem sDiv_many (xs : List Int) (y : Nat) (n m c d : Nat) (hn : xs.length = n) (hm : (FE.toL y).length = m + 2) (hn1 : n ≤ 50000) (hm1 : m ≤ 50000) (hxd : FE.Dig xs) (hy0 : 0 < y)
 (A B : Option Addr) (w : World) (ha : RI w A xs) (hb : RI w B (FE.toL y)) :
 Calls Tryz.prog 198 #[.slice A n c, .slice B (m + 2) d] w fun e w' => ∃ v1 v2, e = .returned (.tuple #[v1, v2]) ∧ RO w' w.heap.size v1 (FE.toL (FE.val xs / y).toNat) ∧ RO w' w.heap.size v2 (FE.toL (FE.val xs % y).toNat) ∧ Below w.heap.size w w' := by
 have hmb : (((m : Int) + 2) == 1) = false := by simp; omega
 go_enter Tryz.func198, Tryz.ntmps198
 go_wp2_with (at_make; refine makeInts rfl _ _ _ rfl Tryz.underlying40 Tryz.intInfo n n _ _ rfl rfl (by omega) (by omega) (Nat.le_refl _) (by omega) ?_; intro harr0)
 go_loopw [9, 10] (fun v i wr => ∃ (k : Nat) (zs : List Int) (R : Nat) (A' : Option Addr) (n' c' : Nat), k ≤ n ∧ i = .int .i64 ((k : Int) - 1) ∧ v = .slice A' n' c' ∧ (FE.toL R).length = n' ∧ RO wr w.heap.size (.slice A' n' c') (FE.toL R) ∧ R < y ∧ zs.length = n ∧ FE.Dig zs ∧ (∀ j, j < k → zs.getD j 0 = 0) ∧
  FE.val xs = y * FE.val zs + FE.bp k * R + FE.val (xs.take k) ∧ Arr wr w.heap.size n zs ∧ Below w.heap.size w wr) (fun _ i _ => (intOf i + 1).toNat)
 case atStart =>
  refine ⟨n, List.replicate n 0, 0, _, 0, 0, Nat.le_refl _, rfl, rfl, by rw [FE.toL_zero]; rfl, by rw [FE.toL_zero]; exact RO.nil _ _ _ _ (Nat.zero_le _), hy0, by simp, FE.Dig.replicate n, fun j hj => by simp [hj], by rw [FE.val_replicate, List.take_of_length_le (by omega)]; simp, harr0.alloc _, ((Below.refl _ _).alloc (Nat.le_refl _) _).alloc (by simp) _⟩
 case round =>
  obtain ⟨k, zs, R, A', n', c', hk, rfl, rfl, hRl, hRo, hRy, hz, hzd, hzz, hv, harr, hbel⟩ := hrel
  have HZ := Lib.hid hz; clear hz
  have HV := Lib.hid hv; clear hv
  have HZZ := Lib.hid hzz; clear hzz
  clear harr0
  by_cases hk0 : k = 0
  ·subst hk0
   have hfin : FE.val xs = y * FE.val zs + R := by have := HV.out; simp [FE.bp_zero, FE.val] at this; exact this
   have hz0 := FE.val_nonneg hzd
   have hq : FE.val xs / y = FE.val zs := by
    rw [hfin, Int.add_comm, Int.add_mul_ediv_left _ _ (by omega), Int.ediv_eq_zero_of_lt (by omega) (by omega)]; omega
   have hr : FE.val xs % y = R := by rw [hfin, Int.add_comm, Int.add_mul_emod_self_left]; exact Int.emod_eq_of_lt (by omega) (by omega)
   have ht : FE.trim zs = FE.toL (FE.val xs / y).toNat := FE.trim_eq hzd (by rw [hq]; omega)
   have HR := Lib.hid hr
   have HT := Lib.hid ht
   clear hfin hq hr ht
   go_wp2_with (go_at_call 214; refine (sTrim_any zs n n HZ.out (by omega) (Nat.le_refl _) _ _ harr.reads).mono ?_; rintro e w' ⟨rfl, rfl⟩)
   go_ret2
   refine ⟨_, _, rfl, ?_, ?_, hbel⟩
   ·rw [← HT.out]
    exact RO.of_trim harr (Nat.le_refl _)
   ·rw [HR.out, Int.toNat_natCast]
    exact hRo
  ·obtain ⟨j, rfl⟩ : ∃ j, k = j + 1 := ⟨k - 1, by omega⟩
   rw [show ((j + 1 : Nat) : Int) - 1 = (j : Int) by omega]
   obtain ⟨b1, o1, rfl, hb1, hc1⟩ := ha (by intro h; subst h; simp at hn; omega)
   have e1 := (hbel.cell (p := ⟨b1, o1 + j, none⟩) hb1).trans (hc1 j (by omega))
   have hx := hxd.getD j
   have hstep := FE.divStep (d := (y : Int)) (r := (R : Int)) (by omega) (by omega) (by omega) hxd (by omega) (HZ.out.trans hn.symm) hzd (HZZ.out j (by omega)) HV.out rfl
   clear hc1
   obtain ⟨x, hxe⟩ : ∃ x : Nat, xs.getD j 0 = x := ⟨(xs.getD j 0).toNat, by omega⟩
   rw [hxe] at e1 hx hstep
   have hT : ((R : Int) * 1000000000 + (x : Int)) = ((x + 1000000000 * R : Nat) : Int) := by omega
   rw [hT] at hstep
   have hct := cons_trim x R (by omega)
   obtain ⟨T, hTe⟩ : ∃ T, T = x + 1000000000 * R := ⟨_, rfl⟩
   rw [← hTe] at hstep hct
   have hTy : T < y * 1000000000 := by
    have : (R + 1) * 1000000000 ≤ y * 1000000000 := Nat.mul_le_mul_right _ (by omega)
    omega
   have hlenR : n' ≤ m + 2 := by rw [← hRl, ← hm]; exact toL_len_mono (by omega)
   have hlenT : (FE.toL T).length ≤ m + 3 := by
    have h1 := FE.val_lt (FE.toL_dig y)
    rw [FE.val_toL, hm] at h1
    refine (FE.toL_len_le _ _).2 ?_
    rw [FE.bp_succ]; omega
   have HSTEP := Lib.hid hstep
   have HCT := Lib.hid hct
   have HTE := Lib.hid hTe
   have HTY := Lib.hid hTy
   have hy1 : ((x : Int) :: FE.toL R).length = n' + 1 := by simp [hRl]
   have HL := Lib.hid hy1
   clear hstep hct hTe hTy hT hxe hy1
   go_wp2_with (at_builtin; refine appendAll rfl _ _ _ rfl Tryz.underlying40 Tryz.intInfo wr.heap.size _ [(x : Int)] rfl (OI.of_arr (g := wr.heap.size) (cap := 1) ⟨[], rfl, by simp [maxLen], heap_alloc_new _ _⟩ (Nat.le_refl _)) A' (FE.toL R) n' c' rfl hRl (hRo.reads.alloc _) (by simp; omega) (by simp) ?_)
   intro v1 w1 hown1 hb1'
   have hown1' : OI w1 wr.heap.size v1 ((x : Int) :: FE.toL R) := hown1
   clear hown1
   obtain ⟨A1, c1, rfl, hlc, hri, hro⟩ := hown1'.form
   rw [HCT.out] at hro
   rw [HL.out] at hlc ⊢
   have hbw : Below wr.heap.size wr w1 := ((Below.refl _ _).alloc (Nat.le_refl _) _).trans hb1'
   have hbe1 : Below w.heap.size w w1 := hbel.trans (hbw.mono hbel.size)
   have harr1 : Arr w1 w.heap.size n zs := harr.later hbw
   have hgsz := harr.lt
   clear hown1' hb1' hbw harr hRo
   go_wp2_with fail
   refine (sTrim_any ((x : Int) :: FE.toL R) (n' + 1) c1 HL.out (by omega) hlc A1 _ hri).mono ?_
   rintro e w2 ⟨rfl, rfl⟩
   rw [HCT.out]
   obtain ⟨s, hs⟩ : ∃ s, cmpI (T : Int) (y : Int) = s := ⟨_, rfl⟩
   have HS := Lib.hid hs; clear hs
   go_wp2_with fail
   refine (sCmp_s T y s HS.out _ (m + 2) c1 d rfl hm (by omega) (by omega) A1 B _ hro.reads (hb.later hbe1)).mono ?_
   rintro e w3 ⟨rfl, k3, rfl⟩
   by_cases hlt : T < y
   ·have hs0 : s < 0 := by rw [← HS.out, cmpI, if_pos (by omega)]; omega
    have hq0 : T / y = 0 := Nat.div_eq_of_lt hlt
    have hm0 : T % y = T := Nat.mod_eq_of_lt hlt
    have hst := HSTEP.out
    rw [← Int.natCast_ediv, ← Int.natCast_emod, hq0, hm0] at hst
    have hset : zs.set j ((0 : Nat) : Int) = zs := set_self (by have := HZ.out; omega) (HZZ.out j (by omega))
    rw [hset] at hst
    have HST := Lib.hid hst
    have HLT := Lib.hid hlt
    clear hst hset hq0 hm0 hlt
    go_wp2
    go_roundw
    case rel => exact ⟨j, zs, T, A1, _, c1, by omega, rfl, rfl, rfl, (hro.mono hbel.size).drewN' _, HLT.out, HZ.out, hzd, fun j' hj' => HZZ.out j' (by omega), HST.out.2.2.2, harr1.drewN _, below_drewN hbe1 _⟩
    case measure => simp [intOf]
   ·have hs0 : 0 ≤ s := by rw [← HS.out, cmpI, if_neg (by omega)]; split <;> omega
    have hst := HSTEP.out
    rw [← Int.natCast_ediv, ← Int.natCast_emod] at hst
    have hqb : T / y < 1000000000 := Nat.div_lt_of_lt_mul (by have := HTY.out; omega)
    have hmul : y * (T / y) ≤ T := Nat.mul_div_le T y
    have hmod : T - y * (T / y) = T % y := by have := Nat.div_add_mod T y; omega
    have hmlt := Nat.mod_lt T hy0
    obtain ⟨q, hq⟩ : ∃ q, T / y = q := ⟨_, rfl⟩
    rw [hq] at hst hqb hmul hmod
    have HST := Lib.hid hst
    have HQ := Lib.hid hq
    have HMUL := Lib.hid hmul
    have HMOD := Lib.hid hmod
    have HMLT := Lib.hid hmlt
    have hl1 := mul_len hm hqb
    have hl2 := digit_len hqb
    have c1' := harr1.cell j (by have := HZ.out; omega)
    have c2' := harr1.frozen j
    have hset := (harr1.drewN k3)
    have hsetj := fun (W : World) (h : Arr W w.heap.size n zs) => h.set j (by have := HZ.out; omega) ((q : Nat) : Int)
    have HSET := Lib.hid hsetj
    clear hst hq hmul hmod hlt hset hsetj hmlt
    go_wp2_with fail
    refine (sDigit_any T y _ (m + 2) c1 d rfl hm (by omega) (by omega) hy0 HTY.out A1 B _ (hro.reads.drewN _) ((hb.later hbe1).drewN _)).mono ?_
    rintro e w4 ⟨rfl, hb4⟩
    rw [HQ.out]
    have harr4 := (harr1.drewN k3).later hb4
    have hro4 := (RO.drewN' hro k3).later hb4
    have hbe4 := (below_drewN hbe1 k3).trans (hb4.mono hbe1.size)
    have d1 := harr4.cell j (by have := HZ.out; omega)
    have d2 := harr4.frozen j
    have harr5 := HSET.out _ harr4
    have hbe5 : Below w.heap.size w (w4.setCell ⟨w.heap.size, j, none⟩ (.int .i64 ((q : Nat) : Int))) := hbe4.setCell (Nat.le_refl _) _
    have hgf : ∀ a, A1 = some a → FE.toL T ≠ [] → a.block ≠ w.heap.size := fun a h1 h2 => by
     obtain ⟨A2, c2, h3, _, _, h4⟩ := hro4
     obtain ⟨g, h5, h6, _⟩ := h4 h2
     injection h3 with h3 _ _
     rw [h1] at h3
     rw [← h3] at h5
     injection h5 with h5
     subst h5
     show g ≠ w.heap.size
     omega
    have hri5 : RI (w4.setCell ⟨w.heap.size, j, none⟩ (.int .i64 ((q : Nat) : Int))) A1 (FE.toL T) := ((Only.refl w.heap.size w4).set j _).reads hro4.reads hgf
    clear c1' c2' hgf hro4 hro harr1 HSET hb4
    go_wp2_with fail
    refine (sNatOf_any q (by omega) _).mono ?_
    rintro e w6 ⟨v6, rfl, hro6, hb6⟩
    obtain ⟨A6, c6, rfl, hc6⟩ := hro6.form
    have hbe6 := hbe5.trans (hb6.mono hbe5.size)
    have harr6 := harr5.later hb6
    have hri6 := hri5.later hb6
    clear d1 d2 harr4
    go_wp2_with fail
    refine (sMul_nat y q (m + 2) _ d c6 hm rfl (by omega) (by omega) B A6 _ (hb.later hbe6) hro6.reads).mono ?_
    rintro e w7 ⟨v7, rfl, hro7, hb7⟩
    obtain ⟨A7, c7, rfl, hc7⟩ := hro7.form
    have hbe7 := hbe6.trans (hb7.mono hbe6.size)
    have harr7 := harr6.later hb7
    have hri7 := hri6.later hb7
    go_wp2_with fail
    refine (sSub_nat T (y * q) _ _ c1 c7 rfl rfl (by omega) HMUL.out A1 A7 _ hri7 hro7.reads).mono ?_
    rintro e w8 ⟨v8, rfl, hro8, hb8⟩
    obtain ⟨A8, c8, rfl, hc8⟩ := hro8.form
    have hbe8 := hbe7.trans (hb8.mono hbe7.size)
    have harr8 := harr7.later hb8
    rw [HMOD.out] at hro8
    have hl8 : (FE.toL (T - y * q)).length = (FE.toL (T % y)).length := by rw [HMOD.out]
    rw [hl8]
    have hro9 := hro8.mono hbe7.size
    clear hbe5 hbe6 hbe4 hb6 hb7 hb8 harr5 harr6 harr7 hri5 hri6 hri7 hro6 hro7 hro8 hl8
    go_wp2
    go_roundw
    case rel =>
     refine ⟨j, zs.set j ((q : Nat) : Int), T % y, A8, _, c8, by omega, rfl, rfl, rfl, hro9, HMLT.out, by simp; exact HZ.out, HST.out.2.2.1, ?_, HST.out.2.2.2, harr8, hbe8⟩
     intro j' hj'
     rw [FE.getD_set, if_neg (by omega)]
     exact HZZ.out j' (by omega)
    case measure => simp [intOf]
theorem sDiv_nat (p q : Nat) (n m c d : Nat) (hn : (FE.toL p).length = n) (hm : (FE.toL q).length = m) (hn1 : n ≤ 50000) (hm1 : m ≤ 50000) (hq : q ≠ 0)
 (A B : Option Addr) (w : World) (ha : RI w A (FE.toL p)) (hb : RI w B (FE.toL q)) :
 Calls Tryz.prog 198 #[.slice A n c, .slice B m d] w fun e w' => ∃ v1 v2, e = .returned (.tuple #[v1, v2]) ∧ RO w' w.heap.size v1 (FE.toL (p / q)) ∧ RO w' w.heap.size v2 (FE.toL (p % q)) ∧ Below w.heap.size w w' := by
 have e1 : (FE.val (FE.toL p) / (q : Int)).toNat = p / q := by rw [FE.val_toL, ← Int.natCast_ediv, Int.toNat_natCast]
 have e2 : (FE.val (FE.toL p) % (q : Int)).toNat = p % q := by rw [FE.val_toL, ← Int.natCast_emod, Int.toNat_natCast]
 match m, hm with
 | 0, hm => exact absurd (FE.toL_eq_nil.1 (List.eq_nil_of_length_eq_zero hm)) hq
 | 1, hm =>
  obtain ⟨y, hy⟩ := List.length_eq_one_iff.1 hm
  have h1 := FE.val_toL q
  rw [hy] at h1
  have h2 : y = (q : Int) := by simpa [FE.val] using h1
  have h3 := (FE.toL_dig q).get 0 (by omega)
  simp only [hy, List.getElem_cons_zero] at h3
  rw [hy, h2] at hb
  have h := sDiv_one (FE.toL p) q n c d hn (by omega) (FE.toL_dig _) (by omega) (by omega) A B w ha hb
  rwa [e1, e2] at h
 | m + 2, hm =>
  have h := sDiv_many (FE.toL p) q n m c d hn hm (by omega) (by omega) (FE.toL_dig _) (by omega) A B w ha hb
  rwa [e1, e2] at h
open Go.RowKit Go.Joins
set_option maxHeartbeats 400000 in
theorem sBigIntOk (s : Bool) (xs : List Int) (n c : Nat) (hn : xs.length = n) (hn1 : n ≤ 4611686018427387904) (A : Option Addr) (w : World) (ha : RI w A xs) :
 Calls Tryz.prog 149 #[.agg #[.bool s, .slice A n c]] w fun e w' => e = .returned (.bool (FE.bigOk s xs)) ∧ Below w.heap.size w w' := by
 have HC := Lib.hid (fun o => sNatOk xs n c hn hn1 A (w.alloc o) (ha.alloc o))
 have HQ := Lib.hid (show FE.bigOk s xs = (FE.natOk xs && (!s || !xs.isEmpty)) from rfl)
 have HN := Lib.hid hn; clear hn
 generalize FE.bigOk s xs = res at *
 obtain ⟨q, hq⟩ : ∃ q, FE.natOk xs = q := ⟨_, rfl⟩
 rw [hq] at HC HQ
 clear hq
 cases q
 ·go_enter Tryz.func149, Tryz.ntmps149
  go_wp2_with fail
  refine (HC.out _).mono ?_
  rintro e w1 ⟨rfl, rfl⟩
  go_wp2
  go_ret
  exact ⟨ret_bool (by rw [HQ.out]; rfl), below_alloc1 _ _⟩
 ·cases s
  ·go_enter Tryz.func149, Tryz.ntmps149
   go_wp2_with fail
   refine (HC.out _).mono ?_
   rintro e w1 ⟨rfl, rfl⟩
   go_wp2
   go_ret
   exact ⟨ret_bool (by rw [HQ.out]; rfl), below_alloc1 _ _⟩
  ·by_cases hn0 : 0 < n
   ·have HR := Lib.hid (show res = true by
     rw [HQ.out]
     have h0 : xs ≠ [] := (by intro h; have := HN.out; rw [h] at this; simp at this; omega)
     simp [h0])
    go_enter Tryz.func149, Tryz.ntmps149
    go_wp2_with fail
    refine (HC.out _).mono ?_
    rintro e w1 ⟨rfl, rfl⟩
    go_wp2
    go_ret
    exact ⟨ret_bool HR.out.symm, below_alloc1 _ _⟩
   ·have HR := Lib.hid (show res = false by
     rw [HQ.out]
     have h0 : xs = [] := List.eq_nil_of_length_eq_zero (by have := HN.out; omega)
     simp [h0])
    go_enter Tryz.func149, Tryz.ntmps149
    go_wp2_with fail
    refine (HC.out _).mono ?_
    rintro e w1 ⟨rfl, rfl⟩
    go_wp2
    go_ret
    exact ⟨ret_bool HR.out.symm, below_alloc1 _ _⟩
set_option maxHeartbeats 400000 in
theorem sOne (xs : List Int) (n c : Nat) (hn : xs.length = n) (hn1 : n ≤ 4611686018427387904) (A : Option Addr) (w : World) (ha : RI w A xs) :
 Calls Tryz.prog 151 #[.slice A n c] w fun e w' => e = .returned (.bool (oneB xs)) ∧ w' = w := by
 by_cases h1 : n = 1
 ·subst h1
  obtain ⟨x, rfl⟩ := List.length_eq_one_iff.1 hn
  obtain ⟨b, off, rfl, hb, hc⟩ := ha (by simp)
  have e1 := hc 0 (by simp)
  simp only [List.getD_cons_zero, Nat.add_zero] at e1
  by_cases hx : x = 1
  ·subst hx
   go_enter Tryz.func151, Tryz.ntmps151
   go_wp2
   go_ret
   exact ⟨ret_bool (by simp [oneB]), rfl⟩
  ·have HR := Lib.hid (show oneB [x] = false by simp [oneB, hx])
   have hx1 : (x == 1) = false := by simp [hx]
   go_enter Tryz.func151, Tryz.ntmps151
   go_wp2
   go_ret
   exact ⟨ret_bool HR.out.symm, rfl⟩
 ·have HR := Lib.hid (show oneB xs = false by simp only [oneB, beq_eq_false_iff_ne, ne_eq]; intro h; rw [h] at hn; simp at hn; omega)
  have hx1 : ((n : Int) == 1) = false := by simp; omega
  clear hn h1
  go_enter Tryz.func151, Tryz.ntmps151
  go_wp2
  go_ret
  exact ⟨ret_bool HR.out.symm, rfl⟩
set_option maxHeartbeats 400000 in
theorem sPlain (a b : Nat) (ha : a ≤ 4611686018427387904) (hb : b ≤ 4611686018427387904) (w : World) :
 Calls Tryz.prog 197 #[.int .i64 a, .int .i64 b] w fun e w' => ∃ v, e = .returned v ∧ RO w' w.heap.size v (FE.toL (Nat.gcd a b)) ∧ Below w.heap.size w w' := by
 go_enter Tryz.func197, Tryz.ntmps197
 go_wp2_with fail
 go_loop [0, 1] (fun x y => ∃ a' b' : Nat, a' ≤ 4611686018427387904 ∧ b' ≤ 4611686018427387904 ∧ x = .int .i64 a' ∧ y = .int .i64 b' ∧ Nat.gcd a b = Nat.gcd a' b') (fun _ y => (intOf y).toNat)
 case atStart => exact ⟨a, b, ha, hb, rfl, rfl, rfl⟩
 case round =>
  obtain ⟨a', b', ha', hb', rfl, rfl, hg⟩ := hrel
  have HG := Lib.hid hg; clear hg
  by_cases h0 : b' = 0
  ·subst h0
   have HN := Lib.hid (fun W => sNatOf_any a' ha' W)
   go_wp2_with fail
   refine (HN.out _).mono ?_
   rintro e w1 ⟨v1, rfl, hro, hb1⟩
   go_wp2
   go_ret
   exact ⟨_, rfl, by rw [HG.out, Nat.gcd_zero_right]; exact hro, hb1⟩
  ·have hlt := Nat.mod_lt a' (show 0 < b' by omega)
   have hpos : 0 < b' := by omega
   have hgc : Nat.gcd a' b' = Nat.gcd b' (a' % b') := by rw [Nat.gcd_comm, Nat.gcd_rec, Nat.gcd_comm]
   have HGC := Lib.hid hgc
   clear hgc h0
   go_wp2
   go_round
   case rel => exact ⟨b', a' % b', hb', by omega, rfl, by simp, HG.out.trans HGC.out⟩
   case measure => simp [intOf]; omega
theorem val_big : FE.toL 9223372036854775807 = [854775807, 223372036, 9] := by
 have h := FE.natOk_iff.1 (show FE.natOk [854775807, 223372036, 9] = true by decide)
 exact (FE.eq_toL h.2.1 h.2.2 (by decide)).symm
theorem drop_step (xs : List Int) (k : Nat) (hk : k < xs.length) : FE.val (xs.drop k) = FE.val (xs.drop (k + 1)) * 1000000000 + xs.getD k 0 := by
 rw [List.drop_eq_getElem_cons hk, FE.val_cons]
 have : xs[k] = xs.getD k 0 := by simp [hk]
 rw [this]; omega
theorem drop_le {xs : List Int} (h : FE.Dig xs) (k : Nat) : 0 ≤ FE.val (xs.drop k) ∧ FE.val (xs.drop k) ≤ FE.val xs := by
 have h1 := FE.val_nonneg (h.drop k)
 refine ⟨h1, ?_⟩
 rcases Nat.lt_or_ge xs.length k with hk | hk
 ·rw [List.drop_eq_nil_of_le (by omega)]; exact FE.val_nonneg h
 ·have h2 := FE.val_take_drop xs k hk
  have h3 := FE.val_nonneg (h.take k)
  have h4 := FE.bp_pos k
  have h5 : FE.val (xs.drop k) ≤ FE.bp k * FE.val (xs.drop k) := by
   have := Int.mul_le_mul_of_nonneg_right (show 1 ≤ FE.bp k by omega) h1
   omega
  omega
set_option maxRecDepth 100000 in
set_option maxHeartbeats 800000 in
theorem sNatToInt (p : Nat) (hp : p < 1000000000000000000) (n c : Nat) (hn : (FE.toL p).length = n) (hn1 : n ≤ 2) (A : Option Addr) (w : World) (ha : RI w A (FE.toL p)) :
 Calls Tryz.prog 196 #[.slice A n c] w fun e w' => e = .returned (.tuple #[.int .i64 p, .bool true]) ∧ Below w.heap.size w w' := by
 have hok : FE.natOk (FE.toL p) = true := FE.natOk_of_toL (by omega)
 have C1 := fun W h => sNatOk (FE.toL p) n c hn (by omega) A W h
 rw [hok] at C1
 have H1 := Lib.hid C1
 have hcmp : cmpI (p : Nat) (9223372036854775807 : Nat) = -1 := by rw [cmpI, if_pos (by omega)]
 have C2 := Lib.hid (fun (W : World) (B : Option Addr) (d : Nat) (h1 : RI W A (FE.toL p)) (h2 : RI W B [854775807, 223372036, 9]) => sCmp_s p 9223372036854775807 (-1) hcmp n 3 c d hn (by rw [val_big]; rfl) (by omega) (by omega) A B W h1 (by rw [val_big]; exact h2))
 have HD := Lib.hid (FE.toL_dig p)
 have HV := Lib.hid (FE.val_toL p)
 have HN := Lib.hid hn
 clear hn hcmp hok C1
 generalize FE.toL p = xs at *
 have hz : ∀ k, 0 ≤ FE.val (xs.drop k) ∧ FE.val (xs.drop k) < 1000000000000000000 := fun k => by
  have := drop_le HD.out k
  rw [HV.out] at this
  omega
 have HZ := Lib.hid hz
 clear hz
 have hw : Below w.heap.size w w := Below.refl _ _
 have hri : ∀ W, Below w.heap.size w W → RI W A xs := fun W h => ha.later h
 have HR := Lib.hid hri
 clear hri hw
 go_enter Tryz.func196, Tryz.ntmps196
 go_wp2_with fail
 refine (H1.out _ ha).mono ?_
 rintro e w1 ⟨rfl, hw1⟩
 subst w1
 go_wp2_with fail
 refine (C2.out _ _ _ (ha.alloc _) (Arr.reads (g := w.heap.size) (cap := 3) ⟨[], rfl, by simp [maxLen], heap_alloc_new _ _⟩)).mono ?_
 rintro e w2 ⟨rfl, k2, rfl⟩
 have hbel : Below w.heap.size w ((w.alloc (.cells #[.int .i64 854775807, .int .i64 223372036, .int .i64 9] 3)).drewN k2) := below_drewN (below_alloc1 _ _) k2
 have ha2 := HR.out _ hbel
 go_wp2_with fail
 go_loop [4, 5] (fun v i => ∃ k : Nat, k ≤ n ∧ i = .int .i64 ((k : Int) - 1) ∧ v = .int .i64 (FE.val (xs.drop k))) (fun _ i => (intOf i + 1).toNat)
 case atStart => exact ⟨n, Nat.le_refl _, rfl, by rw [List.drop_eq_nil_of_le (by rw [HN.out]; exact Nat.le_refl _)]; rfl⟩
 case round =>
  obtain ⟨k, hk, rfl, rfl⟩ := hrel
  by_cases hk0 : k = 0
  ·subst hk0
   go_wp2
   go_ret2
   refine ⟨?_, hbel⟩
   show Ending.returned (.tuple #[.int .i64 (FE.val xs), .bool true]) = _
   rw [HV.out]
  ·obtain ⟨j, rfl⟩ : ∃ j, k = j + 1 := ⟨k - 1, by omega⟩
   rw [show ((j + 1 : Nat) : Int) - 1 = (j : Int) by omega]
   have hjl : j < xs.length := by rw [HN.out]; omega
   obtain ⟨b1, o1, rfl, hb1, hc1⟩ := ha2 (by intro h; rw [h] at hjl; simp at hjl)
   have e1 := hc1 j hjl
   have hs := drop_step xs j hjl
   have hz1 := HZ.out j
   have hz2 := HZ.out (j + 1)
   have hd := HD.out.getD j
   clear hc1 hjl
   generalize xs.getD j 0 = x at *
   generalize FE.val (xs.drop (j + 1)) = u at *
   have HS := Lib.hid hs
   rw [hs] at hz1
   clear hs hk0
   go_wp2
   go_round
   case rel => exact ⟨j, by omega, by go_num, by rw [HS.out]⟩
   case measure => simp [intOf] <;> omega
def RV (w : World) (v : Value) (xs : List Int) : Prop := ∃ A c, v = .slice A xs.length c ∧ xs.length ≤ c ∧ c ≤ maxLen ∧ RI w A xs
theorem RO.cap {w : World} {base n c : Nat} {A : Option Addr} {xs : List Int} (h : RO w base (.slice A n c) xs) : c ≤ maxLen := by
 obtain ⟨A', c', he, _, h2, _⟩ := h
 injection he with _ _ he
 omega
theorem RO.rv {w : World} {base : Nat} {v : Value} {xs : List Int} (h : RO w base v xs) : RV w v xs := by
 obtain ⟨A, c, rfl, hl, hc, _⟩ := id h
 exact ⟨A, c, rfl, hl, hc, h.reads⟩
set_option maxRecDepth 100000 in
set_option maxHeartbeats 1600000 in
theorem sGcd (p q : Nat) (n m c d : Nat) (hn : (FE.toL p).length = n) (hm : (FE.toL q).length = m) (hn1 : n ≤ 50000) (hm1 : m ≤ 50000)
 (A B : Option Addr) (w : World) (ha : RI w A (FE.toL p)) (hb : RI w B (FE.toL q)) :
 Calls Tryz.prog 152 #[.slice A n c, .slice B m d] w fun e w' => ∃ v, e = .returned v ∧ RV w' v (FE.toL (Nat.gcd p q)) ∧ Below w.heap.size w w' := by
 have HN := Lib.hid hn; clear hn
 have HM := Lib.hid hm; clear hm
 go_enter Tryz.func152, Tryz.ntmps152
 go_wp2_with (first
  | (at_builtin; refine appendAll rfl _ _ _ rfl Tryz.underlying40 Tryz.intInfo w1.heap.size _ [] rfl (OI.of_arr (g := w1.heap.size) (cap := 0) ⟨[], rfl, Nat.zero_le _, heap_alloc_new _ _⟩ (Nat.le_refl _)) B (FE.toL q) m d rfl HM.out (hb2.alloc _) (by simp; omega) (by simp) ?_; intro v2 w2 ho2 hb3)
  | (at_builtin; refine appendAll rfl _ _ _ rfl Tryz.underlying40 Tryz.intInfo w.heap.size _ [] rfl (OI.of_arr (g := w.heap.size) (cap := 0) ⟨[], rfl, Nat.zero_le _, heap_alloc_new _ _⟩ (Nat.le_refl _)) A (FE.toL p) n c rfl HN.out (ha.alloc _) (by simp; omega) (by simp) ?_; intro v1 w1 ho1 hb1; have hb1' := (below_alloc1 w (.cells #[] 3)).trans hb1; have hb2 := hb.later hb1'; have ho1' := RO.of_own (by simpa using ho1); obtain ⟨A1, c1, rfl, hl1⟩ := ho1'.form; have HO1 := Lib.hid ho1'; clear hb1 ho1 ho1' ha hb))
 have hb3' := (below_alloc1 w1 (.cells #[] 3)).trans hb3
 have ho2' := RO.of_own (by simpa using ho2)
 have ho1' := HO1.out.later hb3'
 obtain ⟨A2, c2, rfl, hl2, hm2, _⟩ := id ho2'
 have hm1c := ho1'.cap
 have hr1 := ho1'.reads
 have hr2 := ho2'.reads
 have hb4 := hb1'.trans (hb3'.mono hb1'.size)
 have HL1 := Lib.hid (show (FE.toL p).length ≤ 50000 by rw [HN.out]; exact hn1)
 have HL2 := Lib.hid (show (FE.toL q).length ≤ 50000 by rw [HM.out]; exact hm1)
 clear hb3 ho2 HO1 ho1' ho2' hb3' hb1' hb2
 go_loopg [5, 6] q (fun k v0 v1 wr => ∃ (p' q' : Nat) (A' B' : Option Addr) (n' m' c' d' : Nat), v0 = .slice A' n' c' ∧ v1 = .slice B' m' d' ∧ (FE.toL p').length = n' ∧ (FE.toL q').length = m' ∧ n' ≤ 50000 ∧ m' ≤ 50000 ∧
  n' ≤ c' ∧ c' ≤ maxLen ∧ m' ≤ d' ∧ d' ≤ maxLen ∧ RI wr A' (FE.toL p') ∧ RI wr B' (FE.toL q') ∧ q' ≤ k ∧ Nat.gcd p q = Nat.gcd p' q' ∧ Below w.heap.size w wr)
 case atStart => exact ⟨p, q, A1, A2, _, _, c1, c2, rfl, rfl, rfl, rfl, HL1.out, HL2.out, hl1, hm1c, hl2, hm2, hr1, hr2, Nat.le_refl _, rfl, hb4⟩
 case round =>
  obtain ⟨p', q', A', B', n', m', c', d', rfl, rfl, hn', hm', hn1', hm1', hc1, hc2, hd1, hd2, ha', hb', hk, hg, hbel⟩ := hrel
  have HG := Lib.hid hg
  have HN' := Lib.hid hn'
  have HM' := Lib.hid hm'
  clear hg hr1 hr2 hb4 HL1 HL2
  by_cases hq0 : q' = 0
  ·subst hq0
   have hm0 : m' = 0 := by rw [FE.toL_zero] at hm'; simp at hm'; omega
   subst hm0
   clear hn' hm'
   go_wp2
   go_ret
   refine ⟨_, rfl, ⟨A', c', ?_, ?_, hc2, ?_⟩, hbel⟩
   ·rw [HG.out, Nat.gcd_zero_right, HN'.out]; rfl
   ·rw [HG.out, Nat.gcd_zero_right, HN'.out]; exact hc1
   ·rw [HG.out, Nat.gcd_zero_right]; exact ha'
  ·have hm1 : 0 < m' := by
    have : FE.toL q' ≠ [] := fun h => hq0 (FE.toL_eq_nil.1 h)
    have := List.length_pos_iff.2 this
    omega
   have HLT := Lib.hid (Nat.mod_lt p' (show 0 < q' by omega))
   have HGC := Lib.hid (show Nat.gcd p' q' = Nat.gcd q' (p' % q') by rw [Nat.gcd_comm, Nat.gcd_rec, Nat.gcd_comm])
   have HLN := Lib.hid (show (FE.toL (p' % q')).length ≤ m' by rw [← hm']; exact toL_len_mono (by have := HLT.out; omega))
   have HDV := Lib.hid (fun W (h1 : RI W A' (FE.toL p')) (h2 : RI W B' (FE.toL q')) => sDiv_nat p' q' n' m' c' d' hn' hm' hn1' hm1' hq0 A' B' W h1 h2)
   have HP := Lib.hid (show n' < 3 → p' < 1000000000000000000 from fun h => by
    have := (FE.toL_len_le p' 2).1 (by omega)
    rw [FE.bp_succ, FE.bp_succ, FE.bp_zero] at this
    omega)
   have HQ := Lib.hid (show m' < 3 → q' < 1000000000000000000 from fun h => by
    have := (FE.toL_len_le q' 2).1 (by omega)
    rw [FE.bp_succ, FE.bp_succ, FE.bp_zero] at this
    omega)
   clear hn' hm' hq0
   by_cases h3 : n' < 3
   ·by_cases h4 : m' < 3
    ·have HI1 := Lib.hid (fun W (h : RI W A' (FE.toL p')) => sNatToInt p' (HP.out h3) n' c' HN'.out (by omega) A' W h)
     have HI2 := Lib.hid (fun W (h : RI W B' (FE.toL q')) => sNatToInt q' (HQ.out h4) m' d' HM'.out (by omega) B' W h)
     have HI3 := Lib.hid (fun W => sPlain p' q' (by have := HP.out h3; omega) (by have := HQ.out h4; omega) W)
     clear HDV HP HQ HLN HGC HLT
     go_wp2_with fail
     refine (HI1.out _ ha').mono ?_
     rintro e w2 ⟨rfl, hb2⟩
     have hb'' := hb'.later hb2
     replace hbel := hbel.trans (hb2.mono hbel.size)
     clear hb2 ha' hb'
     go_wp2_with fail
     refine (HI2.out _ hb'').mono ?_
     rintro e w3 ⟨rfl, hb2⟩
     replace hbel := hbel.trans (hb2.mono hbel.size)
     clear hb2 hb''
     go_wp2_with fail
     refine (HI3.out _).mono ?_
     rintro e w4 ⟨u4, rfl, hro, hb2⟩
     replace hbel := hbel.trans (hb2.mono hbel.size)
     go_wp2
     go_ret
     exact ⟨_, rfl, by rw [HG.out]; exact hro.rv, hbel⟩
    ·go_wp2_with fail
     refine (HDV.out _ ha' hb').mono ?_
     rintro e w2 ⟨u1, u2, rfl, ⟨A3, c3, rfl, _⟩, hro2, hb2⟩
     obtain ⟨A4, c4, rfl, hl4, hm4, _⟩ := id hro2
     go_wp2
     go_roundg (p' % q')
     case measure => have := HLT.out; omega
     case rel => exact ⟨q', p' % q', B', A4, m', _, d', c4, rfl, rfl, HM'.out, rfl, hm1', by have := HLN.out; omega, hd1, hd2, hl4, hm4, hb'.later hb2, hro2.reads, Nat.le_refl _, by rw [HG.out, HGC.out], hbel.trans (hb2.mono hbel.size)⟩
   ·go_wp2_with fail
    refine (HDV.out _ ha' hb').mono ?_
    rintro e w2 ⟨u1, u2, rfl, ⟨A3, c3, rfl, _⟩, hro2, hb2⟩
    obtain ⟨A4, c4, rfl, hl4, hm4, _⟩ := id hro2
    go_wp2
    go_roundg (p' % q')
    case measure => have := HLT.out; omega
    case rel => exact ⟨q', p' % q', B', A4, m', _, d', c4, rfl, rfl, HM'.out, rfl, hm1', by have := HLN.out; omega, hd1, hd2, hl4, hm4, hb'.later hb2, hro2.reads, Nat.le_refl _, by rw [HG.out, HGC.out], hbel.trans (hb2.mono hbel.size)⟩
open Go.RowKit Go.Joins
set_option maxRecDepth 100000 in
set_option maxHeartbeats 1600000 in
theorem sRatOk (x : RatD) (v : Value) (w : World) (hv : RatV w v x) (l1 : x.mag.length ≤ 1048576) (l2 : x.den.length ≤ 1048576) :
 Calls Tryz.prog 81 #[v] w fun e w' => e = .returned (.bool (FE.ratOk x)) ∧ Below w.heap.size w w' := by
 obtain ⟨A, c, B, d, rfl, hcd, ra, rb⟩ := hv
 have HQ := Lib.hid (show FE.ratOk x = ((FE.bigOk x.neg x.mag && (FE.natOk x.den && !x.den.isEmpty)) && ((decide (x.mag.length ≤ 24) && decide (x.den.length ≤ 24)) && Nat.gcd (FE.nv x.mag) (FE.nv x.den) == 1)) from rfl)
 have C1 := Lib.hid (fun W hW => sBigIntOk x.neg x.mag _ c rfl (by omega) A W (ra.later (w' := W) hW))
 have C2 := Lib.hid (fun W hW => sNatOk x.den _ d rfl (by omega) B W (rb.later (w' := W) hW))
 have C5 := Lib.hid (fun (h1 : FE.natOk x.mag = true) (h2 : FE.natOk x.den = true) (W : World) (hW : Below w.heap.size w W) => sGcd (FE.nv x.mag) (FE.nv x.den) x.mag.length x.den.length c d (by rw [FE.toL_nv h1]) (by rw [FE.toL_nv h2]) (by have := FE.natOk_len h1; omega) (by have := FE.natOk_len h2; omega) A B W (by rw [FE.toL_nv h1]; exact ra.later (w' := W) hW) (by rw [FE.toL_nv h2]; exact rb.later hW))
 have HL := Lib.hid (fun (h1 : FE.natOk x.mag = true) (h2 : FE.natOk x.den = true) => gcd_len (FE.nv x.mag) (FE.nv x.den) 60 (by rw [FE.toL_nv h1]; exact FE.natOk_len h1) (by rw [FE.toL_nv h2]; exact FE.natOk_len h2))
 have HE := Lib.hid (show x.den.isEmpty = decide (x.den.length = 0) by rw [Bool.eq_iff_iff]; simp)
 have HK := Lib.hid (fun h => bigOk_nat (s := x.neg) (l := x.mag) h)
 clear hcd ra rb
 generalize FE.ratOk x = res at *
 generalize x.den.isEmpty = emp at *
 generalize FE.nv x.mag = p at *
 generalize FE.nv x.den = q at *
 generalize x.mag.length = n at *
 generalize x.den.length = m at *
 generalize x.neg = s at *
 generalize FE.bigOk s x.mag = q1 at *
 obtain ⟨q3, hq3⟩ : ∃ q, FE.natOk x.mag = q := ⟨_, rfl⟩
 rw [hq3] at C5 HK HL
 clear hq3
 generalize FE.natOk x.den = q2 at *
 go_enter Tryz.func81, Tryz.ntmps81
 go_wp2_with fail
 refine (C1.out _ (below_alloc1 _ _)).mono ?_
 rintro e w1 ⟨rfl, hb1⟩
 have S := box_lat hb1
 replace hb1 := box_below hb1
 cases q1
 ·have HF := Lib.hid (show res = false by rw [HQ.out]; rfl)
  clear S
  go_wp2
  go_ret
  exact ⟨ret_bool HF.out.symm, hb1⟩
 ·obtain ⟨a0, a1, a2, _, _, _⟩ := S.c3
  go_wp2_with fail
  refine (C2.out _ hb1).mono ?_
  rintro e w2 ⟨rfl, rfl⟩
  cases q2
  ·have HF := Lib.hid (show res = false by rw [HQ.out]; rfl)
   clear S a0 a1 a2
   go_wp2
   go_ret
   exact ⟨ret_bool HF.out.symm, hb1⟩
  ·have h3 : q3 = true := HK.out (by trivial)
   subst h3
   by_cases hm0 : m = 0
   ·subst hm0
    have HF := Lib.hid (show res = false by rw [HQ.out, HE.out]; simp)
    go_wp2
    go_ret
    exact ⟨ret_bool HF.out.symm, hb1⟩
   ·have he : emp = false := by rw [HE.out]; simp [hm0]
    subst he
    have z0 : ((m : Int) == 0) = false := by simp; omega
    by_cases hm24 : m ≤ 24
    ·by_cases hn24 : n ≤ 24
     ·have HR := Lib.hid (show res = (Nat.gcd p q == 1) by rw [HQ.out]; simp [hn24, hm24])
      have g1 : ¬ (24 < n) := by omega
      have g2 : ¬ (24 < m) := by omega
      clear hm0
      go_wp2_with fail
      refine (C5.out (by trivial) (by trivial) _ hb1).mono ?_
      rintro e w3 ⟨v3, rfl, ⟨A3, c3, rfl, hl3, _, hr3⟩, hb3⟩
      replace hb1 := below_trans hb1 hb3
      have hgl := HL.out (by trivial) (by trivial)
      have HG := Lib.hid (fun W (hW : Below w3.heap.size w3 W) => sOne (FE.toL (Nat.gcd p q)) _ c3 rfl (by omega) A3 W (hr3.later (w' := W) hW))
      clear hr3 hb3 S a0 a1 a2 hl3 hgl
      go_wp2_with fail
      refine (HG.out _ (Below.refl _ _)).mono ?_
      rintro e w4 ⟨rfl, rfl⟩
      go_wp2
      go_ret
      exact ⟨ret_bool (by rw [HR.out, oneB_toL]), hb1⟩
     ·have HF := Lib.hid (show res = false by rw [HQ.out]; simp [hn24])
      have g1 : ¬ (24 < m) := by omega
      have g2 : 24 < n := by omega
      go_wp2
      go_ret
      exact ⟨ret_bool HF.out.symm, hb1⟩
    ·have HF := Lib.hid (show res = false by rw [HQ.out]; simp [hm24])
     have g1 : 24 < m := by omega
     go_wp2
     go_ret
     exact ⟨ret_bool HF.out.symm, hb1⟩
open Go.RowKit Go.Joins
def Apart (u v : Value) : Prop := ∀ a n c b m d, u = .slice (some a) n c → v = .slice (some b) m d → n ≠ 0 → m ≠ 0 → a.block ≠ b.block
theorem Apart.symm {u v : Value} (h : Apart u v) : Apart v u := fun a n c b m d h1 h2 h3 h4 e => h b m d a n c h2 h1 h4 h3 e.symm
theorem Apart.nil (A : Option Addr) (c : Nat) (v : Value) : Apart (.slice A 0 c) v := fun a n c' b m d h1 _ h3 _ => by
 injection h1 with _ h1 _
 exact absurd h1.symm h3
theorem apart_of {w1 w2 : World} {b1 b2 : Nat} {u v : Value} {xs ys : List Int} (h1 : RO w1 b1 u xs) (h2 : RO w2 b2 v ys) (h : w1.heap.size ≤ b2) : Apart u v := by
 rintro a n c b m d rfl rfl hn hm
 obtain ⟨A, c1, e1, _, _, g1⟩ := h1
 obtain ⟨B, c2, e2, _, _, g2⟩ := h2
 injection e1 with ea en _
 injection e2 with eb em _
 obtain ⟨g, rfl, _, ha⟩ := g1 (by intro h0; rw [h0] at en; exact hn en)
 obtain ⟨g', rfl, hg', _⟩ := g2 (by intro h0; rw [h0] at em; exact hm em)
 injection ea with ea
 injection eb with eb
 subst ea eb
 have := ha.lt
 simp
 omega
def RatP (w : World) (base : Nat) (v : Value) (r : RatD) : Prop := ∃ va vb, v = .agg #[.bool r.neg, va, vb] ∧ RO w base va r.mag ∧ RO w base vb r.den ∧ Apart va vb
theorem RatP.reads {w : World} {base : Nat} {v : Value} {r : RatD} (h : RatP w base v r) : RatV w v r := by
 obtain ⟨va, vb, rfl, h1, h2, _⟩ := h
 exact RatO.reads ⟨va, vb, rfl, h1, h2⟩
theorem RatP.own {w : World} {base : Nat} {v : Value} {r : RatD} (h : RatP w base v r) : RatO w base v r := by
 obtain ⟨va, vb, rfl, h1, h2, _⟩ := h
 exact ⟨va, vb, rfl, h1, h2⟩
theorem RatP.later {w w' : World} {base : Nat} {v : Value} {r : RatD} (h : RatP w base v r) (hb : Below w.heap.size w w') : RatP w' base v r := by
 obtain ⟨va, vb, rfl, h1, h2, h3⟩ := h
 exact ⟨va, vb, rfl, h1.later hb, h2.later hb, h3⟩
theorem RatP.mono {w : World} {base base' : Nat} {v : Value} {r : RatD} (h : RatP w base v r) (hb : base' ≤ base) : RatP w base' v r := by
 obtain ⟨va, vb, rfl, h1, h2, h3⟩ := h
 exact ⟨va, vb, rfl, h1.mono hb, h2.mono hb, h3⟩
theorem RatP.far {w : World} {base : Nat} {v : Value} {r : RatD} (h : RatP w base v r) {p : Addr} (hp : p.block < base) (u : Value) : RatP (w.setCell p u) base v r := by
 obtain ⟨va, vb, rfl, h1, h2, h3⟩ := h
 exact ⟨va, vb, rfl, h1.far hp u, h2.far hp u, h3⟩
theorem RatP.zero (w : World) (base : Nat) : RatP w base (.agg #[.bool false, .slice none 0 0, .slice none 0 0]) zR :=
 ⟨_, _, rfl, RO.nil _ _ _ _ (Nat.zero_le _), RO.nil _ _ _ _ (Nat.zero_le _), Apart.nil _ _ _⟩
theorem RatP.form {w : World} {base : Nat} {v : Value} {r : RatD} (h : RatP w base v r) : ∃ A c B d, v = .agg #[.bool r.neg, .slice A r.mag.length c, .slice B r.den.length d] ∧ (r.mag.length ≤ c ∧ c ≤ maxLen ∧ r.den.length ≤ d ∧ d ≤ maxLen) := by
 obtain ⟨va, vb, rfl, h1, h2, _⟩ := h
 obtain ⟨A, c, rfl, hl, hc, _⟩ := h1
 obtain ⟨B, d, rfl, hm, hd, _⟩ := h2
 exact ⟨A, c, B, d, rfl, ⟨hl, hc, hm, hd⟩⟩
theorem RatP.mk' {w : World} {base : Nat} {va vb : Value} {s : Bool} {r : RatD} (hs : r.neg = s) (h1 : RO w base va r.mag) (h2 : RO w base vb r.den) (h3 : Apart va vb) : RatP w base (.agg #[.bool s, va, vb]) r := by
 subst hs; exact ⟨va, vb, rfl, h1, h2, h3⟩
def BigO (w : World) (base : Nat) (v : Value) (s : Bool) (xs : List Int) : Prop := ∃ va, v = .agg #[.bool s, va] ∧ RO w base va xs
theorem BigO.later {w w' : World} {base : Nat} {v : Value} {s : Bool} {xs : List Int} (h : BigO w base v s xs) (hb : Below w.heap.size w w') : BigO w' base v s xs := by
 obtain ⟨va, rfl, h1⟩ := h
 exact ⟨va, rfl, h1.later hb⟩
def BigV (w : World) (v : Value) (s : Bool) (xs : List Int) : Prop := ∃ A c, v = .agg #[.bool s, .slice A xs.length c] ∧ xs.length ≤ c ∧ c ≤ maxLen ∧ RI w A xs
theorem BigV.later {w w' : World} {v : Value} {s : Bool} {xs : List Int} (h : BigV w v s xs) (hb : Below w.heap.size w w') : BigV w' v s xs := by
 obtain ⟨A, c, rfl, h1, h2, h3⟩ := h
 exact ⟨A, c, rfl, h1, h2, h3.later hb⟩
theorem BigO.reads {w : World} {base : Nat} {v : Value} {s : Bool} {xs : List Int} (h : BigO w base v s xs) : BigV w v s xs := by
 obtain ⟨va, rfl, h1⟩ := h
 obtain ⟨A, c, rfl, hl, hc, _⟩ := id h1
 exact ⟨A, c, rfl, hl, hc, h1.reads⟩
end Go.Proofs.YtlpomcihkjiokaaGreat
