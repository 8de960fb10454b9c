/-
  Shared texts (C2).
-/
import Derived.Test.YtlpomcihkjiokaaGreatC1
namespace Go.Proofs.YtlpomcihkjiokaaGreat
open Go.RowKit Go.Joins

/-- make([]T, n): a new array of zeros, of whatever type. -/
theorem makeAny {P : Program} {ops : Array Oper} {rest : List Oper} {o : Oper} {a : Act} {w : World} {Q : Exit → Act → World → Prop} (hgd : o.guard = none) (l c : Operand) (T e : TypeId)
    (hop : o.op = Op.makeSlice T l c) (ht : P.underlying T = some (.slice e)) (z : Value) (sz bs : Nat) (hinfo : (P.info? e).map (fun i => (i.zero, i.size, i.bytes)) = some (some z, sz, bs)) (hbs : bs ≤ 1000)
    (n : Nat) (x y : Int) (hl : a.eval l = .int .i64 x) (hc : a.eval c = .int .i64 y) (hx : x = n) (hy : y = n) (hk : n ≤ 1099511627)
    (h : ∀ C : Array Value, C.size = n * sz → wpList P ops Q rest (a.put o.dst (.slice (some ⟨w.heap.size, 0, none⟩) n n)) (w.alloc (.cells C e))) : wpList P ops Q (o :: rest) a w := by
  cases hi : P.info? e with
  | none => rw [hi] at hinfo; simp at hinfo
  | some i =>
    rw [hi] at hinfo
    simp only [Option.map_some, Option.some.injEq, Prod.mk.injEq] at hinfo
    obtain ⟨hz0, hz1, hz2⟩ := hinfo
    subst hx; subst hy
    refine wpList_plain hgd fun K hK' => ?_
    have hb : (bs : Int) * (n : Int) ≤ 281474976710656 := by
      have h1 : bs * n ≤ 1000 * 1099511627 := Nat.mul_le_mul hbs hk
      rw [← Int.natCast_mul]
      exact Int.ofNat_le.2 (Nat.le_trans h1 (by decide))
    have hrun := run_make (P := P) w T e i _ ht hi hz0 .i64 .i64 (n : Int) (n : Int) (by omega) (by omega) (by rw [hz2]; exact hb) (by omega)
    simp only [Int.toNat_natCast, hz1] at hrun
    unfold Oper.wp
    simp [execOp, hop, hl, hc, hrun, Result.andThen]
    exact hK' _ _ (h _ (size_madeCells _ _))

/-- A fraction in memory of the call's own. -/
def ROAt (w : World) (base b off : Nat) (r : RatD) : Prop :=
  ∃ va vb, w.cell? ⟨b, off, none⟩ = some (.bool r.neg) ∧ w.cell? ⟨b, off + 1, none⟩ = some va ∧ w.cell? ⟨b, off + 2, none⟩ = some vb ∧ RO w base va r.mag ∧ RO w base vb r.den
theorem ROAt.reads {w : World} {base b off : Nat} {r : RatD} (h : ROAt w base b off r) : RatAt w b off r := by
  obtain ⟨va, vb, h0, h1, h2, h3, h4⟩ := h
  obtain ⟨A, c, rfl, hl, hc, _⟩ := id h3
  obtain ⟨B, d, rfl, hm, hd, _⟩ := id h4
  exact ⟨A, c, B, d, h0, h1, h2, ⟨hl, hc, hm, hd⟩, h3.reads, h4.reads⟩
theorem ROAt.later {w w' : World} {base b off : Nat} {r : RatD} (h : ROAt w base b off r) (hlt : b < w.heap.size) (hb : Below w.heap.size w w') : ROAt w' base b off r := by
  obtain ⟨va, vb, h0, h1, h2, h3, h4⟩ := h
  exact ⟨va, vb, cell_later hlt h0 hb, cell_later hlt h1 hb, cell_later hlt h2 hb, h3.later hb, h4.later hb⟩
/-- A vector of the call's own. -/
def VO (w : World) (base : Nat) (v : Value) (rs : List RatD) : Prop :=
  ∃ A c, v = .slice A rs.length c ∧ rs.length ≤ c ∧ c ≤ maxLen ∧ (rs ≠ [] → ∃ g, A = some ⟨g, 0, none⟩ ∧ base ≤ g ∧ g < w.heap.size ∧ (∀ i, w.frozen? ⟨g, i, none⟩ = false) ∧ ∀ j, j < rs.length → ROAt w (g + 1) g (j * 3) (rs.getD j zR))
theorem VO.form {w : World} {base : Nat} {v : Value} {rs : List RatD} (h : VO w base v rs) : ∃ A c, v = .slice A rs.length c ∧ rs.length ≤ c ∧ c ≤ maxLen := by
  obtain ⟨A, c, h1, h2, h3, _⟩ := h; exact ⟨A, c, h1, h2, h3⟩
theorem VO.reads {w : World} {base n c : Nat} {A : Option Addr} {rs : List RatD} (h : VO w base (.slice A n c) rs) : VI w A rs := by
  intro hx
  obtain ⟨A', c', he, _, _, h⟩ := h
  injection he with e1 e2 e3
  subst e1
  obtain ⟨g, rfl, _, hlt, _, h⟩ := h hx
  exact ⟨g, 0, rfl, hlt, fun j hj => by rw [Nat.zero_add]; exact (h j hj).reads⟩

theorem set3_cell {w : World} {g q : Nat} {a b c : Value} {u0 u1 u2 : Value} (h0 : w.cell? ⟨g, q, none⟩ = some u0) (h1 : w.cell? ⟨g, q + 1, none⟩ = some u1) (h2 : w.cell? ⟨g, q + 2, none⟩ = some u2) :
    (((w.setCell ⟨g, q, none⟩ a).setCell ⟨g, q + 1, none⟩ b).setCell ⟨g, q + 2, none⟩ c).cell? ⟨g, q, none⟩ = some a ∧
    (((w.setCell ⟨g, q, none⟩ a).setCell ⟨g, q + 1, none⟩ b).setCell ⟨g, q + 2, none⟩ c).cell? ⟨g, q + 1, none⟩ = some b ∧
    (((w.setCell ⟨g, q, none⟩ a).setCell ⟨g, q + 1, none⟩ b).setCell ⟨g, q + 2, none⟩ c).cell? ⟨g, q + 2, none⟩ = some c ∧
    ∀ i, i ≠ q → i ≠ q + 1 → i ≠ q + 2 → (((w.setCell ⟨g, q, none⟩ a).setCell ⟨g, q + 1, none⟩ b).setCell ⟨g, q + 2, none⟩ c).cell? ⟨g, i, none⟩ = w.cell? ⟨g, i, none⟩ := by
  have n01 : (⟨g, q, none⟩ : Addr) ≠ ⟨g, q + 1, none⟩ := by simp
  have n02 : (⟨g, q, none⟩ : Addr) ≠ ⟨g, q + 2, none⟩ := by simp
  have n12 : (⟨g, q + 1, none⟩ : Addr) ≠ ⟨g, q + 2, none⟩ := by simp
  refine ⟨?_, ?_, ?_, fun i hi0 hi1 hi2 => ?_⟩
  · rw [World.cell?_setCell_other _ _ _ _ n02.symm, World.cell?_setCell_other _ _ _ _ n01.symm, World.cell?_setCell_same _ _ _ h0]
  · rw [World.cell?_setCell_other _ _ _ _ n12.symm]; exact World.cell?_setCell_same _ _ _ (by rw [World.cell?_setCell_other _ _ _ _ n01]; exact h1)
  · exact World.cell?_setCell_same _ _ _ (by rw [World.cell?_setCell_other _ _ _ _ n12, World.cell?_setCell_other _ _ _ _ n02]; exact h2)
  · rw [World.cell?_setCell_other _ _ _ _ (by intro h; injection h with _ h; exact hi2 h.symm), World.cell?_setCell_other _ _ _ _ (by intro h; injection h with _ h; exact hi1 h.symm), World.cell?_setCell_other _ _ _ _ (by intro h; injection h with _ h; exact hi0 h.symm)]

set_option maxHeartbeats 800000 in
theorem toRatS (rs : List RatD) (n c : Nat) (hn : rs.length = n) (hf : Few rs) (A : Option Addr) (w : World) (ha : VI w A rs) :
    Calls Tryz.prog 14 #[.slice A n c] w fun r w' => ∃ v, r = .returned v ∧ VO w' w.heap.size v rs ∧ Below w.heap.size w w' := by
  have hn1 : n ≤ 1048576 := hn ▸ hf.1
  have HF := Lib.hid hf.2
  have HN := Lib.hid hn; clear hn hf
  go_enter Tryz.func14, Tryz.ntmps14
  go_wp2_with (at_make; refine makeAny rfl _ _ _ 57 rfl Tryz.underlying28 (.agg #[.bool false, .slice none 0 0, .slice none 0 0]) 3 56 (by kernel_rfl) (by omega) n _ _ rfl rfl rfl rfl (by omega) ?_; intro C hC)
  have harr0 := own_cell (Below.refl _ (w.alloc (.cells C 57))) (g := w.heap.size) rfl
  have hex0 : ∀ i, i < n * 3 → ∃ v, (w.alloc (.cells C 57)).cell? ⟨w.heap.size, i, none⟩ = some v := fun i hi => ⟨_, harr0.1 i _ (Array.getElem?_eq_getElem (by omega))⟩
  go_loopw [4] (fun u wr => ∃ k : Nat, k ≤ n ∧ u = .int .i64 k ∧ w.heap.size < wr.heap.size ∧ (∀ i, i < n * 3 → ∃ v, wr.cell? ⟨w.heap.size, i, none⟩ = some v) ∧ (∀ i, wr.frozen? ⟨w.heap.size, i, none⟩ = false) ∧
      (∀ j, j < k → ROAt wr (w.heap.size + 1) w.heap.size (j * 3) (rs.getD j zR)) ∧ Below w.heap.size w wr) (fun u _ => n - (intOf u).toNat)
  case atStart => exact ⟨0, Nat.zero_le _, rfl, by simp, hex0, harr0.2, fun j hj => by omega, (Below.refl _ _).alloc (Nat.le_refl _) _⟩
  case round =>
    obtain ⟨k, hk, rfl, hgs, hex, hfr, hro, hbel⟩ := hrel
    have HEX := Lib.hid hex; clear hex
    have HFR := Lib.hid hfr; clear hfr
    have HRO := Lib.hid hro; clear hro
    clear harr0 hex0 hC
    by_cases hkn : k = n
    · subst hkn
      have h0 : decide ((k : Int) < (k : Int)) = false := by simp
      go_wp2
      go_ret
      exact ⟨_, rfl, ⟨some ⟨w.heap.size, 0, none⟩, k, by rw [HN.out]; rfl, by rw [HN.out]; exact Nat.le_refl _, by unfold maxLen; omega, fun _ => ⟨_, rfl, Nat.le_refl _, hgs, HFR.out, fun j hj => HRO.out j (by have := HN.out; omega)⟩⟩, hbel⟩
    · have hlt : (k : Int) < (n : Int) := by omega
      have hkl : k < rs.length := by rw [HN.out]; omega
      obtain ⟨b, off, rfl, hb1, hat⟩ := ha.cells k hkl
      have hat1 := RatAt.stays _ _ _ _ _ hb1 hat hbel
      obtain ⟨f1, f2⟩ := HF.out k hkl
      have HX := Lib.hid (show ∀ y, y = rs.getD k zR → y = rs.getD k zR from fun _ h => h)
      clear hat hkl
      generalize hxe : rs.getD k zR = x at *
      have HXE := Lib.hid hxe; clear hxe HX
      obtain ⟨A1, c1, B1, d1, g0, g1, g2, hcd, hr1, hr2⟩ := hat1
      go_wp2_with fail
      refine (toRat x _ wr ⟨_, _, _, _, rfl, hcd, hr1, hr2⟩ f1 f2).mono ?_
      rintro r w2 ⟨v', rfl, ⟨va, vb, rfl, hva, hvb⟩, hb2⟩
      obtain ⟨A2, c2, rfl, hl2⟩ := hva.form
      obtain ⟨B2, d2, rfl, hm2⟩ := hvb.form
      obtain ⟨ck, fk⟩ := bcell hb2
      obtain ⟨u0, e0⟩ := HEX.out (k * 3) (by omega)
      obtain ⟨u1, e1⟩ := HEX.out (k * 3 + 1) (by omega)
      obtain ⟨u2, e2⟩ := HEX.out (k * 3 + 2) (by omega)
      have e0' := (ck _ _ hgs).trans e0
      have e1' := (ck _ _ hgs).trans e1
      have e2' := (ck _ _ hgs).trans e2
      have z0 := (fk _ _ hgs).trans (HFR.out (k * 3))
      have z1 := (fk _ _ hgs).trans (HFR.out (k * 3 + 1))
      have z2 := (fk _ _ hgs).trans (HFR.out (k * 3 + 2))
      have HCK := Lib.hid ck
      have HFK := Lib.hid fk
      clear ck fk e0 e1 e2 g0 g1 g2 hcd hr1 hr2 f1 f2
      go_wp2
      obtain ⟨s0, s1, s2, sF⟩ := set3_cell e0' e1' e2' (a := .bool x.neg) (b := .slice A2 x.mag.length c2) (c := .slice B2 x.den.length d2)
      have hsz := hb2.size
      have hbw : Below w.heap.size w w2 := hbel.trans (below_le hb2 hbel.size)
      refine ⟨⟨k + 1, by omega, rfl, by simp; omega, ?_, ?_, ?_, ?_⟩, by simp [intOf]; omega⟩
      · intro i hi
        by_cases q0 : i = k * 3
        · subst q0; exact ⟨_, s0⟩
        by_cases q1 : i = k * 3 + 1
        · subst q1; exact ⟨_, s1⟩
        by_cases q2 : i = k * 3 + 2
        · subst q2; exact ⟨_, s2⟩
        obtain ⟨u, hu⟩ := HEX.out i hi
        exact ⟨u, by rw [sF i q0 q1 q2, HCK.out _ _ hgs]; exact hu⟩
      · intro i
        simp only [World.frozen?_setCell]
        exact (HFK.out _ _ hgs).trans (HFR.out i)
      · intro j hj
        by_cases hjk : j = k
        · subst hjk
          rw [HXE.out]
          exact ⟨_, _, s0, s1, s2, (((hva.mono (by omega)).far (by simp) _).far (by simp) _).far (by simp) _, (((hvb.mono (by omega)).far (by simp) _).far (by simp) _).far (by simp) _⟩
        · obtain ⟨ua, ub, t0, t1, t2, ra, rb⟩ := (HRO.out j (by omega)).later hgs hb2
          exact ⟨ua, ub, by rw [sF _ (by omega) (by omega) (by omega)]; exact t0, by rw [sF _ (by omega) (by omega) (by omega)]; exact t1, by rw [sF _ (by omega) (by omega) (by omega)]; exact t2,
            ((ra.far (by simp) _).far (by simp) _).far (by simp) _, ((rb.far (by simp) _).far (by simp) _).far (by simp) _⟩
      · exact ((hbw.setCell (Nat.le_refl _) _).setCell (Nat.le_refl _) _).setCell (Nat.le_refl _) _
end Go.Proofs.YtlpomcihkjiokaaGreat

namespace Go.Proofs.YtlpomcihkjiokaaGreat
open Go.RowKit Go.Joins

end Go.Proofs.YtlpomcihkjiokaaGreat

namespace Go.Proofs.YtlpomcihkjiokaaGreat
open Go.RowKit Go.Joins

end Go.Proofs.YtlpomcihkjiokaaGreat

namespace Go.Proofs.YtlpomcihkjiokaaGreat
open Go.RowKit Go.Joins

end Go.Proofs.YtlpomcihkjiokaaGreat

namespace Go.Proofs.YtlpomcihkjiokaaGreat
open Go.RowKit Go.Joins

theorem few_of_vsz {rs : List RatD} (h : vsz rs ≤ 1048576) : Few rs := by
  have h1 := h
  simp only [vsz] at h1
  refine ⟨by omega, fun k hk => ?_⟩
  have h2 := sumSz_step rs k hk
  have h3 := sumSz_le rs (k + 1)
  simp only [RatD.size] at h2
  exact ⟨by omega, by omega⟩

theorem box_lt {w w2 : World} {o : Obj} (hb : Below (w.alloc o).heap.size (w.alloc o) w2) : w.heap.size < w2.heap.size := by
  have := hb.size
  simp only [World.size_alloc] at this
  omega

/-- An iterate as a value. -/
def ItV (w : World) (v : Value) (x r p : List RatD) : Prop :=
  ∃ A c B d C e, v = .agg #[.slice A x.length c, .slice B r.length d, .slice C p.length e] ∧ (x.length ≤ maxLen ∧ r.length ≤ maxLen ∧ p.length ≤ maxLen) ∧ VI w A x ∧ VI w B r ∧ VI w C p
theorem ItV.later {w w' : World} {v : Value} {x r p : List RatD} (h : ItV w v x r p) (hb : Below w.heap.size w w') : ItV w' v x r p := by
  obtain ⟨A, c, B, d, C, e, rfl, hl, h1, h2, h3⟩ := h
  exact ⟨A, c, B, d, C, e, rfl, hl, h1.later hb, h2.later hb, h3.later hb⟩

end Go.Proofs.YtlpomcihkjiokaaGreat

namespace Go.Proofs.YtlpomcihkjiokaaGreat
open Go.RowKit Go.Joins

end Go.Proofs.YtlpomcihkjiokaaGreat

namespace Go.Proofs.YtlpomcihkjiokaaGreat
open Go.RowKit Go.Joins

/-- A variable of the call's own with its cells. -/
def Slots (w : World) (g : Nat) (cs : List Value) : Prop := g < w.heap.size ∧ (∀ i, i < cs.length → w.cell? ⟨g, i, none⟩ = cs[i]?) ∧ ∀ i, w.frozen? ⟨g, i, none⟩ = false
theorem Slots.later {w w' : World} {g : Nat} {cs : List Value} (h : Slots w g cs) (hb : Below w.heap.size w w') : Slots w' g cs :=
  ⟨Nat.lt_of_lt_of_le h.1 hb.size, fun i hi => by rw [hb.cell (p := ⟨g, i, none⟩) h.1]; exact h.2.1 i hi, fun i => by rw [hb.frozen (p := ⟨g, i, none⟩) h.1]; exact h.2.2 i⟩
theorem Slots.far {w : World} {g : Nat} {cs : List Value} (h : Slots w g cs) {p : Addr} (hp : p.block ≠ g) (u : Value) : Slots (w.setCell p u) g cs :=
  ⟨by simpa using h.1, fun i hi => by rw [World.cell?_setCell_other _ _ _ _ (by intro e; subst e; exact hp rfl)]; exact h.2.1 i hi, fun i => by simpa using h.2.2 i⟩
theorem Slots.set {w : World} {g : Nat} {cs : List Value} (h : Slots w g cs) (j : Nat) (hj : j < cs.length) (u : Value) : Slots (w.setCell ⟨g, j, none⟩ u) g (cs.set j u) := by
  refine ⟨by simpa using h.1, fun i hi => ?_, fun i => by simpa using h.2.2 i⟩
  rw [List.length_set] at hi
  by_cases hij : j = i
  · subst hij
    have := h.2.1 j hj
    rw [List.getElem?_eq_getElem hj] at this
    rw [World.cell?_setCell_same _ _ _ this]
    simp [hj]
  · rw [World.cell?_setCell_other _ _ _ _ (by intro e; injection e with _ e; exact hij e), h.2.1 i hi]
    simp [hij]
theorem Slots.new {w w2 : World} {C : Array Value} {t : TypeId} (hb : Below (w.alloc (.cells C t)).heap.size (w.alloc (.cells C t)) w2) {g : Nat} (hg : g = w.heap.size) : Slots w2 g C.toList := by
  have h := own_cell hb hg
  refine ⟨by subst hg; exact box_lt hb, fun i hi => ?_, h.2⟩
  have hi' : i < C.size := by simpa using hi
  rw [h.1 i _ (Array.getElem?_eq_getElem hi')]
  simp [hi']
theorem Slots.c3 {w : World} {g : Nat} {a b c : Value} (h : Slots w g [a, b, c]) : w.cell? ⟨g, 0, none⟩ = some a ∧ w.cell? ⟨g, 1, none⟩ = some b ∧ w.cell? ⟨g, 2, none⟩ = some c ∧
    w.frozen? ⟨g, 0, none⟩ = false ∧ w.frozen? ⟨g, 1, none⟩ = false ∧ w.frozen? ⟨g, 2, none⟩ = false :=
  ⟨h.2.1 0 (by simp), h.2.1 1 (by simp), h.2.1 2 (by simp), h.2.2 0, h.2.2 1, h.2.2 2⟩

theorem ROAt.far {w : World} {base b off : Nat} {r : RatD} (h : ROAt w base b off r) {p : Addr} (hp : p.block < base) (hq : p.block ≠ b) (u : Value) : ROAt (w.setCell p u) base b off r := by
  obtain ⟨va, vb, h0, h1, h2, h3, h4⟩ := h
  have hc : ∀ i, (w.setCell p u).cell? ⟨b, i, none⟩ = w.cell? ⟨b, i, none⟩ := fun i => World.cell?_setCell_other _ _ _ _ (by intro e; subst e; exact hq rfl)
  exact ⟨va, vb, by rw [hc]; exact h0, by rw [hc]; exact h1, by rw [hc]; exact h2, h3.far hp u, h4.far hp u⟩
theorem VO.far {w : World} {base : Nat} {v : Value} {rs : List RatD} (h : VO w base v rs) {p : Addr} (hp : p.block < base) (u : Value) : VO (w.setCell p u) base v rs := by
  obtain ⟨A, c, rfl, hl, hc, h⟩ := h
  refine ⟨A, c, rfl, hl, hc, fun hx => ?_⟩
  obtain ⟨g, rfl, hg, hs, hf, h⟩ := h hx
  exact ⟨g, rfl, hg, by simpa using hs, fun i => by simpa using hf i, fun j hj => (h j hj).far (by omega) (by omega) u⟩
theorem VO.later {w w' : World} {base : Nat} {v : Value} {rs : List RatD} (h : VO w base v rs) (hb : Below w.heap.size w w') : VO w' base v rs := by
  obtain ⟨A, c, rfl, hl, hc, h⟩ := h
  refine ⟨A, c, rfl, hl, hc, fun hx => ?_⟩
  obtain ⟨g, rfl, hg, hs, hf, h⟩ := h hx
  exact ⟨g, rfl, hg, Nat.lt_of_lt_of_le hs hb.size, fun i => by rw [hb.frozen (p := ⟨g, i, none⟩) hs]; exact hf i, fun j hj => (h j hj).later hs hb⟩
theorem VO.mono {w : World} {base base' : Nat} {v : Value} {rs : List RatD} (h : VO w base v rs) (hb : base' ≤ base) : VO w base' v rs := by
  obtain ⟨A, c, rfl, hl, hc, h⟩ := h
  refine ⟨A, c, rfl, hl, hc, fun hx => ?_⟩
  obtain ⟨g, rfl, hg, hs⟩ := h hx
  exact ⟨g, rfl, by omega, hs⟩

end Go.Proofs.YtlpomcihkjiokaaGreat

namespace Go.Proofs.YtlpomcihkjiokaaGreat
open Go.RowKit Go.Joins

/-- A variable of the call's own with k cells, whatever they hold. -/
def AnyK (w : World) (g k : Nat) : Prop := ∃ cs : List Value, cs.length = k ∧ Slots w g cs
theorem AnyK.lt {w : World} {g k : Nat} (h : AnyK w g k) : g < w.heap.size := by
  obtain ⟨cs, _, h⟩ := h
  exact h.1
theorem AnyK.later {w w' : World} {g k : Nat} (h : AnyK w g k) (hb : Below w.heap.size w w') : AnyK w' g k := by
  obtain ⟨cs, hl, h⟩ := h
  exact ⟨cs, hl, h.later hb⟩
theorem AnyK.set {w : World} {g k : Nat} (h : AnyK w g k) (j : Nat) (hj : j < k) (u : Value) : AnyK (w.setCell ⟨g, j, none⟩ u) g k := by
  obtain ⟨cs, hl, h⟩ := h
  exact ⟨_, by rw [List.length_set]; exact hl, h.set j (by omega) u⟩
theorem AnyK.of {w : World} {g : Nat} {cs : List Value} (h : Slots w g cs) : AnyK w g cs.length := ⟨cs, rfl, h⟩
theorem AnyK.c1 {w : World} {g : Nat} (h : AnyK w g 1) : ∃ a, w.cell? ⟨g, 0, none⟩ = some a ∧ w.frozen? ⟨g, 0, none⟩ = false := by
  obtain ⟨cs, hl, h⟩ := h
  match cs, hl with
  | [a], _ => exact ⟨a, h.2.1 0 (by simp), h.2.2 0⟩
theorem AnyK.c2 {w : World} {g : Nat} (h : AnyK w g 2) : ∃ a b, w.cell? ⟨g, 0, none⟩ = some a ∧ w.cell? ⟨g, 1, none⟩ = some b ∧ w.frozen? ⟨g, 0, none⟩ = false ∧ w.frozen? ⟨g, 1, none⟩ = false := by
  obtain ⟨cs, hl, h⟩ := h
  match cs, hl with
  | [a, b], _ => exact ⟨a, b, h.2.1 0 (by simp), h.2.1 1 (by simp), h.2.2 0, h.2.2 1⟩
theorem AnyK.c3 {w : World} {g : Nat} (h : AnyK w g 3) : ∃ a b c, w.cell? ⟨g, 0, none⟩ = some a ∧ w.cell? ⟨g, 1, none⟩ = some b ∧ w.cell? ⟨g, 2, none⟩ = some c ∧ w.frozen? ⟨g, 0, none⟩ = false ∧ w.frozen? ⟨g, 1, none⟩ = false ∧ w.frozen? ⟨g, 2, none⟩ = false := by
  obtain ⟨cs, hl, h⟩ := h
  match cs, hl with
  | [a, b, c], _ => exact ⟨a, b, c, h.2.1 0 (by simp), h.2.1 1 (by simp), h.2.1 2 (by simp), h.2.2 0, h.2.2 1, h.2.2 2⟩
theorem Slots.k2 {w : World} {g : Nat} {a b : Value} (h : Slots w g [a, b]) : w.cell? ⟨g, 0, none⟩ = some a ∧ w.cell? ⟨g, 1, none⟩ = some b ∧ w.frozen? ⟨g, 0, none⟩ = false ∧ w.frozen? ⟨g, 1, none⟩ = false :=
  ⟨h.2.1 0 (by simp), h.2.1 1 (by simp), h.2.2 0, h.2.2 1⟩
theorem Slots.k1 {w : World} {g : Nat} {a : Value} (h : Slots w g [a]) : w.cell? ⟨g, 0, none⟩ = some a ∧ w.frozen? ⟨g, 0, none⟩ = false := ⟨h.2.1 0 (by simp), h.2.2 0⟩
theorem cell_set_far {w : World} {g g0 i j : Nat} {v u : Value} (h : w.cell? ⟨g0, i, none⟩ = some v) (hg : g0 < g) : (w.setCell ⟨g, j, none⟩ u).cell? ⟨g0, i, none⟩ = some v := by
  rw [World.cell?_setCell_other _ _ _ _ (by intro e; injection e with e _; omega)]; exact h

theorem kD_0 {w W : World} {g k : Nat} (hS : Below w.heap.size w W) (hA : AnyK W g k) : Below w.heap.size w W.drew ∧ AnyK W.drew g k := ⟨⟨hS.os, hS.tape, hS.output, hS.size, hS.block⟩, hA⟩
theorem kC_0 {w W w3 : World} {g k : Nat} (hS : Below w.heap.size w W ∧ AnyK W g k) (hb : Below W.heap.size W w3) : Below w.heap.size w w3 ∧ AnyK w3 g k := ⟨hS.1.trans (below_le hb hS.1.size), hS.2.later hb⟩
theorem kS_0_3 {w W : World} {g : Nat} {x0 x1 x2 : Value} (hg : w.heap.size ≤ g) (hS : Below w.heap.size w W ∧ AnyK W g 3) :
    Below w.heap.size w (((W.setCell ⟨g, 0, none⟩ x0).setCell ⟨g, 1, none⟩ x1).setCell ⟨g, 2, none⟩ x2) ∧ AnyK (((W.setCell ⟨g, 0, none⟩ x0).setCell ⟨g, 1, none⟩ x1).setCell ⟨g, 2, none⟩ x2) g 3 :=
  ⟨((hS.1.setCell (p := ⟨g, 0, none⟩) hg x0).setCell (p := ⟨g, 1, none⟩) hg x1).setCell (p := ⟨g, 2, none⟩) hg x2, ((hS.2.set 0 (by omega) x0).set 1 (by omega) x1).set 2 (by omega) x2⟩

theorem kC_3 {w W w3 : World} {g k g0 : Nat} {a0_0 a0_1 a0_2 : Value} (h0 : g0 < g)
    (hS : Below w.heap.size w W ∧ W.cell? ⟨g0, 0, none⟩ = some a0_0 ∧ W.cell? ⟨g0, 1, none⟩ = some a0_1 ∧ W.cell? ⟨g0, 2, none⟩ = some a0_2 ∧ AnyK W g k) (hb : Below W.heap.size W w3) :
    Below w.heap.size w w3 ∧ w3.cell? ⟨g0, 0, none⟩ = some a0_0 ∧ w3.cell? ⟨g0, 1, none⟩ = some a0_1 ∧ w3.cell? ⟨g0, 2, none⟩ = some a0_2 ∧ AnyK w3 g k := by
  obtain ⟨hS, e0_0, e0_1, e0_2, hA⟩ := hS
  have hl := hA.lt
  exact ⟨hS.trans (below_le hb hS.size), cell_later (Nat.lt_trans h0 hl) e0_0 hb, cell_later (Nat.lt_trans h0 hl) e0_1 hb, cell_later (Nat.lt_trans h0 hl) e0_2 hb, hA.later hb⟩

theorem kD_3 {w W : World} {g k g0 : Nat} {a0_0 a0_1 a0_2 : Value} (hS : Below w.heap.size w W) (e0_0 : W.cell? ⟨g0, 0, none⟩ = some a0_0) (e0_1 : W.cell? ⟨g0, 1, none⟩ = some a0_1) (e0_2 : W.cell? ⟨g0, 2, none⟩ = some a0_2) (hA : AnyK W g k) :
    Below w.heap.size w W.drew ∧ W.drew.cell? ⟨g0, 0, none⟩ = some a0_0 ∧ W.drew.cell? ⟨g0, 1, none⟩ = some a0_1 ∧ W.drew.cell? ⟨g0, 2, none⟩ = some a0_2 ∧ AnyK W.drew g k :=
  ⟨⟨hS.os, hS.tape, hS.output, hS.size, hS.block⟩, e0_0, e0_1, e0_2, hA⟩

theorem kC_2_2 {w W w3 : World} {g k g0 g1 : Nat} {a0_0 a0_1 a1_0 a1_1 : Value} (h0 : g0 < g) (h1 : g1 < g)
    (hS : Below w.heap.size w W ∧ W.cell? ⟨g0, 0, none⟩ = some a0_0 ∧ W.cell? ⟨g0, 1, none⟩ = some a0_1 ∧ W.cell? ⟨g1, 0, none⟩ = some a1_0 ∧ W.cell? ⟨g1, 1, none⟩ = some a1_1 ∧ AnyK W g k) (hb : Below W.heap.size W w3) :
    Below w.heap.size w w3 ∧ w3.cell? ⟨g0, 0, none⟩ = some a0_0 ∧ w3.cell? ⟨g0, 1, none⟩ = some a0_1 ∧ w3.cell? ⟨g1, 0, none⟩ = some a1_0 ∧ w3.cell? ⟨g1, 1, none⟩ = some a1_1 ∧ AnyK w3 g k := by
  obtain ⟨hS, e0_0, e0_1, e1_0, e1_1, hA⟩ := hS
  have hl := hA.lt
  exact ⟨hS.trans (below_le hb hS.size), cell_later (Nat.lt_trans h0 hl) e0_0 hb, cell_later (Nat.lt_trans h0 hl) e0_1 hb, cell_later (Nat.lt_trans h1 hl) e1_0 hb, cell_later (Nat.lt_trans h1 hl) e1_1 hb, hA.later hb⟩

theorem kD_2_2 {w W : World} {g k g0 g1 : Nat} {a0_0 a0_1 a1_0 a1_1 : Value} (hS : Below w.heap.size w W) (e0_0 : W.cell? ⟨g0, 0, none⟩ = some a0_0) (e0_1 : W.cell? ⟨g0, 1, none⟩ = some a0_1) (e1_0 : W.cell? ⟨g1, 0, none⟩ = some a1_0) (e1_1 : W.cell? ⟨g1, 1, none⟩ = some a1_1) (hA : AnyK W g k) :
    Below w.heap.size w W.drew ∧ W.drew.cell? ⟨g0, 0, none⟩ = some a0_0 ∧ W.drew.cell? ⟨g0, 1, none⟩ = some a0_1 ∧ W.drew.cell? ⟨g1, 0, none⟩ = some a1_0 ∧ W.drew.cell? ⟨g1, 1, none⟩ = some a1_1 ∧ AnyK W.drew g k :=
  ⟨⟨hS.os, hS.tape, hS.output, hS.size, hS.block⟩, e0_0, e0_1, e1_0, e1_1, hA⟩

theorem kC_3_3 {w W w3 : World} {g k g0 g1 : Nat} {a0_0 a0_1 a0_2 a1_0 a1_1 a1_2 : Value} (h0 : g0 < g) (h1 : g1 < g)
    (hS : Below w.heap.size w W ∧ W.cell? ⟨g0, 0, none⟩ = some a0_0 ∧ W.cell? ⟨g0, 1, none⟩ = some a0_1 ∧ W.cell? ⟨g0, 2, none⟩ = some a0_2 ∧ W.cell? ⟨g1, 0, none⟩ = some a1_0 ∧ W.cell? ⟨g1, 1, none⟩ = some a1_1 ∧ W.cell? ⟨g1, 2, none⟩ = some a1_2 ∧ AnyK W g k) (hb : Below W.heap.size W w3) :
    Below w.heap.size w w3 ∧ w3.cell? ⟨g0, 0, none⟩ = some a0_0 ∧ w3.cell? ⟨g0, 1, none⟩ = some a0_1 ∧ w3.cell? ⟨g0, 2, none⟩ = some a0_2 ∧ w3.cell? ⟨g1, 0, none⟩ = some a1_0 ∧ w3.cell? ⟨g1, 1, none⟩ = some a1_1 ∧ w3.cell? ⟨g1, 2, none⟩ = some a1_2 ∧ AnyK w3 g k := by
  obtain ⟨hS, e0_0, e0_1, e0_2, e1_0, e1_1, e1_2, hA⟩ := hS
  have hl := hA.lt
  exact ⟨hS.trans (below_le hb hS.size), cell_later (Nat.lt_trans h0 hl) e0_0 hb, cell_later (Nat.lt_trans h0 hl) e0_1 hb, cell_later (Nat.lt_trans h0 hl) e0_2 hb, cell_later (Nat.lt_trans h1 hl) e1_0 hb, cell_later (Nat.lt_trans h1 hl) e1_1 hb, cell_later (Nat.lt_trans h1 hl) e1_2 hb, hA.later hb⟩

theorem kD_3_3 {w W : World} {g k g0 g1 : Nat} {a0_0 a0_1 a0_2 a1_0 a1_1 a1_2 : Value} (hS : Below w.heap.size w W) (e0_0 : W.cell? ⟨g0, 0, none⟩ = some a0_0) (e0_1 : W.cell? ⟨g0, 1, none⟩ = some a0_1) (e0_2 : W.cell? ⟨g0, 2, none⟩ = some a0_2) (e1_0 : W.cell? ⟨g1, 0, none⟩ = some a1_0) (e1_1 : W.cell? ⟨g1, 1, none⟩ = some a1_1) (e1_2 : W.cell? ⟨g1, 2, none⟩ = some a1_2) (hA : AnyK W g k) :
    Below w.heap.size w W.drew ∧ W.drew.cell? ⟨g0, 0, none⟩ = some a0_0 ∧ W.drew.cell? ⟨g0, 1, none⟩ = some a0_1 ∧ W.drew.cell? ⟨g0, 2, none⟩ = some a0_2 ∧ W.drew.cell? ⟨g1, 0, none⟩ = some a1_0 ∧ W.drew.cell? ⟨g1, 1, none⟩ = some a1_1 ∧ W.drew.cell? ⟨g1, 2, none⟩ = some a1_2 ∧ AnyK W.drew g k :=
  ⟨⟨hS.os, hS.tape, hS.output, hS.size, hS.block⟩, e0_0, e0_1, e0_2, e1_0, e1_1, e1_2, hA⟩

theorem kS_3_3 {w W : World} {g g0 : Nat} {a0_0 a0_1 a0_2 x0 x1 x2 : Value} (hg : w.heap.size ≤ g) (h0 : g0 < g)
    (hS : Below w.heap.size w W ∧ W.cell? ⟨g0, 0, none⟩ = some a0_0 ∧ W.cell? ⟨g0, 1, none⟩ = some a0_1 ∧ W.cell? ⟨g0, 2, none⟩ = some a0_2 ∧ AnyK W g 3) :
    Below w.heap.size w (((W.setCell ⟨g, 0, none⟩ x0).setCell ⟨g, 1, none⟩ x1).setCell ⟨g, 2, none⟩ x2) ∧ (((W.setCell ⟨g, 0, none⟩ x0).setCell ⟨g, 1, none⟩ x1).setCell ⟨g, 2, none⟩ x2).cell? ⟨g0, 0, none⟩ = some a0_0 ∧ (((W.setCell ⟨g, 0, none⟩ x0).setCell ⟨g, 1, none⟩ x1).setCell ⟨g, 2, none⟩ x2).cell? ⟨g0, 1, none⟩ = some a0_1 ∧ (((W.setCell ⟨g, 0, none⟩ x0).setCell ⟨g, 1, none⟩ x1).setCell ⟨g, 2, none⟩ x2).cell? ⟨g0, 2, none⟩ = some a0_2 ∧ AnyK (((W.setCell ⟨g, 0, none⟩ x0).setCell ⟨g, 1, none⟩ x1).setCell ⟨g, 2, none⟩ x2) g 3 := by
  obtain ⟨hS, e0_0, e0_1, e0_2, hA⟩ := hS
  exact ⟨(Below.setCell (Below.setCell (Below.setCell hS (p := ⟨g, 0, none⟩) hg x0) (p := ⟨g, 1, none⟩) hg x1) (p := ⟨g, 2, none⟩) hg x2), (cell_set_far (cell_set_far (cell_set_far e0_0 h0) h0) h0), (cell_set_far (cell_set_far (cell_set_far e0_1 h0) h0) h0), (cell_set_far (cell_set_far (cell_set_far e0_2 h0) h0) h0), (AnyK.set (AnyK.set (AnyK.set hA 0 (by omega) x0) 1 (by omega) x1) 2 (by omega) x2)⟩

theorem kS_2_2_2 {w W : World} {g g0 g1 : Nat} {a0_0 a0_1 a1_0 a1_1 x0 x1 : Value} (hg : w.heap.size ≤ g) (h0 : g0 < g) (h1 : g1 < g)
    (hS : Below w.heap.size w W ∧ W.cell? ⟨g0, 0, none⟩ = some a0_0 ∧ W.cell? ⟨g0, 1, none⟩ = some a0_1 ∧ W.cell? ⟨g1, 0, none⟩ = some a1_0 ∧ W.cell? ⟨g1, 1, none⟩ = some a1_1 ∧ AnyK W g 2) :
    Below w.heap.size w ((W.setCell ⟨g, 0, none⟩ x0).setCell ⟨g, 1, none⟩ x1) ∧ ((W.setCell ⟨g, 0, none⟩ x0).setCell ⟨g, 1, none⟩ x1).cell? ⟨g0, 0, none⟩ = some a0_0 ∧ ((W.setCell ⟨g, 0, none⟩ x0).setCell ⟨g, 1, none⟩ x1).cell? ⟨g0, 1, none⟩ = some a0_1 ∧ ((W.setCell ⟨g, 0, none⟩ x0).setCell ⟨g, 1, none⟩ x1).cell? ⟨g1, 0, none⟩ = some a1_0 ∧ ((W.setCell ⟨g, 0, none⟩ x0).setCell ⟨g, 1, none⟩ x1).cell? ⟨g1, 1, none⟩ = some a1_1 ∧ AnyK ((W.setCell ⟨g, 0, none⟩ x0).setCell ⟨g, 1, none⟩ x1) g 2 := by
  obtain ⟨hS, e0_0, e0_1, e1_0, e1_1, hA⟩ := hS
  exact ⟨(Below.setCell (Below.setCell hS (p := ⟨g, 0, none⟩) hg x0) (p := ⟨g, 1, none⟩) hg x1), (cell_set_far (cell_set_far e0_0 h0) h0), (cell_set_far (cell_set_far e0_1 h0) h0), (cell_set_far (cell_set_far e1_0 h1) h1), (cell_set_far (cell_set_far e1_1 h1) h1), (AnyK.set (AnyK.set hA 0 (by omega) x0) 1 (by omega) x1)⟩

theorem kS_2_2_3 {w W : World} {g g0 g1 : Nat} {a0_0 a0_1 a1_0 a1_1 x0 x1 x2 : Value} (hg : w.heap.size ≤ g) (h0 : g0 < g) (h1 : g1 < g)
    (hS : Below w.heap.size w W ∧ W.cell? ⟨g0, 0, none⟩ = some a0_0 ∧ W.cell? ⟨g0, 1, none⟩ = some a0_1 ∧ W.cell? ⟨g1, 0, none⟩ = some a1_0 ∧ W.cell? ⟨g1, 1, none⟩ = some a1_1 ∧ AnyK W g 3) :
    Below w.heap.size w (((W.setCell ⟨g, 0, none⟩ x0).setCell ⟨g, 1, none⟩ x1).setCell ⟨g, 2, none⟩ x2) ∧ (((W.setCell ⟨g, 0, none⟩ x0).setCell ⟨g, 1, none⟩ x1).setCell ⟨g, 2, none⟩ x2).cell? ⟨g0, 0, none⟩ = some a0_0 ∧ (((W.setCell ⟨g, 0, none⟩ x0).setCell ⟨g, 1, none⟩ x1).setCell ⟨g, 2, none⟩ x2).cell? ⟨g0, 1, none⟩ = some a0_1 ∧ (((W.setCell ⟨g, 0, none⟩ x0).setCell ⟨g, 1, none⟩ x1).setCell ⟨g, 2, none⟩ x2).cell? ⟨g1, 0, none⟩ = some a1_0 ∧ (((W.setCell ⟨g, 0, none⟩ x0).setCell ⟨g, 1, none⟩ x1).setCell ⟨g, 2, none⟩ x2).cell? ⟨g1, 1, none⟩ = some a1_1 ∧ AnyK (((W.setCell ⟨g, 0, none⟩ x0).setCell ⟨g, 1, none⟩ x1).setCell ⟨g, 2, none⟩ x2) g 3 := by
  obtain ⟨hS, e0_0, e0_1, e1_0, e1_1, hA⟩ := hS
  exact ⟨(Below.setCell (Below.setCell (Below.setCell hS (p := ⟨g, 0, none⟩) hg x0) (p := ⟨g, 1, none⟩) hg x1) (p := ⟨g, 2, none⟩) hg x2), (cell_set_far (cell_set_far (cell_set_far e0_0 h0) h0) h0), (cell_set_far (cell_set_far (cell_set_far e0_1 h0) h0) h0), (cell_set_far (cell_set_far (cell_set_far e1_0 h1) h1) h1), (cell_set_far (cell_set_far (cell_set_far e1_1 h1) h1) h1), (AnyK.set (AnyK.set (AnyK.set hA 0 (by omega) x0) 1 (by omega) x1) 2 (by omega) x2)⟩

theorem kS_3_3_3 {w W : World} {g g0 g1 : Nat} {a0_0 a0_1 a0_2 a1_0 a1_1 a1_2 x0 x1 x2 : Value} (hg : w.heap.size ≤ g) (h0 : g0 < g) (h1 : g1 < g)
    (hS : Below w.heap.size w W ∧ W.cell? ⟨g0, 0, none⟩ = some a0_0 ∧ W.cell? ⟨g0, 1, none⟩ = some a0_1 ∧ W.cell? ⟨g0, 2, none⟩ = some a0_2 ∧ W.cell? ⟨g1, 0, none⟩ = some a1_0 ∧ W.cell? ⟨g1, 1, none⟩ = some a1_1 ∧ W.cell? ⟨g1, 2, none⟩ = some a1_2 ∧ AnyK W g 3) :
    Below w.heap.size w (((W.setCell ⟨g, 0, none⟩ x0).setCell ⟨g, 1, none⟩ x1).setCell ⟨g, 2, none⟩ x2) ∧ (((W.setCell ⟨g, 0, none⟩ x0).setCell ⟨g, 1, none⟩ x1).setCell ⟨g, 2, none⟩ x2).cell? ⟨g0, 0, none⟩ = some a0_0 ∧ (((W.setCell ⟨g, 0, none⟩ x0).setCell ⟨g, 1, none⟩ x1).setCell ⟨g, 2, none⟩ x2).cell? ⟨g0, 1, none⟩ = some a0_1 ∧ (((W.setCell ⟨g, 0, none⟩ x0).setCell ⟨g, 1, none⟩ x1).setCell ⟨g, 2, none⟩ x2).cell? ⟨g0, 2, none⟩ = some a0_2 ∧ (((W.setCell ⟨g, 0, none⟩ x0).setCell ⟨g, 1, none⟩ x1).setCell ⟨g, 2, none⟩ x2).cell? ⟨g1, 0, none⟩ = some a1_0 ∧ (((W.setCell ⟨g, 0, none⟩ x0).setCell ⟨g, 1, none⟩ x1).setCell ⟨g, 2, none⟩ x2).cell? ⟨g1, 1, none⟩ = some a1_1 ∧ (((W.setCell ⟨g, 0, none⟩ x0).setCell ⟨g, 1, none⟩ x1).setCell ⟨g, 2, none⟩ x2).cell? ⟨g1, 2, none⟩ = some a1_2 ∧ AnyK (((W.setCell ⟨g, 0, none⟩ x0).setCell ⟨g, 1, none⟩ x1).setCell ⟨g, 2, none⟩ x2) g 3 := by
  obtain ⟨hS, e0_0, e0_1, e0_2, e1_0, e1_1, e1_2, hA⟩ := hS
  exact ⟨(Below.setCell (Below.setCell (Below.setCell hS (p := ⟨g, 0, none⟩) hg x0) (p := ⟨g, 1, none⟩) hg x1) (p := ⟨g, 2, none⟩) hg x2), (cell_set_far (cell_set_far (cell_set_far e0_0 h0) h0) h0), (cell_set_far (cell_set_far (cell_set_far e0_1 h0) h0) h0), (cell_set_far (cell_set_far (cell_set_far e0_2 h0) h0) h0), (cell_set_far (cell_set_far (cell_set_far e1_0 h1) h1) h1), (cell_set_far (cell_set_far (cell_set_far e1_1 h1) h1) h1), (cell_set_far (cell_set_far (cell_set_far e1_2 h1) h1) h1), (AnyK.set (AnyK.set (AnyK.set hA 0 (by omega) x0) 1 (by omega) x1) 2 (by omega) x2)⟩

end Go.Proofs.YtlpomcihkjiokaaGreat

namespace Go.Proofs.YtlpomcihkjiokaaGreat
namespace FE

/-- The value of a list of limbs, as a natural number. -/
def nv (l : List Int) : Nat := (val l).toNat
theorem nv_toL (n : Nat) : nv (toL n) = n := by rw [nv, val_toL, Int.toNat_natCast]
def digB (l : List Int) : Bool := l.all fun x => decide (0 ≤ x) && decide (x < 1000000000)
theorem digB_iff {l : List Int} : digB l = true ↔ Dig l := by simp [digB, Dig]
def topB (l : List Int) : Bool := l.getLast? != some 0
theorem topB_iff {l : List Int} : topB l = true ↔ Top l := by
  unfold topB Top
  cases l with
  | nil => simp
  | cons x l => rw [List.getLast?_eq_some_getLast (by simp)]; simp
/-- Whether a list of ints is a natural number of the program. -/
def natOk (l : List Int) : Bool := decide (l.length ≤ 60) && (topB l && digB l)
theorem natOk_iff {l : List Int} : natOk l = true ↔ NatOk l := by
  simp only [natOk, NatOk, digB_iff, topB_iff, Bool.and_eq_true, decide_eq_true_eq]
  exact ⟨fun ⟨a, b, c⟩ => ⟨a, c, b⟩, fun ⟨a, b, c⟩ => ⟨a, c, b⟩⟩
theorem toL_nv {l : List Int} (h : natOk l = true) : toL (nv l) = l := toL_val (natOk_iff.1 h).2.1 (natOk_iff.1 h).2.2
theorem natOk_len {l : List Int} (h : natOk l = true) : l.length ≤ 60 := (natOk_iff.1 h).1
theorem natOk_of_toL {n : Nat} (h : (toL n).length ≤ 60) : natOk (toL n) = true := natOk_iff.2 ⟨h, toL_dig n, toL_top n⟩
def bigOk (s : Bool) (l : List Int) : Bool := natOk l && (!s || !l.isEmpty)
/-- Whether a fraction is valid. -/
def ratOk (r : RatD) : Bool := (bigOk r.neg r.mag && (natOk r.den && !r.den.isEmpty)) && ((decide (r.mag.length ≤ 24) && decide (r.den.length ≤ 24)) && Nat.gcd (nv r.mag) (nv r.den) == 1)

/-- A fraction of a sign and two natural numbers. -/
def mkR (s : Bool) (p q : Nat) : RatD := ⟨s && decide (p ≠ 0), toL p, toL q⟩
/-- Numbers with few limbs. -/
def few (p : Nat) : Bool := decide ((toL p).length ≤ 24)
/-- The fraction p/q in lowest terms; the zero value if there is none. -/
def low (s : Bool) (p q : Nat) : RatD :=
  if q = 0 then zR else if few (p / Nat.gcd p q) && few (q / Nat.gcd p q) then mkR s (p / Nat.gcd p q) (q / Nat.gcd p q) else zR

structure OkR (r : RatD) (p q : Nat) : Prop where
  mag : r.mag = toL p
  den : r.den = toL q
  p0 : r.neg = true → p ≠ 0
  q0 : q ≠ 0
  pl : (toL p).length ≤ 24
  ql : (toL q).length ≤ 24
  gcd : Nat.gcd p q = 1

theorem ratOk_iff {r : RatD} : ratOk r = true ↔ OkR r (nv r.mag) (nv r.den) := by
  constructor
  · intro h
    simp only [ratOk, bigOk, Bool.and_eq_true, decide_eq_true_eq, beq_iff_eq, Bool.or_eq_true, Bool.not_eq_true', List.isEmpty_eq_false_iff] at h
    obtain ⟨⟨⟨h1, h2⟩, h3, h4⟩, ⟨h5, h6⟩, h7⟩ := h
    have e1 := toL_nv h1
    have e2 := toL_nv h3
    refine ⟨e1.symm, e2.symm, fun hs h0 => ?_, fun h0 => h4 ?_, by rw [e1]; exact h5, by rw [e2]; exact h6, h7⟩
    · rcases h2 with h2 | h2
      · rw [h2] at hs; cases hs
      · rw [h0, toL_zero] at e1; exact h2 e1.symm
    · rw [h0, toL_zero] at e2; exact e2.symm
  · intro h
    have l1 : r.mag.length ≤ 24 := by rw [h.mag]; exact h.pl
    have l2 : r.den.length ≤ 24 := by rw [h.den]; exact h.ql
    have n1 : natOk r.mag = true := by rw [h.mag]; exact natOk_of_toL (by have := h.pl; omega)
    have n2 : natOk r.den = true := by rw [h.den]; exact natOk_of_toL (by have := h.ql; omega)
    have hd : r.den ≠ [] := by rw [h.den]; intro e; exact h.q0 (toL_eq_nil.1 e)
    have hm : r.neg = true → r.mag ≠ [] := by intro hs; rw [h.mag]; intro e; exact h.p0 hs (toL_eq_nil.1 e)
    simp only [ratOk, bigOk, Bool.and_eq_true, decide_eq_true_eq, beq_iff_eq, Bool.or_eq_true, Bool.not_eq_true', List.isEmpty_eq_false_iff]
    refine ⟨⟨⟨n1, ?_⟩, n2, hd⟩, ⟨l1, l2⟩, h.gcd⟩
    cases hs : r.neg
    · exact .inl rfl
    · exact .inr (hm hs)

theorem OkR.ok {r : RatD} {p q : Nat} (h : OkR r p q) : ratOk r = true := by
  refine ratOk_iff.2 ?_
  have e1 : nv r.mag = p := by rw [h.mag, nv_toL]
  have e2 : nv r.den = q := by rw [h.den, nv_toL]
  rw [e1, e2]; exact h
theorem OkR.nmag {r : RatD} {p q : Nat} (h : OkR r p q) : nv r.mag = p := by rw [h.mag, nv_toL]
theorem OkR.nden {r : RatD} {p q : Nat} (h : OkR r p q) : nv r.den = q := by rw [h.den, nv_toL]

theorem low_ok (s : Bool) (p q : Nat) : low s p q = zR ∨ OkR (low s p q) (p / Nat.gcd p q) (q / Nat.gcd p q) := by
  unfold low
  split
  · exact .inl rfl
  · rename_i hq
    split
    · rename_i h
      simp only [few, Bool.and_eq_true, decide_eq_true_eq] at h
      have hg : 0 < Nat.gcd p q := Nat.gcd_pos_of_pos_right _ (by omega)
      refine .inr ⟨rfl, rfl, ?_, ?_, h.1, h.2, ?_⟩
      · intro hs h0
        simp only [mkR, h0] at hs
        simp at hs
      · intro h0
        have := Nat.le_of_dvd (by omega) (Nat.gcd_dvd_right p q)
        have := Nat.div_pos this hg
        omega
      · rw [Nat.gcd_div (Nat.gcd_dvd_left p q) (Nat.gcd_dvd_right p q)]
        exact Nat.div_self hg
    · exact .inl rfl
/-- A result: valid or the zero value. -/
def Res (r : RatD) : Prop := r = zR ∨ ratOk r = true
theorem low_res (s : Bool) (p q : Nat) : Res (low s p q) := (low_ok s p q).imp id OkR.ok
theorem Res.den {r : RatD} (h : Res r) : (r.den.length == 0) = !ratOk r := by
  rcases h with rfl | h
  · decide
  · rw [h]
    have h' := ratOk_iff.1 h
    have : r.den ≠ [] := by rw [h'.den]; intro e; exact h'.q0 (toL_eq_nil.1 e)
    simpa using this

/-- The numerator as an integer. -/
def num (r : RatD) : Int := if r.neg then -(nv r.mag : Int) else nv r.mag
def lowI (n : Int) (q : Nat) : RatD := low (decide (n < 0)) n.natAbs q
def radd (r s : RatD) : RatD := if ratOk r && ratOk s then lowI (num r * nv s.den + num s * nv r.den) (nv r.den * nv s.den) else zR
def rmul (r s : RatD) : RatD := if ratOk r && ratOk s then lowI (num r * num s) (nv r.den * nv s.den) else zR
def rint (n : Int) : RatD := ⟨decide (n < 0), toL n.natAbs, [1]⟩
theorem radd_res (r s : RatD) : Res (radd r s) := by unfold radd; split; exact low_res _ _ _; exact .inl rfl
theorem rmul_res (r s : RatD) : Res (rmul r s) := by unfold rmul; split; exact low_res _ _ _; exact .inl rfl
end FE
end Go.Proofs.YtlpomcihkjiokaaGreat

namespace Go.Proofs.YtlpomcihkjiokaaGreat
open Go.RowKit Go.Joins

/-- Two slices that are not empty lie in different blocks. -/
def Apart (u v : Value) : Prop := ∀ a n c b m d, u = .slice (some a) n c → v = .slice (some b) m d → n ≠ 0 → m ≠ 0 → a.block ≠ b.block
theorem Apart.symm {u v : Value} (h : Apart u v) : Apart v u := fun a n c b m d h1 h2 h3 h4 e => h b m d a n c h2 h1 h4 h3 e.symm
theorem Apart.nil (A : Option Addr) (c : Nat) (v : Value) : Apart (.slice A 0 c) v := fun a n c' b m d h1 _ h3 _ => by
  injection h1 with _ h1 _
  exact absurd h1.symm h3
theorem apart_of {w1 w2 : World} {b1 b2 : Nat} {u v : Value} {xs ys : List Int} (h1 : RO w1 b1 u xs) (h2 : RO w2 b2 v ys) (h : w1.heap.size ≤ b2) : Apart u v := by
  rintro a n c b m d rfl rfl hn hm
  obtain ⟨A, c1, e1, _, _, g1⟩ := h1
  obtain ⟨B, c2, e2, _, _, g2⟩ := h2
  injection e1 with ea en _
  injection e2 with eb em _
  obtain ⟨g, rfl, _, ha⟩ := g1 (by intro h0; rw [h0] at en; exact hn en)
  obtain ⟨g', rfl, hg', _⟩ := g2 (by intro h0; rw [h0] at em; exact hm em)
  injection ea with ea
  injection eb with eb
  subst ea eb
  have := ha.lt
  simp
  omega

/-- A fraction of the call's own whose parts lie apart. -/
def RatP (w : World) (base : Nat) (v : Value) (r : RatD) : Prop := ∃ va vb, v = .agg #[.bool r.neg, va, vb] ∧ RO w base va r.mag ∧ RO w base vb r.den ∧ Apart va vb
theorem RatP.reads {w : World} {base : Nat} {v : Value} {r : RatD} (h : RatP w base v r) : RatV w v r := by
  obtain ⟨va, vb, rfl, h1, h2, _⟩ := h
  exact RatO.reads ⟨va, vb, rfl, h1, h2⟩
theorem RatP.own {w : World} {base : Nat} {v : Value} {r : RatD} (h : RatP w base v r) : RatO w base v r := by
  obtain ⟨va, vb, rfl, h1, h2, _⟩ := h
  exact ⟨va, vb, rfl, h1, h2⟩
theorem RatP.later {w w' : World} {base : Nat} {v : Value} {r : RatD} (h : RatP w base v r) (hb : Below w.heap.size w w') : RatP w' base v r := by
  obtain ⟨va, vb, rfl, h1, h2, h3⟩ := h
  exact ⟨va, vb, rfl, h1.later hb, h2.later hb, h3⟩
theorem RatP.mono {w : World} {base base' : Nat} {v : Value} {r : RatD} (h : RatP w base v r) (hb : base' ≤ base) : RatP w base' v r := by
  obtain ⟨va, vb, rfl, h1, h2, h3⟩ := h
  exact ⟨va, vb, rfl, h1.mono hb, h2.mono hb, h3⟩
theorem RatP.far {w : World} {base : Nat} {v : Value} {r : RatD} (h : RatP w base v r) {p : Addr} (hp : p.block < base) (u : Value) : RatP (w.setCell p u) base v r := by
  obtain ⟨va, vb, rfl, h1, h2, h3⟩ := h
  exact ⟨va, vb, rfl, h1.far hp u, h2.far hp u, h3⟩
theorem RatP.zero (w : World) (base : Nat) : RatP w base (.agg #[.bool false, .slice none 0 0, .slice none 0 0]) zR :=
  ⟨_, _, rfl, RO.nil _ _ _ _ (Nat.zero_le _), RO.nil _ _ _ _ (Nat.zero_le _), Apart.nil _ _ _⟩
theorem RatP.form {w : World} {base : Nat} {v : Value} {r : RatD} (h : RatP w base v r) : ∃ A c B d, v = .agg #[.bool r.neg, .slice A r.mag.length c, .slice B r.den.length d] ∧ (r.mag.length ≤ c ∧ c ≤ maxLen ∧ r.den.length ≤ d ∧ d ≤ maxLen) := by
  obtain ⟨va, vb, rfl, h1, h2, _⟩ := h
  obtain ⟨A, c, rfl, hl, hc, _⟩ := h1
  obtain ⟨B, d, rfl, hm, hd, _⟩ := h2
  exact ⟨A, c, B, d, rfl, ⟨hl, hc, hm, hd⟩⟩
theorem RatP.mk' {w : World} {base : Nat} {va vb : Value} {s : Bool} {r : RatD} (hs : r.neg = s) (h1 : RO w base va r.mag) (h2 : RO w base vb r.den) (h3 : Apart va vb) : RatP w base (.agg #[.bool s, va, vb]) r := by
  subst hs; exact ⟨va, vb, rfl, h1, h2, h3⟩
/-- A signed number of the call's own. -/
def BigO (w : World) (base : Nat) (v : Value) (s : Bool) (xs : List Int) : Prop := ∃ va, v = .agg #[.bool s, va] ∧ RO w base va xs
theorem BigO.later {w w' : World} {base : Nat} {v : Value} {s : Bool} {xs : List Int} (h : BigO w base v s xs) (hb : Below w.heap.size w w') : BigO w' base v s xs := by
  obtain ⟨va, rfl, h1⟩ := h
  exact ⟨va, rfl, h1.later hb⟩
/-- A signed number as a value. -/
def BigV (w : World) (v : Value) (s : Bool) (xs : List Int) : Prop := ∃ A c, v = .agg #[.bool s, .slice A xs.length c] ∧ xs.length ≤ c ∧ c ≤ maxLen ∧ RI w A xs
theorem BigV.later {w w' : World} {v : Value} {s : Bool} {xs : List Int} (h : BigV w v s xs) (hb : Below w.heap.size w w') : BigV w' v s xs := by
  obtain ⟨A, c, rfl, h1, h2, h3⟩ := h
  exact ⟨A, c, rfl, h1, h2, h3.later hb⟩
theorem BigO.reads {w : World} {base : Nat} {v : Value} {s : Bool} {xs : List Int} (h : BigO w base v s xs) : BigV w v s xs := by
  obtain ⟨va, rfl, h1⟩ := h
  obtain ⟨A, c, rfl, hl, hc, _⟩ := id h1
  exact ⟨A, c, rfl, hl, hc, h1.reads⟩
end Go.Proofs.YtlpomcihkjiokaaGreat

namespace Go.Proofs.YtlpomcihkjiokaaGreat
open Go.RowKit Go.Joins Go.Deep

/-- The block of a slice that is not empty. -/
def blk : Value → Option Nat
  | .slice (some a) n _ => if n = 0 then none else some a.block
  | _ => none
theorem blk_slice {a : Addr} {n c : Nat} (h : n ≠ 0) : blk (.slice (some a) n c) = some a.block := if_neg h
theorem blk_nil {A : Option Addr} {c : Nat} : blk (.slice A 0 c) = none := by cases A <;> rfl
theorem Apart.ne_blk {u v : Value} (h : Apart u v) {g k : Nat} (hg : blk u = some g) (hk : blk v = some k) : g ≠ k := by
  unfold blk at hg hk
  split at hg
  · rename_i a n c
    split at hk
    · rename_i b m d
      split at hg
      · cases hg
      · rename_i hn
        split at hk
        · cases hk
        · rename_i hm
          injection hg with hg
          injection hk with hk
          subst hg hk
          exact h a n c b m d rfl rfl hn hm
    · cases hk
  · cases hg

/-- Of what was there, only blocks of S have turned. -/
structure Frame (S : Nat → Prop) (w w' : World) : Prop where
  os : w'.os = w.os
  tape : w'.tape = w.tape
  output : w'.output = w.output
  size : w.heap.size ≤ w'.heap.size
  block : ∀ b, b < w.heap.size → ¬ S b → w'.heap[b]? = w.heap[b]?
theorem Frame.refl (S : Nat → Prop) (w : World) : Frame S w w := ⟨rfl, rfl, rfl, Nat.le_refl _, fun _ _ _ => rfl⟩
theorem Frame.trans {S : Nat → Prop} {a b c : World} (h : Frame S a b) (k : Frame S b c) : Frame S a c :=
  ⟨k.os.trans h.os, k.tape.trans h.tape, k.output.trans h.output, Nat.le_trans h.size k.size, fun i hi hs => (k.block i (Nat.lt_of_lt_of_le hi h.size) hs).trans (h.block i hi hs)⟩
theorem Frame.mono {S S' : Nat → Prop} {w w' : World} (h : Frame S w w') (hs : ∀ b, S b → S' b) : Frame S' w w' :=
  ⟨h.os, h.tape, h.output, h.size, fun b hb hn => h.block b hb (fun k => hn (hs b k))⟩
theorem Frame.of_below {S : Nat → Prop} {w w' : World} (h : Below w.heap.size w w') : Frame S w w' := ⟨h.os, h.tape, h.output, h.size, fun b hb _ => h.block b hb⟩
theorem Frame.to_below {S : Nat → Prop} {w w' : World} {B : Nat} (h : Frame S w w') (hB : B ≤ w.heap.size) (hs : ∀ b, b < B → ¬ S b) : Below B w w' :=
  ⟨h.os, h.tape, h.output, h.size, fun k hk => h.block k (Nat.lt_of_lt_of_le hk hB) (hs k hk)⟩
theorem Frame.setCell {S : Nat → Prop} {a w : World} (h : Frame S a w) {p : Addr} (hp : S p.block) (u : Value) : Frame S a (w.setCell p u) :=
  h.trans ⟨rfl, rfl, rfl, by simp [World.setCell], fun k _ hn => Below.heap_setCell _ _ _ _ (fun e => hn (e ▸ hp))⟩
theorem Frame.drewN {S : Nat → Prop} {a w : World} (h : Frame S a w) (n : Nat) : Frame S a (w.drewN n) := ⟨h.os, h.tape, h.output, h.size, h.block⟩
theorem Frame.drew {S : Nat → Prop} {a w : World} (h : Frame S a w) : Frame S a w.drew := ⟨h.os, h.tape, h.output, h.size, h.block⟩
theorem Frame.cell {S : Nat → Prop} {w w' : World} (h : Frame S w w') {b o : Nat} (hb : b < w.heap.size) (hs : ¬ S b) : w'.cell? ⟨b, o, none⟩ = w.cell? ⟨b, o, none⟩ :=
  World.cell?_of_block (w := w) (h.block b hb hs)
theorem Frame.frozen {S : Nat → Prop} {w w' : World} (h : Frame S w w') {b o : Nat} (hb : b < w.heap.size) (hs : ¬ S b) : w'.frozen? ⟨b, o, none⟩ = w.frozen? ⟨b, o, none⟩ :=
  World.frozen?_of_block (w := w) (h.block b hb hs)

theorem Arr.beyond {w : World} {g cap : Nat} {xs : List Int} (h : Arr w g cap xs) (o : Nat) (ho : xs.length ≤ o) (u : Value) : Arr (w.setCell ⟨g, o, none⟩ u) g cap xs := by
  obtain ⟨rest, h1, h2, hh⟩ := h
  refine ⟨rest.set (o - xs.length) u, by simpa using h1, h2, ?_⟩
  simp only [World.setCell, Array.getElem?_modify, hh, if_true]
  simp [List.set_append_right, ho]

/-- Ints stay ints, signs stay signs, slices stay what they are. -/
structure Turn (w w' : World) : Prop where
  size : w.heap.size ≤ w'.heap.size
  arr : ∀ g c xs, Arr w g c xs → ∃ xs', xs'.length = xs.length ∧ Arr w' g c xs'
  sl : ∀ b o A n c, w.cell? ⟨b, o, none⟩ = some (.slice A n c) → w'.cell? ⟨b, o, none⟩ = some (.slice A n c)
  sign : ∀ b o s, w.cell? ⟨b, o, none⟩ = some (.bool s) → ∃ s', w'.cell? ⟨b, o, none⟩ = some (.bool s')
  int : ∀ b o x, w.cell? ⟨b, o, none⟩ = some (.int .i64 x) → ∃ x', w'.cell? ⟨b, o, none⟩ = some (.int .i64 x')
  froz : ∀ b o, b < w.heap.size → w'.frozen? ⟨b, o, none⟩ = w.frozen? ⟨b, o, none⟩
theorem Turn.refl (w : World) : Turn w w := ⟨Nat.le_refl _, fun _ _ xs h => ⟨xs, rfl, h⟩, fun _ _ _ _ _ h => h, fun _ _ s h => ⟨s, h⟩, fun _ _ x h => ⟨x, h⟩, fun _ _ _ => rfl⟩
theorem Turn.trans {a b c : World} (h : Turn a b) (k : Turn b c) : Turn a c := by
  refine ⟨Nat.le_trans h.size k.size, fun g c xs hx => ?_, fun b o A n c hx => k.sl _ _ _ _ _ (h.sl _ _ _ _ _ hx), fun b o s hx => ?_, fun b o x hx => ?_, fun b o hb => (k.froz _ _ (Nat.lt_of_lt_of_le hb h.size)).trans (h.froz _ _ hb)⟩
  · obtain ⟨y, hy, hz⟩ := h.arr _ _ _ hx
    obtain ⟨z, hz1, hz2⟩ := k.arr _ _ _ hz
    exact ⟨z, hz1.trans hy, hz2⟩
  · obtain ⟨y, hy⟩ := h.sign _ _ _ hx
    exact k.sign _ _ _ hy
  · obtain ⟨y, hy⟩ := h.int _ _ _ hx
    exact k.int _ _ _ hy
theorem Turn.of_below {w w' : World} (h : Below w.heap.size w w') : Turn w w' :=
  ⟨h.size, fun _ _ xs hx => ⟨xs, rfl, hx.later h⟩, fun _ _ _ _ _ hx => cell_later (lt_of_cell' hx).1 hx h, fun _ _ s hx => ⟨s, cell_later (lt_of_cell' hx).1 hx h⟩, fun _ _ s hx => ⟨s, cell_later (lt_of_cell' hx).1 hx h⟩, fun b o hb => h.frozen (p := ⟨b, o, none⟩) hb⟩
theorem setCell_at {w : World} {b o b' o' : Nat} {u v : Value} (h : w.cell? ⟨b, o, none⟩ = some v) : (w.setCell ⟨b, o, none⟩ u).cell? ⟨b', o', none⟩ = if b' = b ∧ o' = o then some u else w.cell? ⟨b', o', none⟩ := by
  split
  · rename_i e
    obtain ⟨rfl, rfl⟩ := e
    exact World.cell?_setCell_same _ _ _ h
  · rename_i e
    exact World.cell?_setCell_other _ _ _ _ (fun k => e (by injection k with k1 k2; exact ⟨k1.symm, k2.symm⟩))
theorem Turn.setInt {w : World} {b o : Nat} {x : Int} (h : w.cell? ⟨b, o, none⟩ = some (.int .i64 x)) (y : Int) : Turn w (w.setCell ⟨b, o, none⟩ (.int .i64 y)) := by
  refine ⟨by simp, fun g c xs hx => ?_, fun b' o' A n c hx => ?_, fun b' o' s hx => ?_, fun b' o' z hx => ?_, fun b' o' _ => by simp⟩
  · by_cases hg : g = b
    · subst hg
      by_cases ho : o < xs.length
      · exact ⟨_, by simp, hx.set o ho y⟩
      · exact ⟨_, rfl, hx.beyond o (by omega) _⟩
    · exact ⟨_, rfl, hx.far hg _⟩
  · rw [setCell_at h]
    split
    · rename_i e
      obtain ⟨rfl, rfl⟩ := e
      rw [h] at hx; cases hx
    · exact hx
  · rw [setCell_at h]
    split
    · rename_i e
      obtain ⟨rfl, rfl⟩ := e
      rw [h] at hx; cases hx
    · exact ⟨s, hx⟩
  · rw [setCell_at h]
    split
    · exact ⟨_, rfl⟩
    · exact ⟨_, hx⟩
theorem Turn.setSign {w : World} {b o : Nat} {x : Bool} (h : w.cell? ⟨b, o, none⟩ = some (.bool x)) (y : Bool) : Turn w (w.setCell ⟨b, o, none⟩ (.bool y)) := by
  refine ⟨by simp, fun g c xs hx => ?_, fun b' o' A n c hx => ?_, fun b' o' s hx => ?_, fun b' o' z hx => ?_, fun b' o' _ => by simp⟩
  · by_cases hg : g = b
    · subst hg
      by_cases ho : o < xs.length
      · rw [hx.cell o ho] at h; cases h
      · exact ⟨_, rfl, hx.beyond o (by omega) _⟩
    · exact ⟨_, rfl, hx.far hg _⟩
  · rw [setCell_at h]
    split
    · rename_i e
      obtain ⟨rfl, rfl⟩ := e
      rw [h] at hx; cases hx
    · exact hx
  · rw [setCell_at h]
    split
    · exact ⟨_, rfl⟩
    · exact ⟨_, hx⟩
  · rw [setCell_at h]
    split
    · rename_i e
      obtain ⟨rfl, rfl⟩ := e
      rw [h] at hx; cases hx
    · exact ⟨_, hx⟩

/-- A part: ints of the call's own between lo and hi. -/
def PO (w : World) (lo hi : Nat) (va : Value) (xs : List Int) : Prop := RO w lo va xs ∧ ∀ b, blk va = some b → lo ≤ b ∧ b < hi
theorem RO.at_blk {w : World} {lo : Nat} {va : Value} {xs : List Int} (h : RO w lo va xs) {b : Nat} (hb : blk va = some b) : xs ≠ [] ∧ lo ≤ b ∧ ∃ c, va = .slice (some ⟨b, 0, none⟩) xs.length c ∧ Arr w b c xs := by
  obtain ⟨A, c, rfl, h1, h2, h3⟩ := h
  have hx : xs ≠ [] := by
    rintro rfl
    rw [List.length_nil, blk_nil] at hb
    cases hb
  obtain ⟨g, rfl, hg, ha⟩ := h3 hx
  rw [blk_slice (n := xs.length) (by simpa using hx)] at hb
  injection hb with hb
  simp only at hb
  subst hb
  exact ⟨hx, hg, c, rfl, ha⟩
theorem RO.io {w : World} {lo : Nat} {va : Value} {xs : List Int} (h : RO w lo va xs) : PO w lo w.heap.size va xs :=
  ⟨h, fun _ hb => by obtain ⟨_, h1, _, _, ha⟩ := h.at_blk hb; exact ⟨h1, ha.lt⟩⟩
theorem PO.form {w : World} {lo hi : Nat} {va : Value} {xs : List Int} (h : PO w lo hi va xs) : ∃ A c, va = .slice A xs.length c ∧ xs.length ≤ c ∧ c ≤ maxLen := by
  obtain ⟨⟨A, c, h1, h2, h3, _⟩, _⟩ := h
  exact ⟨A, c, h1, h2, h3⟩
theorem RO.of_arr {w : World} {lo : Nat} {va : Value} {xs ys : List Int} (h : RO w lo va xs) {w' : World} (hl : ys.length = xs.length) (ha : ∀ b c, blk va = some b → Arr w b c xs → Arr w' b c ys) : RO w' lo va ys := by
  obtain ⟨A, c, rfl, h1, h2, h3⟩ := id h
  refine ⟨A, c, by rw [hl], by omega, h2, fun hy => ?_⟩
  have hx : xs ≠ [] := by rintro rfl; exact hy (List.eq_nil_of_length_eq_zero hl)
  obtain ⟨g, rfl, hg, hA⟩ := h3 hx
  exact ⟨g, rfl, hg, ha g c (blk_slice (by simpa using hx)) hA⟩
theorem PO.turn {w w' : World} {lo hi : Nat} {va : Value} {xs : List Int} (h : PO w lo hi va xs) (ht : Turn w w') : ∃ xs', xs'.length = xs.length ∧ PO w' lo hi va xs' := by
  cases hb : blk va with
  | none => exact ⟨xs, rfl, h.1.of_arr rfl (fun b c hb' => by rw [hb] at hb'; cases hb'), h.2⟩
  | some b =>
    obtain ⟨hx, hg, c, hv, ha⟩ := h.1.at_blk hb
    obtain ⟨xs', hl, ha'⟩ := ht.arr _ _ _ ha
    refine ⟨xs', hl, h.1.of_arr hl (fun b' c' hb' ha2 => ?_), h.2⟩
    rw [hb] at hb'
    injection hb' with hb'
    subst hb'
    have : c' = c := by
      obtain ⟨r1, l1, _, e1⟩ := ha
      obtain ⟨r2, l2, _, e2⟩ := ha2
      rw [e1] at e2
      injection e2 with e2
      injection e2 with e2
      have := congrArg Array.size e2
      simp at this
      omega
    subst this
    exact ha'
theorem PO.frame {S : Nat → Prop} {w w' : World} {lo hi : Nat} {va : Value} {xs : List Int} (h : PO w lo hi va xs) (hf : Frame S w w') (hs : ∀ b, blk va = some b → ¬ S b) : PO w' lo hi va xs :=
  ⟨h.1.of_arr rfl (fun b _ hb ha => ha.block (hf.block b ha.lt (hs b hb))), h.2⟩
theorem PO.reads {w : World} {lo hi : Nat} {xs : List Int} {A : Option Addr} {n c : Nat} (h : PO w lo hi (.slice A n c) xs) : RI w A xs := h.1.reads
theorem PO.wide {w : World} {lo hi lo' hi' : Nat} {va : Value} {xs : List Int} (h : PO w lo hi va xs) (h1 : lo' ≤ lo) (h2 : hi ≤ hi') : PO w lo' hi' va xs :=
  ⟨h.1.mono h1, fun b hb => ⟨Nat.le_trans h1 (h.2 b hb).1, Nat.lt_of_lt_of_le (h.2 b hb).2 h2⟩⟩

/-- What a mark writes. -/
def mkI (n : Nat) (k : Int) : List Int := (List.range n).map fun i => k + (i : Nat)
theorem mkI_len (n : Nat) (k : Int) : (mkI n k).length = n := by simp [mkI]
theorem mkI_get {n : Nat} {k : Int} {i : Nat} (h : i < n) : (mkI n k).getD i 0 = k + i := by simp [mkI, h]
theorem eq_mkI {n : Nat} {k : Int} {xs : List Int} (hl : xs.length = n) (h : ∀ i, i < n → xs.getD i 0 = k + i) : xs = mkI n k :=
  list_same (hl.trans (mkI_len n k).symm) (fun j hj => by rw [mkI_len] at hj; rw [mkI_get hj]; exact h j hj)
def shp (r : RatD) : Nat × Nat := (r.mag.length, r.den.length)
/-- The marks that a fraction in memory takes. -/
def cntR (r : RatD) : Nat := 1 + r.mag.length + r.den.length
def cntV (rs : List RatD) : Nat := (rs.map cntR).sum
theorem cntV_step (rs : List RatD) (k : Nat) (h : k < rs.length) : cntV (rs.take (k + 1)) = cntV (rs.take k) + cntR (rs.getD k zR) := by
  rw [List.take_succ_eq_append_getElem h]
  simp only [cntV, List.map_append, List.sum_append, List.map_cons, List.map_nil, List.sum_cons, List.sum_nil]
  simp [h]
theorem cntV_le (rs : List RatD) (k : Nat) : cntV (rs.take k) ≤ cntV rs := by
  conv => rhs; rw [← List.take_append_drop k rs]
  simp only [cntV, List.map_append, List.sum_append]
  omega
def mkRat (r : RatD) (k : Int) : RatD := ⟨k % 3 == 0, mkI r.mag.length (k + 1), mkI r.den.length (k + 1 + r.mag.length)⟩
def mixV (rs : List RatD) (k : Int) (i : Nat) : List RatD := (List.range rs.length).map fun j => if j < i then mkRat (rs.getD j zR) (k + (cntV (rs.take j) : Nat)) else rs.getD j zR
def mkV (rs : List RatD) (k : Int) : List RatD := mixV rs k rs.length
theorem mixV_len (rs : List RatD) (k : Int) (i : Nat) : (mixV rs k i).length = rs.length := by simp [mixV]
theorem mixV_get {rs : List RatD} {k : Int} {i j : Nat} (h : j < rs.length) : (mixV rs k i).getD j zR = if j < i then mkRat (rs.getD j zR) (k + (cntV (rs.take j) : Nat)) else rs.getD j zR := by
  unfold mixV
  rw [List.getD_eq_getElem?_getD, List.getElem?_map, List.getElem?_range h]
  rfl
theorem vec_same {xs zs : List RatD} (h : zs.length = xs.length) (hj : ∀ j, j < xs.length → zs.getD j zR = xs.getD j zR) : zs = xs := by
  apply List.ext_getElem h
  intro i h1 h2
  have := hj i h2
  simpa [h1, h2] using this
theorem mixV_zero (rs : List RatD) (k : Int) : mixV rs k 0 = rs := vec_same (mixV_len _ _ _) (fun j hj => by rw [mixV_get hj, if_neg (by omega)])
theorem getD_setR (l : List RatD) (i j : Nat) (x : RatD) : (l.set i x).getD j zR = if i = j ∧ j < l.length then x else l.getD j zR := by
  simp only [List.getD_eq_getElem?_getD, List.getElem?_set]
  split
  · rename_i h
    subst h
    split
    · rename_i h; simp [h]
    · rename_i h; simp [h]
  · rename_i h
    rw [if_neg (fun h' => h h'.1)]
theorem mixV_succ {rs : List RatD} {k : Int} {i : Nat} (_h : i < rs.length) : mixV rs k (i + 1) = (mixV rs k i).set i (mkRat (rs.getD i zR) (k + (cntV (rs.take i) : Nat))) :=
  vec_same (by simp [mixV_len]) (fun j hj => by
    rw [List.length_set, mixV_len] at hj
    rw [mixV_get hj, getD_setR, mixV_len, mixV_get hj]
    by_cases e : i = j
    · subst e; rw [if_pos (Nat.lt_succ_self i), if_pos ⟨rfl, hj⟩]
    · by_cases e2 : j < i
      · rw [if_pos (Nat.lt_succ_of_lt e2), if_neg (fun h' => e h'.1), if_pos e2]
      · rw [if_neg (show ¬ j < i + 1 by omega), if_neg (fun h' => e h'.1), if_neg e2])

/-- A fraction in the cells of block g from off on, its parts p. -/
def EA (w : World) (lo hi g off : Nat) (p : Value × Value) (r : RatD) : Prop :=
  w.cell? ⟨g, off, none⟩ = some (.bool r.neg) ∧ w.cell? ⟨g, off + 1, none⟩ = some p.1 ∧ w.cell? ⟨g, off + 2, none⟩ = some p.2 ∧ PO w lo hi p.1 r.mag ∧ PO w lo hi p.2 r.den
def zP : Value × Value := (.slice none 0 0, .slice none 0 0)
/-- A vector of the call's own between lo and hi, its parts ps. -/
def VS (w : World) (lo hi : Nat) (v : Value) (ps : List (Value × Value)) (rs : List RatD) : Prop :=
  ps.length = rs.length ∧ ∃ A c, v = .slice A rs.length c ∧ rs.length ≤ c ∧ c ≤ maxLen ∧
    (rs ≠ [] → ∃ g, A = some ⟨g, 0, none⟩ ∧ lo ≤ g ∧ g < hi ∧ g < w.heap.size ∧ (∀ i, w.frozen? ⟨g, i, none⟩ = false) ∧ ∀ j, j < rs.length → EA w lo hi g (j * 3) (ps.getD j zP) (rs.getD j zR))
/-- The blocks that a vector takes up. -/
def Foot (v : Value) (ps : List (Value × Value)) (b : Nat) : Prop := blk v = some b ∨ ∃ j, j < ps.length ∧ (blk (ps.getD j zP).1 = some b ∨ blk (ps.getD j zP).2 = some b)
/-- All parts lie apart. -/
def Aps (ps : List (Value × Value)) : Prop :=
  (∀ j, j < ps.length → Apart (ps.getD j zP).1 (ps.getD j zP).2) ∧
  ∀ i j, i < ps.length → j < ps.length → i ≠ j → Apart (ps.getD i zP).1 (ps.getD j zP).1 ∧ Apart (ps.getD i zP).1 (ps.getD j zP).2 ∧ Apart (ps.getD i zP).2 (ps.getD j zP).1 ∧ Apart (ps.getD i zP).2 (ps.getD j zP).2

theorem EA.turn {w w' : World} {lo hi g off : Nat} {p : Value × Value} {r : RatD} (h : EA w lo hi g off p r) (ht : Turn w w') : ∃ r', shp r' = shp r ∧ EA w' lo hi g off p r' := by
  obtain ⟨h0, h1, h2, h3, h4⟩ := h
  obtain ⟨s', hs⟩ := ht.sign _ _ _ h0
  obtain ⟨x, hx, h3'⟩ := h3.turn ht
  obtain ⟨y, hy, h4'⟩ := h4.turn ht
  obtain ⟨A, c, e1, _⟩ := h3.form
  obtain ⟨B, d, e2, _⟩ := h4.form
  rw [e1] at h1
  rw [e2] at h2
  exact ⟨⟨s', x, y⟩, by simp [shp, hx, hy], hs, by rw [e1]; exact ht.sl _ _ _ _ _ h1, by rw [e2]; exact ht.sl _ _ _ _ _ h2, h3', h4'⟩
theorem EA.frame {S : Nat → Prop} {w w' : World} {lo hi g off : Nat} {p : Value × Value} {r : RatD} (h : EA w lo hi g off p r) (hf : Frame S w w') (hg : g < w.heap.size) (hs : ¬ S g) (h1 : ∀ b, blk p.1 = some b → ¬ S b) (h2 : ∀ b, blk p.2 = some b → ¬ S b) : EA w' lo hi g off p r :=
  ⟨(hf.cell hg hs).trans h.1, (hf.cell hg hs).trans h.2.1, (hf.cell hg hs).trans h.2.2.1, h.2.2.2.1.frame hf h1, h.2.2.2.2.frame hf h2⟩

theorem VS.form {w : World} {lo hi : Nat} {v : Value} {ps : List (Value × Value)} {rs : List RatD} (h : VS w lo hi v ps rs) : ∃ A c, v = .slice A rs.length c ∧ rs.length ≤ c ∧ c ≤ maxLen := by
  obtain ⟨_, A, c, h1, h2, h3, _⟩ := h
  exact ⟨A, c, h1, h2, h3⟩
theorem VS.turn {w w' : World} {lo hi : Nat} {v : Value} {ps : List (Value × Value)} {rs : List RatD} (h : VS w lo hi v ps rs) (ht : Turn w w') : ∃ rs', rs'.length = rs.length ∧ (∀ j, j < rs.length → shp (rs'.getD j zR) = shp (rs.getD j zR)) ∧ VS w' lo hi v ps rs' := by
  obtain ⟨hp, A, c, rfl, h1, h2, h3⟩ := h
  by_cases hx : rs = []
  · subst hx
    exact ⟨[], rfl, fun j hj => by simp at hj, hp, A, c, rfl, h1, h2, fun hh => absurd rfl hh⟩
  · obtain ⟨g, rfl, hg, hgh, hgs, hfz, he⟩ := h3 hx
    have each : ∀ j, j < rs.length → ∃ z : Option RatD, ∃ y, z = some y ∧ shp y = shp (rs.getD j zR) ∧ EA w' lo hi g (j * 3) (ps.getD j zP) y := fun j hj => by
      obtain ⟨r', q1, q2⟩ := (he j hj).turn ht
      exact ⟨some r', r', rfl, q1, q2⟩
    obtain ⟨f, hf⟩ := choose_lt each
    have hl : ((List.range rs.length).map fun i => (f i).getD zR).length = rs.length := by simp
    have hget : ∀ j, j < rs.length → ((List.range rs.length).map fun i => (f i).getD zR).getD j zR = (f j).getD zR := fun j hj => by
      rw [List.getD_eq_getElem?_getD, List.getElem?_map, List.getElem?_range hj]; rfl
    refine ⟨(List.range rs.length).map fun i => (f i).getD zR, hl, fun j hj => ?_, by rw [hl]; exact hp, some ⟨g, 0, none⟩, c, by rw [hl], by rw [hl]; exact h1, h2, fun _ => ⟨g, rfl, hg, hgh, Nat.lt_of_lt_of_le hgs ht.size, fun i => (ht.froz g i hgs).trans (hfz i), fun j hj => ?_⟩⟩
    · obtain ⟨y, e, q1, _⟩ := hf j hj
      rw [hget j hj, e]; exact q1
    · rw [hl] at hj
      obtain ⟨y, e, _, q2⟩ := hf j hj
      rw [hget j hj, e]; exact q2
theorem VS.at_blk {w : World} {lo hi : Nat} {v : Value} {ps : List (Value × Value)} {rs : List RatD} (h : VS w lo hi v ps rs) {b : Nat} (hb : blk v = some b) :
    rs ≠ [] ∧ (∃ c, v = .slice (some ⟨b, 0, none⟩) rs.length c) ∧ lo ≤ b ∧ b < hi ∧ b < w.heap.size ∧ (∀ i, w.frozen? ⟨b, i, none⟩ = false) ∧ ∀ j, j < rs.length → EA w lo hi b (j * 3) (ps.getD j zP) (rs.getD j zR) := by
  obtain ⟨_, A, c, rfl, h1, h2, h3⟩ := h
  have hx : rs ≠ [] := by
    rintro rfl
    rw [List.length_nil, blk_nil] at hb
    cases hb
  obtain ⟨g, rfl, hg⟩ := h3 hx
  rw [blk_slice (n := rs.length) (by simpa using hx)] at hb
  injection hb with hb
  simp only at hb
  subst hb
  exact ⟨hx, ⟨c, rfl⟩, hg⟩
/-- The headers' block is none of the parts'. -/
theorem EA.head {w : World} {lo hi g off : Nat} {p : Value × Value} {r : RatD} (h0 : ∃ s, w.cell? ⟨g, 0, none⟩ = some (.bool s)) (h : EA w lo hi g off p r) : blk p.1 ≠ some g ∧ blk p.2 ≠ some g := by
  obtain ⟨s, h0⟩ := h0
  constructor
  · intro hb
    obtain ⟨hx, _, c, _, ha⟩ := h.2.2.2.1.1.at_blk hb
    have := ha.cell 0 (List.length_pos_iff.2 hx)
    rw [h0] at this; cases this
  · intro hb
    obtain ⟨hx, _, c, _, ha⟩ := h.2.2.2.2.1.at_blk hb
    have := ha.cell 0 (List.length_pos_iff.2 hx)
    rw [h0] at this; cases this
theorem VS.frame {S : Nat → Prop} {w w' : World} {lo hi : Nat} {v : Value} {ps : List (Value × Value)} {rs : List RatD} (h : VS w lo hi v ps rs) (hf : Frame S w w') (hs : ∀ b, Foot v ps b → ¬ S b) : VS w' lo hi v ps rs := by
  obtain ⟨hp, A, c, rfl, h1, h2, h3⟩ := h
  refine ⟨hp, A, c, rfl, h1, h2, fun hx => ?_⟩
  obtain ⟨g, rfl, hg, hgh, hgs, hfz, he⟩ := h3 hx
  have hgS : ¬ S g := hs g (.inl (blk_slice (by simpa using hx)))
  exact ⟨g, rfl, hg, hgh, Nat.lt_of_lt_of_le hgs hf.size, fun i => (hf.frozen hgs hgS).trans (hfz i), fun j hj => (he j hj).frame hf hgs hgS (fun b hb => hs b (.inr ⟨j, by omega, .inl hb⟩)) (fun b hb => hs b (.inr ⟨j, by omega, .inr hb⟩))⟩
theorem VS.foot {w : World} {lo hi : Nat} {v : Value} {ps : List (Value × Value)} {rs : List RatD} (h : VS w lo hi v ps rs) {b : Nat} (hb : Foot v ps b) : lo ≤ b ∧ b < hi := by
  obtain ⟨hp, A, c, rfl, h1, h2, h3⟩ := id h
  rcases hb with hb | ⟨j, hj, hb⟩
  · obtain ⟨_, _, k1, k2, _⟩ := h.at_blk hb
    exact ⟨k1, k2⟩
  · have hx : rs ≠ [] := by rintro rfl; simp at hp; subst hp; simp at hj
    obtain ⟨g, rfl, _, _, _, _, he⟩ := h3 hx
    have := he j (by omega)
    rcases hb with hb | hb
    · exact this.2.2.2.1.2 b hb
    · exact this.2.2.2.2.2 b hb
theorem VS.reads {w : World} {lo hi n c : Nat} {A : Option Addr} {ps : List (Value × Value)} {rs : List RatD} (h : VS w lo hi (.slice A n c) ps rs) : VI w A rs := by
  intro hx
  obtain ⟨_, A', c', he, _, _, h⟩ := h
  injection he with e1 e2 e3
  subst e1
  obtain ⟨g, rfl, _, _, hlt, _, h⟩ := h hx
  refine ⟨g, 0, rfl, hlt, fun j hj => ?_⟩
  obtain ⟨h0, h1, h2, h3, h4⟩ := h j hj
  obtain ⟨A1, c1, e1, k1, k2⟩ := h3.form
  obtain ⟨B1, d1, e2, k3, k4⟩ := h4.form
  rw [e1] at h1 h3
  rw [e2] at h2 h4
  rw [Nat.zero_add]
  exact ⟨A1, c1, B1, d1, h0, h1, h2, ⟨k1, k2, k3, k4⟩, h3.reads, h4.reads⟩
theorem VO.parts {w : World} {lo : Nat} {v : Value} {rs : List RatD} (h : VO w lo v rs) : ∃ ps, VS w lo w.heap.size v ps rs := by
  obtain ⟨A, c, rfl, h1, h2, h3⟩ := h
  by_cases hx : rs = []
  · subst hx
    exact ⟨[], rfl, A, c, rfl, h1, h2, fun hh => absurd rfl hh⟩
  · obtain ⟨g, rfl, hg, hgs, hfz, he⟩ := h3 hx
    have each : ∀ j, j < rs.length → ∃ z : Option (Value × Value), ∃ y, z = some y ∧ EA w lo w.heap.size g (j * 3) y (rs.getD j zR) := fun j hj => by
      obtain ⟨va, vb, q0, q1, q2, q3, q4⟩ := he j hj
      have l1 := q3.io
      have l2 := q4.io
      exact ⟨some (va, vb), (va, vb), rfl, q0, q1, q2, l1.wide (by omega) (Nat.le_refl _), l2.wide (by omega) (Nat.le_refl _)⟩
    obtain ⟨f, hf⟩ := choose_lt each
    have hl : ((List.range rs.length).map fun i => (f i).getD zP).length = rs.length := by simp
    refine ⟨(List.range rs.length).map fun i => (f i).getD zP, hl, some ⟨g, 0, none⟩, c, rfl, h1, h2, fun _ => ⟨g, rfl, hg, hgs, hgs, hfz, fun j hj => ?_⟩⟩
    obtain ⟨y, e, q⟩ := hf j hj
    rw [List.getD_eq_getElem?_getD, List.getElem?_map, List.getElem?_range hj]
    simp only [Option.map_some, Option.getD_some, e]
    exact q
theorem VS.wide {w : World} {lo hi lo' hi' : Nat} {v : Value} {ps : List (Value × Value)} {rs : List RatD} (h : VS w lo hi v ps rs) (k1 : lo' ≤ lo) (k2 : hi ≤ hi') : VS w lo' hi' v ps rs := by
  obtain ⟨hp, A, c, rfl, h1, h2, h3⟩ := h
  refine ⟨hp, A, c, rfl, h1, h2, fun hx => ?_⟩
  obtain ⟨g, rfl, hg, hgh, hgs, hfz, he⟩ := h3 hx
  exact ⟨g, rfl, by omega, by omega, hgs, hfz, fun j hj => ⟨(he j hj).1, (he j hj).2.1, (he j hj).2.2.1, (he j hj).2.2.2.1.wide k1 k2, (he j hj).2.2.2.2.wide k1 k2⟩⟩
/-- One element turned, all parts apart. -/
theorem VS.put {S : Nat → Prop} {w w' : World} {lo hi g n c : Nat} {ps : List (Value × Value)} {rs : List RatD} {i : Nat} {x : RatD} (h : VS w lo hi (.slice (some ⟨g, 0, none⟩) n c) ps rs) (hi1 : i < rs.length) (hap : Aps ps)
    (hf : Frame S w w') (hS : ∀ b, S b → b = g ∨ blk (ps.getD i zP).1 = some b ∨ blk (ps.getD i zP).2 = some b)
    (hfz : ∀ o, w'.frozen? ⟨g, o, none⟩ = w.frozen? ⟨g, o, none⟩) (hc : ∀ o, o ≠ i * 3 → w'.cell? ⟨g, o, none⟩ = w.cell? ⟨g, o, none⟩)
    (h0 : w'.cell? ⟨g, i * 3, none⟩ = some (.bool x.neg)) (h1 : PO w' lo hi (ps.getD i zP).1 x.mag) (h2 : PO w' lo hi (ps.getD i zP).2 x.den) :
    VS w' lo hi (.slice (some ⟨g, 0, none⟩) n c) ps (rs.set i x) := by
  have hnn : n = rs.length := by
    obtain ⟨_, A, c', e, _⟩ := h
    injection e
  subst hnn
  have hx : rs ≠ [] := by rintro rfl; simp at hi1
  have hbv : blk (.slice (some ⟨g, 0, none⟩) rs.length c) = some g := blk_slice (by simpa using hx)
  obtain ⟨_, _, k1, k2, k3, k4, ke⟩ := h.at_blk hbv
  obtain ⟨hp, A, c', e, q1, q2, _⟩ := h
  injection e with _ _ e
  subst e
  have hz : ∃ s, w.cell? ⟨g, 0, none⟩ = some (.bool s) := ⟨_, by have := (ke 0 (List.length_pos_iff.2 hx)).1; rwa [Nat.zero_mul] at this⟩
  refine ⟨by simpa using hp, some ⟨g, 0, none⟩, c, by simp, by simpa using q1, q2, fun _ => ⟨g, rfl, k1, k2, Nat.lt_of_lt_of_le k3 hf.size, fun o => (hfz o).trans (k4 o), fun j hj => ?_⟩⟩
  rw [List.length_set] at hj
  rw [getD_setR]
  by_cases e : i = j
  · subst e
    rw [if_pos ⟨rfl, hj⟩]
    exact ⟨h0, (hc _ (by omega)).trans (ke i hj).2.1, (hc _ (by omega)).trans (ke i hj).2.2.1, h1, h2⟩
  · rw [if_neg (fun h' => e h'.1)]
    obtain ⟨m1, m2⟩ := (ke j hj).head hz
    obtain ⟨a1, a2, a3, a4⟩ := hap.2 j i (by omega) (by omega) (fun h' => e h'.symm)
    refine ⟨(hc _ (by omega)).trans (ke j hj).1, (hc _ (by omega)).trans (ke j hj).2.1, (hc _ (by omega)).trans (ke j hj).2.2.1, (ke j hj).2.2.2.1.frame hf (fun b hb hSb => ?_), (ke j hj).2.2.2.2.frame hf (fun b hb hSb => ?_)⟩
    · rcases hS b hSb with hh | hh | hh
      · subst hh; exact m1 hb
      · exact a1.ne_blk hb hh rfl
      · exact a2.ne_blk hb hh rfl
    · rcases hS b hSb with hh | hh | hh
      · subst hh; exact m2 hb
      · exact a3.ne_blk hb hh rfl
      · exact a4.ne_blk hb hh rfl
end Go.Proofs.YtlpomcihkjiokaaGreat

namespace Go.Proofs.YtlpomcihkjiokaaGreat
open Go.RowKit Go.Joins

set_option maxRecDepth 100000 in
set_option maxHeartbeats 800000 in
theorem markIntS_some (xs : List Int) (n c : Nat) (k : Int) (hk : 0 ≤ k) (hk1 : k ≤ 4611686018427387904) (hn : xs.length = n) (hn1 : n ≤ 1048576) (g : Nat) (w : World) (ha : Arr w g c xs) :
    Calls Tryz.prog 75 #[.slice (some ⟨g, 0, none⟩) n c, .int .i64 k] w fun e w' => e = .returned (.int .i64 (k + n)) ∧ Frame (fun b => b = g) w w' ∧ Turn w w' ∧ Arr w' g c (mkI n k) := by
  have HN := Lib.hid hn; clear hn
  go_enter Tryz.func75, Tryz.ntmps75
  go_wp2_with fail
  go_loopw [1, 5] (fun u v wr => ∃ (j : Nat) (zs : List Int), j ≤ n ∧ u = .int .i64 (k + (j : Nat)) ∧ v = .int .i64 j ∧ zs.length = n ∧ (∀ i, i < j → zs.getD i 0 = k + (i : Nat)) ∧ Arr wr g c zs ∧ Frame (fun b => b = g) w wr ∧ Turn w wr) (fun _ v _ => n - (intOf v).toNat)
  case atStart => exact ⟨0, xs, Nat.zero_le _, by simp, rfl, HN.out, fun j hj => by omega, ha, Frame.refl _ _, Turn.refl _⟩
  case round =>
    obtain ⟨j, zs, hj, rfl, rfl, hz, hzz, harr, hfr, htn⟩ := hrel
    have HZ := Lib.hid hz; clear hz
    have HZZ := Lib.hid hzz; clear hzz
    by_cases hjn : j = n
    · subst hjn
      have h0 : decide ((j : Int) < (j : Int)) = false := by simp
      go_wp2
      go_ret
      refine ⟨rfl, hfr, htn, ?_⟩
      rw [← eq_mkI HZ.out HZZ.out]
      exact harr
    · have hlt : (j : Int) < (n : Int) := by omega
      have hlz : j < zs.length := by rw [HZ.out]; omega
      have e2 := harr.cell j hlz
      have e3 := harr.frozen j
      have harr' := harr.set j hlz (k + (j : Nat))
      have htn' := htn.trans (Turn.setInt e2 (k + (j : Nat)))
      have hfr' := hfr.setCell (p := ⟨g, j, none⟩) rfl (.int .i64 (k + (j : Nat)))
      have HZ3 := Lib.hid (show ∀ i, i < j + 1 → (zs.set j (k + (j : Nat))).getD i 0 = k + (i : Nat) from fun i hi => by
        rw [FE.getD_set]
        split
        · rename_i h; rw [← h.1]
        · rename_i h
          refine HZZ.out i ?_
          have := HZ.out
          omega)
      have HZ4 := Lib.hid (show (zs.set j (k + (j : Nat))).length = n by rw [List.length_set]; exact HZ.out)
      clear ha hlz
      generalize zs.getD j 0 = y at *
      go_wp2
      go_roundw
      case rel => exact ⟨j + 1, zs.set j (k + (j : Nat)), by omega, by go_num, rfl, HZ4.out, HZ3.out, harr', hfr', htn'⟩
      case measure => simp [intOf]; omega

set_option maxHeartbeats 400000 in
theorem markIntS_none (c : Nat) (k : Int) (_hk : 0 ≤ k) (A : Option Addr) (w : World) :
    Calls Tryz.prog 75 #[.slice A 0 c, .int .i64 k] w fun e w' => e = .returned (.int .i64 k) ∧ w' = w := by
  go_enter Tryz.func75, Tryz.ntmps75
  go_wp2_with fail
  go_loop [1, 5] (fun u v => u = .int .i64 k ∧ v = .int .i64 0) (fun _ _ => 0)
  case atStart => exact ⟨rfl, rfl⟩
  case round =>
    obtain ⟨rfl, rfl⟩ := hrel
    go_wp2
    go_ret
    exact ⟨rfl, rfl⟩

/-- The marks of a part. -/
theorem markIntS (xs : List Int) (k : Int) (hk : 0 ≤ k) (hk1 : k ≤ 4611686018427387904) (hn1 : xs.length ≤ 1048576) (lo hi : Nat) (v : Value) (w : World) (ha : PO w lo hi v xs) :
    Calls Tryz.prog 75 #[v, .int .i64 k] w fun e w' => e = .returned (.int .i64 (k + xs.length)) ∧ Frame (fun b => blk v = some b) w w' ∧ Turn w w' ∧ PO w' lo hi v (mkI xs.length k) := by
  cases hb : blk v with
  | none =>
    obtain ⟨A, c, rfl, h1, h2, h3⟩ := id ha.1
    have hx : xs = [] := by
      by_cases h : xs = []
      · exact h
      · obtain ⟨g, rfl, _⟩ := h3 h
        rw [blk_slice (by simpa using h)] at hb; cases hb
    subst hx
    refine (markIntS_none c k hk A w).mono ?_
    rintro e w' ⟨rfl, rfl⟩
    exact ⟨by simp, Frame.refl _ _, Turn.refl _, ha⟩
  | some g =>
    obtain ⟨hx, hg, c, rfl, hA⟩ := ha.1.at_blk hb
    refine (markIntS_some xs _ c k hk hk1 rfl hn1 g w hA).mono ?_
    rintro e w' ⟨rfl, hf, ht, hA'⟩
    refine ⟨rfl, hf.mono (fun b hb' => by rw [hb']), ht, ha.1.of_arr (mkI_len _ _) (fun b c' hb' hc' => ?_), ha.2⟩
    rw [hb] at hb'
    injection hb' with hb'
    subst hb'
    have : c' = c := by
      obtain ⟨r1, l1, _, e1⟩ := hA
      obtain ⟨r2, l2, _, e2⟩ := hc'
      rw [e1] at e2
      injection e2 with e2
      injection e2 with e2
      have := congrArg Array.size e2
      simp at this
      omega
    subst this
    exact hA'

set_option maxRecDepth 100000 in
set_option maxHeartbeats 800000 in
theorem heldIntS (n c : Nat) (k : Int) (hk : 0 ≤ k) (hk1 : k ≤ 4611686018427387904) (hn1 : n ≤ 1048576) (A : Option Addr) (w : World) (ha : RI w A (mkI n k)) :
    Calls Tryz.prog 76 #[.slice A n c, .int .i64 k] w fun e w' => e = .returned (.int .i64 (k + n)) ∧ Below w.heap.size w w' := by
  go_enter Tryz.func76, Tryz.ntmps76
  go_wp2_with fail
  go_loopw [1, 5] (fun u v wr => ∃ j : Nat, j ≤ n ∧ u = .int .i64 (k + (j : Nat)) ∧ v = .int .i64 j ∧ Below w.heap.size w wr) (fun _ v _ => n - (intOf v).toNat)
  case atStart => exact ⟨0, Nat.zero_le _, by simp, rfl, Below.refl _ _⟩
  case round =>
    obtain ⟨j, hj, rfl, rfl, hbel⟩ := hrel
    by_cases hjn : j = n
    · subst hjn
      have h0 : decide ((j : Int) < (j : Int)) = false := by simp
      go_wp2
      go_ret
      exact ⟨rfl, hbel⟩
    · have hlt : (j : Int) < (n : Int) := by omega
      obtain ⟨b1, o1, rfl, hb1, hc1⟩ := ha (by intro h; have := congrArg List.length h; rw [mkI_len] at this; simp at this; omega)
      have e1 := (hbel.cell (p := ⟨b1, o1 + j, none⟩) hb1).trans (hc1 j (by rw [mkI_len]; omega))
      rw [mkI_get (by omega)] at e1
      have h1 : ((k + (j : Nat) : Int) != k + (j : Nat)) = false := by simp
      clear hc1 ha
      go_wp2
      go_roundw
      case rel => exact ⟨j + 1, by omega, by go_num, rfl, hbel⟩
      case measure => simp [intOf]; omega
end Go.Proofs.YtlpomcihkjiokaaGreat

namespace Go.Proofs.YtlpomcihkjiokaaGreat
open Go.RowKit Go.Joins

theorem PO.later {w w' : World} {lo hi : Nat} {va : Value} {xs : List Int} (h : PO w lo hi va xs) (hb : Below w.heap.size w w') : PO w' lo hi va xs :=
  h.frame (S := fun _ => False) (Frame.of_below hb) (fun _ _ h => h)
theorem PO.lt {w : World} {lo hi : Nat} {va : Value} {xs : List Int} (h : PO w lo hi va xs) {b : Nat} (hb : blk va = some b) : b < w.heap.size := by
  obtain ⟨_, _, _, _, ha⟩ := h.1.at_blk hb
  exact ha.lt

set_option maxHeartbeats 400000 in
theorem markBigInt (s : Bool) (xs : List Int) (k : Int) (hk : 0 ≤ k) (hk1 : k ≤ 4611686018427387904) (hn1 : xs.length ≤ 1048576) (lo hi : Nat) (va : Value) (w : World) (ha : PO w lo hi va xs) :
    Calls Tryz.prog 96 #[.agg #[.bool s, va], .int .i64 k] w fun e w' => e = .returned (.int .i64 (k + xs.length)) ∧ Frame (fun b => blk va = some b) w w' ∧ Turn w w' ∧ PO w' lo hi va (mkI xs.length k) := by
  have HM := Lib.hid (fun W hW => markIntS xs k hk hk1 hn1 lo hi va W (ha.later (w' := W) hW))
  have hl := hn1
  obtain ⟨A, c, rfl, _⟩ := ha.form
  clear ha hn1
  generalize xs.length = n at *
  go_enter Tryz.func96, Tryz.ntmps96
  go_wp2_with fail
  refine (HM.out _ (below_alloc1 _ _)).mono ?_
  rintro e w1 ⟨rfl, hf, ht, hi1⟩
  replace hf := (Frame.of_below (below_alloc1 _ _)).trans hf
  replace ht := (Turn.of_below (below_alloc1 _ _)).trans ht
  go_wp2
  go_ret
  exact ⟨rfl, hf, ht, hi1⟩

set_option maxHeartbeats 400000 in
theorem markRat (s : Bool) (xs ys : List Int) (k : Int) (hk : 0 ≤ k) (hk1 : k ≤ 4611686018426339328) (hn1 : xs.length ≤ 1048576) (hn2 : ys.length ≤ 1048576) (lo hi : Nat) (va vb : Value) (w : World) (ha : PO w lo hi va xs) (hb : PO w lo hi vb ys) :
    Calls Tryz.prog 29 #[.agg #[.bool s, va, vb], .int .i64 k] w fun e w' => e = .returned (.int .i64 (k + xs.length + ys.length)) ∧ Frame (fun b => blk va = some b ∨ blk vb = some b) w w' ∧ Turn w w' ∧
      (Apart va vb → PO w' lo hi va (mkI xs.length k) ∧ PO w' lo hi vb (mkI ys.length (k + xs.length))) := by
  have HM := Lib.hid (fun W hW => markBigInt s xs k hk (by omega) hn1 lo hi va W (ha.later (w' := W) hW))
  have HK := Lib.hid (fun (zs : List Int) (hz : zs.length = ys.length) W (h : PO W lo hi vb zs) => hz ▸ markIntS zs (k + xs.length) (by omega) (by omega) (by omega) lo hi vb W h)
  have hne : blk va ≠ some w.heap.size := fun h => by have := ha.lt h; omega
  have HB := Lib.hid hb
  obtain ⟨A, c, rfl, _⟩ := ha.form
  obtain ⟨B, d, rfl, _⟩ := hb.form
  clear ha hb
  generalize xs.length = n at *
  generalize hm : ys.length = m at *
  have HL := Lib.hid hm; clear hm
  go_enter Tryz.func29, Tryz.ntmps29
  go_wp2_with fail
  refine (HM.out _ (below_alloc1 _ _)).mono ?_
  rintro e w1 ⟨rfl, hf, ht, hi1⟩
  have e2 := hf.cell (b := w.heap.size) (o := 2) (by simp) hne
  rw [cell_alloc_mark_at _ _ _ _ _ 2 rfl] at e2
  replace e2 : w1.cell? ⟨w.heap.size, 2, none⟩ = some (.slice B m d) := e2
  have hf0 := (Frame.of_below (below_alloc1 _ _)).trans hf
  have ht0 := (Turn.of_below (below_alloc1 _ _)).trans ht
  obtain ⟨zs, hz, hbz⟩ := HB.out.turn ht0
  rw [HL.out] at hz
  have HQ := Lib.hid hz
  clear hz
  go_wp2_with fail
  refine (HK.out zs HQ.out w1 hbz).mono ?_
  rintro e w2 ⟨rfl, hf2, ht2, hi2⟩
  clear e2
  go_wp2
  go_ret
  refine ⟨rfl, (hf0.mono (fun b h => .inl h)).trans (hf2.mono (fun b h => .inr h)), ht0.trans ht2, fun hap => ⟨hi1.frame hf2 (fun b h h' => hap.ne_blk h h' rfl), ?_⟩⟩
  exact hi2

theorem VS.cells {w : World} {lo hi n c j : Nat} {A : Option Addr} {ps : List (Value × Value)} {rs : List RatD} (h : VS w lo hi (.slice A n c) ps rs) (hj : j < rs.length) :
    rs.length = n ∧ ∃ g, A = some ⟨g, 0, none⟩ ∧ g < w.heap.size ∧ (∀ i, w.frozen? ⟨g, i, none⟩ = false) ∧ (∃ s, w.cell? ⟨g, 0, none⟩ = some (.bool s)) ∧ EA w lo hi g (j * 3) (ps.getD j zP) (rs.getD j zR) := by
  obtain ⟨_, A', c', e, _, _, h3⟩ := h
  injection e with e1 e2 e3
  subst e1
  obtain ⟨g, rfl, _, _, k1, k2, ke⟩ := h3 (by rintro rfl; simp at hj)
  exact ⟨e2.symm, g, rfl, k1, k2, ⟨_, by have := (ke 0 (by omega)).1; rwa [Nat.zero_mul] at this⟩, ke j hj⟩
theorem VS.few {w : World} {lo hi : Nat} {v : Value} {ps : List (Value × Value)} {rs : List RatD} (h : VS w lo hi v ps rs) : ps.length = rs.length := h.1

set_option maxRecDepth 100000 in
set_option maxHeartbeats 1600000 in
theorem markRatS (rs : List RatD) (k : Int) (hk : 0 ≤ k) (hk1 : k + (cntV rs : Nat) ≤ 4611686018426339328) (hfew : Few rs) (lo hi : Nat) (v : Value) (ps : List (Value × Value)) (w : World) (h : VS w lo hi v ps rs) :
    Calls Tryz.prog 19 #[v, .int .i64 k] w fun e w' => e = .returned (.int .i64 (k + (cntV rs : Nat))) ∧ Frame (Foot v ps) w w' ∧ Turn w w' ∧ (Aps ps → VS w' lo hi v ps (mkV rs k)) := by
  obtain ⟨A, c, rfl, hc1, hc2⟩ := h.form
  have hn1 := hfew.1
  have HF := Lib.hid hfew.2
  have HV := Lib.hid h
  have hm : rs.length ≤ 9223372036854775807 := by omega
  have HC := Lib.hid hk1
  clear h hfew hc1 hc2 hk1
  obtain ⟨n, hn⟩ : ∃ n, rs.length = n := ⟨_, rfl⟩
  rw [hn] at hn1 hm HV ⊢
  have HN := Lib.hid hn; clear hn
  go_enter Tryz.func19, Tryz.ntmps19
  go_wp2_with fail
  go_loopw [1, 5] (fun u z wr => ∃ j : Nat, j ≤ n ∧ u = .int .i64 (k + (cntV (rs.take j) : Nat)) ∧ z = .int .i64 j ∧ Frame (Foot (.slice A n c) ps) w wr ∧ Turn w wr ∧ Hid (Aps ps → VS wr lo hi (.slice A n c) ps (mixV rs k j))) (fun _ z _ => n - (intOf z).toNat)
  case atStart => exact ⟨0, Nat.zero_le _, by simp [cntV], rfl, Frame.refl _ _, Turn.refl _, Lib.hid (fun _ => by rw [mixV_zero]; exact HV.out)⟩
  case round =>
    obtain ⟨j, hj, rfl, rfl, hfr, htn, HS⟩ := hrel
    by_cases hjn : j = n
    · subst hjn
      have h0 : decide ((j : Int) < (j : Int)) = false := by simp
      have HT := Lib.hid (show rs.take j = rs from List.take_of_length_le (by rw [HN.out]; exact Nat.le_refl _))
      go_wp2
      go_ret
      refine ⟨ret_int (by rw [HT.out]), hfr, htn, fun hap => ?_⟩
      have := HS.out hap
      rw [← HN.out] at this ⊢
      exact this
    · have hlt : (j : Int) < (n : Int) := by omega
      have hjl : j < rs.length := by rw [HN.out]; omega
      obtain ⟨rs', hl', hsh, hvs⟩ := HV.out.turn htn
      obtain ⟨_, hcell⟩ := hvs.cells (j := j) (by rw [hl']; exact hjl)
      obtain ⟨g, rfl, hg1, hfz, hz, he⟩ := hcell
      have hs1 := hsh j hjl
      obtain ⟨f1, f2⟩ := HF.out j hjl
      have hcs := cntV_step rs j hjl
      have hcl := cntV_le rs (j + 1)
      have hx : cntR (rs.getD j zR) = 1 + (rs.getD j zR).mag.length + (rs.getD j zR).den.length := rfl
      have hK0 : 0 ≤ k + (cntV (rs.take j) : Nat) := by omega
      have hK1 : k + (cntV (rs.take j) : Nat) ≤ 4611686018426339328 - 1 - (rs.getD j zR).mag.length - (rs.getD j zR).den.length := by have := HC.out; omega
      have HT := Lib.hid (show k + (cntV (rs.take (j + 1)) : Nat) = k + (cntV (rs.take j) : Nat) + 1 + (rs.getD j zR).mag.length + (rs.getD j zR).den.length by omega)
      have HG := Lib.hid (fun (hap : Aps ps) => HS.out hap)
      have HM := Lib.hid (show mixV rs k (j + 1) = (mixV rs k j).set j (mkRat (rs.getD j zR) (k + (cntV (rs.take j) : Nat))) from mixV_succ hjl)
      have HML := Lib.hid (show (mixV rs k j).length = n by rw [mixV_len]; exact HN.out)
      clear hcs hcl hx hsh HS hjl
      generalize rs.getD j zR = x at *
      generalize k + (cntV (rs.take j) : Nat) = K at *
      generalize rs'.getD j zR = x' at *
      have HP := Lib.hid (rfl : ps.getD j zP = ps.getD j zP)
      obtain ⟨g0, g1, g2, i1, i2⟩ := he
      obtain ⟨m1, m2⟩ := EA.head hz ⟨g0, g1, g2, i1, i2⟩
      have hs2 := congrArg Prod.fst hs1
      have hs3 := congrArg Prod.snd hs1
      simp only [shp] at hs2 hs3
      have HM1 := Lib.hid (fun (zs : List Int) (hz : zs.length = x.mag.length) W (h : PO W lo hi (ps.getD j zP).1 zs) => hz ▸ markIntS zs (K + 1) (by omega) (by omega) (by omega) lo hi _ W h)
      have HM2 := Lib.hid (fun (zs : List Int) (hz : zs.length = x.den.length) W (h : PO W lo hi (ps.getD j zP).2 zs) => hz ▸ markIntS zs (K + 1 + x.mag.length) (by omega) (by omega) (by omega) lo hi _ W h)
      have ht1 := Turn.setSign g0 (K % 3 == 0)
      have hf1 := (Frame.refl (fun b => b = g) wr).setCell (p := ⟨g, j * 3, none⟩) rfl (.bool (K % 3 == 0))
      obtain ⟨za, hza, ia⟩ := i1.turn ht1
      obtain ⟨zb, hzb, ib⟩ := i2.turn ht1
      clear i1 i2
      obtain ⟨va, hva⟩ : ∃ y, (ps.getD j zP).1 = y := ⟨_, rfl⟩
      obtain ⟨vb, hvb⟩ : ∃ y, (ps.getD j zP).2 = y := ⟨_, rfl⟩
      rw [hva] at g1 m1 HM1 ia
      rw [hvb] at g2 m2 HM2 ib
      have HVA := Lib.hid hva
      have HVB := Lib.hid hvb
      have HZA := Lib.hid (hza.trans hs2)
      have HZB := Lib.hid (hzb.trans hs3)
      obtain ⟨A1, c1, e1, _⟩ := ia.form
      obtain ⟨B1, d1, e2, _⟩ := ib.form
      subst e1 e2
      clear hva hvb hza hzb hs1 hs2 hs3 HP hz
      have q0 := hfz (j * 3)
      have HFZ := Lib.hid (fun o => (show (wr.setCell ⟨g, j * 3, none⟩ (.bool (K % 3 == 0))).frozen? ⟨g, o, none⟩ = wr.frozen? ⟨g, o, none⟩ by simp))
      have HCO := Lib.hid (fun o (ho : o ≠ j * 3) => (show (wr.setCell ⟨g, j * 3, none⟩ (.bool (K % 3 == 0))).cell? ⟨g, o, none⟩ = wr.cell? ⟨g, o, none⟩ from World.cell?_setCell_other _ _ _ _ (by intro e; injection e with _ e; exact ho e.symm)))
      have HC0 := Lib.hid (show (wr.setCell ⟨g, j * 3, none⟩ (.bool (K % 3 == 0))).cell? ⟨g, j * 3, none⟩ = some (.bool (K % 3 == 0)) from World.cell?_setCell_same _ _ _ g0)
      have hs1 : wr.heap.size ≤ (wr.setCell ⟨g, j * 3, none⟩ (.bool (K % 3 == 0))).heap.size := by simp
      clear hfz
      go_wp2_with fail
      have g2' := (HCO.out (j * 3 + 2) (by omega)).trans g2
      clear g0 g1 g2 q0
      generalize wr.setCell ⟨g, j * 3, none⟩ (.bool (K % 3 == 0)) = w1 at *
      have hg2 : g < w1.heap.size := Nat.lt_of_lt_of_le hg1 hs1
      refine (HM1.out za HZA.out _ ia).mono ?_
      rintro e w2 ⟨rfl, hfA, htA, iA⟩
      have g2'' := (hfA.cell hg2 m1).trans g2'
      obtain ⟨zb', hzb', ib'⟩ := ib.turn htA
      have HZB' := Lib.hid (hzb'.trans HZB.out)
      clear hzb' g2'
      go_wp2_with fail
      refine (HM2.out zb' HZB'.out _ ib').mono ?_
      rintro e w3 ⟨rfl, hfB, htB, iB⟩
      clear g2''
      go_wp2
      go_roundw
      case rel => 
        have hnn : n ≠ 0 := by omega
        refine ⟨j + 1, by omega, by rw [HT.out], rfl, ((hfr.trans (hf1.mono (fun b hb => ?_))).trans (hfA.mono (fun b hb => ?_))).trans (hfB.mono (fun b hb => ?_)), ((htn.trans ht1).trans htA).trans htB, Lib.hid (fun hap => ?_)⟩
        · rw [hb]; exact .inl (blk_slice hnn)
        · exact .inr ⟨j, by have := HV.out.1; have := HN.out; omega, .inl (by rw [HVA.out]; exact hb)⟩
        · exact .inr ⟨j, by have := HV.out.1; have := HN.out; omega, .inr (by rw [HVB.out]; exact hb)⟩
        · rw [HM.out]
          have hpl : j < ps.length := by have := HV.out.1; have := HN.out; omega
          have hapj := hap.1 j hpl
          rw [HVA.out, HVB.out] at hapj
          have hF : Frame (fun b => b = g ∨ blk (ps.getD j zP).1 = some b ∨ blk (ps.getD j zP).2 = some b) wr w3 :=
            ((hf1.mono (fun b hb => .inl hb)).trans (hfA.mono (fun b hb => .inr (.inl (by rw [HVA.out]; exact hb))))).trans (hfB.mono (fun b hb => .inr (.inr (by rw [HVB.out]; exact hb))))
          have hcc : ∀ o, w3.cell? ⟨g, o, none⟩ = w1.cell? ⟨g, o, none⟩ := fun o => (hfB.cell (Nat.lt_of_lt_of_le hg2 hfA.size) m2).trans (hfA.cell hg2 m1)
          refine (HG.out hap).put (by rw [HML.out]; omega) hap hF (fun b hb => hb) (fun o => ?_) (fun o ho => (hcc o).trans (HCO.out o ho)) ((hcc _).trans HC0.out) ?_ ?_
          · exact (hfB.frozen (Nat.lt_of_lt_of_le hg2 hfA.size) m2).trans ((hfA.frozen hg2 m1).trans (HFZ.out o))
          · rw [HVA.out]
            exact iA.frame hfB (fun b h1 h2 => hapj.ne_blk h1 h2 rfl)
          · rw [HVB.out]
            exact iB
      case measure => simp [intOf]; omega
end Go.Proofs.YtlpomcihkjiokaaGreat

namespace Go.Proofs.YtlpomcihkjiokaaGreat
open Go.RowKit Go.Joins

structure RowD where
  cols : List Int
  vals : List RatD
def zRow : RowD := ⟨[], []⟩
def RowD.size (x : RowD) : Nat := x.cols.length + vsz x.vals
def RowD.same (x y : RowD) : Bool := x.cols == y.cols && vsame x.vals y.vals
def RowD.few (x : RowD) : Prop := x.cols.length ≤ 1048576 ∧ Few x.vals
theorem RowD.same_refl (x : RowD) : x.same x = true := by simp [RowD.same, vsame_refl]
theorem RowD.few_of {x : RowD} (h : x.size ≤ 1048576) : x.few := by
  simp only [RowD.size] at h
  exact ⟨by omega, few_of_vsz (by omega)⟩

def RowAt (w : World) (b off : Nat) (x : RowD) : Prop :=
  ∃ A c B d, w.cell? ⟨b, off, none⟩ = some (.slice A x.cols.length c) ∧ w.cell? ⟨b, off + 1, none⟩ = some (.slice B x.vals.length d) ∧
    (x.cols.length ≤ c ∧ c ≤ maxLen ∧ x.vals.length ≤ d ∧ d ≤ maxLen) ∧ RI w A x.cols ∧ VI w B x.vals
def RowV (w : World) (v : Value) (x : RowD) : Prop :=
  ∃ A c B d, v = .agg #[.slice A x.cols.length c, .slice B x.vals.length d] ∧
    (x.cols.length ≤ c ∧ c ≤ maxLen ∧ x.vals.length ≤ d ∧ d ≤ maxLen) ∧ RI w A x.cols ∧ VI w B x.vals
theorem RowV.later {w w' : World} {v : Value} {x : RowD} (h : RowV w v x) (hb : Below w.heap.size w w') : RowV w' v x := by
  obtain ⟨A, c, B, d, rfl, hl, h1, h2⟩ := h
  exact ⟨A, c, B, d, rfl, hl, h1.later hb, h2.later hb⟩
theorem RowAt.stays : Stays RowAt := by
  intro w w' b o x hlt h hb
  obtain ⟨A, c, B, d, h0, h1, hl, h3, h4⟩ := h
  exact ⟨A, c, B, d, cell_later hlt h0 hb, cell_later hlt h1 hb, hl, h3.later hb, h4.later hb⟩
/-- A row of the call's own: as a value, in memory. -/
def RowO (w : World) (base : Nat) (v : Value) (x : RowD) : Prop := ∃ va vb, v = .agg #[va, vb] ∧ RO w base va x.cols ∧ VO w base vb x.vals
def RowOAt (w : World) (base b off : Nat) (x : RowD) : Prop :=
  ∃ va vb, w.cell? ⟨b, off, none⟩ = some va ∧ w.cell? ⟨b, off + 1, none⟩ = some vb ∧ RO w base va x.cols ∧ VO w base vb x.vals
theorem RowO.reads {w : World} {base : Nat} {v : Value} {x : RowD} (h : RowO w base v x) : RowV w v x := by
  obtain ⟨va, vb, rfl, h1, h2⟩ := h
  obtain ⟨A, c, rfl, hl, hc, _⟩ := id h1
  obtain ⟨B, d, rfl, hm, hd⟩ := h2.form
  exact ⟨A, c, B, d, rfl, ⟨hl, hc, hm, hd⟩, h1.reads, h2.reads⟩
theorem RowOAt.reads {w : World} {base b off : Nat} {x : RowD} (h : RowOAt w base b off x) : RowAt w b off x := by
  obtain ⟨va, vb, h0, h1, h2, h3⟩ := h
  obtain ⟨A, c, rfl, hl, hc, _⟩ := id h2
  obtain ⟨B, d, rfl, hm, hd⟩ := h3.form
  exact ⟨A, c, B, d, h0, h1, ⟨hl, hc, hm, hd⟩, h2.reads, h3.reads⟩
theorem RowOAt.later {w w' : World} {base b off : Nat} {x : RowD} (h : RowOAt w base b off x) (hlt : b < w.heap.size) (hb : Below w.heap.size w w') : RowOAt w' base b off x := by
  obtain ⟨va, vb, h0, h1, h2, h3⟩ := h
  exact ⟨va, vb, cell_later hlt h0 hb, cell_later hlt h1 hb, h2.later hb, h3.later hb⟩
theorem Slots.c2 {w : World} {g : Nat} {a b : Value} (h : Slots w g [a, b]) : w.cell? ⟨g, 0, none⟩ = some a ∧ w.cell? ⟨g, 1, none⟩ = some b ∧ w.frozen? ⟨g, 0, none⟩ = false ∧ w.frozen? ⟨g, 1, none⟩ = false :=
  ⟨h.2.1 0 (by simp), h.2.1 1 (by simp), h.2.2 0, h.2.2 1⟩

set_option maxHeartbeats 800000 in
theorem szRow (x : RowD) (v : Value) (left : Int) (h0 : 0 ≤ left) (h1 : left ≤ 1048576) (w : World) (hv : RowV w v x) :
    Calls Tryz.prog 148 #[v, .int .i64 left] w fun r w' => r = .returned (.int .i64 (szI x.size left)) ∧ Below w.heap.size w w' := by
  obtain ⟨A, c, B, d, rfl, ⟨hc1, hc2, hd1, hd2⟩, hx, hr⟩ := hv
  have q1 := Lib.hid (fun left h0 h1 W => szIntS x.cols.length c (Nat.le_trans hc1 hc2) left h0 h1 A W)
  have q2 := Lib.hid (fun left h0 h1 W hW => szRatS x.vals _ d rfl (Nat.le_trans hd1 hd2) left h0 h1 B W (hr.later (w' := W) hW))
  have HS := Lib.hid (show x.size = x.cols.length + vsz x.vals from rfl)
  clear hx hr hc1 hc2 hd1 hd2
  generalize x.size = sz at *
  generalize x.cols.length = nx at *
  generalize x.vals.length = nr at *
  generalize vsz x.vals = vr at *
  by_cases c1 : (nx : Int) ≤ left
  · have s1 : szI nx left = left - nx := szI_pos c1
    have t1 : 0 ≤ left - nx := by omega
    have z1 := q1.out left h0 h1
    rw [s1] at z1
    replace z1 := Lib.hid z1
    by_cases c2 : (vr : Int) ≤ left - nx
    · have s2 : szI vr (left - nx) = left - nx - vr := szI_pos c2
      have t2 : 0 ≤ left - nx - vr := by omega
      have HZ := Lib.hid (show szI sz left = left - nx - vr by rw [HS.out, szI_pos (by omega)]; omega)
      have z2 := q2.out (left - nx) t1 (by omega)
      rw [s2] at z2
      replace z2 := Lib.hid z2
      clear s1 s2 q1 q2
      go_enter Tryz.func148, Tryz.ntmps148
      go_wp2_with fail
      refine (z1.out _).mono ?_
      rintro r1 w1 ⟨rfl, rfl⟩
      go_wp2_with fail
      refine (z2.out _ (below_alloc1 _ _)).mono ?_
      rintro r1 w2 ⟨rfl, hb2⟩
      replace hb2 := box_below hb2
      go_wp2
      go_ret
      exact ⟨ret_int HZ.out.symm, hb2⟩
    · have s2 : szI vr (left - nx) = -1 := szI_neg (by omega)
      have HZ := Lib.hid (show szI sz left = -1 from szI_neg (by have := HS.out; omega))
      have z2 := q2.out (left - nx) t1 (by omega)
      rw [s2] at z2
      replace z2 := Lib.hid z2
      clear s1 s2 q1 q2
      go_enter Tryz.func148, Tryz.ntmps148
      go_wp2_with fail
      refine (z1.out _).mono ?_
      rintro r1 w1 ⟨rfl, rfl⟩
      go_wp2_with fail
      refine (z2.out _ (below_alloc1 _ _)).mono ?_
      rintro r1 w2 ⟨rfl, hb2⟩
      replace hb2 := box_below hb2
      go_wp2
      go_ret
      exact ⟨ret_int HZ.out.symm, hb2⟩
  · have s1 : szI nx left = -1 := szI_neg (by omega)
    have HZ := Lib.hid (show szI sz left = -1 from szI_neg (by have := HS.out; omega))
    have z1 := q1.out left h0 h1
    rw [s1] at z1
    replace z1 := Lib.hid z1
    clear s1 q1 q2
    go_enter Tryz.func148, Tryz.ntmps148
    go_wp2_with fail
    refine (z1.out _).mono ?_
    rintro r1 w1 ⟨rfl, rfl⟩
    go_wp2
    go_ret
    exact ⟨ret_int HZ.out.symm, below_alloc1 _ _⟩

set_option maxHeartbeats 800000 in
theorem toRow (x : RowD) (v : Value) (w : World) (hv : RowV w v x) (hf : x.few) :
    Calls Tryz.prog 157 #[v] w fun e w' => ∃ v', e = .returned v' ∧ RowO w' w.heap.size v' x ∧ Below w.heap.size w w' := by
  obtain ⟨A, c, B, d, rfl, _, hx, hr⟩ := hv
  have q1 := Lib.hid (fun W hW => toIntS x.cols _ c rfl hf.1 A W (hx.later (w' := W) hW))
  have q2 := Lib.hid (fun W hW => toRatS x.vals _ d rfl hf.2 B W (hr.later (w' := W) hW))
  clear hx hr
  go_enter Tryz.func157, Tryz.ntmps157
  go_wp2_with fail
  refine (q1.out _ (below_alloc3 _ _ _ _)).mono ?_
  rintro z w1 ⟨v1, rfl, hv1, hb1⟩
  have S3 := Slots.new hb1 (g := w.heap.size + 1 + 1) (by simp)
  have S2 := Slots.new (below_step hb1) (g := w.heap.size + 1) (by simp)
  have S1 := Slots.new (below_step (below_step hb1)) (g := w.heap.size) (by simp)
  replace hb1 := below_trans (below_alloc3 _ _ _ _) hb1
  replace hv1 := hv1.mono (base' := w.heap.size + 1 + 1 + 1) (by simp)
  obtain ⟨A1, c1, rfl, hc1⟩ := hv1.form
  obtain ⟨a0, a1, y0, y1⟩ := S3.c2
  obtain ⟨_, d1, _, _⟩ := S1.c2
  go_wp2_with fail
  clear a0 a1 y0 y1 d1
  replace S3 := S3.set 0 (by simp) (.slice A1 x.cols.length c1)
  replace S2 := S2.far (p := ⟨w.heap.size + 1 + 1, 0, none⟩) (by simp) (.slice A1 x.cols.length c1)
  replace hv1 := hv1.far (p := ⟨w.heap.size + 1 + 1, 0, none⟩) (by simp) (.slice A1 x.cols.length c1)
  replace hb1 := hb1.setCell (p := ⟨w.heap.size + 1 + 1, 0, none⟩) (by simp; omega) (.slice A1 x.cols.length c1)
  clear S1
  generalize w1.setCell ⟨w.heap.size + 1 + 1, 0, none⟩ (.slice A1 x.cols.length c1) = w2 at *
  have hz2 : w.heap.size + 1 + 1 < w2.heap.size := S3.1
  refine (q2.out _ hb1).mono ?_
  rintro z w3 ⟨v2, rfl, hv2, hb2⟩
  replace S3 := S3.later hb2
  replace S2 := S2.later hb2
  replace hv1 := hv1.later hb2
  replace hv2 := hv2.mono (base' := w.heap.size + 1 + 1 + 1) (by omega)
  replace hb1 := below_trans hb1 hb2
  clear hb2
  obtain ⟨A2, c2, rfl, hc2, hc2'⟩ := hv2.form
  obtain ⟨a0, a1, y0, y1⟩ := S3.c2
  obtain ⟨b0, b1, x0, x1⟩ := S2.c2
  go_wp2
  refine bodyPost_ret (v := .agg #[.slice A1 x.cols.length c1, .slice A2 x.vals.length c2]) (by simp [results, Tryz.results157, go_sem, b0, b1]) rfl ⟨_, rfl, ⟨_, _, rfl, ?_, ?_⟩, ?_⟩
  · exact (((hv1.far (by simp) _).far (by simp) _).far (by simp) _).mono (by omega)
  · exact (((hv2.far (by simp) _).far (by simp) _).far (by simp) _).mono (by omega)
  · exact ((hb1.setCell (by simp; omega) _).setCell (by simp) _).setCell (by simp) _

end Go.Proofs.YtlpomcihkjiokaaGreat

namespace Go.Proofs.YtlpomcihkjiokaaGreat
open Go.RowKit Go.Joins

set_option maxHeartbeats 800000 in
theorem eqRow (x y : RowD) (u v : Value) (w : World) (hu : RowV w u x) (hv : RowV w v y) (hf : x.few) (hg : y.few) :
    Calls Tryz.prog 162 #[u, v] w fun e w' => e = .returned (.bool (x.same y)) ∧ Below w.heap.size w w' := by
  obtain ⟨A, c, B, d, rfl, _, hx, hr⟩ := hu
  obtain ⟨A', c', B', d', rfl, _, hx', hr'⟩ := hv
  have q1 := Lib.hid (fun W hW => eqIntS x.cols y.cols _ _ c c' rfl rfl hf.1 hg.1 A A' W (hx.later (w' := W) hW) (hx'.later hW))
  have q2 := Lib.hid (fun W hW => eqRatS x.vals y.vals _ _ d d' rfl rfl hf.2 hg.2 B B' W (hr.later (w' := W) hW) (hr'.later hW))
  have HS := Lib.hid (show x.same y = (x.cols == y.cols && vsame x.vals y.vals) from rfl)
  clear hx hr hx' hr' hf hg
  generalize x.same y = res at *
  generalize (x.cols == y.cols) = b1 at *
  generalize vsame x.vals y.vals = b2 at *
  generalize x.cols.length = n1 at *
  generalize x.vals.length = n2 at *
  generalize y.cols.length = m1 at *
  generalize y.vals.length = m2 at *
  cases b1
  · skip
    go_enter Tryz.func162, Tryz.ntmps162
    go_wp2_with fail
    refine (q1.out _ (below_alloc2 _ _ _)).mono ?_
    rintro z w1 ⟨rfl, k, rfl⟩
    go_wp2
    go_ret
    exact ⟨ret_bool (by rw [HS.out]; rfl), (below_alloc2 _ _ _).trans (below_draws _ _ _)⟩
  · cases b2
    · skip
      go_enter Tryz.func162, Tryz.ntmps162
      go_wp2_with fail
      refine (q1.out _ (below_alloc2 _ _ _)).mono ?_
      rintro z w1 ⟨rfl, k, rfl⟩
      go_wp2_with fail
      refine (q2.out _ ((below_alloc2 _ _ _).trans (below_draws _ _ _))).mono ?_
      rintro z w2 ⟨rfl, hb2⟩
      replace hb2 := below_trans ((below_alloc2 _ _ _).trans (below_draws _ _ _)) hb2
      go_wp2
      go_ret
      exact ⟨ret_bool (by rw [HS.out]; rfl), hb2⟩
    · skip
      go_enter Tryz.func162, Tryz.ntmps162
      go_wp2_with fail
      refine (q1.out _ (below_alloc2 _ _ _)).mono ?_
      rintro z w1 ⟨rfl, k, rfl⟩
      go_wp2_with fail
      refine (q2.out _ ((below_alloc2 _ _ _).trans (below_draws _ _ _))).mono ?_
      rintro z w2 ⟨rfl, hb2⟩
      replace hb2 := below_trans ((below_alloc2 _ _ _).trans (below_draws _ _ _)) hb2
      go_wp2
      go_ret
      exact ⟨ret_bool (by rw [HS.out]; rfl), hb2⟩

end Go.Proofs.YtlpomcihkjiokaaGreat
