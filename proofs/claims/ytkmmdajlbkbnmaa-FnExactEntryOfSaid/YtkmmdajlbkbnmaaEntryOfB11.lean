/-
  Walks: whether a vector is valid, by the program and by the reference.
  Walks: the law's own functions on a matrix's row: size, copy, comparison.
  Walks: comparison of rows.
  Walks: the law's own functions on slices of rows, and their comparison by the library.
  Walks: matrices: size, copy, comparison by the law and by the program.
-/
import Derived.Test.YtkmmdajlbkbnmaaEntryOfB10
namespace Go.Proofs.Ytkmmdajlbkbnmaa
open Go.RowKit Go.Joins

theorem any_no {α : Type} {P : α → Bool} {d : α} {l : List α} (h : ∀ j, j < l.length → P (l.getD j d) = false) : l.any P = false := by
  rw [List.any_eq_false]
  intro x hx
  obtain ⟨i, hi, rfl⟩ := List.mem_iff_getElem.1 hx
  have := h i hi
  simpa [hi] using this
theorem any_yes {α : Type} {P : α → Bool} {d : α} {l : List α} {j : Nat} (hj : j < l.length) (h : P (l.getD j d) = true) : l.any P = true := by
  rw [List.any_eq_true]
  exact ⟨l[j], List.getElem_mem hj, by simpa [hj] using h⟩
theorem all_not {α : Type} {P : α → Bool} {l : List α} : (l.all P) = !(l.any fun x => !P x) := by simp [List.all_eq_not_any_not]

/-- What a function says of a fraction. -/
def Says (f : FuncId) (P : RatD → Bool) : Prop := ∀ (x : RatD) (v : Value) (W : World), RatV W v x → x.mag.length ≤ 1048576 → x.den.length ≤ 1048576 → Calls Try.prog f #[v] W fun e w' => e = .returned (.bool (P x)) ∧ Below W.heap.size W w'

set_option maxRecDepth 100000 in
set_option maxHeartbeats 800000 in
theorem iIndexR (f : FuncId) (P : RatD → Bool) (eg : ∀ (args : Array Value) (w : World), (callFunc f args).run Try.prog w = .ok (.enter f args) w) (hf : Says f P) (rs : List RatD) (n c : Nat) (hn : rs.length = n) (hfew : Few rs) (A : Option Addr) (w : World) (ha : VI w A rs) :
    Calls Try.prog 113 #[.slice A n c, .func (.func f) #[] #[]] w fun e w' => ∃ r : Int, e = .returned (.int .i64 r) ∧ (rs.any P = decide (0 ≤ r)) ∧ Below w.heap.size w w' := by
  have hn1 : n ≤ 1048576 := hn ▸ hfew.1
  have HF := Lib.hid hfew.2
  have HN := Lib.hid hn; clear hn hfew
  go_enter Try.func113, Try.ntmps113
  go_wp2_with fail
  go_loopw [8] (fun u wr => ∃ k : Nat, k ≤ n ∧ u = .int .i64 k ∧ (∀ j, j < k → P (rs.getD j zR) = false) ∧ Below w.heap.size w wr) (fun u _ => n - (intOf u).toNat)
  case atStart => exact ⟨0, Nat.zero_le _, rfl, fun j hj => by omega, Below.refl _ _⟩
  case round =>
    obtain ⟨k, hk, rfl, ht, hbel⟩ := hrel
    have HT := Lib.hid ht; clear ht
    by_cases hkn : k = n
    · subst hkn
      have h0 : decide ((k : Int) < (k : Int)) = false := by simp
      go_wp2
      go_ret
      refine ⟨-1, rfl, ?_, hbel⟩
      rw [any_no (d := zR) (fun j hj => HT.out j (by have := HN.out; omega))]; rfl
    · have hlt : (k : Int) < (n : Int) := by omega
      have hkl : k < rs.length := by rw [HN.out]; omega
      obtain ⟨b, off, rfl, hb1, hat⟩ := ha.cells k hkl
      have hat1 := RatAt.stays _ _ _ _ _ hb1 hat hbel
      obtain ⟨f1, f2⟩ := HF.out k hkl
      have HY := Lib.hid (show P (rs.getD k zR) = true → rs.any P = true from fun h => any_yes hkl h)
      have HG := Lib.hid (show P (rs.getD k zR) = false → ∀ j, j < k + 1 → P (rs.getD j zR) = false from fun h j hj => (Nat.lt_succ_iff_lt_or_eq.1 hj).elim (HT.out j) (fun e => e ▸ h))
      clear hat hkl
      generalize rs.getD k zR = x at *
      obtain ⟨A1, c1, B1, d1, g0, g1, g2, hcd, hr1, hr2⟩ := hat1
      have HE := Lib.hid (fun W (hW : Below wr.heap.size wr W) => hf x (.agg #[.bool x.neg, .slice A1 x.mag.length c1, .slice B1 x.den.length d1]) W ⟨_, _, _, _, rfl, hcd, hr1.later hW, hr2.later hW⟩ f1 f2)
      clear hcd hr1 hr2 f1 f2
      generalize P x = q at *
      cases q
      · have HG2 := Lib.hid (HG.out (by trivial))
        go_wp2_with fail
        refine (HE.out _ (Below.refl _ _)).mono ?_
        rintro e w1 ⟨rfl, hb⟩
        have hbel2 := hbel.trans (below_le hb hbel.size)
        clear hb hbel g0 g1 g2
        go_wp2
        go_roundw
        case rel => exact ⟨k + 1, by omega, rfl, HG2.out, hbel2⟩
        case measure => simp [intOf]; omega
      · have HY2 := Lib.hid (HY.out (by trivial))
        go_wp2_with fail
        refine (HE.out _ (Below.refl _ _)).mono ?_
        rintro e w1 ⟨rfl, hb⟩
        have hbel2 := hbel.trans (below_le hb hbel.size)
        clear hb hbel g0 g1 g2
        go_wp2
        go_ret
        exact ⟨_, rfl, by rw [HY2.out]; simp, hbel2⟩

set_option maxHeartbeats 400000 in
theorem iContainsR (f : FuncId) (P : RatD → Bool) (eg : ∀ (args : Array Value) (w : World), (callFunc f args).run Try.prog w = .ok (.enter f args) w) (hf : Says f P) (rs : List RatD) (n c : Nat) (hn : rs.length = n) (hfew : Few rs) (A : Option Addr) (w : World) (ha : VI w A rs) :
    Calls Try.prog 82 #[.slice A n c, .func (.func f) #[] #[]] w fun e w' => e = .returned (.bool (rs.any P)) ∧ Below w.heap.size w w' := by
  have HC := Lib.hid (iIndexR f P eg hf rs n c hn hfew A w ha)
  clear hf hn hfew ha eg
  go_enter Try.func82, Try.ntmps82
  go_wp2_with fail
  refine HC.out.mono ?_
  rintro e w1 ⟨r, rfl, hd, hb⟩
  have HD := Lib.hid hd; clear hd
  go_wp2
  go_ret
  exact ⟨ret_bool (by rw [HD.out]), hb⟩

def vok (rs : List RatD) : Bool := rs.all FE.ratOk
theorem vok_any (rs : List RatD) : (rs.any fun x => !FE.ratOk x) = !vok rs := by simp [vok, List.all_eq_not_any_not]

set_option maxHeartbeats 400000 in
theorem says_areRats : Says 111 fun x => !FE.ratOk x := by
  intro x v W hv h1 h2
  have HC := Lib.hid (fun w' hb => iRatOk x v w' (hv.later (w' := w') hb) h1 h2)
  obtain ⟨A, c, B, d, rfl, _, _, _⟩ := hv
  go_enter Try.func111, Try.ntmps111
  go_wp2_with fail
  refine (HC.out _ (below_alloc1 _ _)).mono ?_
  rintro e w1 ⟨rfl, hb⟩
  replace hb := box_below hb
  go_wp2
  go_ret
  exact ⟨rfl, hb⟩

set_option maxHeartbeats 400000 in
theorem iAreRats (rs : List RatD) (n c : Nat) (hn : rs.length = n) (hfew : Few rs) (A : Option Addr) (w : World) (ha : VI w A rs) :
    Calls Try.prog 81 #[.slice A n c] w fun e w' => e = .returned (.bool (vok rs)) ∧ Below w.heap.size w w' := by
  have HC := iContainsR _ _ Try.call111 says_areRats rs n c hn hfew A w ha
  rw [vok_any] at HC
  replace HC := Lib.hid HC
  clear hn hfew ha
  go_enter Try.func81, Try.ntmps81
  go_wp2_with fail
  refine HC.out.mono ?_
  rintro e w1 ⟨rfl, hb⟩
  go_wp2
  go_ret
  exact ⟨ret_bool (by simp), hb⟩

set_option maxHeartbeats 400000 in
theorem iIsVector (rs : List RatD) (n c : Nat) (m : Int) (hn : rs.length = n) (hfew : Few rs) (A : Option Addr) (w : World) (ha : VI w A rs) :
    Calls Try.prog 80 #[.slice A n c, .int .i64 m] w fun e w' => e = .returned (.bool (decide ((rs.length : Int) = m) && vok rs)) ∧ Below w.heap.size w w' := by
  have HC := Lib.hid (iAreRats rs n c hn hfew A w ha)
  rw [hn]
  clear hn hfew ha
  by_cases hm : (n : Int) = m
  · subst hm
    have h1 : ((n : Int) == n) = true := by simp
    go_enter Try.func80, Try.ntmps80
    go_wp2_with fail
    refine HC.out.mono ?_
    rintro e w1 ⟨rfl, hb⟩
    go_wp2
    go_ret
    exact ⟨ret_bool (by simp), hb⟩
  · have h1 : ((n : Int) == m) = false := by simp [hm]
    have HF := Lib.hid (show (decide ((n : Int) = m) && vok rs) = false by simp [hm])
    clear hm
    go_enter Try.func80, Try.ntmps80
    go_wp2
    go_ret
    exact ⟨ret_bool HF.out.symm, Below.refl _ _⟩

set_option maxHeartbeats 800000 in
theorem sValid (rs : List RatD) (n c : Nat) (hn : rs.length = n) (hfew : Few rs) (A : Option Addr) (w : World) (ha : VI w A rs) :
    Calls Try.prog 77 #[.slice A n c] w fun e w' => e = .returned (.bool (vok rs)) ∧ Below w.heap.size w w' := by
  have hn1 : n ≤ 1048576 := hn ▸ hfew.1
  have HF := Lib.hid hfew.2
  have HN := Lib.hid hn; clear hn hfew
  go_enter Try.func77, Try.ntmps77
  go_wp2_with fail
  go_loopw [7] (fun u wr => ∃ k : Nat, k ≤ n ∧ u = .int .i64 k ∧ (∀ j, j < k → (!FE.ratOk (rs.getD j zR)) = false) ∧ Below w.heap.size w wr) (fun u _ => n - (intOf u).toNat)
  case atStart => exact ⟨0, Nat.zero_le _, rfl, fun j hj => by omega, Below.refl _ _⟩
  case round =>
    obtain ⟨k, hk, rfl, ht, hbel⟩ := hrel
    have HT := Lib.hid ht; clear ht
    by_cases hkn : k = n
    · subst hkn
      have h0 : decide ((k : Int) < (k : Int)) = false := by simp
      have HR := Lib.hid (show vok rs = true by
        have := any_no (P := fun x => !FE.ratOk x) (d := zR) (fun j hj => HT.out j (by have := HN.out; omega))
        rw [vok_any] at this
        simpa using this)
      go_wp2
      go_ret
      exact ⟨ret_bool HR.out.symm, hbel⟩
    · have hlt : (k : Int) < (n : Int) := by omega
      have hkl : k < rs.length := by rw [HN.out]; omega
      obtain ⟨b, off, rfl, hb1, hat⟩ := ha.cells k hkl
      have hat1 := RatAt.stays _ _ _ _ _ hb1 hat hbel
      obtain ⟨f1, f2⟩ := HF.out k hkl
      have HY := Lib.hid (show (!FE.ratOk (rs.getD k zR)) = true → vok rs = false from fun h => by
        have := any_yes (P := fun x => !FE.ratOk x) hkl h
        rw [vok_any] at this
        simpa using this)
      have HG := Lib.hid (show (!FE.ratOk (rs.getD k zR)) = false → ∀ j, j < k + 1 → (!FE.ratOk (rs.getD j zR)) = false from fun h j hj => (Nat.lt_succ_iff_lt_or_eq.1 hj).elim (HT.out j) (fun e => e ▸ h))
      clear hat hkl
      generalize rs.getD k zR = x at *
      obtain ⟨A1, c1, B1, d1, g0, g1, g2, hcd, hr1, hr2⟩ := hat1
      have HE := Lib.hid (fun W (hW : Below wr.heap.size wr W) => sRatOk x (.agg #[.bool x.neg, .slice A1 x.mag.length c1, .slice B1 x.den.length d1]) W ⟨_, _, _, _, rfl, hcd, hr1.later hW, hr2.later hW⟩ f1 f2)
      clear hcd hr1 hr2 f1 f2
      obtain ⟨q, hq⟩ : ∃ q, FE.ratOk x = q := ⟨_, rfl⟩
      rw [hq] at HE HY HG
      clear hq
      cases q
      · have HY2 := Lib.hid (HY.out rfl)
        go_wp2_with fail
        refine (HE.out _ (below_alloc1 _ _)).mono ?_
        rintro e w1 ⟨rfl, hb⟩
        have hbel2 := hbel.trans (below_le (box_below hb) hbel.size)
        clear hb hbel g0 g1 g2
        go_wp2
        go_ret
        exact ⟨ret_bool HY2.out.symm, hbel2⟩
      · have HG2 := Lib.hid (HG.out rfl)
        go_wp2_with fail
        refine (HE.out _ (below_alloc1 _ _)).mono ?_
        rintro e w1 ⟨rfl, hb⟩
        have hbel2 := hbel.trans (below_le (box_below hb) hbel.size)
        clear hb hbel g0 g1 g2
        go_wp2
        go_roundw
        case rel => exact ⟨k + 1, by omega, rfl, HG2.out, hbel2⟩
        case measure => simp [intOf]; omega
end Go.Proofs.Ytkmmdajlbkbnmaa

namespace Go.Proofs.Ytkmmdajlbkbnmaa
open Go.RowKit Go.Joins

structure RowD where
  cols : List Int
  vals : List RatD
def zRow : RowD := ⟨[], []⟩
def RowD.size (x : RowD) : Nat := x.cols.length + vsz x.vals
def RowD.same (x y : RowD) : Bool := x.cols == y.cols && vsame x.vals y.vals
def RowD.few (x : RowD) : Prop := x.cols.length ≤ 1048576 ∧ Few x.vals
theorem RowD.same_refl (x : RowD) : x.same x = true := by simp [RowD.same, vsame_refl]
theorem RowD.few_of {x : RowD} (h : x.size ≤ 1048576) : x.few := by
  simp only [RowD.size] at h
  exact ⟨by omega, few_of_vsz (by omega)⟩

def RowAt (w : World) (b off : Nat) (x : RowD) : Prop :=
  ∃ A c B d, w.cell? ⟨b, off, none⟩ = some (.slice A x.cols.length c) ∧ w.cell? ⟨b, off + 1, none⟩ = some (.slice B x.vals.length d) ∧
    (x.cols.length ≤ c ∧ c ≤ maxLen ∧ x.vals.length ≤ d ∧ d ≤ maxLen) ∧ RI w A x.cols ∧ VI w B x.vals
def RowV (w : World) (v : Value) (x : RowD) : Prop :=
  ∃ A c B d, v = .agg #[.slice A x.cols.length c, .slice B x.vals.length d] ∧
    (x.cols.length ≤ c ∧ c ≤ maxLen ∧ x.vals.length ≤ d ∧ d ≤ maxLen) ∧ RI w A x.cols ∧ VI w B x.vals
theorem RowV.later {w w' : World} {v : Value} {x : RowD} (h : RowV w v x) (hb : Below w.heap.size w w') : RowV w' v x := by
  obtain ⟨A, c, B, d, rfl, hl, h1, h2⟩ := h
  exact ⟨A, c, B, d, rfl, hl, h1.later hb, h2.later hb⟩
theorem RowAt.stays : Stays RowAt := by
  intro w w' b o x hlt h hb
  obtain ⟨A, c, B, d, h0, h1, hl, h3, h4⟩ := h
  exact ⟨A, c, B, d, cell_later hlt h0 hb, cell_later hlt h1 hb, hl, h3.later hb, h4.later hb⟩
/-- A row of the call's own: as a value, in memory. -/
def RowO (w : World) (base : Nat) (v : Value) (x : RowD) : Prop := ∃ va vb, v = .agg #[va, vb] ∧ RO w base va x.cols ∧ VO w base vb x.vals
def RowOAt (w : World) (base b off : Nat) (x : RowD) : Prop :=
  ∃ va vb, w.cell? ⟨b, off, none⟩ = some va ∧ w.cell? ⟨b, off + 1, none⟩ = some vb ∧ RO w base va x.cols ∧ VO w base vb x.vals
theorem RowO.reads {w : World} {base : Nat} {v : Value} {x : RowD} (h : RowO w base v x) : RowV w v x := by
  obtain ⟨va, vb, rfl, h1, h2⟩ := h
  obtain ⟨A, c, rfl, hl, hc, _⟩ := id h1
  obtain ⟨B, d, rfl, hm, hd⟩ := h2.form
  exact ⟨A, c, B, d, rfl, ⟨hl, hc, hm, hd⟩, h1.reads, h2.reads⟩
theorem RowOAt.reads {w : World} {base b off : Nat} {x : RowD} (h : RowOAt w base b off x) : RowAt w b off x := by
  obtain ⟨va, vb, h0, h1, h2, h3⟩ := h
  obtain ⟨A, c, rfl, hl, hc, _⟩ := id h2
  obtain ⟨B, d, rfl, hm, hd⟩ := h3.form
  exact ⟨A, c, B, d, h0, h1, ⟨hl, hc, hm, hd⟩, h2.reads, h3.reads⟩
theorem RowOAt.later {w w' : World} {base b off : Nat} {x : RowD} (h : RowOAt w base b off x) (hlt : b < w.heap.size) (hb : Below w.heap.size w w') : RowOAt w' base b off x := by
  obtain ⟨va, vb, h0, h1, h2, h3⟩ := h
  exact ⟨va, vb, cell_later hlt h0 hb, cell_later hlt h1 hb, h2.later hb, h3.later hb⟩
theorem Slots.c2 {w : World} {g : Nat} {a b : Value} (h : Slots w g [a, b]) : w.cell? ⟨g, 0, none⟩ = some a ∧ w.cell? ⟨g, 1, none⟩ = some b ∧ w.frozen? ⟨g, 0, none⟩ = false ∧ w.frozen? ⟨g, 1, none⟩ = false :=
  ⟨h.2.1 0 (by simp), h.2.1 1 (by simp), h.2.2 0, h.2.2 1⟩

set_option maxHeartbeats 800000 in
theorem szRow (x : RowD) (v : Value) (left : Int) (h0 : 0 ≤ left) (h1 : left ≤ 1048576) (w : World) (hv : RowV w v x) :
    Calls Try.prog 97 #[v, .int .i64 left] w fun r w' => r = .returned (.int .i64 (szI x.size left)) ∧ Below w.heap.size w w' := by
  obtain ⟨A, c, B, d, rfl, ⟨hc1, hc2, hd1, hd2⟩, hx, hr⟩ := hv
  have q1 := Lib.hid (fun left h0 h1 W => szIntS x.cols.length c (Nat.le_trans hc1 hc2) left h0 h1 A W)
  have q2 := Lib.hid (fun left h0 h1 W hW => szRatS x.vals _ d rfl (Nat.le_trans hd1 hd2) left h0 h1 B W (hr.later (w' := W) hW))
  have HS := Lib.hid (show x.size = x.cols.length + vsz x.vals from rfl)
  clear hx hr hc1 hc2 hd1 hd2
  generalize x.size = sz at *
  generalize x.cols.length = nx at *
  generalize x.vals.length = nr at *
  generalize vsz x.vals = vr at *
  by_cases c1 : (nx : Int) ≤ left
  · have s1 : szI nx left = left - nx := szI_pos c1
    have t1 : 0 ≤ left - nx := by omega
    have z1 := q1.out left h0 h1
    rw [s1] at z1
    replace z1 := Lib.hid z1
    by_cases c2 : (vr : Int) ≤ left - nx
    · have s2 : szI vr (left - nx) = left - nx - vr := szI_pos c2
      have t2 : 0 ≤ left - nx - vr := by omega
      have HZ := Lib.hid (show szI sz left = left - nx - vr by rw [HS.out, szI_pos (by omega)]; omega)
      have z2 := q2.out (left - nx) t1 (by omega)
      rw [s2] at z2
      replace z2 := Lib.hid z2
      clear s1 s2 q1 q2
      go_enter Try.func97, Try.ntmps97
      go_wp2_with fail
      refine (z1.out _).mono ?_
      rintro r1 w1 ⟨rfl, rfl⟩
      go_wp2_with fail
      refine (z2.out _ (below_alloc1 _ _)).mono ?_
      rintro r1 w2 ⟨rfl, hb2⟩
      replace hb2 := box_below hb2
      go_wp2
      go_ret
      exact ⟨ret_int HZ.out.symm, hb2⟩
    · have s2 : szI vr (left - nx) = -1 := szI_neg (by omega)
      have HZ := Lib.hid (show szI sz left = -1 from szI_neg (by have := HS.out; omega))
      have z2 := q2.out (left - nx) t1 (by omega)
      rw [s2] at z2
      replace z2 := Lib.hid z2
      clear s1 s2 q1 q2
      go_enter Try.func97, Try.ntmps97
      go_wp2_with fail
      refine (z1.out _).mono ?_
      rintro r1 w1 ⟨rfl, rfl⟩
      go_wp2_with fail
      refine (z2.out _ (below_alloc1 _ _)).mono ?_
      rintro r1 w2 ⟨rfl, hb2⟩
      replace hb2 := box_below hb2
      go_wp2
      go_ret
      exact ⟨ret_int HZ.out.symm, hb2⟩
  · have s1 : szI nx left = -1 := szI_neg (by omega)
    have HZ := Lib.hid (show szI sz left = -1 from szI_neg (by have := HS.out; omega))
    have z1 := q1.out left h0 h1
    rw [s1] at z1
    replace z1 := Lib.hid z1
    clear s1 q1 q2
    go_enter Try.func97, Try.ntmps97
    go_wp2_with fail
    refine (z1.out _).mono ?_
    rintro r1 w1 ⟨rfl, rfl⟩
    go_wp2
    go_ret
    exact ⟨ret_int HZ.out.symm, below_alloc1 _ _⟩

set_option maxHeartbeats 800000 in
theorem toRow (x : RowD) (v : Value) (w : World) (hv : RowV w v x) (hf : x.few) :
    Calls Try.prog 98 #[v] w fun e w' => ∃ v', e = .returned v' ∧ RowO w' w.heap.size v' x ∧ Below w.heap.size w w' := by
  obtain ⟨A, c, B, d, rfl, _, hx, hr⟩ := hv
  have q1 := Lib.hid (fun W hW => toIntS x.cols _ c rfl hf.1 A W (hx.later (w' := W) hW))
  have q2 := Lib.hid (fun W hW => toRatS x.vals _ d rfl hf.2 B W (hr.later (w' := W) hW))
  clear hx hr
  go_enter Try.func98, Try.ntmps98
  go_wp2_with fail
  refine (q1.out _ (below_alloc3 _ _ _ _)).mono ?_
  rintro z w1 ⟨v1, rfl, hv1, hb1⟩
  have S3 := Slots.new hb1 (g := w.heap.size + 1 + 1) (by simp)
  have S2 := Slots.new (below_step hb1) (g := w.heap.size + 1) (by simp)
  have S1 := Slots.new (below_step (below_step hb1)) (g := w.heap.size) (by simp)
  replace hb1 := below_trans (below_alloc3 _ _ _ _) hb1
  replace hv1 := hv1.mono (base' := w.heap.size + 1 + 1 + 1) (by simp)
  obtain ⟨A1, c1, rfl, hc1⟩ := hv1.form
  obtain ⟨a0, a1, y0, y1⟩ := S3.c2
  obtain ⟨_, d1, _, _⟩ := S1.c2
  go_wp2_with fail
  clear a0 a1 y0 y1 d1
  replace S3 := S3.set 0 (by simp) (.slice A1 x.cols.length c1)
  replace S2 := S2.far (p := ⟨w.heap.size + 1 + 1, 0, none⟩) (by simp) (.slice A1 x.cols.length c1)
  replace hv1 := hv1.far (p := ⟨w.heap.size + 1 + 1, 0, none⟩) (by simp) (.slice A1 x.cols.length c1)
  replace hb1 := hb1.setCell (p := ⟨w.heap.size + 1 + 1, 0, none⟩) (by simp; omega) (.slice A1 x.cols.length c1)
  clear S1
  generalize w1.setCell ⟨w.heap.size + 1 + 1, 0, none⟩ (.slice A1 x.cols.length c1) = w2 at *
  have hz2 : w.heap.size + 1 + 1 < w2.heap.size := S3.1
  refine (q2.out _ hb1).mono ?_
  rintro z w3 ⟨v2, rfl, hv2, hb2⟩
  replace S3 := S3.later hb2
  replace S2 := S2.later hb2
  replace hv1 := hv1.later hb2
  replace hv2 := hv2.mono (base' := w.heap.size + 1 + 1 + 1) (by omega)
  replace hb1 := below_trans hb1 hb2
  clear hb2
  obtain ⟨A2, c2, rfl, hc2, hc2'⟩ := hv2.form
  obtain ⟨a0, a1, y0, y1⟩ := S3.c2
  obtain ⟨b0, b1, x0, x1⟩ := S2.c2
  go_wp2
  refine bodyPost_ret (v := .agg #[.slice A1 x.cols.length c1, .slice A2 x.vals.length c2]) (by simp [results, Try.results98, go_sem, b0, b1]) rfl ⟨_, rfl, ⟨_, _, rfl, ?_, ?_⟩, ?_⟩
  · exact (((hv1.far (by simp) _).far (by simp) _).far (by simp) _).mono (by omega)
  · exact (((hv2.far (by simp) _).far (by simp) _).far (by simp) _).mono (by omega)
  · exact ((hb1.setCell (by simp; omega) _).setCell (by simp) _).setCell (by simp) _

end Go.Proofs.Ytkmmdajlbkbnmaa

namespace Go.Proofs.Ytkmmdajlbkbnmaa
open Go.RowKit Go.Joins

set_option maxHeartbeats 800000 in
theorem eqRow (x y : RowD) (u v : Value) (w : World) (hu : RowV w u x) (hv : RowV w v y) (hf : x.few) (hg : y.few) :
    Calls Try.prog 100 #[u, v] w fun e w' => e = .returned (.bool (x.same y)) ∧ Below w.heap.size w w' := by
  obtain ⟨A, c, B, d, rfl, _, hx, hr⟩ := hu
  obtain ⟨A', c', B', d', rfl, _, hx', hr'⟩ := hv
  have q1 := Lib.hid (fun W hW => eqIntS x.cols y.cols _ _ c c' rfl rfl hf.1 hg.1 A A' W (hx.later (w' := W) hW) (hx'.later hW))
  have q2 := Lib.hid (fun W hW => eqRatS x.vals y.vals _ _ d d' rfl rfl hf.2 hg.2 B B' W (hr.later (w' := W) hW) (hr'.later hW))
  have HS := Lib.hid (show x.same y = (x.cols == y.cols && vsame x.vals y.vals) from rfl)
  clear hx hr hx' hr' hf hg
  generalize x.same y = res at *
  generalize (x.cols == y.cols) = b1 at *
  generalize vsame x.vals y.vals = b2 at *
  generalize x.cols.length = n1 at *
  generalize x.vals.length = n2 at *
  generalize y.cols.length = m1 at *
  generalize y.vals.length = m2 at *
  cases b1
  · skip
    go_enter Try.func100, Try.ntmps100
    go_wp2_with fail
    refine (q1.out _ (below_alloc2 _ _ _)).mono ?_
    rintro z w1 ⟨rfl, k, rfl⟩
    go_wp2
    go_ret
    exact ⟨ret_bool (by rw [HS.out]; rfl), (below_alloc2 _ _ _).trans (below_draws _ _ _)⟩
  · cases b2
    · skip
      go_enter Try.func100, Try.ntmps100
      go_wp2_with fail
      refine (q1.out _ (below_alloc2 _ _ _)).mono ?_
      rintro z w1 ⟨rfl, k, rfl⟩
      go_wp2_with fail
      refine (q2.out _ ((below_alloc2 _ _ _).trans (below_draws _ _ _))).mono ?_
      rintro z w2 ⟨rfl, hb2⟩
      replace hb2 := below_trans ((below_alloc2 _ _ _).trans (below_draws _ _ _)) hb2
      go_wp2
      go_ret
      exact ⟨ret_bool (by rw [HS.out]; rfl), hb2⟩
    · skip
      go_enter Try.func100, Try.ntmps100
      go_wp2_with fail
      refine (q1.out _ (below_alloc2 _ _ _)).mono ?_
      rintro z w1 ⟨rfl, k, rfl⟩
      go_wp2_with fail
      refine (q2.out _ ((below_alloc2 _ _ _).trans (below_draws _ _ _))).mono ?_
      rintro z w2 ⟨rfl, hb2⟩
      replace hb2 := below_trans ((below_alloc2 _ _ _).trans (below_draws _ _ _)) hb2
      go_wp2
      go_ret
      exact ⟨ret_bool (by rw [HS.out]; rfl), hb2⟩

set_option maxHeartbeats 800000 in
theorem iSameRow (x y : RowD) (u v : Value) (w : World) (hu : RowV w u x) (hv : RowV w v y) (hf : x.few) (hg : y.few) :
    Calls Try.prog 57 #[u, v] w fun e w' => e = .returned (.bool (x.same y)) ∧ Below w.heap.size w w' := by
  obtain ⟨A, c, B, d, rfl, _, hx, hr⟩ := hu
  obtain ⟨A', c', B', d', rfl, _, hx', hr'⟩ := hv
  have q1 := Lib.hid (fun W hW => slEqual x.cols y.cols _ _ c c' rfl rfl hf.1 hg.1 A A' W (hx.later (w' := W) hW) (hx'.later hW))
  have q2 := Lib.hid (fun W hW => iSame x.vals y.vals _ _ d d' rfl rfl hf.2 hg.2 B B' W (hr.later (w' := W) hW) (hr'.later hW))
  have HS := Lib.hid (show x.same y = (x.cols == y.cols && vsame x.vals y.vals) from rfl)
  clear hx hr hx' hr' hf hg
  generalize x.same y = res at *
  generalize (x.cols == y.cols) = b1 at *
  generalize vsame x.vals y.vals = b2 at *
  generalize x.cols.length = n1 at *
  generalize x.vals.length = n2 at *
  generalize y.cols.length = m1 at *
  generalize y.vals.length = m2 at *
  cases b1
  · skip
    go_enter Try.func57, Try.ntmps57
    go_wp2_with fail
    refine (q1.out _ (below_alloc2 _ _ _)).mono ?_
    rintro z w1 ⟨rfl, k, rfl⟩
    go_wp2
    go_ret
    exact ⟨ret_bool (by rw [HS.out]; rfl), (below_alloc2 _ _ _).trans (below_draws _ _ _)⟩
  · cases b2
    · skip
      go_enter Try.func57, Try.ntmps57
      go_wp2_with fail
      refine (q1.out _ (below_alloc2 _ _ _)).mono ?_
      rintro z w1 ⟨rfl, k, rfl⟩
      go_wp2_with fail
      refine (q2.out _ ((below_alloc2 _ _ _).trans (below_draws _ _ _))).mono ?_
      rintro z w2 ⟨rfl, hb2⟩
      replace hb2 := below_trans ((below_alloc2 _ _ _).trans (below_draws _ _ _)) hb2
      go_wp2
      go_ret
      exact ⟨ret_bool (by rw [HS.out]; rfl), hb2⟩
    · skip
      go_enter Try.func57, Try.ntmps57
      go_wp2_with fail
      refine (q1.out _ (below_alloc2 _ _ _)).mono ?_
      rintro z w1 ⟨rfl, k, rfl⟩
      go_wp2_with fail
      refine (q2.out _ ((below_alloc2 _ _ _).trans (below_draws _ _ _))).mono ?_
      rintro z w2 ⟨rfl, hb2⟩
      replace hb2 := below_trans ((below_alloc2 _ _ _).trans (below_draws _ _ _)) hb2
      go_wp2
      go_ret
      exact ⟨ret_bool (by rw [HS.out]; rfl), hb2⟩
end Go.Proofs.Ytkmmdajlbkbnmaa

namespace Go.Proofs.Ytkmmdajlbkbnmaa
open Go.RowKit Go.Joins

def MI (w : World) (A : Option Addr) (rs : List RowD) : Prop := SI RowAt 2 zRow w A rs
theorem MI.later {w w' : World} {A : Option Addr} {rs : List RowD} (h : MI w A rs) (hb : Below w.heap.size w w') : MI w' A rs := SI.later RowAt.stays h hb
/-- The lengths of all parts are small. -/
def MFew (rs : List RowD) : Prop := rs.length ≤ 1048576 ∧ ∀ k, k < rs.length → (rs.getD k zRow).few
def sumRow (rs : List RowD) : Nat := (rs.map RowD.size).sum
def msz (rs : List RowD) : Nat := rs.length + sumRow rs
theorem sumRow_step (rs : List RowD) (k : Nat) (h : k < rs.length) : sumRow (rs.take (k + 1)) = sumRow (rs.take k) + (rs.getD k zRow).size := by
  rw [List.take_succ_eq_append_getElem h]
  simp only [sumRow, List.map_append, List.sum_append, List.map_cons, List.map_nil, List.sum_cons, List.sum_nil]
  simp [h]
theorem sumRow_le (rs : List RowD) (k : Nat) : sumRow (rs.take k) ≤ sumRow rs := by
  conv => rhs; rw [← List.take_append_drop k rs]
  simp only [sumRow, List.map_append, List.sum_append]
  omega

theorem MI.cells {w : World} {A : Option Addr} {rs : List RowD} (h : MI w A rs) (k : Nat) (hk : k < rs.length) : ∃ b off, A = some ⟨b, off, none⟩ ∧ b < w.heap.size ∧ RowAt w b (off + k * 2) (rs.getD k zRow) := by
  obtain ⟨b, off, rfl, hb, hc⟩ := h (by intro h; subst h; simp at hk)
  exact ⟨b, off, rfl, hb, hc k hk⟩

set_option maxHeartbeats 800000 in
theorem szRowS (rs : List RowD) (n c : Nat) (hn : rs.length = n) (hnc : n ≤ maxLen) (left : Int) (h0 : 0 ≤ left) (h1 : left ≤ 1048576) (A : Option Addr) (w : World) (hv : MI w A rs) :
    Calls Try.prog 54 #[.slice A n c, .int .i64 left] w fun r w' => r = .returned (.int .i64 (szI (msz rs) left)) ∧ Below w.heap.size w w' := by
  have hm : n ≤ 9223372036854775807 := hnc
  have hw : wrap64 (left - n) = left - n := IntWalk.wrap64_in _ ⟨by omega, by omega⟩
  by_cases hl : (n : Int) ≤ left
  · have HN := Lib.hid hn; clear hn
    have hd : ¬ (left - n < 0) := by omega
    have hd' : 0 ≤ left - n := by omega
    go_enter Try.func54, Try.ntmps54
    go_wp2_with fail
    go_loopw [1, 5] (fun l i wr => ∃ (k : Nat) (m : Int), k ≤ n ∧ i = .int .i64 k ∧ l = .int .i64 m ∧ 0 ≤ m ∧ m ≤ 1048576 ∧ m = left - n - sumRow (rs.take k) ∧ Below w.heap.size w wr) (fun _ i _ => n - (intOf i).toNat)
    case atStart => exact ⟨0, _, Nat.zero_le _, rfl, rfl, hd', by omega, by simp [sumRow], Below.refl _ _⟩
    case round =>
      obtain ⟨k, m, hk, rfl, rfl, hm0, hm1, hms, hbel⟩ := hrel
      have HM := Lib.hid hms; clear hms
      by_cases hkn : k = n
      · subst hkn
        have h0 : decide ((k : Int) < (k : Int)) = false := by simp
        have hF : szI (msz rs) left = m := by
          have e := HM.out
          rw [List.take_of_length_le (by rw [HN.out]; exact Nat.le_refl _)] at e
          have hN := HN.out
          rw [szI_pos (by simp only [msz]; omega), msz]
          omega
        have HF := Lib.hid hF; clear hF
        go_wp2
        go_ret
        exact ⟨ret_int (by rw [HF.out]), hbel⟩
      · have hlt : (k : Int) < (n : Int) := by omega
        have hkl : k < rs.length := by rw [HN.out]; omega
        obtain ⟨b, off, rfl, hb, hat⟩ := hv.cells k hkl
        have hat1 := RowAt.stays _ _ _ _ _ hb hat hbel
        have HS := Lib.hid (sumRow_step rs k hkl)
        have HL := Lib.hid (sumRow_le rs (k + 1))
        generalize rs.getD k zRow = x at *
        clear hat hkl
        obtain ⟨A1, c1, B1, d1, g0, g1, hcd, hr1, hr2⟩ := hat1
        go_wp2_with fail
        have hrv : RowV wr (.agg #[.slice A1 x.cols.length c1, .slice B1 x.vals.length d1]) x := ⟨_, _, _, _, rfl, hcd, hr1, hr2⟩
        refine (szRow x _ m hm0 hm1 wr hrv).mono ?_
        by_cases hxm : (x.size : Int) ≤ m
        · have hz := szI_pos hxm
          have hz0 : 0 ≤ szI x.size m := by omega
          have hz1 : szI x.size m ≤ 1048576 := by omega
          replace hz := Lib.hid hz
          rintro r w2 ⟨rfl, hb2⟩
          replace hb2 := hbel.trans (below_le hb2 hbel.size)
          clear hrv hr1 hr2 hcd g0 g1
          go_wp2
          go_roundw
          case rel => exact ⟨k + 1, _, by omega, rfl, rfl, hz0, hz1, by rw [hz.out, HM.out, HS.out]; omega, hb2⟩
          case measure => simp [intOf]; omega
        · have hz := szI_neg (show m < x.size by omega)
          rw [hz]
          rintro r w2 ⟨rfl, hb2⟩
          have hF : szI (msz rs) left = -1 := szI_neg (by have := HM.out; have := HS.out; have := HL.out; have := HN.out; simp only [msz]; omega)
          have HF := Lib.hid hF; clear hF
          replace hb2 := hbel.trans (below_le hb2 hbel.size)
          clear hrv hr1 hr2 hcd g0 g1 hz
          go_wp2
          go_ret
          exact ⟨ret_int (by rw [HF.out]), hb2⟩
  · have hF : szI (msz rs) left = -1 := szI_neg (by simp only [msz]; omega)
    have HF := Lib.hid hF; clear hF
    have hd : left - n < 0 := by omega
    clear hl hn
    go_enter Try.func54, Try.ntmps54
    go_wp2
    go_ret
    exact ⟨ret_int (by rw [HF.out]), Below.refl _ _⟩
theorem mfew_of {rs : List RowD} (h : msz rs ≤ 1048576) : MFew rs := by
  have h1 := h
  simp only [msz] at h1
  refine ⟨by omega, fun k hk => RowD.few_of ?_⟩
  have h2 := sumRow_step rs k hk
  have h3 := sumRow_le rs (k + 1)
  omega

def msame : List RowD → List RowD → Bool
  | [], [] => true
  | x :: r, y :: s => x.same y && msame r s
  | _, _ => false
theorem msame_iff : ∀ (rs ss : List RowD), msame rs ss = true ↔ rs.length = ss.length ∧ ∀ j, j < rs.length → (rs.getD j zRow).same (ss.getD j zRow) = true
  | [], [] => by simp [msame]
  | [], _ :: _ => by simp [msame]
  | _ :: _, [] => by simp [msame]
  | x :: r, y :: s => by
    simp only [msame, Bool.and_eq_true, msame_iff r s, List.length_cons]
    constructor
    · rintro ⟨h1, h2, h3⟩
      refine ⟨by omega, fun j hj => ?_⟩
      cases j with
      | zero => simpa using h1
      | succ j => simpa using h3 j (by omega)
    · rintro ⟨h1, h2⟩
      exact ⟨by simpa using h2 0 (by omega), by omega, fun j hj => by simpa using h2 (j + 1) (by omega)⟩
theorem msame_refl (rs : List RowD) : msame rs rs = true := (msame_iff rs rs).2 ⟨rfl, fun _ _ => RowD.same_refl _⟩
theorem msame_no {rs ss : List RowD} (j : Nat) (hj : j < rs.length) (h : (rs.getD j zRow).same (ss.getD j zRow) = false) : msame rs ss = false := by
  cases hv : msame rs ss
  · rfl
  · have := ((msame_iff rs ss).1 hv).2 j hj
    rw [h] at this; cases this
set_option maxHeartbeats 800000 in
theorem eqRowS (rs ss : List RowD) (n m c d : Nat) (hn : rs.length = n) (hm : ss.length = m) (hf : MFew rs) (hg : MFew ss) (A B : Option Addr) (w : World) (ha : MI w A rs) (hb : MI w B ss) :
    Calls Try.prog 58 #[.slice A n c, .slice B m d] w fun r w' => r = .returned (.bool (msame rs ss)) ∧ Below w.heap.size w w' := by
  have hn1 : n ≤ 1048576 := hn ▸ hf.1
  have hm1 : m ≤ 1048576 := hm ▸ hg.1
  have HF := Lib.hid hf.2
  have HG := Lib.hid hg.2
  clear hf hg
  by_cases hnm : n = m
  · subst hnm
    have hh : ((n : Int) != n) = false := by simp
    have HN := Lib.hid hn; clear hn
    have HM := Lib.hid hm; clear hm
    go_enter Try.func58, Try.ntmps58
    go_wp2_with fail
    go_loopw [5] (fun u wr => ∃ k : Nat, k ≤ n ∧ u = .int .i64 k ∧ (∀ j, j < k → (rs.getD j zRow).same (ss.getD j zRow) = true) ∧ Below w.heap.size w wr) (fun u _ => n - (intOf u).toNat)
    case atStart => exact ⟨0, Nat.zero_le _, rfl, fun j hj => by omega, Below.refl _ _⟩
    case round =>
      obtain ⟨k, hk, rfl, ht, hbel⟩ := hrel
      have HT := Lib.hid ht; clear ht
      by_cases hkn : k = n
      · subst hkn
        have h0 : decide ((k : Int) < (k : Int)) = false := by simp
        go_wp2
        go_ret
        exact ⟨ret_bool ((msame_iff rs ss).2 ⟨HN.out.trans HM.out.symm, fun j hj => HT.out j (by have := HN.out; omega)⟩).symm, hbel⟩
      · have hlt : (k : Int) < (n : Int) := by omega
        have hkl : k < rs.length := by rw [HN.out]; omega
        have hkl2 : k < ss.length := by rw [HM.out]; omega
        obtain ⟨b, off, rfl, hb1, hat⟩ := ha.cells k hkl
        obtain ⟨b2, off2, rfl, hb2, hat2⟩ := hb.cells k hkl2
        have hat1 := RowAt.stays _ _ _ _ _ hb1 hat hbel
        have hat3 := RowAt.stays _ _ _ _ _ hb2 hat2 hbel
        have f1 := HF.out k hkl
        have f3 := HG.out k hkl2
        clear hat hat2 hkl hkl2
        obtain ⟨A1, c1, B1, d1, g0, g1, hcd, hr1, hr2⟩ := hat1
        obtain ⟨A2, c2, B2, d2, k0, k1, hcd2, hs1, hs2⟩ := hat3
        have hE : ∀ W, Below wr.heap.size wr W → Calls Try.prog 100 #[.agg #[.slice A1 (rs.getD k zRow).cols.length c1, .slice B1 (rs.getD k zRow).vals.length d1], .agg #[.slice A2 (ss.getD k zRow).cols.length c2, .slice B2 (ss.getD k zRow).vals.length d2]] W fun r w' => r = .returned (.bool ((rs.getD k zRow).same (ss.getD k zRow))) ∧ Below W.heap.size W w' := fun W hW =>
          eqRow (rs.getD k zRow) (ss.getD k zRow) _ _ W ⟨_, _, _, _, rfl, hcd, hr1.later hW, hr2.later hW⟩ ⟨_, _, _, _, rfl, hcd2, hs1.later hW, hs2.later hW⟩ f1 f3
        have g0' := fun d os => cell_regrown g0 d os
        have g1' := fun d os => cell_regrown g1 d os
        have k0' := fun d os => cell_regrown k0 d os
        have k1' := fun d os => cell_regrown k1 d os
        have HE := Lib.hid hE
        clear hE hr1 hr2 hs1 hs2 hcd hcd2 f1 f3
        generalize hqe : (rs.getD k zRow).same (ss.getD k zRow) = q at *
        have HQ := Lib.hid hqe; clear hqe
        have HK := Lib.hid (show k < rs.length by have := HN.out; omega)
        have HV := Lib.hid (show q = false → msame rs ss = false from fun h => msame_no k HK.out (HQ.out.trans h))
        have HT2 := Lib.hid (show q = true → ∀ j, j < k + 1 → (rs.getD j zRow).same (ss.getD j zRow) = true from fun h j hj => (Nat.lt_succ_iff_lt_or_eq.1 hj).elim (HT.out j) (fun e => e ▸ HQ.out.trans h))
        clear HQ
        generalize rs.getD k zRow = x at *
        generalize ss.getD k zRow = y at *
        cases q
        · go_wp2
          refine wp_region_quiet_below (by kernel_rfl) (by kernel_rfl) ?_
          repeat (go_big_quiet_step (exact Calls.regrown_of (HE.out _ (below_regrown _ _ _))))
          refine wpQuiet_nil ?_
          intro w5 hw5
          obtain ⟨⟨dq, osq⟩, rfl⟩ := hw5
          have hb5 := hbel.trans (below_le (below_regrown wr dq osq) hbel.size)
          generalize Sort.grow (redrawn wr dq) osq = w5 at *
          clear g0' g1' k0' k1'
          go_wp2
          go_ret
          exact ⟨ret_bool (HV.out trivial).symm, hb5⟩
        · go_wp2
          refine wp_region_quiet_below (by kernel_rfl) (by kernel_rfl) ?_
          repeat (go_big_quiet_step (exact Calls.regrown_of (HE.out _ (below_regrown _ _ _))))
          refine wpQuiet_nil ?_
          intro w5 hw5
          obtain ⟨⟨dq, osq⟩, rfl⟩ := hw5
          have hb5 := hbel.trans (below_le (below_regrown wr dq osq) hbel.size)
          generalize Sort.grow (redrawn wr dq) osq = w5 at *
          clear g0' g1' k0' k1'
          go_wp2
          go_roundw
          case rel => exact ⟨k + 1, by omega, rfl, HT2.out trivial, hb5⟩
          case measure => simp [intOf]; omega
  · have hh : ((n : Int) != m) = true := by simp; omega
    have HV := Lib.hid (show msame rs ss = false by
      cases hv : msame rs ss
      · rfl
      · exact absurd (((msame_iff rs ss).1 hv).1) (by omega))
    clear hnm hn hm
    go_enter Try.func58, Try.ntmps58
    go_wp2
    go_ret
    exact ⟨ret_bool HV.out.symm, Below.refl _ _⟩
/-- Rows of the call's own. -/
def MO (w : World) (base : Nat) (v : Value) (rs : List RowD) : Prop :=
  ∃ A c, v = .slice A rs.length c ∧ rs.length ≤ c ∧ c ≤ maxLen ∧ (rs ≠ [] → ∃ g, A = some ⟨g, 0, none⟩ ∧ base ≤ g ∧ g < w.heap.size ∧ (∀ i, w.frozen? ⟨g, i, none⟩ = false) ∧ ∀ j, j < rs.length → RowOAt w (g + 1) g (j * 2) (rs.getD j zRow))
theorem MO.form {w : World} {base : Nat} {v : Value} {rs : List RowD} (h : MO w base v rs) : ∃ A c, v = .slice A rs.length c ∧ rs.length ≤ c ∧ c ≤ maxLen := by
  obtain ⟨A, c, h1, h2, h3, _⟩ := h; exact ⟨A, c, h1, h2, h3⟩
theorem MO.reads {w : World} {base n c : Nat} {A : Option Addr} {rs : List RowD} (h : MO w base (.slice A n c) rs) : MI w A rs := by
  intro hx
  obtain ⟨A', c', he, _, _, h⟩ := h
  injection he with e1 e2 e3
  subst e1
  obtain ⟨g, rfl, _, hlt, _, h⟩ := h hx
  exact ⟨g, 0, rfl, hlt, fun j hj => by rw [Nat.zero_add]; exact (h j hj).reads⟩

theorem set2_cell {w : World} {g q : Nat} {a b : Value} {u0 u1 : Value} (h0 : w.cell? ⟨g, q, none⟩ = some u0) (h1 : w.cell? ⟨g, q + 1, none⟩ = some u1) :
    ((w.setCell ⟨g, q, none⟩ a).setCell ⟨g, q + 1, none⟩ b).cell? ⟨g, q, none⟩ = some a ∧
    ((w.setCell ⟨g, q, none⟩ a).setCell ⟨g, q + 1, none⟩ b).cell? ⟨g, q + 1, none⟩ = some b ∧
    ∀ i, i ≠ q → i ≠ q + 1 → ((w.setCell ⟨g, q, none⟩ a).setCell ⟨g, q + 1, none⟩ b).cell? ⟨g, i, none⟩ = w.cell? ⟨g, i, none⟩ := by
  have n01 : (⟨g, q, none⟩ : Addr) ≠ ⟨g, q + 1, none⟩ := by simp
  refine ⟨?_, ?_, fun i hi0 hi1 => ?_⟩
  · rw [World.cell?_setCell_other _ _ _ _ n01.symm, World.cell?_setCell_same _ _ _ h0]
  · exact World.cell?_setCell_same _ _ _ (by rw [World.cell?_setCell_other _ _ _ _ n01]; exact h1)
  · rw [World.cell?_setCell_other _ _ _ _ (by intro h; injection h with _ h; exact hi1 h.symm), World.cell?_setCell_other _ _ _ _ (by intro h; injection h with _ h; exact hi0 h.symm)]

set_option maxHeartbeats 800000 in
theorem toRowS (rs : List RowD) (n c : Nat) (hn : rs.length = n) (hf : MFew rs) (A : Option Addr) (w : World) (ha : MI w A rs) :
    Calls Try.prog 55 #[.slice A n c] w fun r w' => ∃ v, r = .returned v ∧ MO w' w.heap.size v rs ∧ Below w.heap.size w w' := by
  have hn1 : n ≤ 1048576 := hn ▸ hf.1
  have HF := Lib.hid hf.2
  have HN := Lib.hid hn; clear hn hf
  go_enter Try.func55, Try.ntmps55
  go_wp2_with (at_make; refine makeAny rfl _ _ _ 95 rfl Try.underlying44 (.agg #[.slice none 0 0, .slice none 0 0]) 2 48 (by kernel_rfl) (by omega) n _ _ rfl rfl rfl rfl (by omega) ?_; intro C hC)
  have harr0 := own_cell (Below.refl _ (w.alloc (.cells C 95))) (g := w.heap.size) rfl
  have hex0 : ∀ i, i < n * 2 → ∃ v, (w.alloc (.cells C 95)).cell? ⟨w.heap.size, i, none⟩ = some v := fun i hi => ⟨_, harr0.1 i _ (Array.getElem?_eq_getElem (by omega))⟩
  go_loopw [4] (fun u wr => ∃ k : Nat, k ≤ n ∧ u = .int .i64 k ∧ w.heap.size < wr.heap.size ∧ (∀ i, i < n * 2 → ∃ v, wr.cell? ⟨w.heap.size, i, none⟩ = some v) ∧ (∀ i, wr.frozen? ⟨w.heap.size, i, none⟩ = false) ∧
      (∀ j, j < k → RowOAt wr (w.heap.size + 1) w.heap.size (j * 2) (rs.getD j zRow)) ∧ Below w.heap.size w wr) (fun u _ => n - (intOf u).toNat)
  case atStart => exact ⟨0, Nat.zero_le _, rfl, by simp, hex0, harr0.2, fun j hj => by omega, (Below.refl _ _).alloc (Nat.le_refl _) _⟩
  case round =>
    obtain ⟨k, hk, rfl, hgs, hex, hfr, hro, hbel⟩ := hrel
    have HEX := Lib.hid hex; clear hex
    have HFR := Lib.hid hfr; clear hfr
    have HRO := Lib.hid hro; clear hro
    clear harr0 hex0 hC
    by_cases hkn : k = n
    · subst hkn
      have h0 : decide ((k : Int) < (k : Int)) = false := by simp
      go_wp2
      go_ret
      exact ⟨_, rfl, ⟨some ⟨w.heap.size, 0, none⟩, k, by rw [HN.out]; rfl, by rw [HN.out]; exact Nat.le_refl _, by unfold maxLen; omega, fun _ => ⟨_, rfl, Nat.le_refl _, hgs, HFR.out, fun j hj => HRO.out j (by have := HN.out; omega)⟩⟩, hbel⟩
    · have hlt : (k : Int) < (n : Int) := by omega
      have hkl : k < rs.length := by rw [HN.out]; omega
      obtain ⟨b, off, rfl, hb1, hat⟩ := ha.cells k hkl
      have hat1 := RowAt.stays _ _ _ _ _ hb1 hat hbel
      have f1 := HF.out k hkl
      have HX := Lib.hid (show ∀ y, y = rs.getD k zRow → y = rs.getD k zRow from fun _ h => h)
      clear hat hkl
      generalize hxe : rs.getD k zRow = x at *
      have HXE := Lib.hid hxe; clear hxe HX
      obtain ⟨A1, c1, B1, d1, g0, g1, hcd, hr1, hr2⟩ := hat1
      go_wp2_with fail
      refine (toRow x _ wr ⟨_, _, _, _, rfl, hcd, hr1, hr2⟩ f1).mono ?_
      rintro r w2 ⟨v', rfl, ⟨va, vb, rfl, hva, hvb⟩, hb2⟩
      obtain ⟨A2, c2, rfl, hl2⟩ := hva.form
      obtain ⟨B2, d2, rfl, hm2, hm2'⟩ := hvb.form
      obtain ⟨ck, fk⟩ := bcell hb2
      obtain ⟨u0, e0⟩ := HEX.out (k * 2) (by omega)
      obtain ⟨u1, e1⟩ := HEX.out (k * 2 + 1) (by omega)
      have e0' := (ck _ _ hgs).trans e0
      have e1' := (ck _ _ hgs).trans e1
      have z0 := (fk _ _ hgs).trans (HFR.out (k * 2))
      have z1 := (fk _ _ hgs).trans (HFR.out (k * 2 + 1))
      have HCK := Lib.hid ck
      have HFK := Lib.hid fk
      clear ck fk e0 e1 g0 g1 hcd hr1 hr2 f1
      go_wp2
      obtain ⟨s0, s1, sF⟩ := set2_cell e0' e1' (a := .slice A2 x.cols.length c2) (b := .slice B2 x.vals.length d2)
      have hsz := hb2.size
      have hbw : Below w.heap.size w w2 := hbel.trans (below_le hb2 hbel.size)
      refine ⟨⟨k + 1, by omega, rfl, by simp; omega, ?_, ?_, ?_, ?_⟩, by simp [intOf]; omega⟩
      · intro i hi
        by_cases q0 : i = k * 2
        · subst q0; exact ⟨_, s0⟩
        by_cases q1 : i = k * 2 + 1
        · subst q1; exact ⟨_, s1⟩
        obtain ⟨u, hu⟩ := HEX.out i hi
        exact ⟨u, by rw [sF i q0 q1, HCK.out _ _ hgs]; exact hu⟩
      · intro i
        simp only [World.frozen?_setCell]
        exact (HFK.out _ _ hgs).trans (HFR.out i)
      · intro j hj
        by_cases hjk : j = k
        · subst hjk
          rw [HXE.out]
          exact ⟨_, _, s0, s1, ((hva.mono (by omega)).far (by simp) _).far (by simp) _, ((hvb.mono (by omega)).far (by simp) _).far (by simp) _⟩
        · obtain ⟨ua, ub, t0, t1, ra, rb⟩ := (HRO.out j (by omega)).later hgs hb2
          exact ⟨ua, ub, by rw [sF _ (by omega) (by omega)]; exact t0, by rw [sF _ (by omega) (by omega)]; exact t1,
            (ra.far (by simp) _).far (by simp) _, (rb.far (by simp) _).far (by simp) _⟩
      · exact (hbw.setCell (Nat.le_refl _) _).setCell (Nat.le_refl _) _
set_option maxHeartbeats 800000 in
theorem slEqualRow (rs ss : List RowD) (n m c d : Nat) (hn : rs.length = n) (hm : ss.length = m) (hf : MFew rs) (hg : MFew ss) (A B : Option Addr) (w : World) (ha : MI w A rs) (hb : MI w B ss) :
    Calls Try.prog 56 #[.slice A n c, .slice B m d, .func (.func 57) #[] #[]] w fun r w' => r = .returned (.bool (msame rs ss)) ∧ Below w.heap.size w w' := by
  have hn1 : n ≤ 1048576 := hn ▸ hf.1
  have hm1 : m ≤ 1048576 := hm ▸ hg.1
  have HF := Lib.hid hf.2
  have HG := Lib.hid hg.2
  clear hf hg
  by_cases hnm : n = m
  · subst hnm
    have hh : ((n : Int) != n) = false := by simp
    have HN := Lib.hid hn; clear hn
    have HM := Lib.hid hm; clear hm
    go_enter Try.func56, Try.ntmps56
    go_wp2_with fail
    go_loopw [17] (fun u wr => ∃ k : Nat, k ≤ n ∧ u = .int .i64 k ∧ (∀ j, j < k → (rs.getD j zRow).same (ss.getD j zRow) = true) ∧ Below w.heap.size w wr) (fun u _ => n - (intOf u).toNat)
    case atStart => exact ⟨0, Nat.zero_le _, rfl, fun j hj => by omega, Below.refl _ _⟩
    case round =>
      obtain ⟨k, hk, rfl, ht, hbel⟩ := hrel
      have HT := Lib.hid ht; clear ht
      by_cases hkn : k = n
      · subst hkn
        have h0 : decide ((k : Int) < (k : Int)) = false := by simp
        go_wp2
        go_ret
        exact ⟨ret_bool ((msame_iff rs ss).2 ⟨HN.out.trans HM.out.symm, fun j hj => HT.out j (by have := HN.out; omega)⟩).symm, hbel⟩
      · have hlt : (k : Int) < (n : Int) := by omega
        have hkl : k < rs.length := by rw [HN.out]; omega
        have hkl2 : k < ss.length := by rw [HM.out]; omega
        obtain ⟨b, off, rfl, hb1, hat⟩ := ha.cells k hkl
        obtain ⟨b2, off2, rfl, hb2, hat2⟩ := hb.cells k hkl2
        have hat1 := RowAt.stays _ _ _ _ _ hb1 hat hbel
        have hat3 := RowAt.stays _ _ _ _ _ hb2 hat2 hbel
        have f1 := HF.out k hkl
        have f3 := HG.out k hkl2
        clear hat hat2 hkl hkl2
        obtain ⟨A1, c1, B1, d1, g0, g1, hcd, hr1, hr2⟩ := hat1
        obtain ⟨A2, c2, B2, d2, k0, k1, hcd2, hs1, hs2⟩ := hat3
        have hE : ∀ W, Below wr.heap.size wr W → Calls Try.prog 57 #[.agg #[.slice A1 (rs.getD k zRow).cols.length c1, .slice B1 (rs.getD k zRow).vals.length d1], .agg #[.slice A2 (ss.getD k zRow).cols.length c2, .slice B2 (ss.getD k zRow).vals.length d2]] W fun r w' => r = .returned (.bool ((rs.getD k zRow).same (ss.getD k zRow))) ∧ Below W.heap.size W w' := fun W hW =>
          iSameRow (rs.getD k zRow) (ss.getD k zRow) _ _ W ⟨_, _, _, _, rfl, hcd, hr1.later hW, hr2.later hW⟩ ⟨_, _, _, _, rfl, hcd2, hs1.later hW, hs2.later hW⟩ f1 f3
        have HE := Lib.hid hE
        clear hE hr1 hr2 hs1 hs2 hcd hcd2 f1 f3
        generalize hqe : (rs.getD k zRow).same (ss.getD k zRow) = q at *
        have HQ := Lib.hid hqe; clear hqe
        have HK := Lib.hid (show k < rs.length by have := HN.out; omega)
        have HV := Lib.hid (show q = false → msame rs ss = false from fun h => msame_no k HK.out (HQ.out.trans h))
        have HT2 := Lib.hid (show q = true → ∀ j, j < k + 1 → (rs.getD j zRow).same (ss.getD j zRow) = true from fun h j hj => (Nat.lt_succ_iff_lt_or_eq.1 hj).elim (HT.out j) (fun e => e ▸ HQ.out.trans h))
        clear HQ
        generalize rs.getD k zRow = x at *
        generalize ss.getD k zRow = y at *
        have hb2w := Nat.lt_of_lt_of_le hb2 hbel.size
        have k0a := fun o => cell_later hb2w k0 (below_alloc1 wr o)
        have k1a := fun o => cell_later hb2w k1 (below_alloc1 wr o)
        cases q
        · skip
          go_wp2_with fail
          refine (HE.out _ (below_alloc2 _ _ _)).mono ?_
          rintro r w5 ⟨rfl, hb5'⟩
          have hb5 := hbel.trans (below_le (below_trans (below_alloc2 _ _ _) hb5') hbel.size)
          clear hb5' g0 g1 k0 k1 k0a k1a
          go_wp2
          go_ret
          exact ⟨ret_bool (HV.out trivial).symm, hb5⟩
        · skip
          go_wp2_with fail
          refine (HE.out _ (below_alloc2 _ _ _)).mono ?_
          rintro r w5 ⟨rfl, hb5'⟩
          have hb5 := hbel.trans (below_le (below_trans (below_alloc2 _ _ _) hb5') hbel.size)
          clear hb5' g0 g1 k0 k1 k0a k1a
          go_wp2
          go_roundw
          case rel => exact ⟨k + 1, by omega, rfl, HT2.out trivial, hb5⟩
          case measure => simp [intOf]; omega
  · have hh : ((n : Int) != m) = true := by simp; omega
    have HV := Lib.hid (show msame rs ss = false by
      cases hv : msame rs ss
      · rfl
      · exact absurd (((msame_iff rs ss).1 hv).1) (by omega))
    clear hnm hn hm
    go_enter Try.func56, Try.ntmps56
    go_wp2
    go_ret
    exact ⟨ret_bool HV.out.symm, Below.refl _ _⟩
end Go.Proofs.Ytkmmdajlbkbnmaa

namespace Go.Proofs.Ytkmmdajlbkbnmaa
open Go.RowKit Go.Joins

/-- A matrix as a value. -/
def MatV (w : World) (v : Value) (rs : List RowD) : Prop := ∃ A c, v = .agg #[.slice A rs.length c] ∧ (rs.length ≤ c ∧ c ≤ maxLen) ∧ MI w A rs
theorem MatV.later {w w' : World} {v : Value} {rs : List RowD} (h : MatV w v rs) (hb : Below w.heap.size w w') : MatV w' v rs := by
  obtain ⟨A, c, rfl, hl, h1⟩ := h
  exact ⟨A, c, rfl, hl, h1.later hb⟩
/-- A matrix of the call's own. -/
def MatO (w : World) (base : Nat) (v : Value) (rs : List RowD) : Prop := ∃ va, v = .agg #[va] ∧ MO w base va rs
theorem MO.far {w : World} {base : Nat} {v : Value} {rs : List RowD} (h : MO w base v rs) {p : Addr} (hp : p.block < base) (u : Value) : MO (w.setCell p u) base v rs := by
  obtain ⟨A, c, rfl, hl, hc, h⟩ := h
  refine ⟨A, c, rfl, hl, hc, fun hx => ?_⟩
  obtain ⟨g, rfl, hg, hs, hf, h⟩ := h hx
  refine ⟨g, rfl, hg, by simpa using hs, fun i => by simpa using hf i, fun j hj => ?_⟩
  obtain ⟨va, vb, h0, h1, h2, h3⟩ := h j hj
  have hcc : ∀ i, (w.setCell p u).cell? ⟨g, i, none⟩ = w.cell? ⟨g, i, none⟩ := fun i => World.cell?_setCell_other _ _ _ _ (by intro e; subst e; simp at hp; omega)
  exact ⟨va, vb, by rw [hcc]; exact h0, by rw [hcc]; exact h1, h2.far (by omega) u, h3.far (by omega) u⟩
theorem MO.later {w w' : World} {base : Nat} {v : Value} {rs : List RowD} (h : MO w base v rs) (hb : Below w.heap.size w w') : MO w' base v rs := by
  obtain ⟨A, c, rfl, hl, hc, h⟩ := h
  refine ⟨A, c, rfl, hl, hc, fun hx => ?_⟩
  obtain ⟨g, rfl, hg, hs, hf, h⟩ := h hx
  exact ⟨g, rfl, hg, Nat.lt_of_lt_of_le hs hb.size, fun i => by rw [hb.frozen (p := ⟨g, i, none⟩) hs]; exact hf i, fun j hj => (h j hj).later hs hb⟩
theorem MO.mono {w : World} {base base' : Nat} {v : Value} {rs : List RowD} (h : MO w base v rs) (hb : base' ≤ base) : MO w base' v rs := by
  obtain ⟨A, c, rfl, hl, hc, h⟩ := h
  refine ⟨A, c, rfl, hl, hc, fun hx => ?_⟩
  obtain ⟨g, rfl, hg, hs⟩ := h hx
  exact ⟨g, rfl, by omega, hs⟩
theorem MatO.reads {w : World} {base : Nat} {v : Value} {rs : List RowD} (h : MatO w base v rs) : MatV w v rs := by
  obtain ⟨va, rfl, h1⟩ := h
  obtain ⟨A, c, rfl, hl, hc⟩ := h1.form
  exact ⟨A, c, rfl, ⟨hl, hc⟩, h1.reads⟩
theorem Slots.c1 {w : World} {g : Nat} {a : Value} (h : Slots w g [a]) : w.cell? ⟨g, 0, none⟩ = some a ∧ w.frozen? ⟨g, 0, none⟩ = false := ⟨h.2.1 0 (by simp), h.2.2 0⟩

set_option maxHeartbeats 800000 in
theorem szMatrix (rs : List RowD) (v : Value) (left : Int) (h0 : 0 ≤ left) (h1 : left ≤ 1048576) (w : World) (hv : MatV w v rs) :
    Calls Try.prog 19 #[v, .int .i64 left] w fun r w' => r = .returned (.int .i64 (szI (msz rs) left)) ∧ Below w.heap.size w w' := by
  obtain ⟨A, c, rfl, ⟨hc1, hc2⟩, hx⟩ := hv
  have q1 := szRowS rs _ c rfl (Nat.le_trans hc1 hc2) left h0 h1 A _ (hx.later (below_alloc1 w (.cells #[.slice A rs.length c] 41)))
  by_cases c1 : (msz rs : Int) ≤ left
  · have s1 : szI (msz rs) left = left - msz rs := szI_pos c1
    have t1 : 0 ≤ left - msz rs := by omega
    rw [s1] at q1 ⊢
    clear s1
    generalize left - msz rs = m at *
    replace q1 := Lib.hid q1
    go_enter Try.func19, Try.ntmps19
    go_wp2_with fail
    refine q1.out.mono ?_
    rintro r1 w1 ⟨rfl, hb1⟩
    replace hb1 := box_below hb1
    go_wp2
    go_ret
    exact ⟨rfl, hb1⟩
  · have s1 : szI (msz rs) left = -1 := szI_neg (by omega)
    rw [s1] at q1 ⊢
    clear s1
    replace q1 := Lib.hid q1
    go_enter Try.func19, Try.ntmps19
    go_wp2_with fail
    refine q1.out.mono ?_
    rintro r1 w1 ⟨rfl, hb1⟩
    replace hb1 := box_below hb1
    go_wp2
    go_ret
    exact ⟨rfl, hb1⟩

set_option maxHeartbeats 800000 in
theorem toMatrix (rs : List RowD) (v : Value) (w : World) (hv : MatV w v rs) (hf : MFew rs) :
    Calls Try.prog 21 #[v] w fun e w' => ∃ v', e = .returned v' ∧ MatO w' w.heap.size v' rs ∧ Below w.heap.size w w' := by
  obtain ⟨A, c, rfl, _, hx⟩ := hv
  have q1 := Lib.hid (fun W hW => toRowS rs _ c rfl hf A W (hx.later (w' := W) hW))
  clear hx hf
  go_enter Try.func21, Try.ntmps21
  go_wp2_with fail
  refine (q1.out _ (below_alloc3 _ _ _ _)).mono ?_
  rintro z w1 ⟨v1, rfl, hv1, hb1⟩
  have S3 := Slots.new hb1 (g := w.heap.size + 1 + 1) (by simp)
  have S2 := Slots.new (below_step hb1) (g := w.heap.size + 1) (by simp)
  replace hb1 := below_trans (below_alloc3 _ _ _ _) hb1
  replace hv1 := hv1.mono (base' := w.heap.size + 1 + 1 + 1) (by simp)
  obtain ⟨A1, c1, rfl, hc1, hc1'⟩ := hv1.form
  obtain ⟨a0, y0⟩ := S3.c1
  obtain ⟨b0, x0⟩ := S2.c1
  go_wp2
  refine bodyPost_ret (v := .agg #[.slice A1 rs.length c1]) (by simp [results, Try.results21, go_sem, b0]) rfl ⟨_, rfl, ⟨_, rfl, ?_⟩, ?_⟩
  · exact ((hv1.far (by simp) _).far (by simp) _).mono (by omega)
  · exact (hb1.setCell (by simp; omega) _).setCell (by simp) _

set_option maxHeartbeats 800000 in
theorem eqMatrix (rs ss : List RowD) (u v : Value) (w : World) (hu : MatV w u rs) (hv : MatV w v ss) (hf : MFew rs) (hg : MFew ss) :
    Calls Try.prog 23 #[u, v] w fun e w' => e = .returned (.bool (msame rs ss)) ∧ Below w.heap.size w w' := by
  obtain ⟨A, c, rfl, _, hx⟩ := hu
  obtain ⟨A', c', rfl, _, hx'⟩ := hv
  have q1 := Lib.hid (fun W hW => eqRowS rs ss _ _ c c' rfl rfl hf hg A A' W (hx.later (w' := W) hW) (hx'.later hW))
  clear hx hx' hf hg
  generalize msame rs ss = b at *
  cases b
  · go_enter Try.func23, Try.ntmps23
    go_wp2_with fail
    refine (q1.out _ (below_alloc2 _ _ _)).mono ?_
    rintro z w1 ⟨rfl, hb1⟩
    replace hb1 := below_trans (below_alloc2 _ _ _) hb1
    go_wp2
    go_ret
    exact ⟨rfl, hb1⟩
  · go_enter Try.func23, Try.ntmps23
    go_wp2_with fail
    refine (q1.out _ (below_alloc2 _ _ _)).mono ?_
    rintro z w1 ⟨rfl, hb1⟩
    replace hb1 := below_trans (below_alloc2 _ _ _) hb1
    go_wp2
    go_ret
    exact ⟨rfl, hb1⟩

set_option maxHeartbeats 800000 in
theorem iSameMatrix (rs ss : List RowD) (u v : Value) (w : World) (hu : MatV w u rs) (hv : MatV w v ss) (hf : MFew rs) (hg : MFew ss) :
    Calls Try.prog 22 #[u, v] w fun e w' => e = .returned (.bool (msame rs ss)) ∧ Below w.heap.size w w' := by
  obtain ⟨A, c, rfl, _, hx⟩ := hu
  obtain ⟨A', c', rfl, _, hx'⟩ := hv
  have q1 := Lib.hid (fun W hW => slEqualRow rs ss _ _ c c' rfl rfl hf hg A A' W (hx.later (w' := W) hW) (hx'.later hW))
  clear hx hx' hf hg
  go_enter Try.func22, Try.ntmps22
  go_wp2_with fail
  refine (q1.out _ (below_alloc2 _ _ _)).mono ?_
  rintro z w1 ⟨rfl, hb1⟩
  replace hb1 := below_trans (below_alloc2 _ _ _) hb1
  go_wp2
  go_ret
  exact ⟨rfl, hb1⟩
end Go.Proofs.Ytkmmdajlbkbnmaa
