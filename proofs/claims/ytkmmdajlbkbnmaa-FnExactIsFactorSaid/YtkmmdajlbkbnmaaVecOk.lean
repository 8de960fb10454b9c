/-
  Walks: whether a vector is valid, by the program and by the reference.
-/
import Derived.Test.YtkmmdajlbkbnmaaOkT
namespace Go.Proofs.Ytkmmdajlbkbnmaa
open Go.RowKit Go.Joins

theorem any_no {α : Type} {P : α → Bool} {d : α} {l : List α} (h : ∀ j, j < l.length → P (l.getD j d) = false) : l.any P = false := by
  rw [List.any_eq_false]
  intro x hx
  obtain ⟨i, hi, rfl⟩ := List.mem_iff_getElem.1 hx
  have := h i hi
  simpa [hi] using this
theorem any_yes {α : Type} {P : α → Bool} {d : α} {l : List α} {j : Nat} (hj : j < l.length) (h : P (l.getD j d) = true) : l.any P = true := by
  rw [List.any_eq_true]
  exact ⟨l[j], List.getElem_mem hj, by simpa [hj] using h⟩
theorem all_not {α : Type} {P : α → Bool} {l : List α} : (l.all P) = !(l.any fun x => !P x) := by simp [List.all_eq_not_any_not]

/-- What a function says of a fraction. -/
def Says (f : FuncId) (P : RatD → Bool) : Prop := ∀ (x : RatD) (v : Value) (W : World), RatV W v x → x.mag.length ≤ 1048576 → x.den.length ≤ 1048576 → Calls Try.prog f #[v] W fun e w' => e = .returned (.bool (P x)) ∧ Below W.heap.size W w'

set_option maxRecDepth 100000 in
set_option maxHeartbeats 800000 in
theorem iIndexR (f : FuncId) (P : RatD → Bool) (eg : ∀ (args : Array Value) (w : World), (callFunc f args).run Try.prog w = .ok (.enter f args) w) (hf : Says f P) (rs : List RatD) (n c : Nat) (hn : rs.length = n) (hfew : Few rs) (A : Option Addr) (w : World) (ha : VI w A rs) :
    Calls Try.prog 113 #[.slice A n c, .func (.func f) #[] #[]] w fun e w' => ∃ r : Int, e = .returned (.int .i64 r) ∧ (rs.any P = decide (0 ≤ r)) ∧ Below w.heap.size w w' := by
  have hn1 : n ≤ 1048576 := hn ▸ hfew.1
  have HF := Lib.hid hfew.2
  have HN := Lib.hid hn; clear hn hfew
  go_enter Try.func113, Try.ntmps113
  go_wp2_with fail
  go_loopw [8] (fun u wr => ∃ k : Nat, k ≤ n ∧ u = .int .i64 k ∧ (∀ j, j < k → P (rs.getD j zR) = false) ∧ Below w.heap.size w wr) (fun u _ => n - (intOf u).toNat)
  case atStart => exact ⟨0, Nat.zero_le _, rfl, fun j hj => by omega, Below.refl _ _⟩
  case round =>
    obtain ⟨k, hk, rfl, ht, hbel⟩ := hrel
    have HT := Lib.hid ht; clear ht
    by_cases hkn : k = n
    · subst hkn
      have h0 : decide ((k : Int) < (k : Int)) = false := by simp
      go_wp2
      go_ret
      refine ⟨-1, rfl, ?_, hbel⟩
      rw [any_no (d := zR) (fun j hj => HT.out j (by have := HN.out; omega))]; rfl
    · have hlt : (k : Int) < (n : Int) := by omega
      have hkl : k < rs.length := by rw [HN.out]; omega
      obtain ⟨b, off, rfl, hb1, hat⟩ := ha.cells k hkl
      have hat1 := RatAt.stays _ _ _ _ _ hb1 hat hbel
      obtain ⟨f1, f2⟩ := HF.out k hkl
      have HY := Lib.hid (show P (rs.getD k zR) = true → rs.any P = true from fun h => any_yes hkl h)
      have HG := Lib.hid (show P (rs.getD k zR) = false → ∀ j, j < k + 1 → P (rs.getD j zR) = false from fun h j hj => (Nat.lt_succ_iff_lt_or_eq.1 hj).elim (HT.out j) (fun e => e ▸ h))
      clear hat hkl
      generalize rs.getD k zR = x at *
      obtain ⟨A1, c1, B1, d1, g0, g1, g2, hcd, hr1, hr2⟩ := hat1
      have HE := Lib.hid (fun W (hW : Below wr.heap.size wr W) => hf x (.agg #[.bool x.neg, .slice A1 x.mag.length c1, .slice B1 x.den.length d1]) W ⟨_, _, _, _, rfl, hcd, hr1.later hW, hr2.later hW⟩ f1 f2)
      clear hcd hr1 hr2 f1 f2
      generalize P x = q at *
      cases q
      · have HG2 := Lib.hid (HG.out (by trivial))
        go_wp2_with fail
        refine (HE.out _ (Below.refl _ _)).mono ?_
        rintro e w1 ⟨rfl, hb⟩
        have hbel2 := hbel.trans (below_le hb hbel.size)
        clear hb hbel g0 g1 g2
        go_wp2
        go_roundw
        case rel => exact ⟨k + 1, by omega, rfl, HG2.out, hbel2⟩
        case measure => simp [intOf]; omega
      · have HY2 := Lib.hid (HY.out (by trivial))
        go_wp2_with fail
        refine (HE.out _ (Below.refl _ _)).mono ?_
        rintro e w1 ⟨rfl, hb⟩
        have hbel2 := hbel.trans (below_le hb hbel.size)
        clear hb hbel g0 g1 g2
        go_wp2
        go_ret
        exact ⟨_, rfl, by rw [HY2.out]; simp, hbel2⟩

set_option maxHeartbeats 400000 in
theorem iContainsR (f : FuncId) (P : RatD → Bool) (eg : ∀ (args : Array Value) (w : World), (callFunc f args).run Try.prog w = .ok (.enter f args) w) (hf : Says f P) (rs : List RatD) (n c : Nat) (hn : rs.length = n) (hfew : Few rs) (A : Option Addr) (w : World) (ha : VI w A rs) :
    Calls Try.prog 82 #[.slice A n c, .func (.func f) #[] #[]] w fun e w' => e = .returned (.bool (rs.any P)) ∧ Below w.heap.size w w' := by
  have HC := Lib.hid (iIndexR f P eg hf rs n c hn hfew A w ha)
  clear hf hn hfew ha eg
  go_enter Try.func82, Try.ntmps82
  go_wp2_with fail
  refine HC.out.mono ?_
  rintro e w1 ⟨r, rfl, hd, hb⟩
  have HD := Lib.hid hd; clear hd
  go_wp2
  go_ret
  exact ⟨ret_bool (by rw [HD.out]), hb⟩

def vok (rs : List RatD) : Bool := rs.all FE.ratOk
theorem vok_any (rs : List RatD) : (rs.any fun x => !FE.ratOk x) = !vok rs := by simp [vok, List.all_eq_not_any_not]

set_option maxHeartbeats 400000 in
theorem says_areRats : Says 111 fun x => !FE.ratOk x := by
  intro x v W hv h1 h2
  have HC := Lib.hid (fun w' hb => iRatOk x v w' (hv.later (w' := w') hb) h1 h2)
  obtain ⟨A, c, B, d, rfl, _, _, _⟩ := hv
  go_enter Try.func111, Try.ntmps111
  go_wp2_with fail
  refine (HC.out _ (below_alloc1 _ _)).mono ?_
  rintro e w1 ⟨rfl, hb⟩
  replace hb := box_below hb
  go_wp2
  go_ret
  exact ⟨rfl, hb⟩

set_option maxHeartbeats 400000 in
theorem iAreRats (rs : List RatD) (n c : Nat) (hn : rs.length = n) (hfew : Few rs) (A : Option Addr) (w : World) (ha : VI w A rs) :
    Calls Try.prog 81 #[.slice A n c] w fun e w' => e = .returned (.bool (vok rs)) ∧ Below w.heap.size w w' := by
  have HC := iContainsR _ _ Try.call111 says_areRats rs n c hn hfew A w ha
  rw [vok_any] at HC
  replace HC := Lib.hid HC
  clear hn hfew ha
  go_enter Try.func81, Try.ntmps81
  go_wp2_with fail
  refine HC.out.mono ?_
  rintro e w1 ⟨rfl, hb⟩
  go_wp2
  go_ret
  exact ⟨ret_bool (by simp), hb⟩

set_option maxHeartbeats 400000 in
theorem iIsVector (rs : List RatD) (n c : Nat) (m : Int) (hn : rs.length = n) (hfew : Few rs) (A : Option Addr) (w : World) (ha : VI w A rs) :
    Calls Try.prog 80 #[.slice A n c, .int .i64 m] w fun e w' => e = .returned (.bool (decide ((rs.length : Int) = m) && vok rs)) ∧ Below w.heap.size w w' := by
  have HC := Lib.hid (iAreRats rs n c hn hfew A w ha)
  rw [hn]
  clear hn hfew ha
  by_cases hm : (n : Int) = m
  · subst hm
    have h1 : ((n : Int) == n) = true := by simp
    go_enter Try.func80, Try.ntmps80
    go_wp2_with fail
    refine HC.out.mono ?_
    rintro e w1 ⟨rfl, hb⟩
    go_wp2
    go_ret
    exact ⟨ret_bool (by simp), hb⟩
  · have h1 : ((n : Int) == m) = false := by simp [hm]
    have HF := Lib.hid (show (decide ((n : Int) = m) && vok rs) = false by simp [hm])
    clear hm
    go_enter Try.func80, Try.ntmps80
    go_wp2
    go_ret
    exact ⟨ret_bool HF.out.symm, Below.refl _ _⟩

set_option maxHeartbeats 800000 in
theorem sValid (rs : List RatD) (n c : Nat) (hn : rs.length = n) (hfew : Few rs) (A : Option Addr) (w : World) (ha : VI w A rs) :
    Calls Try.prog 77 #[.slice A n c] w fun e w' => e = .returned (.bool (vok rs)) ∧ Below w.heap.size w w' := by
  have hn1 : n ≤ 1048576 := hn ▸ hfew.1
  have HF := Lib.hid hfew.2
  have HN := Lib.hid hn; clear hn hfew
  go_enter Try.func77, Try.ntmps77
  go_wp2_with fail
  go_loopw [7] (fun u wr => ∃ k : Nat, k ≤ n ∧ u = .int .i64 k ∧ (∀ j, j < k → (!FE.ratOk (rs.getD j zR)) = false) ∧ Below w.heap.size w wr) (fun u _ => n - (intOf u).toNat)
  case atStart => exact ⟨0, Nat.zero_le _, rfl, fun j hj => by omega, Below.refl _ _⟩
  case round =>
    obtain ⟨k, hk, rfl, ht, hbel⟩ := hrel
    have HT := Lib.hid ht; clear ht
    by_cases hkn : k = n
    · subst hkn
      have h0 : decide ((k : Int) < (k : Int)) = false := by simp
      have HR := Lib.hid (show vok rs = true by
        have := any_no (P := fun x => !FE.ratOk x) (d := zR) (fun j hj => HT.out j (by have := HN.out; omega))
        rw [vok_any] at this
        simpa using this)
      go_wp2
      go_ret
      exact ⟨ret_bool HR.out.symm, hbel⟩
    · have hlt : (k : Int) < (n : Int) := by omega
      have hkl : k < rs.length := by rw [HN.out]; omega
      obtain ⟨b, off, rfl, hb1, hat⟩ := ha.cells k hkl
      have hat1 := RatAt.stays _ _ _ _ _ hb1 hat hbel
      obtain ⟨f1, f2⟩ := HF.out k hkl
      have HY := Lib.hid (show (!FE.ratOk (rs.getD k zR)) = true → vok rs = false from fun h => by
        have := any_yes (P := fun x => !FE.ratOk x) hkl h
        rw [vok_any] at this
        simpa using this)
      have HG := Lib.hid (show (!FE.ratOk (rs.getD k zR)) = false → ∀ j, j < k + 1 → (!FE.ratOk (rs.getD j zR)) = false from fun h j hj => (Nat.lt_succ_iff_lt_or_eq.1 hj).elim (HT.out j) (fun e => e ▸ h))
      clear hat hkl
      generalize rs.getD k zR = x at *
      obtain ⟨A1, c1, B1, d1, g0, g1, g2, hcd, hr1, hr2⟩ := hat1
      have HE := Lib.hid (fun W (hW : Below wr.heap.size wr W) => sRatOk x (.agg #[.bool x.neg, .slice A1 x.mag.length c1, .slice B1 x.den.length d1]) W ⟨_, _, _, _, rfl, hcd, hr1.later hW, hr2.later hW⟩ f1 f2)
      clear hcd hr1 hr2 f1 f2
      obtain ⟨q, hq⟩ : ∃ q, FE.ratOk x = q := ⟨_, rfl⟩
      rw [hq] at HE HY HG
      clear hq
      cases q
      · have HY2 := Lib.hid (HY.out rfl)
        go_wp2_with fail
        refine (HE.out _ (below_alloc1 _ _)).mono ?_
        rintro e w1 ⟨rfl, hb⟩
        have hbel2 := hbel.trans (below_le (box_below hb) hbel.size)
        clear hb hbel g0 g1 g2
        go_wp2
        go_ret
        exact ⟨ret_bool HY2.out.symm, hbel2⟩
      · have HG2 := Lib.hid (HG.out rfl)
        go_wp2_with fail
        refine (HE.out _ (below_alloc1 _ _)).mono ?_
        rintro e w1 ⟨rfl, hb⟩
        have hbel2 := hbel.trans (below_le (box_below hb) hbel.size)
        clear hb hbel g0 g1 g2
        go_wp2
        go_roundw
        case rel => exact ⟨k + 1, by omega, rfl, HG2.out, hbel2⟩
        case measure => simp [intOf]; omega
end Go.Proofs.Ytkmmdajlbkbnmaa
