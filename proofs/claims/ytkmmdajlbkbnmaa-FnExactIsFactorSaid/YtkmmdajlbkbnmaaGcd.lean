/-
  Walks: division and greatest common divisor of natural numbers, for all numbers.
-/
import Derived.Test.YtkmmdajlbkbnmaaDivM
import Derived.Deep.LoopGhost
namespace Go.Proofs.Ytkmmdajlbkbnmaa
open Go.RowKit

theorem natDiv_any (xs ys : List Int) (n m c d : Nat) (hn : xs.length = n) (hm : ys.length = m) (hn1 : n ≤ 65536) (hm1 : m ≤ 65536) (hxd : FE.Dig xs) (hxt : FE.Top xs) (hyd : FE.Dig ys) (hyt : FE.Top ys) (hy : ys ≠ [])
    (A B : Option Addr) (w : World) (ha : RI w A xs) (hb : RI w B ys) :
    Calls Try.prog 138 #[.slice A n c, .slice B m d] w fun e w' => ∃ v1 v2, e = .returned (.tuple #[v1, v2]) ∧ RO w' w.heap.size v1 (FE.toL (FE.val xs / FE.val ys).toNat) ∧ RO w' w.heap.size v2 (FE.toL (FE.val xs % FE.val ys).toNat) ∧ Below w.heap.size w w' := by
  rcases Int.lt_or_le (FE.val xs) (FE.val ys) with hlt | hge
  · exact natDiv_lt xs ys n m c d hn hm hn1 hm1 hxd hxt hyd hyt hlt A B w ha hb
  · match m, hm with
    | 0, hm => exact absurd (List.eq_nil_of_length_eq_zero hm) hy
    | 1, hm =>
      obtain ⟨y, rfl⟩ := List.length_eq_one_iff.1 hm
      have h1 := hyd.head
      have h2 := hyt (by simp)
      simp at h2
      have e : FE.val [y] = y := by simp [FE.val]
      rw [e] at hge ⊢
      exact natDiv_one xs y n c d hn hn1 hxd hxt (by omega) h1.2 hge A B w ha hb
    | m + 2, hm => exact natDiv_many xs ys n m c d hn hm hn1 hxd hxt hyd hyt hge A B w ha hb

theorem natDiv_nat (p q : Nat) (n m c d : Nat) (hn : (FE.toL p).length = n) (hm : (FE.toL q).length = m) (hn1 : n ≤ 65536) (hm1 : m ≤ 65536) (hq : q ≠ 0)
    (A B : Option Addr) (w : World) (ha : RI w A (FE.toL p)) (hb : RI w B (FE.toL q)) :
    Calls Try.prog 138 #[.slice A n c, .slice B m d] w fun e w' => ∃ v1 v2, e = .returned (.tuple #[v1, v2]) ∧ RO w' w.heap.size v1 (FE.toL (p / q)) ∧ RO w' w.heap.size v2 (FE.toL (p % q)) ∧ Below w.heap.size w w' := by
  have h := natDiv_any (FE.toL p) (FE.toL q) n m c d hn hm hn1 hm1 (FE.toL_dig _) (FE.toL_top _) (FE.toL_dig _) (FE.toL_top _) (fun h => hq (FE.toL_eq_nil.1 h)) A B w ha hb
  rw [FE.val_toL, FE.val_toL, ← Int.natCast_ediv, ← Int.natCast_emod, Int.toNat_natCast, Int.toNat_natCast] at h
  exact h

theorem toL_len_mono {p q : Nat} (h : p ≤ q) : (FE.toL p).length ≤ (FE.toL q).length := by
  have h1 := FE.val_lt (FE.toL_dig q)
  rw [FE.val_toL] at h1
  exact (FE.toL_len_le p _).2 (by omega)

set_option maxRecDepth 100000 in
set_option maxHeartbeats 1000000 in
theorem natGcd_nat (p q : Nat) (n m c d : Nat) (hn : (FE.toL p).length = n) (hm : (FE.toL q).length = m) (hn1 : n ≤ 65536) (hm1 : m ≤ 65536)
    (A B : Option Addr) (w : World) (ha : RI w A (FE.toL p)) (hb : RI w B (FE.toL q)) :
    Calls Try.prog 128 #[.slice A n c, .slice B m d] w fun e w' => ∃ v, e = .returned v ∧ RO w' w.heap.size v (FE.toL (Nat.gcd p q)) ∧ Below w.heap.size w w' := by
  go_enter Try.func128, Try.ntmps128
  go_wp2_with fail
  go_loopg [0, 1] q (fun k v0 v1 wr => ∃ (p' q' : Nat) (A' B' : Option Addr) (n' m' c' d' : Nat), v0 = .slice A' n' c' ∧ v1 = .slice B' m' d' ∧ (FE.toL p').length = n' ∧ (FE.toL q').length = m' ∧ n' ≤ 65536 ∧ m' ≤ 65536 ∧
      RI wr A' (FE.toL p') ∧ RI wr B' (FE.toL q') ∧ q' ≤ k ∧ Nat.gcd p q = Nat.gcd p' q' ∧ Below w.heap.size w wr)
  case atStart => exact ⟨p, q, A, B, n, m, c, d, rfl, rfl, hn, hm, hn1, hm1, ha, hb, Nat.le_refl _, rfl, Below.refl _ _⟩
  case round =>
    obtain ⟨p', q', A', B', n', m', c', d', rfl, rfl, hn', hm', hn1', hm1', ha', hb', hk, hg, hbel⟩ := hrel
    have HG := Lib.hid hg
    have HN := Lib.hid hn'
    have HM := Lib.hid hm'
    clear hg
    by_cases hq0 : q' = 0
    · subst hq0
      have hm0 : m' = 0 := by rw [FE.toL_zero] at hm'; simp at hm'; omega
      subst hm0
      clear hn' hm'
      go_wp2_with (go_at_call 107; refine (clone_any (FE.toL p') n' c' HN.out (by omega) A' _ ha').mono ?_; rintro e w2 ⟨v2, rfl, hro, hb2⟩)
      go_ret
      refine ⟨_, rfl, ?_, hbel.trans (hb2.mono hbel.size)⟩
      rw [HG.out, Nat.gcd_zero_right]
      exact hro.mono hbel.size
    · have hm1 : 1 ≤ m' := by
        have : FE.toL q' ≠ [] := fun h => hq0 (FE.toL_eq_nil.1 h)
        have := List.length_pos_iff.2 this
        omega
      have hlt := Nat.mod_lt p' (show 0 < q' by omega)
      have hgc : Nat.gcd p' q' = Nat.gcd q' (p' % q') := by rw [Nat.gcd_comm, Nat.gcd_rec, Nat.gcd_comm]
      have hlen := toL_len_mono (show p' % q' ≤ q' by omega)
      rw [hm'] at hlen
      have HQ := Lib.hid hq0
      have HGC := Lib.hid hgc
      have HLT := Lib.hid hlt
      clear hn' hm' hq0 hgc hlt
      go_wp2_with fail
      refine (natDiv_nat p' q' n' m' c' d' HN.out HM.out hn1' hm1' HQ.out A' B' _ ha' hb').mono ?_
      rintro e w2 ⟨v1, v2, rfl, ⟨A1, c1, rfl, _⟩, hro2, hb2⟩
      obtain ⟨A2, c2, rfl, hl2⟩ := hro2.form
      go_wp2
      go_roundg (p' % q')
      case measure => have := HLT.out; omega
      case rel => exact ⟨q', p' % q', B', A2, m', _, d', c2, rfl, rfl, HM.out, rfl, hm1', by omega, hb'.later hb2, hro2.reads, Nat.le_refl _, by rw [HG.out, HGC.out], hbel.trans (hb2.mono hbel.size)⟩

end Go.Proofs.Ytkmmdajlbkbnmaa
