/-
  Walks: whether a fraction is valid, by the reference.
-/
import Derived.Test.YtkmmdajlbkbnmaaOkI
import Derived.Test.YtkmmdajlbkbnmaaSp6
import Derived.Deep.LoopGhost
namespace Go.Proofs.Ytkmmdajlbkbnmaa
open Go.RowKit Go.Joins

set_option maxHeartbeats 400000 in
theorem sBigIntOk (s : Bool) (xs : List Int) (n c : Nat) (hn : xs.length = n) (hn1 : n ≤ 4611686018427387904) (A : Option Addr) (w : World) (ha : RI w A xs) :
    Calls Try.prog 118 #[.agg #[.bool s, .slice A n c]] w fun e w' => e = .returned (.bool (FE.bigOk s xs)) ∧ Below w.heap.size w w' := by
  have HC := Lib.hid (fun o => sNatOk xs n c hn hn1 A (w.alloc o) (ha.alloc o))
  have HQ := Lib.hid (show FE.bigOk s xs = (FE.natOk xs && (!s || !xs.isEmpty)) from rfl)
  have HN := Lib.hid hn; clear hn
  generalize FE.bigOk s xs = res at *
  obtain ⟨q, hq⟩ : ∃ q, FE.natOk xs = q := ⟨_, rfl⟩
  rw [hq] at HC HQ
  clear hq
  cases q
  · go_enter Try.func118, Try.ntmps118
    go_wp2_with fail
    refine (HC.out _).mono ?_
    rintro e w1 ⟨rfl, rfl⟩
    go_wp2
    go_ret
    exact ⟨ret_bool (by rw [HQ.out]; rfl), below_alloc1 _ _⟩
  · cases s
    · go_enter Try.func118, Try.ntmps118
      go_wp2_with fail
      refine (HC.out _).mono ?_
      rintro e w1 ⟨rfl, rfl⟩
      go_wp2
      go_ret
      exact ⟨ret_bool (by rw [HQ.out]; rfl), below_alloc1 _ _⟩
    · by_cases hn0 : 0 < n
      · have HR := Lib.hid (show res = true by
          rw [HQ.out]
          have h0 : xs ≠ [] := (by intro h; have := HN.out; rw [h] at this; simp at this; omega)
          simp [h0])
        go_enter Try.func118, Try.ntmps118
        go_wp2_with fail
        refine (HC.out _).mono ?_
        rintro e w1 ⟨rfl, rfl⟩
        go_wp2
        go_ret
        exact ⟨ret_bool HR.out.symm, below_alloc1 _ _⟩
      · have HR := Lib.hid (show res = false by
          rw [HQ.out]
          have h0 : xs = [] := List.eq_nil_of_length_eq_zero (by have := HN.out; omega)
          simp [h0])
        go_enter Try.func118, Try.ntmps118
        go_wp2_with fail
        refine (HC.out _).mono ?_
        rintro e w1 ⟨rfl, rfl⟩
        go_wp2
        go_ret
        exact ⟨ret_bool HR.out.symm, below_alloc1 _ _⟩

set_option maxHeartbeats 400000 in
theorem sOne (xs : List Int) (n c : Nat) (hn : xs.length = n) (hn1 : n ≤ 4611686018427387904) (A : Option Addr) (w : World) (ha : RI w A xs) :
    Calls Try.prog 120 #[.slice A n c] w fun e w' => e = .returned (.bool (oneB xs)) ∧ w' = w := by
  by_cases h1 : n = 1
  · subst h1
    obtain ⟨x, rfl⟩ := List.length_eq_one_iff.1 hn
    obtain ⟨b, off, rfl, hb, hc⟩ := ha (by simp)
    have e1 := hc 0 (by simp)
    simp only [List.getD_cons_zero, Nat.add_zero] at e1
    by_cases hx : x = 1
    · subst hx
      go_enter Try.func120, Try.ntmps120
      go_wp2
      go_ret
      exact ⟨ret_bool (by simp [oneB]), rfl⟩
    · have HR := Lib.hid (show oneB [x] = false by simp [oneB, hx])
      have hx1 : (x == 1) = false := by simp [hx]
      go_enter Try.func120, Try.ntmps120
      go_wp2
      go_ret
      exact ⟨ret_bool HR.out.symm, rfl⟩
  · have HR := Lib.hid (show oneB xs = false by simp only [oneB, beq_eq_false_iff_ne, ne_eq]; intro h; rw [h] at hn; simp at hn; omega)
    have hx1 : ((n : Int) == 1) = false := by simp; omega
    clear hn h1
    go_enter Try.func120, Try.ntmps120
    go_wp2
    go_ret
    exact ⟨ret_bool HR.out.symm, rfl⟩

set_option maxHeartbeats 400000 in
theorem sPlain (a b : Nat) (ha : a ≤ 4611686018427387904) (hb : b ≤ 4611686018427387904) (w : World) :
    Calls Try.prog 134 #[.int .i64 a, .int .i64 b] w fun e w' => ∃ v, e = .returned v ∧ RO w' w.heap.size v (FE.toL (Nat.gcd a b)) ∧ Below w.heap.size w w' := by
  go_enter Try.func134, Try.ntmps134
  go_wp2_with fail
  go_loop [0, 1] (fun x y => ∃ a' b' : Nat, a' ≤ 4611686018427387904 ∧ b' ≤ 4611686018427387904 ∧ x = .int .i64 a' ∧ y = .int .i64 b' ∧ Nat.gcd a b = Nat.gcd a' b') (fun _ y => (intOf y).toNat)
  case atStart => exact ⟨a, b, ha, hb, rfl, rfl, rfl⟩
  case round =>
    obtain ⟨a', b', ha', hb', rfl, rfl, hg⟩ := hrel
    have HG := Lib.hid hg; clear hg
    by_cases h0 : b' = 0
    · subst h0
      have HN := Lib.hid (fun W => sNatOf_any a' ha' W)
      go_wp2_with fail
      refine (HN.out _).mono ?_
      rintro e w1 ⟨v1, rfl, hro, hb1⟩
      go_wp2
      go_ret
      exact ⟨_, rfl, by rw [HG.out, Nat.gcd_zero_right]; exact hro, hb1⟩
    · have hlt := Nat.mod_lt a' (show 0 < b' by omega)
      have hpos : 0 < b' := by omega
      have hgc : Nat.gcd a' b' = Nat.gcd b' (a' % b') := by rw [Nat.gcd_comm, Nat.gcd_rec, Nat.gcd_comm]
      have HGC := Lib.hid hgc
      clear hgc h0
      go_wp2
      go_round
      case rel => exact ⟨b', a' % b', hb', by omega, rfl, by simp, HG.out.trans HGC.out⟩
      case measure => simp [intOf]; omega

theorem val_big : FE.toL 9223372036854775807 = [854775807, 223372036, 9] := by
  have h := FE.natOk_iff.1 (show FE.natOk [854775807, 223372036, 9] = true by decide)
  exact (FE.eq_toL h.2.1 h.2.2 (by decide)).symm

theorem drop_step (xs : List Int) (k : Nat) (hk : k < xs.length) : FE.val (xs.drop k) = FE.val (xs.drop (k + 1)) * 1000000000 + xs.getD k 0 := by
  rw [List.drop_eq_getElem_cons hk, FE.val_cons]
  have : xs[k] = xs.getD k 0 := by simp [hk]
  rw [this]; omega
theorem drop_le {xs : List Int} (h : FE.Dig xs) (k : Nat) : 0 ≤ FE.val (xs.drop k) ∧ FE.val (xs.drop k) ≤ FE.val xs := by
  have h1 := FE.val_nonneg (h.drop k)
  refine ⟨h1, ?_⟩
  rcases Nat.lt_or_ge xs.length k with hk | hk
  · rw [List.drop_eq_nil_of_le (by omega)]; exact FE.val_nonneg h
  · have h2 := FE.val_take_drop xs k hk
    have h3 := FE.val_nonneg (h.take k)
    have h4 := FE.bp_pos k
    have h5 : FE.val (xs.drop k) ≤ FE.bp k * FE.val (xs.drop k) := by
      have := Int.mul_le_mul_of_nonneg_right (show 1 ≤ FE.bp k by omega) h1
      omega
    omega

set_option maxRecDepth 100000 in
set_option maxHeartbeats 800000 in
theorem sNatToInt (p : Nat) (hp : p < 1000000000000000000) (n c : Nat) (hn : (FE.toL p).length = n) (hn1 : n ≤ 2) (A : Option Addr) (w : World) (ha : RI w A (FE.toL p)) :
    Calls Try.prog 133 #[.slice A n c] w fun e w' => e = .returned (.tuple #[.int .i64 p, .bool true]) ∧ Below w.heap.size w w' := by
  have hok : FE.natOk (FE.toL p) = true := FE.natOk_of_toL (by omega)
  have C1 := fun W h => sNatOk (FE.toL p) n c hn (by omega) A W h
  rw [hok] at C1
  have H1 := Lib.hid C1
  have hcmp : cmpI (p : Nat) (9223372036854775807 : Nat) = -1 := by rw [cmpI, if_pos (by omega)]
  have C2 := Lib.hid (fun (W : World) (B : Option Addr) (d : Nat) (h1 : RI W A (FE.toL p)) (h2 : RI W B [854775807, 223372036, 9]) => sCmp_s p 9223372036854775807 (-1) hcmp n 3 c d hn (by rw [val_big]; rfl) (by omega) (by omega) A B W h1 (by rw [val_big]; exact h2))
  have HD := Lib.hid (FE.toL_dig p)
  have HV := Lib.hid (FE.val_toL p)
  have HN := Lib.hid hn
  clear hn hcmp hok C1
  generalize FE.toL p = xs at *
  have hz : ∀ k, 0 ≤ FE.val (xs.drop k) ∧ FE.val (xs.drop k) < 1000000000000000000 := fun k => by
    have := drop_le HD.out k
    rw [HV.out] at this
    omega
  have HZ := Lib.hid hz
  clear hz
  have hw : Below w.heap.size w w := Below.refl _ _
  have hri : ∀ W, Below w.heap.size w W → RI W A xs := fun W h => ha.later h
  have HR := Lib.hid hri
  clear hri hw
  go_enter Try.func133, Try.ntmps133
  go_wp2_with fail
  refine (H1.out _ ha).mono ?_
  rintro e w1 ⟨rfl, hw1⟩
  subst w1
  go_wp2_with fail
  refine (C2.out _ _ _ (ha.alloc _) (Arr.reads (g := w.heap.size) (cap := 3) ⟨[], rfl, by simp [maxLen], heap_alloc_new _ _⟩)).mono ?_
  rintro e w2 ⟨rfl, k2, rfl⟩
  have hbel : Below w.heap.size w ((w.alloc (.cells #[.int .i64 854775807, .int .i64 223372036, .int .i64 9] 3)).drewN k2) := below_drewN (below_alloc1 _ _) k2
  have ha2 := HR.out _ hbel
  go_wp2_with fail
  go_loop [4, 5] (fun v i => ∃ k : Nat, k ≤ n ∧ i = .int .i64 ((k : Int) - 1) ∧ v = .int .i64 (FE.val (xs.drop k))) (fun _ i => (intOf i + 1).toNat)
  case atStart => exact ⟨n, Nat.le_refl _, rfl, by rw [List.drop_eq_nil_of_le (by rw [HN.out]; exact Nat.le_refl _)]; rfl⟩
  case round =>
    obtain ⟨k, hk, rfl, rfl⟩ := hrel
    by_cases hk0 : k = 0
    · subst hk0
      go_wp2
      go_ret2
      refine ⟨?_, hbel⟩
      show Ending.returned (.tuple #[.int .i64 (FE.val xs), .bool true]) = _
      rw [HV.out]
    · obtain ⟨j, rfl⟩ : ∃ j, k = j + 1 := ⟨k - 1, by omega⟩
      rw [show ((j + 1 : Nat) : Int) - 1 = (j : Int) by omega]
      have hjl : j < xs.length := by rw [HN.out]; omega
      obtain ⟨b1, o1, rfl, hb1, hc1⟩ := ha2 (by intro h; rw [h] at hjl; simp at hjl)
      have e1 := hc1 j hjl
      have hs := drop_step xs j hjl
      have hz1 := HZ.out j
      have hz2 := HZ.out (j + 1)
      have hd := HD.out.getD j
      clear hc1 hjl
      generalize xs.getD j 0 = x at *
      generalize FE.val (xs.drop (j + 1)) = u at *
      have HS := Lib.hid hs
      rw [hs] at hz1
      clear hs hk0
      go_wp2
      go_round
      case rel => exact ⟨j, by omega, by go_num, by rw [HS.out]⟩
      case measure => simp [intOf] <;> omega

/-- A slice that reads as a list of ints. -/
def RV (w : World) (v : Value) (xs : List Int) : Prop := ∃ A c, v = .slice A xs.length c ∧ xs.length ≤ c ∧ c ≤ maxLen ∧ RI w A xs
theorem RO.cap {w : World} {base n c : Nat} {A : Option Addr} {xs : List Int} (h : RO w base (.slice A n c) xs) : c ≤ maxLen := by
  obtain ⟨A', c', he, _, h2, _⟩ := h
  injection he with _ _ he
  omega
theorem RO.rv {w : World} {base : Nat} {v : Value} {xs : List Int} (h : RO w base v xs) : RV w v xs := by
  obtain ⟨A, c, rfl, hl, hc, _⟩ := id h
  exact ⟨A, c, rfl, hl, hc, h.reads⟩

set_option maxRecDepth 100000 in
set_option maxHeartbeats 1600000 in
theorem sGcd (p q : Nat) (n m c d : Nat) (hn : (FE.toL p).length = n) (hm : (FE.toL q).length = m) (hn1 : n ≤ 50000) (hm1 : m ≤ 50000)
    (A B : Option Addr) (w : World) (ha : RI w A (FE.toL p)) (hb : RI w B (FE.toL q)) :
    Calls Try.prog 121 #[.slice A n c, .slice B m d] w fun e w' => ∃ v, e = .returned v ∧ RV w' v (FE.toL (Nat.gcd p q)) ∧ Below w.heap.size w w' := by
  have HN := Lib.hid hn; clear hn
  have HM := Lib.hid hm; clear hm
  go_enter Try.func121, Try.ntmps121
  go_wp2_with (first
    | (at_builtin; refine appendAll rfl _ _ _ rfl Try.underlying80 Try.intInfo w1.heap.size _ [] rfl (OI.of_arr (g := w1.heap.size) (cap := 0) ⟨[], rfl, Nat.zero_le _, heap_alloc_new _ _⟩ (Nat.le_refl _)) B (FE.toL q) m d rfl HM.out (hb2.alloc _) (by simp; omega) (by simp) ?_; intro v2 w2 ho2 hb3)
    | (at_builtin; refine appendAll rfl _ _ _ rfl Try.underlying80 Try.intInfo w.heap.size _ [] rfl (OI.of_arr (g := w.heap.size) (cap := 0) ⟨[], rfl, Nat.zero_le _, heap_alloc_new _ _⟩ (Nat.le_refl _)) A (FE.toL p) n c rfl HN.out (ha.alloc _) (by simp; omega) (by simp) ?_; intro v1 w1 ho1 hb1; have hb1' := (below_alloc1 w (.cells #[] 3)).trans hb1; have hb2 := hb.later hb1'; have ho1' := RO.of_own (by simpa using ho1); obtain ⟨A1, c1, rfl, hl1⟩ := ho1'.form; have HO1 := Lib.hid ho1'; clear hb1 ho1 ho1' ha hb))
  have hb3' := (below_alloc1 w1 (.cells #[] 3)).trans hb3
  have ho2' := RO.of_own (by simpa using ho2)
  have ho1' := HO1.out.later hb3'
  obtain ⟨A2, c2, rfl, hl2, hm2, _⟩ := id ho2'
  have hm1c := ho1'.cap
  have hr1 := ho1'.reads
  have hr2 := ho2'.reads
  have hb4 := hb1'.trans (hb3'.mono hb1'.size)
  have HL1 := Lib.hid (show (FE.toL p).length ≤ 50000 by rw [HN.out]; exact hn1)
  have HL2 := Lib.hid (show (FE.toL q).length ≤ 50000 by rw [HM.out]; exact hm1)
  clear hb3 ho2 HO1 ho1' ho2' hb3' hb1' hb2
  go_loopg [5, 6] q (fun k v0 v1 wr => ∃ (p' q' : Nat) (A' B' : Option Addr) (n' m' c' d' : Nat), v0 = .slice A' n' c' ∧ v1 = .slice B' m' d' ∧ (FE.toL p').length = n' ∧ (FE.toL q').length = m' ∧ n' ≤ 50000 ∧ m' ≤ 50000 ∧
      n' ≤ c' ∧ c' ≤ maxLen ∧ m' ≤ d' ∧ d' ≤ maxLen ∧ RI wr A' (FE.toL p') ∧ RI wr B' (FE.toL q') ∧ q' ≤ k ∧ Nat.gcd p q = Nat.gcd p' q' ∧ Below w.heap.size w wr)
  case atStart => exact ⟨p, q, A1, A2, _, _, c1, c2, rfl, rfl, rfl, rfl, HL1.out, HL2.out, hl1, hm1c, hl2, hm2, hr1, hr2, Nat.le_refl _, rfl, hb4⟩
  case round =>
    obtain ⟨p', q', A', B', n', m', c', d', rfl, rfl, hn', hm', hn1', hm1', hc1, hc2, hd1, hd2, ha', hb', hk, hg, hbel⟩ := hrel
    have HG := Lib.hid hg
    have HN' := Lib.hid hn'
    have HM' := Lib.hid hm'
    clear hg hr1 hr2 hb4 HL1 HL2
    by_cases hq0 : q' = 0
    · subst hq0
      have hm0 : m' = 0 := by rw [FE.toL_zero] at hm'; simp at hm'; omega
      subst hm0
      clear hn' hm'
      go_wp2
      go_ret
      refine ⟨_, rfl, ⟨A', c', ?_, ?_, hc2, ?_⟩, hbel⟩
      · rw [HG.out, Nat.gcd_zero_right, HN'.out]; rfl
      · rw [HG.out, Nat.gcd_zero_right, HN'.out]; exact hc1
      · rw [HG.out, Nat.gcd_zero_right]; exact ha'
    · have hm1 : 0 < m' := by
        have : FE.toL q' ≠ [] := fun h => hq0 (FE.toL_eq_nil.1 h)
        have := List.length_pos_iff.2 this
        omega
      have HLT := Lib.hid (Nat.mod_lt p' (show 0 < q' by omega))
      have HGC := Lib.hid (show Nat.gcd p' q' = Nat.gcd q' (p' % q') by rw [Nat.gcd_comm, Nat.gcd_rec, Nat.gcd_comm])
      have HLN := Lib.hid (show (FE.toL (p' % q')).length ≤ m' by rw [← hm']; exact toL_len_mono (by have := HLT.out; omega))
      have HDV := Lib.hid (fun W (h1 : RI W A' (FE.toL p')) (h2 : RI W B' (FE.toL q')) => sDiv_nat p' q' n' m' c' d' hn' hm' hn1' hm1' hq0 A' B' W h1 h2)
      have HP := Lib.hid (show n' < 3 → p' < 1000000000000000000 from fun h => by
        have := (FE.toL_len_le p' 2).1 (by omega)
        rw [FE.bp_succ, FE.bp_succ, FE.bp_zero] at this
        omega)
      have HQ := Lib.hid (show m' < 3 → q' < 1000000000000000000 from fun h => by
        have := (FE.toL_len_le q' 2).1 (by omega)
        rw [FE.bp_succ, FE.bp_succ, FE.bp_zero] at this
        omega)
      clear hn' hm' hq0
      by_cases h3 : n' < 3
      · by_cases h4 : m' < 3
        · have HI1 := Lib.hid (fun W (h : RI W A' (FE.toL p')) => sNatToInt p' (HP.out h3) n' c' HN'.out (by omega) A' W h)
          have HI2 := Lib.hid (fun W (h : RI W B' (FE.toL q')) => sNatToInt q' (HQ.out h4) m' d' HM'.out (by omega) B' W h)
          have HI3 := Lib.hid (fun W => sPlain p' q' (by have := HP.out h3; omega) (by have := HQ.out h4; omega) W)
          clear HDV HP HQ HLN HGC HLT
          go_wp2_with fail
          refine (HI1.out _ ha').mono ?_
          rintro e w2 ⟨rfl, hb2⟩
          have hb'' := hb'.later hb2
          replace hbel := hbel.trans (hb2.mono hbel.size)
          clear hb2 ha' hb'
          go_wp2_with fail
          refine (HI2.out _ hb'').mono ?_
          rintro e w3 ⟨rfl, hb2⟩
          replace hbel := hbel.trans (hb2.mono hbel.size)
          clear hb2 hb''
          go_wp2_with fail
          refine (HI3.out _).mono ?_
          rintro e w4 ⟨u4, rfl, hro, hb2⟩
          replace hbel := hbel.trans (hb2.mono hbel.size)
          go_wp2
          go_ret
          exact ⟨_, rfl, by rw [HG.out]; exact hro.rv, hbel⟩
        · go_wp2_with fail
          refine (HDV.out _ ha' hb').mono ?_
          rintro e w2 ⟨u1, u2, rfl, ⟨A3, c3, rfl, _⟩, hro2, hb2⟩
          obtain ⟨A4, c4, rfl, hl4, hm4, _⟩ := id hro2
          go_wp2
          go_roundg (p' % q')
          case measure => have := HLT.out; omega
          case rel => exact ⟨q', p' % q', B', A4, m', _, d', c4, rfl, rfl, HM'.out, rfl, hm1', by have := HLN.out; omega, hd1, hd2, hl4, hm4, hb'.later hb2, hro2.reads, Nat.le_refl _, by rw [HG.out, HGC.out], hbel.trans (hb2.mono hbel.size)⟩
      · go_wp2_with fail
        refine (HDV.out _ ha' hb').mono ?_
        rintro e w2 ⟨u1, u2, rfl, ⟨A3, c3, rfl, _⟩, hro2, hb2⟩
        obtain ⟨A4, c4, rfl, hl4, hm4, _⟩ := id hro2
        go_wp2
        go_roundg (p' % q')
        case measure => have := HLT.out; omega
        case rel => exact ⟨q', p' % q', B', A4, m', _, d', c4, rfl, rfl, HM'.out, rfl, hm1', by have := HLN.out; omega, hd1, hd2, hl4, hm4, hb'.later hb2, hro2.reads, Nat.le_refl _, by rw [HG.out, HGC.out], hbel.trans (hb2.mono hbel.size)⟩
end Go.Proofs.Ytkmmdajlbkbnmaa
