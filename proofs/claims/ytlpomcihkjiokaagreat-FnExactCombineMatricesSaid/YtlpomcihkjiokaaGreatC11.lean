/-
  Shared texts (C11).
-/
import Derived.Test.YtlpomcihkjiokaaGreatC10
import Derived.Laws.Bits64b
import Derived.Laws.CopyOwn
import Derived.Test.YtlpomcihkjiokaaGreatC9
import Derived.Test.YtlpomcihkjiokaaGreatC2
import Derived.Test.YtlpomcihkjiokaaGreatC3
import Derived.Deep.RegionHeld3
import Derived.Test.YtlpomcihkjiokaaGreatC6
namespace Go.Proofs.YtlpomcihkjiokaaGreat
open Go.RowKit Go.Joins

theorem and_mask (n : Nat) (hn : n ≤ 1048576) : bits .and .u64 (n : Int) 4294967295 = (n : Int) := by
  have h := bits_and_u64_nat n 4294967295 (by omega) (by omega)
  have e : n &&& 4294967295 = n % 4294967296 := Nat.and_two_pow_sub_one_eq_mod n 32
  rw [e, Nat.mod_eq_of_lt (by omega)] at h
  exact h
theorem wrap_u (n : Nat) (hn : n ≤ 1048576) : IntKind.u64.wrap (n : Int) = (n : Int) := by rw [IntKind.wrap_u64]; omega
theorem wrap_i {x : Int} (h1 : 0 ≤ x) (h2 : x ≤ 9223372036854775807) : IntKind.i64.wrap x = x := by
  rw [IntKind.wrap_i64]
  omega
theorem mul64One (n : Nat) (hn : n ≤ 1048576) (w : World) :
    Calls Tryz.prog 223 #[.int .u64 1, .int .u64 n] w fun e w' => e = .returned (.tuple #[.int .u64 0, .int .u64 n]) ∧ w' = w := by
  have h1 : bits .and .u64 1 4294967295 = 1 := and_mask 1 (by omega)
  have h3 := and_mask n hn
  have h5 : bits .and .u64 0 4294967295 = 0 := and_mask 0 (by omega)
  have h4 : (n : Int) / 4294967296 = 0 := by omega
  have h6 := wrap_u n hn
  go_enter Tryz.func223, Tryz.ntmps223
  go_wp2
  go_ret2
  exact ⟨rfl, rfl⟩
theorem mulOne (n : Nat) (hn : n ≤ 1048576) (w : World) :
    Calls Tryz.prog 201 #[.int .u64 1, .int .u64 n] w fun e w' => e = .returned (.tuple #[.int .u64 0, .int .u64 n]) ∧ w' = w := by
  have HM := Lib.hid (fun W => mul64One n hn W)
  have h6 := wrap_u n hn
  go_enter Tryz.func201, Tryz.ntmps201
  go_wp2_with fail
  refine (HM.out _).mono ?_
  rintro e w1 ⟨rfl, rfl⟩
  go_wp2
  go_ret2
  exact ⟨rfl, rfl⟩

/-- copy, at whatever type: the cells cs go over. -/
theorem run_copyK {P : Program} (w : World) (dT sT ty elem : TypeId) (size g o dLen dCap : Nat) (a : Addr) (sLen sCap : Nat) (cur : Array Value) (t : TypeId) (cs : List Value) (m : Nat)
    (hu : P.underlying dT = some (.slice elem)) (hs : (P.info? elem).map (·.size) = some size)
    (hg : w.heap[g]? = some (.cells cur t (0, 0))) (hm : Nat.min sLen dLen = m) (hn : cs.length = m * size)
    (hsrc : ∀ j v, cs[j]? = some v → w.cell? (a.add j) = some v) (hfit : o + cs.length ≤ cur.size) (h1 : ∀ v ∈ cs, v.oneCell' = true) :
    (Builtin.copy_ #[dT, sT] ty #[.slice (some ⟨g, o, none⟩) dLen dCap, .slice (some a) sLen sCap]).run P w =
      .ok (goInt m) (w.setRow g (cur.toList.take o ++ cs ++ cur.toList.drop (o + cs.length)).toArray) := by
  have hl := run_loadCells_list (P := P) w a cs hsrc
  have hst := run_storeCells_at P g o t cs 0 cur w hg (by simpa using hfit) h1
  rw [hn] at hl
  cases hq : P.info? elem with
  | none => simp [hq] at hs
  | some i =>
    have hi : i.size = size := by simpa [hq] using hs
    simp [Builtin.copy_, run_underlying hu, Builtin.lenOf, Builtin.firstCells, sizeOf, typeInfo, hq, hi, hm, hl, hst]
/-- An array of n elements whose first k are the same three cells. -/
def Rp (w : World) (g n k : Nat) (a b c : Value) : Prop :=
  ∃ cur : List Value, w.heap[g]? = some (.cells cur.toArray 57 (0, 0)) ∧ cur.length = n * 3 ∧ ∀ j, j < k → cur[j * 3]? = some a ∧ cur[j * 3 + 1]? = some b ∧ cur[j * 3 + 2]? = some c
theorem rep_list {cur cs : List Value} {n k m : Nat} {a b c : Value} (hl : cur.length = n * 3) (h : ∀ j, j < k → cur[j * 3]? = some a ∧ cur[j * 3 + 1]? = some b ∧ cur[j * 3 + 2]? = some c) (hkm : k + m ≤ n) (hcs : cs.length = m * 3)
    (hc : ∀ j, j < m → cs[j * 3]? = some a ∧ cs[j * 3 + 1]? = some b ∧ cs[j * 3 + 2]? = some c) :
    (cur.take (k * 3) ++ cs ++ cur.drop (k * 3 + cs.length)).length = n * 3 ∧ ∀ j, j < k + m → (cur.take (k * 3) ++ cs ++ cur.drop (k * 3 + cs.length))[j * 3]? = some a ∧ (cur.take (k * 3) ++ cs ++ cur.drop (k * 3 + cs.length))[j * 3 + 1]? = some b ∧ (cur.take (k * 3) ++ cs ++ cur.drop (k * 3 + cs.length))[j * 3 + 2]? = some c := by
  have hlt : (cur.take (k * 3)).length = k * 3 := by rw [List.length_take]; omega
  refine ⟨by simp only [List.length_append, List.length_drop, hlt]; omega, fun j hj => ?_⟩
  have one : ∀ i, i < (k + m) * 3 → (cur.take (k * 3) ++ cs ++ cur.drop (k * 3 + cs.length))[i]? = if i < k * 3 then cur[i]? else cs[i - k * 3]? := fun i hi => by
    rw [List.append_assoc]
    by_cases e : i < k * 3
    · rw [if_pos e, List.getElem?_append_left (by rw [hlt]; exact e), List.getElem?_take_of_lt e]
    · rw [if_neg e, List.getElem?_append_right (by rw [hlt]; omega), hlt, List.getElem?_append_left (by omega)]
  rw [one _ (by omega), one _ (by omega), one _ (by omega)]
  by_cases e : j < k
  · rw [if_pos (by omega), if_pos (by omega), if_pos (by omega)]
    exact h j e
  · rw [if_neg (by omega), if_neg (by omega), if_neg (by omega), show j * 3 - k * 3 = (j - k) * 3 by omega, show j * 3 + 1 - k * 3 = (j - k) * 3 + 1 by omega, show j * 3 + 2 - k * 3 = (j - k) * 3 + 2 by omega]
    exact hc (j - k) (by omega)
theorem setRow_frame (w : World) (g : Nat) (cs : Array Value) : Frame (fun x => x = g) w (w.setRow g cs) :=
  ⟨rfl, rfl, rfl, by simp [World.setRow], fun b _ hn => setRow_other w g b cs (fun e => hn e)⟩
theorem rat_size : (Tryz.prog.info? 57).map (·.size) = some 3 := by
  have hinfo := Tryz.ratInfo
  cases hi0 : Tryz.prog.info? 57 with
  | none => rw [hi0] at hinfo; simp at hinfo
  | some i =>
    rw [hi0] at hinfo
    simp only [Option.map_some, Option.some.injEq, Prod.mk.injEq] at hinfo
    rw [Option.map_some, hinfo.2.1]
theorem run_rep {w : World} {g n k m dLen dCap sLen sCap : Nat} {a b c : Value} (h : Rp w g n k a b c) (src : Addr) (cs : List Value) (hm : Nat.min sLen dLen = m) (hkm : k + m ≤ n) (hcs : cs.length = m * 3)
    (hc : ∀ j, j < m → cs[j * 3]? = some a ∧ cs[j * 3 + 1]? = some b ∧ cs[j * 3 + 2]? = some c) (hsrc : ∀ j v, cs[j]? = some v → w.cell? (src.add j) = some v) (h1 : ∀ v ∈ cs, v.oneCell' = true) (ty : TypeId) :
    ∃ w', (Builtin.copy_ #[28, 28] ty #[.slice (some ⟨g, k * 3, none⟩) dLen dCap, .slice (some src) sLen sCap]).run Tryz.prog w = .ok (goInt m) w' ∧ Rp w' g n (k + m) a b c ∧ Frame (fun x => x = g) w w' := by
  obtain ⟨cur, hg, hl, hh⟩ := h
  have hs : (Tryz.prog.info? 57).map (·.size) = some 3 := by
    exact rat_size
  refine ⟨_, run_copyK w _ 28 ty 57 3 g (k * 3) dLen dCap src sLen sCap cur.toArray 57 cs m Tryz.underlying28 hs hg hm hcs hsrc (by simp only [List.size_toArray, hl, hcs]; omega) h1, ?_, setRow_frame _ _ _⟩
  obtain ⟨q1, q2⟩ := rep_list hl hh hkm hcs hc
  exact ⟨_, setRow_heap w g cur.toArray _ _ _ hg, q1, q2⟩
theorem wpRep {o : Oper} {a : Act} {w : World} {K : Act → World → Prop} {Q : Exit → Act → World → Prop} (d s : Operand)
    (ho : o.op = .call { callee := .builtin .copy, args := #[d, s], argTypes := #[28, 28] }) {g n k m dLen dCap sLen sCap : Nat} {x y z : Value} (h : Rp w g n k x y z) (src : Addr)
    (hd : a.eval d = .slice (some ⟨g, k * 3, none⟩) dLen dCap) (hs : a.eval s = .slice (some src) sLen sCap) (cs : List Value) (hm : Nat.min sLen dLen = m) (hkm : k + m ≤ n) (hcs : cs.length = m * 3)
    (hc : ∀ j, j < m → cs[j * 3]? = some x ∧ cs[j * 3 + 1]? = some y ∧ cs[j * 3 + 2]? = some z) (hsrc : ∀ j v, cs[j]? = some v → w.cell? (src.add j) = some v) (h1 : ∀ v ∈ cs, v.oneCell' = true)
    (hK : ∀ w', Rp w' g n (k + m) x y z → Frame (fun x => x = g) w w' → K (a.put o.dst (goInt m)) w') : Oper.wp Tryz.prog o a w K Q := by
  obtain ⟨w', hrun, h2, h3⟩ := run_rep (dCap := dCap) (sCap := sCap) h src cs hm hkm hcs hc hsrc h1 o.type
  unfold Oper.wp
  simp [execOp, ho, resolve, invoke, builtin, hd, hs, hrun, Result.andThen]
  exact hK w' h2 h3
/-- The cells of the first m elements. -/
theorem Rp.src {w : World} {g n k m : Nat} {a b c : Value} (h : Rp w g n k a b c) (hm : m ≤ k) (hk : k ≤ n) (h1 : a.oneCell' = true ∧ b.oneCell' = true ∧ c.oneCell' = true) :
    ∃ cs : List Value, cs.length = m * 3 ∧ (∀ j, j < m → cs[j * 3]? = some a ∧ cs[j * 3 + 1]? = some b ∧ cs[j * 3 + 2]? = some c) ∧ (∀ j v, cs[j]? = some v → w.cell? ((⟨g, 0, none⟩ : Addr).add j) = some v) ∧ ∀ v ∈ cs, v.oneCell' = true := by
  obtain ⟨cur, hg, hl, hh⟩ := h
  have hlen : (cur.take (m * 3)).length = m * 3 := by rw [List.length_take]; omega
  refine ⟨cur.take (m * 3), hlen, fun j hj => ?_, fun j v hv => ?_, fun v hv => ?_⟩
  · rw [List.getElem?_take_of_lt (by omega), List.getElem?_take_of_lt (by omega), List.getElem?_take_of_lt (by omega)]
    exact hh j (by omega)
  · have hj : j < m * 3 := by rw [← hlen]; exact (List.getElem?_eq_some_iff.1 hv).1
    rw [List.getElem?_take_of_lt hj] at hv
    have ha : (⟨g, 0, none⟩ : Addr).add j = ⟨g, j, none⟩ := by unfold Addr.add; split <;> simp_all
    rw [ha, cell_of_row w g j _ _ (0, 0) hg]
    simpa using hv
  · obtain ⟨i, hi, rfl⟩ := List.mem_iff_getElem.1 hv
    rw [hlen] at hi
    have hj : i / 3 < k := by omega
    obtain ⟨q0, q1, q2⟩ := hh (i / 3) hj
    have hit : (cur.take (m * 3))[i]? = cur[i]? := List.getElem?_take_of_lt hi
    have he : (cur.take (m * 3))[i]? = some ((cur.take (m * 3))[i]'(by omega)) := List.getElem?_eq_getElem (by omega)
    rw [hit] at he
    rcases (show i = i / 3 * 3 ∨ i = i / 3 * 3 + 1 ∨ i = i / 3 * 3 + 2 by omega) with h' | h' | h'
    · rw [← h', he] at q0; injection q0 with q0; rw [q0]; exact h1.1
    · rw [← h', he] at q1; injection q1 with q1; rw [q1]; exact h1.2.1
    · rw [← h', he] at q2; injection q2 with q2; rw [q2]; exact h1.2.2
theorem Rp.frame {S : Nat → Prop} {w w' : World} {g n k : Nat} {a b c : Value} (h : Rp w g n k a b c) (hf : Frame S w w') (hs : ¬ S g) : Rp w' g n k a b c := by
  obtain ⟨cur, hg, hl, hh⟩ := h
  exact ⟨cur, (hf.block g (Array.getElem?_eq_some_iff.1 hg).1 hs).trans hg, hl, hh⟩
theorem Rp.made {w : World} {C : Array Value} {n : Nat} {a b c : Value} (hC : C.size = n * 3) : Rp (w.alloc (.cells C 57)) w.heap.size n 0 a b c :=
  ⟨C.toList, by rw [heap_alloc_new], by simpa using hC, fun j hj => by omega⟩
theorem Rp.cells {w : World} {g n k : Nat} {a b c : Value} (h : Rp w g n k a b c) (j : Nat) (hj : j < k) : R3 w g (j * 3) a b c := by
  obtain ⟨cur, hg, hl, hh⟩ := h
  obtain ⟨q0, q1, q2⟩ := hh j hj
  refine ⟨?_, ?_, ?_⟩ <;> rw [cell_of_row w g _ _ _ (0, 0) hg] <;> simpa
theorem Rp.frozen {w : World} {g n k : Nat} {a b c : Value} (h : Rp w g n k a b c) (i : Nat) : w.frozen? ⟨g, i, none⟩ = false := by
  obtain ⟨cur, hg, _⟩ := h
  simp [World.frozen?, hg]
theorem Rp.lt {w : World} {g n k : Nat} {a b c : Value} (h : Rp w g n k a b c) : g < w.heap.size := by
  obtain ⟨cur, hg, _⟩ := h
  exact (Array.getElem?_eq_some_iff.1 hg).1
theorem listRep {ops : Array Oper} {rest : List Oper} {o : Oper} {a : Act} {w : World} {Q : Exit → Act → World → Prop} (hgd : o.guard = none) (d s : Operand)
    (ho : o.op = .call { callee := .builtin .copy, args := #[d, s], argTypes := #[28, 28] }) {g n k m dLen dCap sLen sCap : Nat} {x y z : Value} (h : Rp w g n k x y z) (src : Addr)
    (hd : a.eval d = .slice (some ⟨g, k * 3, none⟩) dLen dCap) (hs : a.eval s = .slice (some src) sLen sCap) (cs : List Value) (hm : Nat.min sLen dLen = m) (hkm : k + m ≤ n) (hcs : cs.length = m * 3)
    (hc : ∀ j, j < m → cs[j * 3]? = some x ∧ cs[j * 3 + 1]? = some y ∧ cs[j * 3 + 2]? = some z) (hsrc : ∀ j v, cs[j]? = some v → w.cell? (src.add j) = some v) (h1 : ∀ v ∈ cs, v.oneCell' = true)
    (hK : ∀ w', Rp w' g n (k + m) x y z → Frame (fun x => x = g) w w' → wpList Tryz.prog ops Q rest (a.put o.dst (goInt m)) w') : wpList Tryz.prog ops Q (o :: rest) a w :=
  wpList_plain hgd fun _ hK' => wpRep d s ho h src hd hs cs hm hkm hcs hc hsrc h1 fun w' h2 h3 => hK' _ _ (hK w' h2 h3)
theorem R3.src {w : World} {g : Nat} {a b c : Value} (h : R3 w g 0 a b c) : ∀ j v, ([a, b, c] : List Value)[j]? = some v → w.cell? ((⟨g, 0, none⟩ : Addr).add j) = some v := by
  intro j v hj
  match j, hj with
  | 0, hj => simp at hj; subst hj; simpa [Addr.add] using h.1
  | 1, hj => simp at hj; subst hj; simpa [Addr.add] using h.2.1
  | 2, hj => simp at hj; subst hj; simpa [Addr.add] using h.2.2

set_option maxRecDepth 100000 in
set_option maxHeartbeats 1600000 in
theorem iRepeat (n : Nat) (h0 : 1 ≤ n) (hn : n ≤ 1048576) (g0 c0 : Nat) (a b c : Value) (hone : a.oneCell' = true ∧ b.oneCell' = true ∧ c.oneCell' = true) (w : World) (hx : R3 w g0 0 a b c) :
    Calls Tryz.prog 159 #[.slice (some ⟨g0, 0, none⟩) 1 c0, .int .i64 n] w fun e w' => ∃ g, e = .returned (.slice (some ⟨g, 0, none⟩) n n) ∧ w.heap.size ≤ g ∧ Rp w' g n n a b c ∧ Below w.heap.size w w' := by
  have HM := Lib.hid (fun W => mulOne n hn W)
  have HX := Lib.hid hx
  have HO := Lib.hid hone
  have h6 := wrap_u n hn
  have h7 : decide ((n : Int) < 0) = false := by simp
  clear hx hone
  go_enter Tryz.func159, Tryz.ntmps159
  go_wp2_with fail
  refine (HM.out _).mono ?_
  rintro e w1 ⟨rfl, rfl⟩
  have HJ := Lib.hid (show ∀ j, j < 1 → ([a, b, c] : List Value)[j * 3]? = some a ∧ ([a, b, c] : List Value)[j * 3 + 1]? = some b ∧ ([a, b, c] : List Value)[j * 3 + 2]? = some c from fun j hj => by
    obtain rfl : j = 0 := by omega
    exact ⟨rfl, rfl, rfl⟩)
  have HO3 := Lib.hid (show ∀ v ∈ ([a, b, c] : List Value), v.oneCell' = true from fun v hv => by
    simp only [List.mem_cons, List.not_mem_nil, or_false] at hv
    rcases hv with h | h | h
    · rw [h]; exact HO.out.1
    · rw [h]; exact HO.out.2.1
    · rw [h]; exact HO.out.2.2)
  have hmin : Nat.min 1 n = 1 := Nat.min_eq_left h0
  go_wp2_with (first
    | (at_make; refine makeAny rfl _ _ _ 57 rfl Tryz.underlying28 (.agg #[.bool false, .slice none 0 0, .slice none 0 0]) 3 56 (by kernel_rfl) (by omega) n _ _ rfl rfl rfl rfl (by omega) ?_; intro C hC)
    | (refine listRep (k := 0) (m := 1) rfl (.tmp 31) (.tmp 32) rfl (Rp.made (a := a) (b := b) (c := c) (by assumption)) ⟨g0, 0, none⟩ rfl rfl [a, b, c] hmin (by omega) rfl HJ.out (HX.out.later (below_alloc1 _ _)).src HO3.out ?_; intro w2 hr1 hf1))
--LOOP
  have hr2 : Rp w2 w1.heap.size n 1 a b c := hr1
  have hb2 : Below w1.heap.size w1 w2 := (below_alloc1 _ _).trans (hf1.to_below (by simp) (fun b hb e => by omega))
  clear hr1 hf1
  go_loopw [8] (fun z wr => ∃ k : Nat, 1 ≤ k ∧ k ≤ n ∧ z = .int .i64 k ∧ Rp wr w1.heap.size n k a b c ∧ Below w1.heap.size w1 wr) (fun z _ => n - (intOf z).toNat)
  case atStart => exact ⟨1, Nat.le_refl _, h0, rfl, hr2, hb2⟩
  case round =>
    clear hr2 hb2
    obtain ⟨k, hk1, hk, rfl, hr, hb⟩ := hrel
    by_cases hkn : k = n
    · have hlf : ¬ (k < n) := by omega
      go_wp2
      go_ret
      rw [hkn] at hr
      exact ⟨_, rfl, Nat.le_refl _, hr, hb⟩
    · have hlt : (k : Int) < (n : Int) := by omega
      have hnk : ¬ (n = k) := fun h => hkn h.symm
      obtain ⟨m, hm⟩ : ∃ m, Nat.min k (n - k) = m := ⟨_, rfl⟩
      have hm1 : m ≤ k ∧ k + m ≤ n ∧ 0 < m := by
        have e : Nat.min k (n - k) = if k ≤ n - k then k else n - k := Nat.min_def
        rw [e] at hm
        split at hm <;> omega
      obtain ⟨cs, hcs, hcc, hsrc, hone⟩ := hr.src hm1.1 hk HO.out
      have HMIN := Lib.hid hm
      have HCS := Lib.hid hcs
      have HCC := Lib.hid hcc
      have HSRC := Lib.hid hsrc
      have HONE := Lib.hid hone
      have HM1 := Lib.hid hm1
      clear hm hcs hcc hsrc hone hm1
      go_wp2_with fail
      refine wp_region_held_drew (S := fun W => Below w1.heap.size wr W) (by kernel_rfl) (show Below w1.heap.size wr wr.drew from ⟨rfl, rfl, rfl, Nat.le_refl _, fun _ _ => rfl⟩) (fun hHeld => ?_)
      refine qL (i := 0) (v := ?_) rfl (by kernel_rfl) (fun _ _ _ h => h) (by assumption) (by rfl) (fun W _ => ?_) ?_
      rotate_left
      · go_simp
        try with_reducible rfl
      try simp only [Act.put, List.setIfInBounds_toArray]
      refine qL (i := 1) (v := ?_) rfl (by kernel_rfl) (fun _ _ _ h => h) (by assumption) (by rfl) (fun W _ => ?_) ?_
      rotate_left
      · go_simp
        try with_reducible rfl
      try simp only [Act.put]
      refine qL (i := 2) (v := ?_) rfl (by kernel_rfl) (fun _ _ _ h => h) (by assumption) (by rfl) (fun W _ => ?_) ?_
      rotate_left
      · go_simp
        try with_reducible rfl
      try simp only [Act.put]
      refine qL (i := 3) (v := ?_) rfl (by kernel_rfl) (fun _ _ _ h => h) (by assumption) (by rfl) (fun W _ => ?_) ?_
      rotate_left
      · go_simp
        try with_reducible rfl
      try simp only [Act.put]
      refine qL (i := 4) (v := ?_) rfl (by kernel_rfl) (fun _ _ _ h => h) (by assumption) (by rfl) (fun W _ => ?_) ?_
      rotate_left
      · go_simp
        try with_reducible rfl
      try simp only [Act.put]
      refine qL (i := 5) (v := ?_) rfl (by kernel_rfl) (fun _ _ _ h => h) (by assumption) (by rfl) (fun W _ => ?_) ?_
      rotate_left
      · go_simp
        try with_reducible rfl
      try simp only [Act.put]
      refine qL (i := 6) (v := ?_) rfl (by kernel_rfl) (fun _ _ _ h => h) (by assumption) (by rfl) (fun W _ => ?_) ?_
      rotate_left
      · go_simp
        try with_reducible rfl
      try simp only [Act.put]
      refine qR (i := 7) (by kernel_rfl) rfl (fun K hK => ?_)
      simp only [List.getElem_toArray, List.getElem_cons_succ, List.getElem_cons_zero]
      rw [if_pos (by rfl)]
      simp only [List.setIfInBounds_toArray, List.set_cons_zero, List.set_cons_succ]
      refine wpRep (.tmp 41) (.tmp 44) rfl (show Rp wr.drew w1.heap.size n k a b c from hr) ⟨w1.heap.size, 0, none⟩ (by rfl) (by rfl) cs HMIN.out HM1.out.2.1 HCS.out HCC.out HSRC.out HONE.out ?_
      intro w3 hr3 hf3
      have hB3 : Below w1.heap.size wr w3 := (show Below w1.heap.size wr wr.drew from ⟨rfl, rfl, rfl, Nat.le_refl _, fun _ _ => rfl⟩).trans (hf3.to_below (Nat.le_trans (Nat.le_refl _) hb.size) (fun b hb e => by omega))
      refine hK.out _ _ (hB3) (fun h2 => ?_)
      clear hK K hHeld
      have hHeld := h2
      clear h2
      try simp only [Act.put, List.setIfInBounds_toArray, List.set_cons_zero, List.set_cons_succ]
      refine qL (i := 8) (v := ?_) rfl (by kernel_rfl) (fun _ _ _ h => h) (by assumption) (by rfl) (fun W _ => ?_) ?_
      rotate_left
      · go_simp
        try with_reducible rfl
      try simp only [Act.put, List.setIfInBounds_toArray]
      refine qR (i := 9) (by kernel_rfl) rfl (fun K hK => ?_)
      simp only [List.getElem_toArray, List.getElem_cons_succ, List.getElem_cons_zero]
      go_simp
      refine hK.out _ _ (hB3) (fun h2 => ?_)
      clear hK K hHeld
      have hHeld := h2
      clear h2
      try simp only [Act.put, List.setIfInBounds_toArray, List.set_cons_zero, List.set_cons_succ]
      refine wpAnyH_done (by kernel_rfl) ?_ _
      clear hHeld
      have hbr := hb.trans hB3
      have hwk : IntKind.i64.wrap ((k : Int) + (m : Int)) = ((k + m : Nat) : Int) := by
        have := HM1.out
        rw [wrap_i (by omega) (by omega)]
        omega
      go_wp2
      go_roundw
      case rel => exact ⟨k + m, by omega, HM1.out.2.1, by go_num, hr3, hbr⟩
      case measure =>
        have := HM1.out
        simp [intOf]; omega
end Go.Proofs.YtlpomcihkjiokaaGreat

namespace Go.Proofs.YtlpomcihkjiokaaGreat
open Go.RowKit Go.Joins

theorem rowAt_few {x : RowD} (h : x.few) (j : Int) : (rowAt x j).mag.length ≤ 1048576 ∧ (rowAt x j).den.length ≤ 1048576 := by
  unfold rowAt
  split
  · by_cases hk : x.cols.findIdx (· == j) < x.vals.length
    · exact h.2.2 _ hk
    · rw [List.getD_eq_getElem?_getD, List.getElem?_eq_none (by omega)]
      exact ⟨by decide, by decide⟩
  · have : FE.toL 0 = [] := FE.toL_zero
    simp [FE.rint, this]

end Go.Proofs.YtlpomcihkjiokaaGreat

namespace Go.Proofs.YtlpomcihkjiokaaGreat

/-- A full matrix. -/
def fullL (n : Nat) (E : Nat → Nat → RatD) : List (List RatD) := (List.range n).map fun p => (List.range n).map fun q => E p q
/-- The rows ahead of i, and row i ahead of j, hold E, the rest Z. -/
def mixE (Z E : Nat → Nat → RatD) (i j p q : Nat) : RatD := if p < i ∨ (p = i ∧ q < j) then E p q else Z p q
def mixL (n : Nat) (Z E : Nat → Nat → RatD) (i j : Nat) : List (List RatD) := fullL n (mixE Z E i j)
theorem fullL_len (n : Nat) (E : Nat → Nat → RatD) : (fullL n E).length = n := by simp [fullL]
theorem fullL_row {n : Nat} {E : Nat → Nat → RatD} {p : Nat} (hp : p < n) : (fullL n E).getD p [] = (List.range n).map fun q => E p q := by
  unfold fullL
  rw [List.getD_eq_getElem?_getD, List.getElem?_map, List.getElem?_range hp]
  rfl
theorem fullL_row_len {n : Nat} {E : Nat → Nat → RatD} {p : Nat} (hp : p < n) : ((fullL n E).getD p []).length = n := by
  rw [fullL_row hp]; simp
theorem fullL_get {n : Nat} {E : Nat → Nat → RatD} {p q : Nat} (hp : p < n) (hq : q < n) : ((fullL n E).getD p []).getD q zR = E p q := by
  rw [fullL_row hp, List.getD_eq_getElem?_getD, List.getElem?_map, List.getElem?_range hq]
  rfl
theorem fullL_ext {n : Nat} {E E' : Nat → Nat → RatD} (h : ∀ p q, p < n → q < n → E p q = E' p q) : fullL n E = fullL n E' := by
  unfold fullL
  refine List.map_congr_left (fun p hp => List.map_congr_left (fun q hq => ?_))
  exact h p q (List.mem_range.1 hp) (List.mem_range.1 hq)
theorem eq_fullL {n : Nat} {E : Nat → Nat → RatD} {L : List (List RatD)} (h0 : L.length = n) (h1 : ∀ p, p < n → (L.getD p []).length = n) (h2 : ∀ p q, p < n → q < n → (L.getD p []).getD q zR = E p q) : L = fullL n E := by
  refine list_eqD (d := []) (by rw [h0, fullL_len]) (fun p hp => ?_)
  rw [fullL_len] at hp
  refine vec_same (by rw [h1 p hp, fullL_row_len hp]) (fun q hq => ?_)
  rw [fullL_row_len hp] at hq
  rw [h2 p q hp hq, fullL_get hp hq]
theorem mixL_next {n : Nat} {Z E : Nat → Nat → RatD} {i j : Nat} (hi : i < n) (hj : j < n) : (mixL n Z E i j).set i (((mixL n Z E i j).getD i []).set j (E i j)) = mixL n Z E i (j + 1) := by
  refine eq_fullL (by simp [mixL, fullL_len]) (fun p hp => ?_) (fun p q hp hq => ?_)
  · rw [getD_setG]
    split
    · rw [List.length_set]; exact fullL_row_len hi
    · exact fullL_row_len hp
  · rw [getD_setG]
    unfold mixL
    rw [fullL_len]
    by_cases e : i = p
    · subst e
      rw [if_pos ⟨rfl, hp⟩, getD_setR, fullL_row_len hi]
      by_cases e2 : j = q
      · subst e2
        rw [if_pos ⟨rfl, hj⟩]
        unfold mixE
        rw [if_pos (Or.inr ⟨rfl, Nat.lt_succ_self _⟩)]
      · rw [if_neg (fun h => e2 h.1), fullL_get hi hq]
        unfold mixE
        by_cases e3 : q < j
        · rw [if_pos (Or.inr ⟨rfl, e3⟩), if_pos (Or.inr ⟨rfl, by omega⟩)]
        · rw [if_neg (by omega), if_neg (by omega)]
    · rw [if_neg (fun h => e h.1), fullL_get hp hq]
      unfold mixE
      by_cases e3 : p < i
      · rw [if_pos (Or.inl e3), if_pos (Or.inl e3)]
      · rw [if_neg (by omega), if_neg (by omega)]
theorem mixL_row (n : Nat) (Z E : Nat → Nat → RatD) (i : Nat) : mixL n Z E i n = mixL n Z E (i + 1) 0 := by
  refine fullL_ext (fun p q hp hq => ?_)
  unfold mixE
  by_cases e : p ≤ i
  · rw [if_pos (by omega), if_pos (by omega)]
  · rw [if_neg (by omega), if_neg (by omega)]
theorem mixL_zero (n : Nat) (Z E : Nat → Nat → RatD) : mixL n Z E 0 0 = fullL n Z := fullL_ext (fun p q _ _ => by unfold mixE; rw [if_neg (by omega)])
theorem mixL_all (n : Nat) (Z E : Nat → Nat → RatD) : mixL n Z E n 0 = fullL n E := fullL_ext (fun p q hp _ => by unfold mixE; rw [if_pos (Or.inl hp)])
theorem mixL_len (n : Nat) (Z E : Nat → Nat → RatD) (i j : Nat) : (mixL n Z E i j).length = n := fullL_len _ _
theorem mixL_row_len {n : Nat} {Z E : Nat → Nat → RatD} {i j p : Nat} (hp : p < n) : ((mixL n Z E i j).getD p []).length = n := fullL_row_len hp
/-- The entry that is read ahead of its turn. -/
theorem mixL_get {n : Nat} {Z E : Nat → Nat → RatD} {i j : Nat} (hi : i < n) (hj : j < n) : ((mixL n Z E i j).getD i []).getD j zR = Z i j := by
  unfold mixL
  rw [fullL_get hi hj]
  unfold mixE
  rw [if_neg (by omega)]

/-- The elements of a row that are not 0: their columns, and they. -/
def spC (xs : List RatD) : Nat → List Int
  | 0 => []
  | k + 1 => if rsgn (xs.getD k zR) = 0 then spC xs k else spC xs k ++ [(k : Int)]
def spV (xs : List RatD) : Nat → List RatD
  | 0 => []
  | k + 1 => if rsgn (xs.getD k zR) = 0 then spV xs k else spV xs k ++ [xs.getD k zR]
def spRow (xs : List RatD) : RowD := ⟨spC xs xs.length, spV xs xs.length⟩
def spM (rows : List (List RatD)) : List RowD := rows.map spRow
def spOk (rows : List (List RatD)) : Bool := rows.all vok
/-- What is stored: nothing, if an element is not valid. -/
def spR (rows : List (List RatD)) : List RowD := if spOk rows then spM rows else []
theorem spC_hit {xs : List RatD} {k : Nat} (h : rsgn (xs.getD k zR) ≠ 0) : spC xs (k + 1) = spC xs k ++ [(k : Int)] := by
  show (if rsgn (xs.getD k zR) = 0 then spC xs k else spC xs k ++ [(k : Int)]) = _
  rw [if_neg h]
theorem spV_hit {xs : List RatD} {k : Nat} (h : rsgn (xs.getD k zR) ≠ 0) : spV xs (k + 1) = spV xs k ++ [xs.getD k zR] := by
  show (if rsgn (xs.getD k zR) = 0 then spV xs k else spV xs k ++ [xs.getD k zR]) = _
  rw [if_neg h]
theorem spC_miss {xs : List RatD} {k : Nat} (h : rsgn (xs.getD k zR) = 0) : spC xs (k + 1) = spC xs k := by
  show (if rsgn (xs.getD k zR) = 0 then spC xs k else spC xs k ++ [(k : Int)]) = _
  rw [if_pos h]
theorem spV_miss {xs : List RatD} {k : Nat} (h : rsgn (xs.getD k zR) = 0) : spV xs (k + 1) = spV xs k := by
  show (if rsgn (xs.getD k zR) = 0 then spV xs k else spV xs k ++ [xs.getD k zR]) = _
  rw [if_pos h]
theorem spC_le (xs : List RatD) : ∀ k, (spC xs k).length ≤ k
  | 0 => Nat.le_refl _
  | k + 1 => by
    have := spC_le xs k
    by_cases h : rsgn (xs.getD k zR) = 0
    · rw [spC_miss h]; omega
    · rw [spC_hit h, List.length_append, List.length_cons, List.length_nil]; omega
theorem spV_le (xs : List RatD) : ∀ k, (spV xs k).length = (spC xs k).length
  | 0 => rfl
  | k + 1 => by
    have := spV_le xs k
    by_cases h : rsgn (xs.getD k zR) = 0
    · rw [spC_miss h, spV_miss h]; exact this
    · rw [spC_hit h, spV_hit h, List.length_append, List.length_append, this]; rfl
theorem spV_mem (xs : List RatD) : ∀ k, k ≤ xs.length → ∀ y ∈ spV xs k, y ∈ xs
  | 0, _ => fun y hy => by simp [spV] at hy
  | k + 1, hk => fun y hy => by
    by_cases h : rsgn (xs.getD k zR) = 0
    · rw [spV_miss h] at hy
      exact spV_mem xs k (by omega) y hy
    · rw [spV_hit h, List.mem_append] at hy
      rcases hy with hy | hy
      · exact spV_mem xs k (by omega) y hy
      · simp only [List.mem_cons, List.not_mem_nil, or_false] at hy
        rw [hy]
        have : xs[k]? = some (xs.getD k zR) := by rw [List.getD_eq_getElem?_getD, List.getElem?_eq_getElem (by omega)]; rfl
        exact List.mem_of_getElem? this
theorem spV_few {xs : List RatD} (h : Few xs) (k : Nat) (hk : k ≤ xs.length) : Few (spV xs k) := by
  refine ⟨?_, fun j hj => ?_⟩
  · rw [spV_le]; have := spC_le xs k; have := h.1; omega
  · have hm : (spV xs k).getD j zR ∈ spV xs k := by
      rw [List.getD_eq_getElem?_getD, List.getElem?_eq_getElem hj]; exact List.getElem_mem hj
    obtain ⟨i, hi, e⟩ := mem_getD (d := zR) (spV_mem xs k hk _ hm)
    rw [← e]
    exact h.2 i hi
theorem spM_few {rows : List (List RatD)} (h : FFew rows) : MFew (spM rows) := by
  refine ⟨by simpa [spM] using h.1, fun j hj => ?_⟩
  have hj' : j < rows.length := by simpa [spM] using hj
  have e : (spM rows).getD j zRow = spRow (rows.getD j []) := by simp [spM, hj']
  rw [e]
  have hf := h.2 j hj'
  exact ⟨by have := spC_le (rows.getD j []) (rows.getD j []).length; have := hf.1; show (spC _ _).length ≤ _; omega, spV_few hf _ (Nat.le_refl _)⟩
theorem spR_few {rows : List (List RatD)} (h : FFew rows) : MFew (spR rows) := by
  unfold spR
  split
  · exact spM_few h
  · exact ⟨Nat.zero_le _, fun j hj => by simp at hj⟩
theorem few_full {n : Nat} {E : Nat → Nat → RatD} (hn : n ≤ 1048576) (h : ∀ p q, p < n → q < n → FE.Res (E p q)) : FFew (fullL n E) := by
  refine ⟨by rw [fullL_len]; exact hn, fun p hp => ?_⟩
  rw [fullL_len] at hp
  refine ⟨by rw [fullL_row_len hp]; exact hn, fun q hq => ?_⟩
  rw [fullL_row_len hp] at hq
  rw [fullL_get hp hq]
  exact res_few (h p q hp hq)
/-- An entry of the sum of multiples. -/
def combE (r : RatD) (A : List RowD) (s : RatD) (B : List RowD) (i j : Nat) : RatD := FE.radd (FE.rmul r (rowAt (A.getD i zRow) j)) (FE.rmul s (rowAt (B.getD i zRow) j))
def combL (r : RatD) (A : List RowD) (s : RatD) (B : List RowD) : List (List RatD) := fullL A.length (combE r A s B)
def combIn (r : RatD) (A : List RowD) (s : RatD) (B : List RowD) : Bool := mOk A && (mOk B && (decide ((A.length : Int) = (B.length : Int)) && (FE.ratOk r && FE.ratOk s)))
def combOk (r : RatD) (A : List RowD) (s : RatD) (B : List RowD) : Bool := combIn r A s B && spOk (combL r A s B)
def combM (r : RatD) (A : List RowD) (s : RatD) (B : List RowD) : List RowD := if combIn r A s B then spR (combL r A s B) else []
theorem combE_res (r : RatD) (A : List RowD) (s : RatD) (B : List RowD) (i j : Nat) : FE.Res (combE r A s B i j) := FE.radd_res _ _
theorem combM_few {r : RatD} {A : List RowD} {s : RatD} {B : List RowD} (h : MFew A) : MFew (combM r A s B) := by
  unfold combM
  split
  · exact spR_few (few_full h.1 (fun p q _ _ => combE_res r A s B p q))
  · exact ⟨Nat.zero_le _, fun j hj => by simp at hj⟩
end Go.Proofs.YtlpomcihkjiokaaGreat

namespace Go.Proofs.YtlpomcihkjiokaaGreat
open Go.RowKit Go.Joins

theorem Rp.vx {w : World} {lo hi g n : Nat} {r : RatD} {va vb : Value} (h : Rp w g n n (.bool r.neg) va vb) (ha : PO w lo hi va r.mag) (hb : PO w lo hi vb r.den) (h1 : lo ≤ g) (h2 : g < hi) (hn : n ≤ maxLen) : VX w lo hi (.slice (some ⟨g, 0, none⟩) n n) (List.replicate n r) := by
  refine ⟨List.replicate n (va, vb), by simp, some ⟨g, 0, none⟩, n, by simp, by simp, hn, fun _ => ⟨g, rfl, h1, h2, h.lt, fun i => h.frozen i, fun j hj => ?_⟩⟩
  rw [List.length_replicate] at hj
  obtain ⟨c0, c1, c2⟩ := h.cells j hj
  have e1 : (List.replicate n (va, vb)).getD j zP = (va, vb) := by simp [hj]
  have e2 : (List.replicate n r).getD j zR = r := by simp [hj]
  rw [e1, e2]
  exact ⟨c0, c1, c2, ha, hb⟩
theorem Tryz.rowsInfo : (Tryz.prog.info? 28).map (fun i => (i.zero, i.size, i.bytes)) = some (some (.slice none 0 0), 1, 24) := by kernel_rfl
theorem cell_new1s (w : World) (u : Value) (T : TypeId) : ∀ j x, ([u] : List Value)[j]? = some x → (w.alloc (.cells #[u] T)).cell? ((⟨w.heap.size, 0, none⟩ : Addr).add j) = some x := by
  intro j x hj
  match j, hj with
  | 0, hj => simp at hj; subst hj; simp [Addr.add]

set_option maxRecDepth 100000 in
set_option maxHeartbeats 1600000 in
theorem iZeros (n : Nat) (hn : n ≤ 1048576) (w : World) :
    Calls Tryz.prog 90 #[.int .i64 n] w fun e w' => ∃ v vs, e = .returned v ∧ LS w' w.heap.size w'.heap.size v vs (List.replicate n (List.replicate n (FE.rint 0))) ∧ Below w.heap.size w w' := by
  have HR := Lib.hid (fun W => iRatFromInt 0 (by decide) W)
  have HP := Lib.hid (fun (h0 : 1 ≤ n) g0 c0 a b c ho W hx => iRepeat n h0 hn g0 c0 a b c ho W hx)
  have hl0 := World.ownsRow_lit (base := w.heap.size) (e := 28) (size := 1) w #[] 0 (by simp) (by unfold maxLen; omega) rfl
  have hbel0 := below_alloc1 w (.cells #[] 28)
  have hlw0 := LW.nil hl0
  go_enter Tryz.func90, Tryz.ntmps90
  go_wp2_with fail
  go_loopw [3, 6] (fun o z wr => ∃ i : Nat, i ≤ n ∧ z = .int .i64 i ∧ Below w.heap.size w wr ∧ ∃ vs, LW wr w.heap.size wr.heap.size o vs (List.replicate i (List.replicate n (FE.rint 0)))) (fun _ z _ => n - (intOf z).toNat)
  case atStart => exact ⟨0, Nat.zero_le _, rfl, hbel0, [], hlw0⟩
  case round =>
    clear hlw0 hl0 hbel0
    obtain ⟨i, hi, rfl, hb, vs, hlw⟩ := hrel
    obtain ⟨Ao, co, rfl, _⟩ := hlw.form
    rw [List.length_replicate]
    rw [List.length_replicate] at hlw
    have HLW := Lib.hid hlw
    clear hlw
    by_cases hin : i = n
    · have hlf : ¬ (i < n) := by omega
      go_wp2
      go_ret
      have hls := HLW.out.ls
      rw [hin] at hls ⊢
      exact ⟨_, vs, rfl, hls, hb⟩
    · have hlt : (i : Int) < (n : Int) := by omega
      go_wp2_with fail
      refine (HR.out _).mono ?_
      rintro e w4 ⟨v4, rfl, hp4, hb4⟩
      obtain ⟨va, vb, rfl, ra, rb, hap⟩ := hp4
      obtain ⟨As, cs, ea, _⟩ := id ra
      obtain ⟨Bs, ds, eb, _⟩ := id rb
      have HPA := Lib.hid ra.io
      have HPB := Lib.hid rb.io
      subst ea eb
      have al := below_alloc1 w4 (.cells #[.bool (FE.rint 0).neg, .slice As (FE.rint 0).mag.length cs, .slice Bs (FE.rint 0).den.length ds] 57)
      have S5 := Slots.new (Below.refl _ (w4.alloc (.cells #[.bool (FE.rint 0).neg, .slice As (FE.rint 0).mag.length cs, .slice Bs (FE.rint 0).den.length ds] 57))) (g := w4.heap.size) rfl
      have hb5 := below_trans hb4 al
      have HPA5 := Lib.hid (HPA.out.later al)
      have HPB5 := Lib.hid (HPB.out.later al)
      have HR3 := Lib.hid S5.r3
      have hz4 := S5.1
      have hz3 := hb4.size
      clear ra rb hap S5 al HPA HPB
      go_wp2_with fail
      generalize w4.alloc (.cells #[.bool (FE.rint 0).neg, .slice As (FE.rint 0).mag.length cs, .slice Bs (FE.rint 0).den.length ds] 57) = w5 at *
      refine (HP.out (by omega) _ _ _ _ _ ⟨rfl, rfl, rfl⟩ _ HR3.out).mono ?_
      rintro e w6 ⟨g6, rfl, hg6, hrp, hb6⟩
      have b60 := below_trans hb5 hb6
      have al7 := below_alloc1 w6 (.cells #[.slice (some ⟨g6, 0, none⟩) n n] 28)
      have hz6 := hb6.size
      have hz5 := hb5.size
      have hzb := hb.size
      have HVX := Lib.hid (hrp.vx (r := FE.rint 0) (lo := wr.heap.size) (hi := w6.heap.size) ((HPA5.out.later hb6).wide (Nat.le_refl _) (by omega)) ((HPB5.out.later hb6).wide (Nat.le_refl _) (by omega)) (by omega) hrp.lt (by unfold maxLen; omega))
      have b70 := below_trans b60 al7
      have HL7 := HLW.out.later b70
      have HX7 := Lib.hid ((HVX.out.later al7))
      have HO7 := Lib.hid (show (w6.alloc (.cells #[.slice (some ⟨g6, 0, none⟩) n n] 28)).ownsRow w.heap.size 28 1 (.slice Ao i co) i vs from by have := HL7.2.2.1; rwa [List.length_replicate] at this)
      have HL := Lib.hid HL7
      have hbb := hb.trans (b70.mono hzb)
      clear HL7 hrp HR3 HPA5 HPB5 b60 b70 al7 HVX
      have hz7 : (w6.alloc (.cells #[.slice (some ⟨g6, 0, none⟩) n n] 28)).heap.size = w6.heap.size + 1 := by simp
      have HC7 := Lib.hid (cell_new1s w6 (.slice (some ⟨g6, 0, none⟩) n n) 28)
      have HN7 := Lib.hid (show ∀ u ∈ ([.slice (some ⟨g6, 0, none⟩) n n] : List Value), u.oneCell' = true from fun u hu => by simp only [List.mem_cons, List.not_mem_nil, or_false] at hu; rw [hu]; rfl)
      go_wp2_with (at_builtin; refine appOwn rfl _ _ 30 28 rfl Tryz.underlying30 (.slice none 0 0) 1 24 Tryz.rowsInfo rfl (by decide) (by decide) rfl HO7.out (by omega) (by omega) ⟨w6.heap.size, 0, none⟩ rfl [.slice (some ⟨g6, 0, none⟩) n n] rfl HC7.out HN7.out ?_; intro v8 w8 ho8 hf8 hob8)
      have HLS := Lib.hid (HL.out.snoc HX7.out (by omega) (by omega) hzb (by rw [List.length_replicate]; exact ho8) hf8 hob8)
      have hb8 := hbb.trans (hf8.to_below (B := w.heap.size) (by omega) (fun b hb hs => by have := (own_lt HO7.out hs).1; omega))
      clear ho8 hf8 hob8 HC7 HN7 HX7
      go_wp2
      go_roundw
      case rel => exact ⟨i + 1, by omega, rfl, hb8, _, by have := HLS.out; rwa [← List.replicate_succ'] at this⟩
      case measure => simp [intOf]; omega
end Go.Proofs.YtlpomcihkjiokaaGreat

namespace Go.Proofs.YtlpomcihkjiokaaGreat
open Go.RowKit Go.Joins

def lenV : Value → Nat
  | .slice _ n _ => n
  | _ => 0
set_option maxRecDepth 100000 in
set_option maxHeartbeats 1600000 in
theorem sZeros (n : Nat) (hn : n ≤ 1048576) (w : World) :
    Calls Tryz.prog 153 #[.int .i64 n] w fun e w' => ∃ v ps, e = .returned v ∧ VS w' w.heap.size w'.heap.size v ps (List.replicate n (FE.rint 0)) ∧ Below w.heap.size w w' := by
  have HR := Lib.hid (fun W => (show Calls Tryz.prog 173 #[.int .i64 0] W fun e w' => ∃ v, e = .returned v ∧ RatP w' W.heap.size v (FE.rint 0) ∧ Below W.heap.size W w' from sRatFromInt_pos 0 (by decide) W))
  have hl0 := World.ownsRow_lit (base := w.heap.size) (e := 57) (size := 3) w #[] 0 (by simp) (by unfold maxLen; omega) rfl
  have hbel0 := below_alloc1 w (.cells #[] 57)
  go_enter Tryz.func153, Tryz.ntmps153
  go_wp2_with fail
  go_loopw [3] (fun o wr => ∃ i : Nat, i ≤ n ∧ lenV o = i ∧ Below w.heap.size w wr ∧ ∃ ps, VW wr w.heap.size wr.heap.size o ps (List.replicate i (FE.rint 0))) (fun o _ => n - lenV o)
  case atStart => exact ⟨0, Nat.zero_le _, rfl, hbel0, [], VW.nil _ _ _ hl0⟩
  case round =>
    clear hl0 hbel0
    obtain ⟨i, hi, hio, hb, ps, hvw⟩ := hrel
    obtain ⟨Ao, co, rfl, _⟩ := hvw.form
    clear hio
    rw [List.length_replicate]
    rw [List.length_replicate] at hvw
    have HVW := Lib.hid hvw
    clear hvw
    by_cases hin : i = n
    · have hlf : ¬ (i < n) := by omega
      go_wp2
      go_ret
      have hvs := HVW.out.parts
      rw [Nat.max_self, hin] at hvs
      rw [hin]
      exact ⟨_, ps, rfl, hvs, hb⟩
    · have hlt : (i : Int) < (n : Int) := by omega
      go_wp2_with fail
      refine (HR.out _).mono ?_
      rintro e w4 ⟨v4, rfl, hp4, hb4⟩
      obtain ⟨va, vb, rfl, ra, rb, hap⟩ := hp4
      obtain ⟨As, cs, ea, _⟩ := id ra
      obtain ⟨Bs, ds, eb, _⟩ := id rb
      have HPA := Lib.hid ra.io
      have HPB := Lib.hid rb.io
      have HAP := Lib.hid hap
      subst ea eb
      have al := below_alloc1 w4 (.cells #[.bool (FE.rint 0).neg, .slice As (FE.rint 0).mag.length cs, .slice Bs (FE.rint 0).den.length ds] 57)
      have S5 := Slots.new (Below.refl _ (w4.alloc (.cells #[.bool (FE.rint 0).neg, .slice As (FE.rint 0).mag.length cs, .slice Bs (FE.rint 0).den.length ds] 57))) (g := w4.heap.size) rfl
      have hb5 := below_trans hb4 al
      have hz4 := S5.1
      have hz3 := hb4.size
      have hzb := hb.size
      have HPA5 := Lib.hid ((HPA.out.later al).wide (lo' := wr.heap.size) (hi' := w4.heap.size + 1) (Nat.le_refl _) (by omega))
      have HPB5 := Lib.hid ((HPB.out.later al).wide (lo' := wr.heap.size) (hi' := w4.heap.size + 1) (Nat.le_refl _) (by omega))
      have hzz : (w4.alloc (.cells #[.bool (FE.rint 0).neg, .slice As (FE.rint 0).mag.length cs, .slice Bs (FE.rint 0).den.length ds] 57)).heap.size = w4.heap.size + 1 := by simp
      have c0 := S5.r3.1
      have c1 := S5.r3.2.1
      have c2 := S5.r3.2.2
      have HV5 := Lib.hid (HVW.out.later hb5)
      have hbb := hb.trans (hb5.mono hzb)
      clear ra rb hap S5 al HPA HPB
      go_wp2_with (at_builtin; refine appRat rfl _ _ rfl rfl HV5.out (by rw [List.length_replicate]; omega) (by omega) (FE.rint 0) _ _ w4.heap.size rfl c0 c1 c2 HPA5.out HPB5.out HAP.out (by omega) (by omega) ?_; intro v8 w8 hv8 hf8)
      have hz8 := hf8.size
      replace hv8 := hv8.wide (hi' := w8.heap.size) (by omega)
      rw [← List.replicate_succ'] at hv8
      have HLS := Lib.hid hv8
      have hb8 := hbb.trans (hf8.to_below (B := w.heap.size) (by omega) (fun b hb hs => by have := (World.ownsRow.lt HV5.out.2.1 b hs).1; omega))
      obtain ⟨A8, c8, e8, _⟩ := hv8.form
      clear hv8 hf8 c0 c1 c2
      subst e8
      go_wp2
      go_roundw
      case rel =>
        exact ⟨i + 1, by omega, by simp [lenV], hb8, _, HLS.out⟩
      case measure => simp [lenV]; omega
end Go.Proofs.YtlpomcihkjiokaaGreat

namespace Go.Proofs.YtlpomcihkjiokaaGreat
open Go.RowKit Go.Joins

/-- A row of zeros behind k entries. -/
def rowF (x : RowD) (n : Nat) : Nat → List RatD
  | 0 => List.replicate n (FE.rint 0)
  | k + 1 => (rowF x n k).set (x.cols.getD k 0).toNat (x.vals.getD k zR)
theorem rowF_len (x : RowD) (n : Nat) : ∀ k, (rowF x n k).length = n
  | 0 => by simp [rowF]
  | k + 1 => by rw [rowF, List.length_set]; exact rowF_len x n k
theorem rowF_at {x : RowD} {n : Nat} (ha : Asc x.cols) (hr : ∀ k, k < x.cols.length → 0 ≤ x.cols.getD k 0 ∧ x.cols.getD k 0 < n) : ∀ k, k ≤ x.cols.length → ∀ j, j < n →
    ((∀ q, q < k → x.cols.getD q 0 ≠ (j : Nat)) → (rowF x n k).getD j zR = FE.rint 0) ∧ (∀ q, q < k → x.cols.getD q 0 = (j : Nat) → (rowF x n k).getD j zR = x.vals.getD q zR)
  | 0, _, j, hj => ⟨fun _ => by simp [rowF, hj], fun q hq => by omega⟩
  | k + 1, hk, j, hj => by
    obtain ⟨i1, i2⟩ := rowF_at ha hr k (by omega) j hj
    have h0 := hr k (by omega)
    have e : (rowF x n (k + 1)).getD j zR = if (x.cols.getD k 0).toNat = j ∧ j < (rowF x n k).length then x.vals.getD k zR else (rowF x n k).getD j zR := by rw [rowF, getD_setR]
    rw [e, rowF_len]
    refine ⟨fun h => ?_, fun q hq hqj => ?_⟩
    · have := h k (Nat.lt_succ_self _)
      rw [if_neg (by omega)]
      exact i1 (fun q hq => h q (by omega))
    · by_cases e2 : q = k
      · subst e2
        rw [if_pos ⟨by omega, hj⟩]
      · have := ha q k (by omega) (by omega)
        rw [if_neg (by omega)]
        exact i2 q (by omega) hqj
theorem rowF_all {x : RowD} {n : Nat} (ha : Asc x.cols) (hr : ∀ k, k < x.cols.length → 0 ≤ x.cols.getD k 0 ∧ x.cols.getD k 0 < n) : rowF x n x.cols.length = (List.range n).map fun j => rowAt x (j : Nat) := by
  refine vec_same (by rw [rowF_len]; simp) (fun j hj => ?_)
  have hj' : j < n := by simpa using hj
  rw [show ((List.range n).map fun j => rowAt x (j : Nat)).getD j zR = rowAt x (j : Nat) by rw [List.getD_eq_getElem?_getD, List.getElem?_map, List.getElem?_range hj']; rfl]
  obtain ⟨i1, i2⟩ := rowF_at ha hr x.cols.length (Nat.le_refl _) j hj'
  by_cases h : ∃ q, q < x.cols.length ∧ x.cols.getD q 0 = (j : Nat)
  · obtain ⟨q, hq, e⟩ := h
    rw [i2 q hq e, rowAt_hit hq e (fun p hp => by have := ha p q hp hq; omega)]
  · have hm : ∀ q, q < x.cols.length → x.cols.getD q 0 ≠ (j : Nat) := fun q hq e => h ⟨q, hq, e⟩
    rw [i1 hm, rowAt_miss hm]
theorem range_snoc {α : Type} (f : Nat → α) (i : Nat) : (List.range (i + 1)).map f = (List.range i).map f ++ [f i] := by rw [List.range_succ, List.map_append]; rfl

set_option maxRecDepth 100000 in
set_option maxHeartbeats 3200000 in
theorem sFull14 (rs : List RowD) (u : Value) (w : World) (hu : MatV w u rs) (hf : MFew rs) (hok : mOk rs = true) :
    Calls Tryz.prog 82 #[u] w fun e w' => ∃ v vs, e = .returned v ∧ LS w' w.heap.size w'.heap.size v vs (fullL rs.length fun i j => rowAt (rs.getD i zRow) (j : Nat)) ∧ Below w.heap.size w w' := by
  have HZ := Lib.hid (fun W => sZeros rs.length hf.1 W)
  have HF := Lib.hid hf.2
  have HROW := Lib.hid (fun i (hi : i < rs.length) => mOk_row hok hi)
  have hn1 := hf.1
  obtain ⟨A, cA, rfl, _, hx⟩ := hu
  have HX := Lib.hid hx
  have HFL := Lib.hid (show fullL rs.length (fun i j => rowAt (rs.getD i zRow) (j : Nat)) = (List.range rs.length).map fun i => (List.range rs.length).map fun j => rowAt (rs.getD i zRow) (j : Nat) from rfl)
  rw [HFL.out]
  obtain ⟨n, hn⟩ : ∃ n, rs.length = n := ⟨_, rfl⟩
  rw [hn] at hn1 HZ ⊢
  rw [hn] at HROW
  have HN := Lib.hid hn
  have hl0 := World.ownsRow_lit (base := w.heap.size + 1) (e := 28) (size := 1) (w.alloc (.cells #[.slice A n cA] 52)) #[] 0 (by simp) (by unfold maxLen; omega) rfl
  have hb0 := below_alloc2 w (.cells #[.slice A n cA] 52) (.cells #[] 28)
  have e00 : (w.alloc (.cells #[.slice A n cA] 52)).heap.size = w.heap.size + 1 := by simp
  rw [e00] at hl0
  have hlw0 := LW.nil hl0
  have S0 := (Slots.new (Below.refl _ (w.alloc (.cells #[.slice A n cA] 52))) (g := w.heap.size) rfl).later (below_alloc1 _ (.cells #[] 28))
  have hz0 : w.heap.size + 1 < ((w.alloc (.cells #[.slice A n cA] 52)).alloc (.cells #[] 28)).heap.size := by simp
  clear hx hf hok hn hl0 HFL e00
  obtain ⟨m0', _⟩ := S0.c1
  go_enter Tryz.func82, Tryz.ntmps82
  go_wp2_with fail
  generalize (w.alloc (.cells #[.slice A n cA] 52)).alloc (.cells #[] 28) = w2 at *
  clear m0'
  go_loopw [3, 12] (fun o z wr => ∃ i : Nat, i ≤ n ∧ z = .int .i64 i ∧ Below (w.heap.size + 1) w2 wr ∧ ∃ vs, LW wr (w.heap.size + 1) wr.heap.size o vs ((List.range i).map fun i => (List.range n).map fun j => rowAt (rs.getD i zRow) (j : Nat))) (fun _ z _ => n - (intOf z).toNat)
  case atStart => exact ⟨0, Nat.zero_le _, rfl, Below.refl _ _, [], hlw0⟩
  case round =>
    clear hlw0
    obtain ⟨i, hi, rfl, hb, vs, hlw⟩ := hrel
    obtain ⟨Ao, co, rfl, _⟩ := hlw.form
    have hll : ((List.range i).map fun i => (List.range n).map fun j => rowAt (rs.getD i zRow) (j : Nat)).length = i := by simp
    rw [hll]
    rw [hll] at hlw
    have HLW := Lib.hid hlw
    have HLL := Lib.hid hll
    have hbw := hb0.trans (hb.mono (by omega))
    clear hlw hll
    by_cases hin : i = n
    · have hlf : ¬ (i < n) := by omega
      go_wp2
      go_ret
      have hls := HLW.out.ls.wide (lo' := w.heap.size) (by omega) (Nat.le_refl _)
      rw [hin] at hls ⊢
      exact ⟨_, vs, rfl, hls, hbw⟩
    · have hltn : (i : Int) < (n : Int) := by omega
      obtain ⟨m0, _⟩ := (S0.below hb (show w.heap.size < w.heap.size + 1 by omega)).c1
      go_wp2_with fail
      refine (HZ.out _).mono ?_
      rintro e w5 ⟨v5, ps5, rfl, hv5, hb5⟩
      obtain ⟨A5, c5, rfl, _⟩ := hv5.form
      rw [List.length_replicate]
      rw [List.length_replicate] at hv5
      have hbw5 := below_trans hbw hb5
      have hz5 := hb5.size
      have hzb := hb.size
      have hzw := hbw.size
      have HVX := Lib.hid (show VX w5 wr.heap.size w5.heap.size (.slice A5 n c5) (rowF (rs.getD i zRow) n 0) from ⟨ps5, hv5⟩)
      have hb25 := hb.trans (hb5.mono (by omega))
      have hil : i < rs.length := by rw [HN.out]; omega
      obtain ⟨b, o, rfl, hbl, hat⟩ := HX.out.cells i hil
      have hat' := hat
      obtain ⟨hvl, hvo, hasc, hcr⟩ := HROW.out i (by omega)
      obtain ⟨f1, f2⟩ := HF.out i hil
      have HFV := Lib.hid f2.2
      have HLX := Lib.hid (show LW w5 (w.heap.size + 1) wr.heap.size (.slice Ao i co) vs ((List.range i).map fun i => (List.range n).map fun j => rowAt (rs.getD i zRow) (j : Nat)) from HLW.out.later hb5)
      have HRA := Lib.hid (show rowF (rs.getD i zRow) n (rs.getD i zRow).cols.length = (List.range n).map fun j => rowAt (rs.getD i zRow) (j : Nat) from rowF_all hasc hcr)
      have HSN := Lib.hid (range_snoc (fun i => (List.range n).map fun j => rowAt (rs.getD i zRow) (j : Nat)) i)
      rw [← HRA.out] at HSN
      have HCR := Lib.hid hcr
      have hbo : b < w.heap.size := hbl
      clear hat hv5 hasc hcr hvo f2 HRA hil
      obtain ⟨x, hxx⟩ : ∃ x, rs.getD i zRow = x := ⟨_, rfl⟩
      rw [hxx] at hat' hvl f1 HFV HVX HSN HCR
      clear hxx
      obtain ⟨K, hK⟩ : ∃ K, x.cols.length = K := ⟨_, rfl⟩
      obtain ⟨A1, c1, B1, d1, g0, g1, _, hr1, hr2⟩ := hat'
      replace g0 := cell_later hbl g0 hbw5
      replace g1 := cell_later hbl g1 hbw5
      rw [hvl, hK] at g1
      rw [hK] at g0 f1 HSN HCR
      have HKC := Lib.hid hK
      have HKV := Lib.hid (hvl.trans hK)
      have HR1 := Lib.hid hr1
      have HR2 := Lib.hid hr2
      clear hr1 hr2 hK hvl
      have hbwx := hb5.trans (Below.refl _ _)
      replace m0 := cell_later (by omega) m0 hb5
      go_wp2_with fail
      generalize w5 = wq at *
      have hlo := hzw
      obtain ⟨lo, hlo'⟩ : ∃ lo, wr.heap.size = lo := ⟨_, rfl⟩
      rw [hlo'] at HVX HLX hz5 hzb hlo
      clear m0 HLW hb5 hbwx hbw hb hlo'
      go_loopw [26] (fun z wp => ∃ k : Nat, k ≤ K ∧ z = .int .i64 k ∧ Below lo wq wp ∧ VX wp lo wp.heap.size (.slice A5 n c5) (rowF x n k)) (fun z _ => K - (intOf z).toNat)
      case atStart => exact ⟨0, Nat.zero_le _, rfl, Below.refl _ _, HVX.out⟩
      case round =>
        clear HVX
        obtain ⟨k, hk, rfl, hbk, hvx⟩ := hrel
        have hww := hbw5.trans (hbk.mono (by omega))
        by_cases hkk : k = K
        · have hlf : ¬ (k < K) := by omega
          rw [hkk] at hvx
          have hzk := hbk.size
          have al7 := below_alloc1 wr (.cells #[.slice A5 n c5] 28)
          have hbk' : Below wq.heap.size wq wq := Below.refl _ _
          have hz7 : (wr.alloc (.cells #[.slice A5 n c5] 28)).heap.size = wr.heap.size + 1 := by simp
          have HL7 : LW (wr.alloc (.cells #[.slice A5 n c5] 28)) (w.heap.size + 1) lo (.slice Ao i co) vs ((List.range i).map fun i => (List.range n).map fun j => rowAt (rs.getD i zRow) (j : Nat)) := (HLX.out.belowLo hbk).later al7
          have HX7 := Lib.hid (hvx.later al7)
          have HO7 := Lib.hid (show (wr.alloc (.cells #[.slice A5 n c5] 28)).ownsRow (w.heap.size + 1) 28 1 (.slice Ao i co) i vs from by have := HL7.2.2.1; rwa [HLL.out] at this)
          have HL := Lib.hid HL7
          have hbb := hb25.trans ((hbk.trans (al7.mono (by omega))).mono (by omega))
          have HC7 := Lib.hid (cell_new1s wr (.slice A5 n c5) 28)
          have HN7 := Lib.hid (show ∀ u ∈ ([.slice A5 n c5] : List Value), u.oneCell' = true from fun u hu => by simp only [List.mem_cons, List.not_mem_nil, or_false] at hu; rw [hu]; rfl)
          clear HL7 al7 hvx
          go_wp2_with (at_builtin; refine appOwn rfl _ _ 30 28 rfl Tryz.underlying30 (.slice none 0 0) 1 24 Tryz.rowsInfo rfl (by decide) (by decide) rfl HO7.out (by omega) (by omega) ⟨wr.heap.size, 0, none⟩ rfl [.slice A5 n c5] rfl HC7.out HN7.out ?_; intro v8 w8 ho8 hf8 hob8)
          have HLS := Lib.hid (HL.out.snoc HX7.out (by omega) (by omega) (by omega) (by rw [HLL.out]; exact ho8) hf8 hob8)
          rw [← HSN.out] at HLS
          have hb8 := hbb.trans (hf8.to_below (B := w.heap.size + 1) (by omega) (fun b hb hs => by have := (own_lt HO7.out hs).1; omega))
          clear ho8 hf8 hob8 HC7 HN7 HX7
          go_wp2
          go_roundw
          case rel => exact ⟨i + 1, by omega, rfl, hb8, _, HLS.out⟩
          case measure => simp [intOf]; omega
        · have hltk : (k : Int) < (K : Int) := by omega
          have hkx : k < x.cols.length := by rw [HKC.out]; omega
          obtain ⟨g, rfl, hg1, hg2, hg3⟩ : ∃ g, A5 = some ⟨g, 0, none⟩ ∧ lo ≤ g ∧ g < wr.heap.size ∧ (∀ i, wr.frozen? ⟨g, i, none⟩ = false) := by
            have h1 := hvx
            obtain ⟨ps, h2⟩ := h1
            obtain ⟨_, A', c', e, _, _, h3⟩ := h2
            injection e with e1 _ _
            obtain ⟨g, e4, k1, k2, k3, k4, _⟩ := h3 (by intro h; have := congrArg List.length h; rw [rowF_len] at this; simp at this; omega)
            exact ⟨g, e1.trans e4, k1, k3, k4⟩
          obtain ⟨hc0, hc1⟩ := HCR.out k (by omega)
          obtain ⟨j, hj⟩ : ∃ j : Nat, x.cols.getD k 0 = (j : Int) := ⟨(x.cols.getD k 0).toNat, by omega⟩
          have hjn : j < n := by omega
          obtain ⟨b1, o1, rfl, hb1, hcc⟩ := HR1.out (by intro h; rw [h] at hkx; simp at hkx)
          have e1 := hcc k hkx
          rw [hj] at e1
          replace e1 := cell_later hb1 e1 hww
          obtain ⟨b2, o2, rfl, hb2, hat2⟩ := HR2.out.cells k (by rw [HKV.out]; omega)
          replace hat2 := RatAt.stays _ _ _ _ _ hb2 hat2 hww
          have fr := HFV.out k (by rw [HKV.out]; omega)
          have HRW := Lib.hid (show rowF x n (k + 1) = (rowF x n k).set j (x.vals.getD k zR) by
            show (rowF x n k).set (x.cols.getD k 0).toNat (x.vals.getD k zR) = _
            rw [hj, Int.toNat_natCast])
          obtain ⟨r, hr⟩ : ∃ r, x.vals.getD k zR = r := ⟨_, rfl⟩
          rw [hr] at hat2 fr HRW
          clear hr hj hcc hc0 hc1
          obtain ⟨A7, c7, B7, d7, k0, k1, k2, hl7, q1, q2⟩ := hat2
          have HV := Lib.hid (show RatV wr (.agg #[.bool r.neg, .slice A7 r.mag.length c7, .slice B7 r.den.length d7]) r from ⟨_, _, _, _, rfl, hl7, q1, q2⟩)
          have hjl : j < (rowF x n k).length := by rw [rowF_len]; exact hjn
          obtain ⟨A8, c8, B8, d8, r8, _⟩ := hvx.at j hjl
          obtain ⟨m0, _⟩ := ((S0.below hb25 (show w.heap.size < w.heap.size + 1 by omega)).below hbk (by omega)).c1
          have l0 := (hbk.cell (p := ⟨b, o + i * 2, none⟩) (show b < lo by omega)).trans g0
          have l1 := (hbk.cell (p := ⟨b, o + i * 2 + 1, none⟩) (show b < lo by omega)).trans g1
          have hjn' : (j : Int) < (n : Int) := by omega
          have HCP := Lib.hid (fun v W (hv : RatV W v r) => sCopy r v W hv fr.1 fr.2)
          have HR8 := Lib.hid r8
          have HVK := Lib.hid hvx
          clear q1 q2 hl7 fr r8 hvx
          go_wp2_with fail
          refine (HCP.out _ _ HV.out).mono ?_
          rintro e w7 ⟨v7, rfl, hp7, hb7⟩
          obtain ⟨A9, n9, c9, B9, m9, d9, rfl⟩ := hp7.shape
          have hz7 := hb7.size
          have r9 := HR8.out.later hb7
          have t0 := r9.1
          have t1 := r9.2.1
          have t2 := r9.2.2
          have z0 := (hb7.frozen (p := ⟨g, j * 3, none⟩) hg2).trans (hg3 (j * 3))
          have z1 := (hb7.frozen (p := ⟨g, j * 3 + 1, none⟩) hg2).trans (hg3 (j * 3 + 1))
          have z2 := (hb7.frozen (p := ⟨g, j * 3 + 2, none⟩) hg2).trans (hg3 (j * 3 + 2))
          have HVN := Lib.hid ((HVK.out.later hb7).put3 (i := j) hjl hp7 (Nat.le_refl _) (by have := hbk.size; omega) hz7)
          have hsz : (set3 w7 g (j * 3) (.bool r.neg) (.slice A9 n9 c9) (.slice B9 m9 d9)).heap.size = w7.heap.size := by simp [set3]
          rw [← HRW.out] at HVN
          have hbr := below_set3 (hbk.trans (hb7.mono (by have := hbk.size; omega))) hg1 (o := j * 3) (.bool r.neg) (.slice A9 n9 c9) (.slice B9 m9 d9)
          clear m0 l0 l1 k0 k1 k2 e1 r9 hp7 hb7 hg3
          go_wp2
          go_roundw
          case rel => exact ⟨k + 1, by omega, rfl, hbr, HVN.out.wide (Nat.le_refl _) (Nat.le_of_eq hsz.symm)⟩
          case measure => simp [intOf]; omega
end Go.Proofs.YtlpomcihkjiokaaGreat

namespace Go.Proofs.YtlpomcihkjiokaaGreat
open Go.RowKit Go.Joins

theorem own_kept {S : Nat → Prop} {w w' : World} {base size n : Nat} {e : TypeId} {v : Value} {xs : List Value} (h : w.ownsRow base e size v n xs) (hf : Frame S w w') (hs : ∀ b, v.ownBlock = some b → ¬ S b) : w'.ownsRow base e size v n xs := by
  refine ⟨h.1, ?_⟩
  rcases h.2 with hn | ⟨g, cap, cur, rfl, hbs, hgg, rest⟩
  · exact .inl hn
  · exact .inr ⟨g, cap, cur, rfl, hbs, (hf.block g (Array.getElem?_eq_some_iff.1 hgg).1 (hs g rfl)).trans hgg, rest⟩
/-- Rows of different types lie in different blocks. -/
theorem own_ne {w : World} {b1 b2 s1 s2 n1 n2 : Nat} {e1 e2 : TypeId} {u v : Value} {xs ys : List Value} (h : w.ownsRow b1 e1 s1 u n1 xs) (k : w.ownsRow b2 e2 s2 v n2 ys) (he : e1 ≠ e2) {b : Nat} (hb : u.ownBlock = some b) : v.ownBlock ≠ some b := by
  intro h'
  rcases h.2 with ⟨rfl, _⟩ | ⟨g, cap, cur, rfl, _, hg, _⟩
  · cases hb
  · rcases k.2 with ⟨rfl, _⟩ | ⟨g', cap', cur', rfl, _, hg', _⟩
    · cases h'
    · injection hb with hb
      injection h' with h'
      simp only at hb h'
      subst hb h'
      rw [hg] at hg'
      injection hg' with hg'
      injection hg' with _ e
      exact he e
theorem blk_own {w : World} {base size n : Nat} {e : TypeId} {v : Value} {xs : List Value} (h : w.ownsRow base e size v n xs) {b : Nat} (hb : blk v = some b) : v.ownBlock = some b := by
  rcases h.2 with ⟨rfl, _⟩ | ⟨g, cap, cur, rfl, _, hg, _⟩
  · cases hb
  · by_cases hn : n = 0
    · subst hn
      rw [blk_nil] at hb
      cases hb
    · rw [blk_slice hn] at hb
      injection hb with hb
      simp only at hb
      subst hb
      rfl
/-- A row under way: its columns, its values; the columns' block is none of the fractions'. -/
def CV (w : World) (lo : Nat) (vc vv : Value) (ps : List (Value × Value)) (cols : List Int) (vals : List RatD) : Prop :=
  OI w lo vc cols ∧ VW w lo w.heap.size vv ps vals ∧ ∀ b, vc.ownBlock = some b → ∀ j, j < ps.length → blk (ps.getD j zP).1 ≠ some b ∧ blk (ps.getD j zP).2 ≠ some b
theorem CV.nil (w : World) (lo : Nat) : CV w lo (.slice none 0 0) (.slice none 0 0) [] [] [] :=
  ⟨OI.nil w lo, VW.nil _ _ _ (World.ownsRow_nil w lo 57 3), (fun b hb => by cases hb)⟩
theorem CV.later {w w' : World} {lo : Nat} {vc vv : Value} {ps : List (Value × Value)} {cols : List Int} {vals : List RatD} (h : CV w lo vc vv ps cols vals) (hb : Below w.heap.size w w') : CV w' lo vc vv ps cols vals :=
  ⟨h.1.later hb, (h.2.1.later hb).wide hb.size, h.2.2⟩
theorem CV.frame {S : Nat → Prop} {w w' : World} {lo : Nat} {vc vv : Value} {ps : List (Value × Value)} {cols : List Int} {vals : List RatD} (h : CV w lo vc vv ps cols vals) (hf : Frame S w w') (hs : ∀ b, lo ≤ b → b < w.heap.size → ¬ S b) : CV w' lo vc vv ps cols vals := by
  obtain ⟨h1, ⟨k0, k1, k2, k3⟩, h3⟩ := h
  refine ⟨own_kept h1 hf (fun b hb => hs b (own_lt h1 hb).1 (own_lt h1 hb).2), ⟨k0, own_kept k1 hf (fun b hb => hs b (own_lt k1 hb).1 (own_lt k1 hb).2), fun j hj => ?_, k3⟩, h3⟩
  have := k2 j hj
  exact ⟨(this.1.frame hf (fun b hb => hs b (this.1.2 b hb).1 (this.1.2 b hb).2)).wide (Nat.le_refl _) hf.size, (this.2.frame hf (fun b hb => hs b (this.2.2 b hb).1 (this.2.2 b hb).2)).wide (Nat.le_refl _) hf.size⟩
theorem CV.forms {w : World} {lo : Nat} {vc vv : Value} {ps : List (Value × Value)} {cols : List Int} {vals : List RatD} (h : CV w lo vc vv ps cols vals) : ∃ A c B d, vc = .slice A cols.length c ∧ vv = .slice B vals.length d := by
  obtain ⟨A, c, e1, _⟩ := own_slice h.1
  obtain ⟨B, d, e2, _⟩ := h.2.1.form
  exact ⟨A, c, B, d, e1, e2⟩
/-- One column more. -/
theorem CV.col {w w' : World} {lo : Nat} {vc vc' vv : Value} {ps : List (Value × Value)} {cols : List Int} {vals : List RatD} {x : Int} (h : CV w lo vc vv ps cols vals)
    (hown : w'.ownsRow lo 3 1 vc' (cols.length + 1) (cols.map (Value.int .i64) ++ [.int .i64 x])) (hf : Frame (fun b => vc.ownBlock = some b) w w') (hob : vc'.ownBlock = vc.ownBlock ∨ vc'.ownBlock = some w.heap.size) : CV w' lo vc' vv ps (cols ++ [x]) vals := by
  obtain ⟨h1, ⟨k0, k1, k2, k3⟩, h3⟩ := h
  have hs := hf.size
  refine ⟨by simpa [OI] using hown, ⟨k0, own_kept k1 hf (fun b hb hc => own_ne h1 k1 (by decide) hc hb), fun j hj => ?_, k3⟩, fun b hb j hj => ?_⟩
  · have := k2 j hj
    exact ⟨(this.1.frame hf (fun b hb hc => (h3 b hc j (by omega)).1 hb)).wide (Nat.le_refl _) hs, (this.2.frame hf (fun b hb hc => (h3 b hc j (by omega)).2 hb)).wide (Nat.le_refl _) hs⟩
  · rcases hob with e | e
    · rw [e] at hb
      exact h3 b hb j hj
    · rw [e] at hb
      injection hb with hb
      have := k2 j (by omega)
      exact ⟨fun hc => by have := (this.1.2 b hc).2; omega, fun hc => by have := (this.2.2 b hc).2; omega⟩
/-- One value more. -/
theorem CV.val {w w' : World} {lo hi2 : Nat} {vc vv vv' : Value} {ps : List (Value × Value)} {cols : List Int} {vals : List RatD} {va vb : Value} {r : RatD} {k : Nat} (h : CV w lo vc vv ps cols vals)
    (hk : ∀ b, vc.ownBlock = some b → b < k) (ha : ∀ b, blk va = some b → k ≤ b) (hb' : ∀ b, blk vb = some b → k ≤ b)
    (hv : VW w' lo hi2 vv' (ps ++ [(va, vb)]) (vals ++ [r])) (hh : hi2 ≤ w'.heap.size) (hf : Frame (fun b => vv.ownBlock = some b) w w') : CV w' lo vc vv' (ps ++ [(va, vb)]) cols (vals ++ [r]) := by
  obtain ⟨h1, ⟨k0, k1, k2, k3⟩, h3⟩ := h
  refine ⟨own_kept h1 hf (fun b hb hc => own_ne k1 h1 (by decide) hc hb), hv.wide hh, fun b hb j hj => ?_⟩
  rw [List.length_append, List.length_cons, List.length_nil] at hj
  by_cases e : j < ps.length
  · rw [ls_getl e]
    exact h3 b hb j e
  · rw [show j = ps.length by omega, ls_getr]
    have := hk b hb
    exact ⟨fun hc => by have := ha b hc; omega, fun hc => by have := hb' b hc; omega⟩

def cellsM (qs : List RowP) : List Value := qs.flatMap fun q => [q.ca, q.va]
theorem cellsM_snoc (qs : List RowP) (q : RowP) : cellsM (qs ++ [q]) = cellsM qs ++ [q.ca, q.va] := by simp [cellsM]
theorem cellsM_get : ∀ (qs : List RowP) (j : Nat), j < qs.length → (cellsM qs)[j * 2]? = some (qs.getD j zRP).ca ∧ (cellsM qs)[j * 2 + 1]? = some (qs.getD j zRP).va
  | q :: qs, 0, _ => by simp [cellsM]
  | q :: qs, j + 1, h => by
    have := cellsM_get qs j (by simpa using h)
    have e : cellsM (q :: qs) = q.ca :: q.va :: cellsM qs := rfl
    rw [e, show (j + 1) * 2 = j * 2 + 1 + 1 by omega, show j * 2 + 1 + 1 + 1 = (j * 2 + 1) + 1 + 1 by omega]
    simpa using this
/-- The rows of a matrix that the call builds. -/
def MW (w : World) (base hi : Nat) (v : Value) (qs : List RowP) (rs : List RowD) : Prop :=
  qs.length = rs.length ∧ ApM qs ∧ w.ownsRow base 130 2 v rs.length (cellsM qs) ∧ (∀ b, v.ownBlock = some b → b < hi) ∧ hi ≤ w.heap.size ∧
    ∀ j, j < rs.length → PO w base hi (qs.getD j zRP).ca (rs.getD j zRow).cols ∧ VS w base hi (qs.getD j zRP).va (qs.getD j zRP).ps (rs.getD j zRow).vals
theorem MW.nil (w : World) (base hi : Nat) (h : hi ≤ w.heap.size) : MW w base hi (.slice none 0 0) [] [] :=
  ⟨rfl, ⟨fun j hj => by simp at hj, fun i j hi => by simp at hi⟩, World.ownsRow_nil w base 130 2, (fun b hb => by cases hb), h, fun j hj => by simp at hj⟩
theorem MW.form {w : World} {base hi : Nat} {v : Value} {qs : List RowP} {rs : List RowD} (h : MW w base hi v qs rs) : ∃ A c, v = .slice A rs.length c := by
  obtain ⟨A, c, e, _⟩ := own_slice h.2.2.1
  exact ⟨A, c, e⟩
theorem MW.belowLo {w w' : World} {base hi : Nat} {v : Value} {qs : List RowP} {rs : List RowD} (h : MW w base hi v qs rs) (hb : Below hi w w') : MW w' base hi v qs rs := by
  obtain ⟨h0, ha, ho, hob, hsz, hr⟩ := h
  have hf : Frame (fun b => hi ≤ b) w w' := ⟨hb.os, hb.tape, hb.output, hb.size, fun b _ hn => hb.block b (by omega)⟩
  refine ⟨h0, ha, own_kept ho hf (fun b hb' h' => by have := hob b hb'; omega), hob, Nat.le_trans hsz hb.size, fun j hj => ?_⟩
  obtain ⟨k1, k2⟩ := hr j hj
  exact ⟨k1.frame hf (fun b hb' h' => by have := (k1.2 b hb').2; omega), k2.frame hf (fun b hb' h' => by have := (k2.foot hb').2; omega)⟩
theorem MW.far {w w' : World} {base hi g : Nat} {v : Value} {qs : List RowP} {rs : List RowD} (h : MW w base hi v qs rs) (hf : Frame (fun b => b = g) w w') (hg : g < base) : MW w' base hi v qs rs := by
  obtain ⟨h0, ha, ho, hob, hsz, hr⟩ := h
  refine ⟨h0, ha, own_kept ho hf (fun b hb' h' => by have := (own_lt ho hb').1; omega), hob, Nat.le_trans hsz hf.size, fun j hj => ?_⟩
  obtain ⟨k1, k2⟩ := hr j hj
  exact ⟨k1.frame hf (fun b hb' h' => by have := (k1.2 b hb').1; omega), k2.frame hf (fun b hb' h' => by have := (k2.foot hb').1; omega)⟩
/-- A row done goes to the rows. -/
theorem MW.snoc {w w' : World} {base lo hi : Nat} {v v' vc vv : Value} {qs : List RowP} {rs : List RowD} {ps : List (Value × Value)} {x : RowD} (h : MW w base hi v qs rs) (hx : CV w lo vc vv ps x.cols x.vals) (hh : hi ≤ lo) (hbase : base ≤ hi)
    (hown : w'.ownsRow base 130 2 v' (rs.length + 1) (cellsM qs ++ [vc, vv])) (hf : Frame (fun b => v.ownBlock = some b) w w') : MW w' base w'.heap.size v' (qs ++ [⟨vc, vv, ps⟩]) (rs ++ [x]) := by
  obtain ⟨h0, ha, ho, hob, hsz, hr⟩ := h
  obtain ⟨c1, c2, c3⟩ := hx
  have hs := hf.size
  have po : PO w lo w.heap.size vc x.cols := (RO.of_own c1).io
  have vs : VS w lo w.heap.size vv ps x.vals := by have := c2.parts; rwa [Nat.max_self] at this
  have footR : ∀ j, j < rs.length → ∀ b, FootR (qs.getD j zRP) b → b < hi := fun j hj b hb => by
    rcases hb with hb | hb
    · exact ((hr j hj).1.2 b hb).2
    · exact ((hr j hj).2.foot hb).2
  have footN : ∀ b, FootR ⟨vc, vv, ps⟩ b → lo ≤ b := fun b hb => by
    rcases hb with hb | hb
    · exact (po.2 b hb).1
    · exact (vs.foot hb).1
  refine ⟨by simp [h0], ⟨fun j hj => ?_, fun i j hi' hj hij b hb hb' => ?_⟩, ?_, fun b hb => (own_lt hown hb).2, Nat.le_refl _, fun j hj => ?_⟩
  · rw [List.length_append, List.length_cons, List.length_nil] at hj
    by_cases e : j < qs.length
    · rw [ls_getl e]; exact ha.1 j e
    · rw [show j = qs.length by omega, ls_getr]
      refine ⟨c2.2.2.2, fun b hb hb' => ?_⟩
      have hbo := blk_own c1 hb
      rcases hb' with hb' | ⟨p, hp, hb'⟩
      · exact own_ne c1 c2.2.1 (by decide) hbo (blk_own c2.2.1 hb')
      · rcases hb' with hb' | hb'
        · exact (c3 b hbo p hp).1 hb'
        · exact (c3 b hbo p hp).2 hb'
  · rw [List.length_append, List.length_cons, List.length_nil] at hi' hj
    by_cases e1 : i < qs.length <;> by_cases e2 : j < qs.length
    · rw [ls_getl e1] at hb
      rw [ls_getl e2] at hb'
      exact ha.2 i j e1 e2 hij b hb hb'
    · rw [ls_getl e1] at hb
      rw [show j = qs.length by omega, ls_getr] at hb'
      have := footR i (by omega) b hb
      have := footN b hb'
      omega
    · rw [ls_getl e2] at hb'
      rw [show i = qs.length by omega, ls_getr] at hb
      have := footR j (by omega) b hb'
      have := footN b hb
      omega
    · omega
  · rw [cellsM_snoc, List.length_append, List.length_cons, List.length_nil]
    exact hown
  · rw [List.length_append, List.length_cons, List.length_nil] at hj
    by_cases e : j < rs.length
    · rw [ls_getl (h0 ▸ e), ls_getl e]
      obtain ⟨k1, k2⟩ := hr j e
      refine ⟨(k1.frame hf (fun b hb hs' => ne_row k1 ho (by decide) hb hs')).wide (Nat.le_refl _) (by omega), (k2.frame hf (fun b hb hs' => ?_)).wide (Nat.le_refl _) (by omega)⟩
      obtain ⟨u, hu, hc⟩ := own_cell0 ho (by rw [ho.1]; omega) hs'
      have h00 := (cellsM_get qs 0 (by omega)).1
      rw [Nat.zero_mul, hu] at h00
      injection h00 with h00
      obtain ⟨A0, c0, e0, _⟩ := (hr 0 (by omega)).1.form
      rw [h00, e0] at hc
      exact k2.not_slice hc hb
    · rw [show j = rs.length by omega, ls_getr, ← h0, ls_getr]
      exact ⟨(po.frame hf (fun b hb hs' => by have := (po.2 b hb).1; have := hob b hs'; omega)).wide (by omega) hs, (vs.frame hf (fun b hb hs' => by have := (vs.foot hb).1; have := hob b hs'; omega)).wide (by omega) hs⟩
theorem MW.ms {w : World} {base hi : Nat} {v : Value} {qs : List RowP} {rs : List RowD} (h : MW w base hi v qs rs) : MS w base w.heap.size v qs rs := by
  obtain ⟨h0, ha, ho, hob, hsz, hr⟩ := h
  obtain ⟨A, c, e, h1, h2, h3⟩ := own_slice ho
  refine ⟨h0, A, c, e, h1, h2, fun hx => ?_⟩
  obtain ⟨g, eA, hg⟩ := h3 (List.length_pos_iff.2 hx)
  have hl := own_lt ho hg
  refine ⟨g, eA, hl.1, hl.2, hl.2, fun j hj => ?_⟩
  subst e eA
  obtain ⟨k1, k2⟩ := hr j hj
  obtain ⟨c0, c1⟩ := cellsM_get qs j (by omega)
  exact ⟨(ho.cellAt (g := g) (j * 2) (by omega)).trans c0, (ho.cellAt (g := g) (j * 2 + 1) (by omega)).trans c1, k1.wide (Nat.le_refl _) hsz, k2.wide (Nat.le_refl _) hsz⟩

/-- A matrix of the call's own whose parts lie apart. -/
def MZ (w : World) (lo hi : Nat) (v : Value) (rs : List RowD) : Prop := ∃ u qs, v = .agg #[u] ∧ MS w lo hi u qs rs ∧ ApM qs
theorem MZ.form {w : World} {lo hi : Nat} {v : Value} {rs : List RowD} (h : MZ w lo hi v rs) : ∃ A c, v = .agg #[.slice A rs.length c] := by
  obtain ⟨u, qs, rfl, h, _⟩ := h
  obtain ⟨A, c, rfl, _⟩ := h.form
  exact ⟨A, c, rfl⟩
theorem MS.frame {S : Nat → Prop} {w w' : World} {lo hi : Nat} {v : Value} {qs : List RowP} {rs : List RowD} (h : MS w lo hi v qs rs) (hf : Frame S w w') (hs : ∀ b, lo ≤ b → b < hi → ¬ S b) : MS w' lo hi v qs rs := by
  obtain ⟨hp, A, c, rfl, h1, h2, h3⟩ := id h
  refine ⟨hp, A, c, rfl, h1, h2, fun hx => ?_⟩
  obtain ⟨g, rfl, k1, k2, k3, ke⟩ := h3 hx
  exact ⟨g, rfl, k1, k2, Nat.lt_of_lt_of_le k3 hf.size, fun j hj => (ke j hj).frame hf k3 (hs g k1 k2) (fun b hb => by
    have := h.foot ⟨j, by omega, hb⟩
    exact hs b this.1 this.2)⟩
theorem MZ.frame {S : Nat → Prop} {w w' : World} {lo hi : Nat} {v : Value} {rs : List RowD} (h : MZ w lo hi v rs) (hf : Frame S w w') (hs : ∀ b, lo ≤ b → b < hi → ¬ S b) : MZ w' lo hi v rs := by
  obtain ⟨u, qs, rfl, h, ha⟩ := h
  exact ⟨u, qs, rfl, h.frame hf hs, ha⟩
theorem MZ.later {w w' : World} {lo hi : Nat} {v : Value} {rs : List RowD} (h : MZ w lo hi v rs) (hb : Below w.heap.size w w') : MZ w' lo hi v rs := h.frame (Frame.of_below (S := fun _ => False) hb) (fun _ _ _ h => h)
theorem MZ.reads {w : World} {lo hi : Nat} {v : Value} {rs : List RowD} (h : MZ w lo hi v rs) : MatV w v rs := by
  obtain ⟨u, qs, rfl, h, _⟩ := h
  obtain ⟨A, c, rfl, h1, h2⟩ := h.form
  exact ⟨A, c, rfl, ⟨h1, h2⟩, h.reads⟩
theorem MZ.nil (w : World) (lo hi : Nat) : MZ w lo hi (.agg #[.slice none 0 0]) [] :=
  ⟨_, [], rfl, ⟨rfl, none, 0, rfl, Nat.le_refl _, Nat.zero_le _, fun h => absurd rfl h⟩, fun j hj => by simp at hj, fun i j hi => by simp at hi⟩
theorem MS.wide {w : World} {lo hi lo' hi' : Nat} {v : Value} {qs : List RowP} {rs : List RowD} (h : MS w lo hi v qs rs) (j1 : lo' ≤ lo) (j2 : hi ≤ hi') : MS w lo' hi' v qs rs := by
  obtain ⟨hp, A, c, rfl, h1, h2, h3⟩ := h
  refine ⟨hp, A, c, rfl, h1, h2, fun hx => ?_⟩
  obtain ⟨g, rfl, k1, k2, k3, ke⟩ := h3 hx
  exact ⟨g, rfl, by omega, by omega, k3, fun j hj => ⟨(ke j hj).1, (ke j hj).2.1, (ke j hj).2.2.1.wide j1 j2, (ke j hj).2.2.2.wide j1 j2⟩⟩
/-- What a call that makes a matrix and one more value ends in. -/
def MPost (w : World) (R : List RowD) (x : Value) (e : Ending) (w' : World) : Prop := ∃ v, e = .returned (.tuple #[v, x]) ∧ MZ w' w.heap.size w'.heap.size v R ∧ Below w.heap.size w w'
end Go.Proofs.YtlpomcihkjiokaaGreat
