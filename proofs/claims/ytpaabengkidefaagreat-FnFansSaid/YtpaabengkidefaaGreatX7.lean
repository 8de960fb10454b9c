/-
  Shared texts (X7).
-/
import Derived.Test.YtpaabengkidefaaGreatX6
import Derived.Test.YtpaabengkidefaaGreatX2
import Derived.Lib.Overlaps
import Derived.Lib.AppendZerosOnto
import Derived.Shelf.Spec.SlicesInsert
import Derived.Laws.CopyOwn
import Derived.Test.YtpaabengkidefaaGreatX3
namespace Go.Proofs.YtpaabengkidefaaGreat
open Go.RowKit Go.Joins Go.SX

noncomputable def curC (p : Nat) : List C := [.cur p 0, .cur p 1, .cur p 2]

noncomputable def asCur (l : List C) : Option Nat :=
  match l with
  | [.cur a i, .cur b j, .cur c k] => bi (Nat.beq a b) (bi (Nat.beq a c) (bi (Nat.beq i 0) (bi (Nat.beq j 1) (bi (Nat.beq k 2) (some a) none) none) none) none) none
  | _ => none

theorem asCur_inv {l : List C} {p : Nat} (h : asCur l = some p) : l = curC p := by
  unfold asCur at h
  split at h
  · obtain ⟨h1, h⟩ := bi_inv h
    obtain ⟨h2, h⟩ := bi_inv h
    obtain ⟨h3, h⟩ := bi_inv h
    obtain ⟨h4, h⟩ := bi_inv h
    obtain ⟨h5, h⟩ := bi_inv h
    injection h with h
    rw [← beq_inv h1, ← beq_inv h2, beq_inv h3, beq_inv h4, beq_inv h5, h]
    rfl
  · cases h

noncomputable def isCode (c : C) : Bool := match c with | .code => true | _ => false

noncomputable def orNew (l : List V) (st : St) : Option R :=
  ob (one l) fun c => bi (isCode c) (alloc st (curC 0) pC) none

noncomputable def orBelow (drw : Nat → Nat → Option Nat) (l : List V) (st : St) : Option R :=
  ob (two l) fun q => ob (cPtr q.1) fun a => ob (cInt q.2) fun i => bi (Nat.beq a.2 0) (Int.casesOn i (fun m => bi (Nat.ble 1 m) (bi (Nat.ble m 256)
    (ob (st.mem.get a.1) fun b => ob (asCur b.cells) fun p =>
      some ⟨@Option.rec Nat (fun _ => V) (.s (.c (.dr 0 p m))) (fun x => vI (Int.ofNat x)) (drw p m), ⟨st.mem.set a.1 (some ⟨curC (Nat.add p 1)⟩), st.nb, st.nt⟩, [a.1], some [a.1]⟩) none) none) (fun _ => none)) none

section
variable {K : Toks} {E F : Env} {w wr u : World} {st : St} {r : R} {x : Value}

theorem pre_below (hp : Pre K E w st r) (hb : Below w.heap.size w wr) : Pre K E wr st r :=
  ⟨gi_grow hp.gi rfl rfl (fun k p s hk => Nat.lt_of_lt_of_le (hp.gi.low k p s hk) hb.size) hb.size (fun k _ s hk _ => ⟨k, s, hk⟩) (fun b hlt _ => hb.block b hlt),
    fun k b hi hk => blk_kept (hp.blk k b hi hk) (.refl E) (fun p s hr => hb.block p (hp.gi.low k p s hr)), hp.inj, hp.newB, hp.newT⟩
theorem out_behind (hb : Below w.heap.size w wr) (h : Out K E wr st r F u x) : Out K E w st r F u x :=
  ⟨⟨h.step.le, h.step.newB, h.step.newT, h.step.os.trans hb.os, h.step.tape.trans hb.tape, h.step.output.trans hb.output, Nat.le_trans hb.size h.step.size,
    fun b hlt hn => (h.step.kept b (Nat.lt_of_lt_of_le hlt hb.size) hn).trans (hb.block b hlt), fun k p s h1 h2 h3 => (h.step.fresh k p s h1 h2 h3).imp (fun g => Nat.le_trans hb.size g) id, h.step.gi⟩, h.val, h.blk, h.inj⟩

/-- A call that turns one block only. -/
theorem out_write {k0 g : Nat} {b1 : Blk} {v : V} {rd : Option (List Nat)} {arr : Array Value} {ty sz : Nat} (hst : StOk st) (h0 : k0 < st.nb)
    (hp : Pre K E w st ⟨v, ⟨st.mem.set k0 (some b1), st.nb, st.nt⟩, [k0], rd⟩) (hrho : E.rho k0 = some (g, sz)) (hf : Frame (fun b => b = g) w u)
    (hu : u.heap[g]? = some (.cells arr ty (0, 0))) (hsz : arr.size = sz) (hr : RelF E b1.cells arr.toList) (hv : RelV E v x) :
    Out K E w st ⟨v, ⟨st.mem.set k0 (some b1), st.nb, st.nt⟩, [k0], rd⟩ E u x := by
  have hk8 : k0 ≤ 8388608 := by have := hst.nb; omega
  have hget : (T.set st.mem k0 (some b1)).get k0 = some b1 := by rw [get_set _ _ _ _ hk8, if_pos rfl]
  have only : ∀ k, (k ∈ [k0] ∨ st.nb ≤ k ∧ k < st.nb) → k = k0 := by
    intro k hk
    rcases hk with hk | hk
    · simpa using hk
    · omega
  refine ⟨⟨.refl E, fun k h => absurd rfl h, fun j h => absurd rfl h, hf.os, hf.tape, hf.output, hf.size, fun b hlt hn => hf.block b hlt (fun e => ?_), fun k p s h1 h2 => by have : k < st.nb := h2; omega, ?_⟩, hv,
    fun k b hk hg => ?_, fun k k' b b' p s s' hk hk' _ _ _ _ => ?_⟩
  · subst e; exact hn k0 (by simp) sz hrho
  · refine gi_grow hp.gi rfl rfl (fun k p s hk => Nat.lt_of_lt_of_le (hp.gi.low k p s hk) hf.size) hf.size (fun k _ s hk _ => ⟨k, s, hk⟩) (fun b hlt hn => hf.block b hlt (fun e => ?_))
    subst e; exact hn k0 sz hrho
  · have e := only k hk
    subst e
    have hg' : (T.set st.mem k (some b1)).get k = some b := hg
    rw [hget] at hg'
    injection hg' with hg'
    subst hg'
    exact ⟨g, sz, arr, ty, hrho, hu, hsz, hr⟩
  · rw [only k hk, only k' hk']

theorem eff_write {k0 : Nat} {b0 b1 : Blk} {v : V} (hst : StOk st) (h0 : st.mem.get k0 = some b0) : Eff st ⟨v, ⟨st.mem.set k0 (some b1), st.nb, st.nt⟩, [k0], some [k0]⟩ := by
  have hlt := hst.lt h0
  have hk8 : k0 ≤ 8388608 := by have := hst.nb; omega
  refine ⟨Nat.le_refl _, Nat.le_refl _, fun k hk _ => ?_, fun k hk => ?_, ⟨hst.nb, fun k hk => ?_⟩, fun l hl k hk => by injection hl with hl; rw [← hl]; exact hk⟩
  · show (T.set _ _ _).get k = _
    rw [get_set _ _ _ _ hk8, if_neg (fun e => hk (by simp [e]))]
  · simp at hk; subst hk; exact ⟨hlt, b0, h0⟩
  · show (T.set _ _ _).get k = none
    rw [get_set _ _ _ _ hk8, if_neg (by have : st.nb ≤ k := hk; omega)]; exact hst.dom k hk

end
section
variable {val : Nat → RatD} {drw : Nat → Nat → Option Nat}

theorem cur_rel {E : Env} {A : Option Addr} {n c : Nat} {y : Nat → Int} (h : E.fix = fixOf A n c y) (p : Nat) :
    RelL E (curC p) [.slice A n c, .int .i64 (stp n y p).1, .int .i64 (stp n y p).2] := by
  refine ⟨⟨?_, ?_, ?_⟩, ⟨?_, ?_, ?_⟩, ⟨?_, ?_, ?_⟩, trivial⟩ <;> first | (rw [h]; rfl) | (intro a e; cases e)

theorem orNew_ok : OrcOne Tryz.prog (toks val drw) 57 orNew := by
  intro vl st r hr hst
  obtain ⟨c, h1, hr⟩ := ob_inv hr
  obtain ⟨h2, hr⟩ := bi_inv hr
  obtain ⟨hb, rfl⟩ := alloc_inv hr
  refine ⟨eff_alloc hst hb, Tryz.call57, fun E w vs hrel hp => ?_⟩
  obtain ⟨v, rfl, hv⟩ := one_inv h1 hrel
  have hc : c = .code := by
    unfold isCode at h2
    split at h2
    · rfl
    · cases h2
  rw [hc] at hv
  obtain ⟨hv, _, _⟩ := hv
  obtain ⟨G, hG, A, n, cp, y, hfix, hbe, hby, hn, hfoot, hdr⟩ := id hp.gi.base
  rw [hfix] at hv
  have hv' : v = .slice A n cp := hv
  subst hv'
  refine (eNew n cp A y hn hby w hbe).mono fun e u ⟨wr, hwr, he, hu⟩ => ?_
  subst hu
  exact ⟨_, _, he, out_behind hwr (out_alloc hst hb (pre_below hp hwr) (ty := 156) (arr := #[.slice A n cp, .int .i64 0, .int .i64 (hsh n y (min n 4000))]) rfl rfl rfl rfl
    (cur_rel hfix 0).toF ⟨_, _, addB_same _ _, rfl⟩)⟩

theorem stp_le (n : Nat) (y : Nat → Int) : ∀ p, (stp n y p).1 ≤ n
  | 0 => Nat.zero_le _
  | p + 1 => by
    have := stp_le n y p
    show (if (stp n y p).1 < n then (stp n y p).1 + 1 else (stp n y p).1) ≤ n
    split <;> omega

theorem orBelow_ok : OrcOne Tryz.prog (toks val drw) 77 (orBelow drw) := by
  intro vl st r hr hst
  obtain ⟨⟨c1, c2⟩, h1, hr⟩ := ob_inv hr
  obtain ⟨⟨k0, o⟩, h2, hr⟩ := ob_inv hr
  obtain ⟨i, h3, hr⟩ := ob_inv hr
  obtain ⟨h4, hr⟩ := bi_inv hr
  cases i with
  | negSucc m => cases hr
  | ofNat m =>
    obtain ⟨h5, hr⟩ := bi_inv hr
    obtain ⟨h6, hr⟩ := bi_inv hr
    obtain ⟨b, h7, hr⟩ := ob_inv hr
    obtain ⟨p, h8, hr⟩ := ob_inv hr
    injection hr with hr
    subst hr
    have h4' := beq_inv h4
    simp only at h4'
    subst h4'
    have h5' := ble_inv h5
    have h6' := ble_inv h6
    refine ⟨eff_write hst h7, Tryz.call77, fun E w vs hrel hp => ?_⟩
    obtain ⟨x1, x2, rfl, hv1, hv2⟩ := two_inv h1 hrel
    rw [cInt_inv h3] at hv2
    have hv2' : x2 = .int .i64 m := hv2
    rw [cPtr_inv h2] at hv1
    obtain ⟨g, s, hrho, hv1⟩ := hv1
    subst hv1 hv2'
    obtain ⟨g', s', arr, ty, hrho', hh, hsz, hrl⟩ := hp.blk k0 b (by simp [inR]) h7
    rw [hrho] at hrho'
    injection hrho' with hrho'
    injection hrho' with e1 e2
    subst e1 e2
    obtain ⟨G, hG, A, n, cp, y, hfix, hbe, hby, hn, hfoot, hdr⟩ := id hp.gi.base
    have hlt := hp.gi.low _ _ _ hrho
    rw [asCur_inv h8] at hrl
    have hcell : ∀ (o : Nat) (c : C) (v : Value), (curC p)[o]? = some c → (∀ x, RelC E c x → x = v) → w.cell? ⟨g, o, none⟩ = some v := by
      intro o c v hc hx
      obtain ⟨x, h1, h2⟩ := hrl.get o c hc
      rw [cell_of hh, ← hx x h2, ← h1, Array.getElem?_toList]
    have hce : CE arr.size w g A n cp (stp n y p).1 (stp n y p).2 := by
      refine ⟨stp_le n y p, hcell 0 _ _ rfl ?_, hcell 1 _ _ rfl ?_, hcell 2 _ _ rfl ?_, fun o => frozen_of_row _ _ _ _ _ hh, arr, ty, hh, rfl⟩ <;>
      · rintro x ⟨hx, _⟩
        rw [hfix] at hx
        have hx' : some _ = some x := hx
        injection hx' with hx'
        exact hx'.symm
    have hne : n ≠ 0 → ∀ a, A = some a → a.block ≠ g := fun hn0 a ha e => by
      have := (hG _ (hfoot hn0 a ha)).2 k0 arr.size
      rw [e] at this
      exact this (by rw [hsz]; exact hrho)
    refine (eBelow arr.size g n cp (stp n y p).1 (stp n y p).2 A y m (by omega) (by omega) w hlt hn hby hne hbe hce).mono fun e u ⟨he, hc, hf⟩ => ?_
    have hs1 : nxt n ((stp n y p).1, (stp n y p).2) = stp n y (p + 1) := rfl
    rw [hs1] at hc
    obtain ⟨arr', ty', hh', hsz'⟩ := hc.row
    have hb : (nxtB n y (stp n y p)) % (m : Int) = ((E.fix.byte p % m : Nat) : Int) := by
      rw [hfix]
      show _ = (((nxtB n y (stp n y p)).toNat % m : Nat) : Int)
      rw [Int.natCast_emod, Int.toNat_of_nonneg (nxtB_in n y _).1]
    have he' : e = .returned (.int .i64 ((E.fix.byte p % m : Nat) : Int)) := by
      rw [he, ← hb]
    refine ⟨_, E, he', out_write hst (hst.lt h7) hp hrho hf hh' (hsz'.trans hsz) ?_ ?_⟩
    · have hcur := cur_rel hfix (p + 1)
      have e3 : ∀ o v, u.cell? ⟨g, o, none⟩ = some v → arr'.toList[o]? = some v := fun o v ho => by rw [Array.getElem?_toList, ← cell_of hh']; exact ho
      have a0 := e3 0 _ hc.sl
      have a1 := e3 1 _ hc.at_
      have a2 := e3 2 _ hc.hash
      match hl : arr'.toList, a0, a1, a2 with
      | u0 :: u1 :: u2 :: rest, a0, a1, a2 =>
        simp at a0 a1 a2
        subst a0 a1 a2
        exact ⟨hcur.1, hcur.2.1, hcur.2.2.1, trivial⟩
      | [], a0, _, _ => simp at a0
      | [_], _, a1, _ => simp at a1
      | [_, _], _, _, a2 => simp at a2
    · cases hd : drw p m with
      | none =>
        show Value.int .i64 _ = Value.int .i64 _
        rw [Int.zero_add]
      | some r =>
        have := hdr p m r hd
        show Value.int .i64 _ = Value.int .i64 _
        rw [this]; rfl

end
end Go.Proofs.YtpaabengkidefaaGreat

namespace Go.Proofs.YtpaabengkidefaaGreat
open Go.RowKit Go.Joins

theorem run_copyZ {P : Program} (w : World) (dT sT ty elem z : TypeId) (g o dLen dCap : Nat) (a : Addr) (sLen sCap : Nat) (cur : Array Value) (t : TypeId) (cs : List Value)
    (hu : P.underlying dT = some (.slice elem)) (hs : (P.info? elem).map (·.size) = some z)
    (hg : w.heap[g]? = some (.cells cur t (0, 0))) (k : Nat) (hk : Nat.min sLen dLen = k) (hn : cs.length = k * z)
    (hsrc : ∀ j v, cs[j]? = some v → w.cell? (a.add j) = some v) (hfit : o + cs.length ≤ cur.size) (h1 : ∀ v ∈ cs, v.oneCell' = true) :
    (Builtin.copy_ #[dT, sT] ty #[.slice (some ⟨g, o, none⟩) dLen dCap, .slice (some a) sLen sCap]).run P w =
      .ok (goInt k) (w.setRow g (cur.toList.take o ++ cs ++ cur.toList.drop (o + cs.length)).toArray) := by
  have hl := run_loadCells_list (P := P) w a cs hsrc
  have hst := run_storeCells_at P g o t cs 0 cur w hg (by simpa using hfit) h1
  cases hq : P.info? elem with
  | none => simp [hq] at hs
  | some i =>
    have hi : i.size = z := by simpa [hq] using hs
    simp [Builtin.copy_, run_underlying hu, Builtin.lenOf, Builtin.firstCells, sizeOf, typeInfo, hq, hi, hk, ← hn, hl, hst]

theorem edgeInfo : (Tryz.prog.info? 100).map (fun i => (i.zero, i.size, i.bytes)) = some (some (.agg #[.int .i64 0, .int .i64 0, .int .i64 0, .int .i64 0]), 4, 32) := by kernel_rfl

/-- The end of a putting in: where the row is now; what it holds. -/
structure IN (n : Nat) (res : List Value) (g cap : Nat) (u : World) (arr : Array Value) : Prop where
  le : n ≤ cap
  row : ∃ ty, u.heap[g]? = some (.cells arr ty (0, 0))
  size : cap * 4 ≤ arr.size
  cells : arr.toList.take (n * 4) = res
  top : cap ≤ 9223372036854775807

theorem splice_take {α : Type} (X V Y R : List α) (a n : Nat) (hX : X.length = a) (hV : V.length = 4) (hn : a + 4 + Y.length = n) :
    ((((X ++ R).take a ++ V ++ (X ++ R).drop (a + V.length)).take (a + 4) ++ Y ++ ((X ++ R).take a ++ V ++ (X ++ R).drop (a + V.length)).drop (a + 4 + Y.length))).take n = X ++ V ++ Y := by
  have e1 : (X ++ R).take a = X := List.take_left' hX
  rw [e1]
  have e2 : (X ++ V ++ (X ++ R).drop (a + V.length)).take (a + 4) = X ++ V := List.take_left' (by simp [hX, hV])
  rw [e2]
  exact List.take_left' (by simp [hX, hV]; omega)

set_option maxHeartbeats 4000000 in
set_option maxRecDepth 100000 in
theorem ins_grow (b n c i vb vc : Nat) (cs vs : List Value) (w : World) (hi : i < n) (hnc : n ≤ c) (hroom : c < n + 1) (hbig : n ≤ 1000000)
    (hcl : cs.length = n * 4) (hvl : vs.length = 4)
    (hcs : ∀ j v, cs[j]? = some v → w.cell? ⟨b, j, none⟩ = some v)
    (hvs : ∀ j v, vs[j]? = some v → w.cell? ⟨vb, j, none⟩ = some v) (h1c : ∀ v ∈ cs, v.oneCell' = true) (h1v : ∀ v ∈ vs, v.oneCell' = true) :
    Calls Tryz.prog 200 #[.slice (some ⟨b, 0, none⟩) n c, .int .i64 i, .slice (some ⟨vb, 0, none⟩) 1 vc] w fun e u =>
      ∃ cap arr, e = .returned (.slice (some ⟨w.heap.size, 0, none⟩) (n + 1) cap) ∧ IN (n + 1) (cs.take (i * 4) ++ vs ++ cs.drop (i * 4)) w.heap.size cap u arr ∧ Below w.heap.size w u := by
  obtain ⟨i0, hi0, hz0, hzs, hzb⟩ := info_parts edgeInfo
  have hz3 : (c : Int) < (n : Int) + 1 := by omega
  have hz2 : ¬ ((i : Int) = (n : Int)) := by omega
  have hsz : (Tryz.prog.info? 100).map (·.size) = some 4 := by rw [hi0]; simp [hzs]
  have hbw : b < w.heap.size := block_lt_of_cell (hcs 0 _ (List.getElem?_eq_getElem (by omega)))
  have hvw : vb < w.heap.size := block_lt_of_cell (hvs 0 _ (List.getElem?_eq_getElem (by omega)))
  have hkk : (n : Int) + 1 - (i : Int) = ((n + 1 - i : Nat) : Int) := by omega
  have hik : i + (n + 1 - i) = n + 1 := by omega
  have hold : (Builtin.firstCells i0.size i (.slice (some ⟨b, 0, none⟩) i c)).run Tryz.prog w.drew = .ok (cs.take (i * 4)).toArray w.drew := by
    rw [hzs]
    exact run_firstCells_some w.drew 4 i ⟨b, 0, none⟩ i c (cs.take (i * 4)) (by rw [List.length_take]; omega) (fun j v hj => by
      rw [Addr.add_lit, Nat.zero_add]
      rw [List.getElem?_take] at hj
      split at hj
      · exact hcs j v hj
      · cases hj)
  have hnext : Builtin.nextslicecap (i + (n + 1 - i)) c * i0.bytes ≤ 281474976710656 := by
    rw [hzb, hik]
    have := SX.next_le (n := n + 1) (old := c) (by omega) (by omega)
    omega
  have hrz : ∀ ty, (Builtin.append_ #[97, 3] ty #[.slice (some ⟨b, 0, none⟩) i c, .int .i64 ((n : Int) + 1 - (i : Int))]).run Tryz.prog w =
      .ok (.slice (some ⟨w.heap.size, 0, none⟩) (n + 1) (grownCap w (n + 1) c 100)) (w.drew.alloc (.cells ((cs.take (i * 4)).toArray ++ Builtin.zeroCells (Value.agg #[.int .i64 0, .int .i64 0, .int .i64 0, .int .i64 0]).cells (n + 1 - i) ++
        Builtin.zeroCells (Value.agg #[.int .i64 0, .int .i64 0, .int .i64 0, .int .i64 0]).cells (grownCap w (n + 1) c 100 - (n + 1))) 100)) := fun ty => by
    have h := Lib.run_append_grow_zeros w 97 3 ty 100 i0 _ .i64 .i64 Tryz.underlying97 Tryz.underlying3 hi0 hz0 (some ⟨b, 0, none⟩) i c (cs.take (i * 4)) hold (n + 1 - i) (by omega) (by omega) (by omega) (by omega) (by rw [hzb]; omega) hnext
    rw [hik] at h
    rw [hkk]
    exact h
  have hGn : n + 1 ≤ grownCap w (n + 1) c 100 := grownCap_ge w _ _ _
  have hG63 : grownCap w (n + 1) c 100 ≤ 9223372036854775807 := by
    have := grownCap_le_maxLen w (n + 1) c 100 (by unfold maxLen; omega)
    unfold maxLen at this
    omega
  obtain ⟨G, hG⟩ : ∃ G, G = grownCap w (n + 1) c 100 := ⟨_, rfl⟩
  rw [← hG] at hrz hGn hG63
  obtain ⟨R, hR⟩ : ∃ R : List Value, R = (Builtin.zeroCells (Value.agg #[.int .i64 0, .int .i64 0, .int .i64 0, .int .i64 0]).cells (n + 1 - i) ++
        Builtin.zeroCells (Value.agg #[.int .i64 0, .int .i64 0, .int .i64 0, .int .i64 0]).cells (G - (n + 1))).toList := ⟨_, rfl⟩
  have hRl : R.length = (G - i) * 4 := by
    rw [hR]
    simp [Builtin.zeroCells, Value.cells]
    omega
  obtain ⟨ROW, hROW⟩ : ∃ ROW : Array Value, ROW = ((cs.take (i * 4)) ++ R).toArray := ⟨_, rfl⟩
  have hrow : (cs.take (i * 4)).toArray ++ Builtin.zeroCells (Value.agg #[.int .i64 0, .int .i64 0, .int .i64 0, .int .i64 0]).cells (n + 1 - i) ++
        Builtin.zeroCells (Value.agg #[.int .i64 0, .int .i64 0, .int .i64 0, .int .i64 0]).cells (G - (n + 1)) = ROW := by
    apply Array.toList_inj.1
    rw [hROW, hR]
    simp
  rw [hrow] at hrz
  have hRs : ROW.size = G * 4 := by rw [hROW]; simp [hRl, hcl]; omega
  have hN : ∀ W : World, W.heap = w.heap.push (.cells ROW 100) → W.heap[w.heap.size]? = some (.cells ROW 100 (0, 0)) := fun W hW => by rw [hW]; simp
  obtain ⟨R1, hR1⟩ : ∃ R1 : Array Value, R1 = (ROW.toList.take (i * 4) ++ vs ++ ROW.toList.drop (i * 4 + vs.length)).toArray := ⟨_, rfl⟩
  have hR1s : R1.size = G * 4 := by rw [hR1]; simp [hvl, hRs]; omega
  have hcpA : ∀ (W : World), W.heap = w.heap.push (.cells ROW 100) → ∀ ty dc, (Builtin.copy_ #[97, 97] ty #[.slice (some ⟨w.heap.size, i * 4, none⟩) (n + 1 - i) dc, .slice (some ⟨vb, 0, none⟩) 1 vc]).run Tryz.prog W = .ok (goInt 1) (W.setRow w.heap.size R1) := fun W hW ty dc => by
    rw [hR1]
    refine run_copyZ W _ _ ty 100 4 w.heap.size (i * 4) (n + 1 - i) dc ⟨vb, 0, none⟩ 1 vc ROW _ vs Tryz.underlying97 hsz (hN W hW) 1 (by simp only [Nat.min_def]; split <;> omega) (by omega) (fun j v hj => ?_) (by omega) h1v
    rw [Addr.add_lit, Nat.zero_add, World.cell?_of_block (w := w) (by rw [hW, Array.getElem?_push, if_neg (show ¬ (vb = w.heap.size) by omega)])]
    exact hvs j v hj
  obtain ⟨R2, hR2⟩ : ∃ R2 : Array Value, R2 = (R1.toList.take (i * 4 + 4) ++ cs.drop (i * 4) ++ R1.toList.drop (i * 4 + 4 + (cs.drop (i * 4)).length)).toArray := ⟨_, rfl⟩
  have hdl : (cs.drop (i * 4)).length = (n - i) * 4 := by rw [List.length_drop, hcl]; omega
  have hR2s : R2.size = G * 4 := by rw [hR2]; simp [hR1s, hcl]; omega
  have hcpB : ∀ (W : World), W.heap[w.heap.size]? = some (.cells R1 100 (0, 0)) → W.heap[b]? = w.heap[b]? → ∀ ty dc sc, (Builtin.copy_ #[97, 97] ty #[.slice (some ⟨w.heap.size, (i + 1) * 4, none⟩) (n + 1 - (i + 1)) dc, .slice (some ⟨b, i * 4, none⟩) (n - i) sc]).run Tryz.prog W = .ok (goInt ((n - i : Nat) : Int)) (W.setRow w.heap.size R2) := fun W hW hWb ty dc sc => by
    rw [hR2, show (i + 1) * 4 = i * 4 + 4 by omega]
    refine run_copyZ W _ _ ty 100 4 w.heap.size (i * 4 + 4) (n + 1 - (i + 1)) dc ⟨b, i * 4, none⟩ (n - i) sc R1 _ (cs.drop (i * 4)) Tryz.underlying97 hsz hW (n - i) (by simp only [Nat.min_def]; split <;> omega) hdl (fun j v hj => ?_) (by omega) (fun v hv => h1c v (List.mem_of_mem_drop hv))
    rw [Addr.add_lit, World.cell?_of_block (w := w) hWb]
    rw [List.getElem?_drop] at hj
    exact hcs _ v hj
  have hE0 : (w.alloc (.cells ROW 100)).drew.heap[w.heap.size]? = some (.cells ROW 100 (0, 0)) := hN _ rfl
  have hE1 : (((w.alloc (.cells ROW 100)).drew.setRow w.heap.size R1).drew).heap[w.heap.size]? = some (.cells R1 100 (0, 0)) := setRow_heap _ _ ROW _ _ (0, 0) hE0
  have hE2 : (((w.alloc (.cells ROW 100)).drew.setRow w.heap.size R1).drew).heap[w.heap.size]? = some (.cells R1 100 (0, 0)) ∧ (((w.alloc (.cells ROW 100)).drew.setRow w.heap.size R1).drew).heap[b]? = w.heap[b]? := by
    refine ⟨hE1, ?_⟩
    refine (setRow_other (w.alloc (.cells ROW 100)).drew w.heap.size b R1 (by omega)).trans ?_
    show (w.heap.push _)[b]? = _
    rw [Array.getElem?_push, if_neg (by omega)]
  have HZ := Lib.hid (show (((w.alloc (.cells ROW 100)).drew.setRow w.heap.size R1).drew.setRow w.heap.size R2).heap[w.heap.size]? = some (.cells R2 100 (0, 0)) from setRow_heap _ _ R1 _ _ (0, 0) hE1)
  have hcpB' := fun ty dc sc => hcpB _ hE2.1 hE2.2 ty dc sc
  clear hcpB hE0 hE1 hE2
  have hGi : ¬ (G = i) := by omega
  have hGim : ¬ (G = i + 1) := by omega
  have hci : ¬ (c = i) := by omega
  have hbN : b ≠ w.heap.size := by omega
  have hw1 : IntKind.i64.wrap ((i : Int) + 1) = (i : Int) + 1 := by rw [IntKind.wrap_i64]; omega
  have hb1 : (0 : Int) ≤ (i : Int) + 1 := by omega
  have hin : i ≤ n := by omega
  have htn : ((i : Int) + 1).toNat = i + 1 := by omega
  have hb3 : (i : Int) ≤ (n : Int) := by omega
  have mixed : Tryz.prog.follows .mixedOrders = true := by kernel_rfl
  have HF := Lib.hid (And.intro hROW (And.intro hR1 hR2))
  have HS := Lib.hid hR2s
  have HL := Lib.hid (And.intro hRl (show (cs.drop (i * 4)).length = (n - i) * 4 from hdl))
  clear hkk hik hold hR hRl hROW hR1 hR2 hrow hG hdl hnext hN hcs hvs h1c h1v
  go_enter Tryz.func200, Tryz.ntmps200
  go_wp2_with (first
    | (at_builtin; refine Lib.wpList_append_run _ rfl _ _ _ _ rfl _ _ rfl rfl _ _ (hrz _) ?_)
    | (refine wpList_copy_runI _ rfl _ _ 97 97 rfl _ _ rfl rfl (hcpA _ (by rfl) _ _) ?_))
  go_region_law_o (refine step_copy_runI rfl _ _ 97 97 rfl (.slice (some ⟨w.heap.size, (i + 1) * 4, none⟩) (n + 1 - (i + 1)) (G - (i + 1))) (.slice (some ⟨b, i * 4, none⟩) (n - i) (c - i)) (by simp [Act.eval, Act.put]) (by simp [Act.eval, Act.put]) (hcpB' 3 (G - (i + 1)) (c - i)) ?_)
  go_wp2
  go_ret
  obtain ⟨e1, e2, e3⟩ := HF.out
  refine ⟨G, R2, rfl, ⟨hGn, ⟨_, HZ.out⟩, by rw [HS.out]; exact Nat.le_refl _, ?_, hG63⟩, ?_⟩
  · have := HL.out.2
    rw [e3, e2, e1]
    exact splice_take (cs.take (i * 4)) vs (cs.drop (i * 4)) R (i * 4) ((n + 1) * 4) (by rw [List.length_take]; omega) hvl (by omega)
  · exact below_setRow (Below.drew (below_setRow (Below.drew (below_alloc1 w _)) (Nat.le_refl _) _)) (Nat.le_refl _) _

theorem Frame.setRow {S : Nat → Prop} {a w : World} (h : Frame S a w) {g : Nat} (hg : S g) (cs : Array Value) : Frame S a (w.setRow g cs) :=
  h.trans ⟨rfl, rfl, rfl, by simp, fun k _ hn => setRow_other w g k cs (fun e => hn (e ▸ hg))⟩

theorem splice_shift {α : Type} (C V Y : List α) (X : List α) (a n : Nat) (hX : C.take a = X) (hXl : X.length = a) (hV : V.length = 4) (hC : a + 4 ≤ C.length) (hn : a + 4 + Y.length = n) :
    ((C.take (a + 4) ++ Y ++ C.drop (a + 4 + Y.length)).take a ++ V ++ (C.take (a + 4) ++ Y ++ C.drop (a + 4 + Y.length)).drop (a + V.length)).take n = X ++ V ++ Y := by
  have e1 : (C.take (a + 4) ++ Y ++ C.drop (a + 4 + Y.length)).take a = X := by
    rw [List.append_assoc, List.take_append_of_le_length (by simp; omega), List.take_take, show min a (a + 4) = a by omega, hX]
  have e2 : (C.take (a + 4) ++ Y ++ C.drop (a + 4 + Y.length)).drop (a + V.length) = Y ++ C.drop (a + 4 + Y.length) := by
    rw [List.append_assoc, hV]
    exact List.drop_left' (by simp; omega)
  rw [e1, e2, ← List.append_assoc]
  exact List.take_left' (by simp [hXl, hV]; omega)

set_option maxHeartbeats 4000000 in
set_option maxRecDepth 100000 in
theorem ins_shift (b n c i vb vc bt vt : Nat) (cur varr : Array Value) (cs vs : List Value) (w : World) (hi : i < n) (hroom : n + 1 ≤ c) (hc63 : c ≤ 9223372036854775807) (hvb : vb ≠ b)
    (hb : w.heap[b]? = some (.cells cur bt (0, 0))) (hv : w.heap[vb]? = some (.cells varr vt (0, 0))) (hsz4 : c * 4 ≤ cur.size) (hcl : cur.toList.take (n * 4) = cs) (hvl : varr.toList.take 4 = vs) (hv4 : 4 ≤ varr.size)
    (h1c : ∀ v ∈ cs, v.oneCell' = true) (h1v : ∀ v ∈ vs, v.oneCell' = true) :
    Calls Tryz.prog 200 #[.slice (some ⟨b, 0, none⟩) n c, .int .i64 i, .slice (some ⟨vb, 0, none⟩) 1 vc] w fun e u =>
      ∃ arr, e = .returned (.slice (some ⟨b, 0, none⟩) (n + 1) c) ∧ u.heap[b]? = some (.cells arr bt (0, 0)) ∧ arr.size = cur.size ∧ arr.toList.take ((n + 1) * 4) = cs.take (i * 4) ++ vs ++ cs.drop (i * 4) ∧ Frame (fun k => k = b) w u ∧ u.heap.size = w.heap.size := by
  obtain ⟨i0, hi0, hz0, hzs, hzb⟩ := info_parts edgeInfo
  have hsz : (Tryz.prog.info? 100).map (·.size) = some 4 := by rw [hi0]; simp [hzs]
  have hz2 : ¬ ((i : Int) = (n : Int)) := by omega
  have hcl' : cs.length = n * 4 := by rw [← hcl]; simp; omega
  have hvl' : vs.length = 4 := by rw [← hvl]; simp; omega
  have hov : ∀ lb cb, (callFunc 247 #[.slice (some ⟨vb, 0, none⟩) 1 vc, .slice (some ⟨b, (i + 1) * 4, none⟩) lb cb]).run Tryz.prog w = .ok (.value (.bool false)) w := fun lb cb => by
    rw [run_callFunc_extern Tryz.func247 (by kernel_rfl) (by kernel_rfl) (by kernel_rfl) (e := Extern.SlicesOverlaps.overlaps #[97, 97] #[4]) (by kernel_rfl),
      Lib.run_overlaps_apart w 97 4 100 Tryz.underlying97 4 (fun w => SX.run_szOf (by unfold SX.szOf; rw [hi0]; exact congrArg some hzs) w) ⟨vb, 0, none⟩ ⟨b, (i + 1) * 4, none⟩ 1 vc lb cb hvb vt bt varr.size cur.size (by simp [World.shape?, hv]) (by simp [World.shape?, hb]) (by omega) (frozen_of_row _ _ _ _ _ hv) (frozen_of_row _ _ _ _ _ hv)]
    rfl
  have hdl : (cs.drop (i * 4)).length = (n - i) * 4 := by rw [List.length_drop, hcl']; omega
  have mixed : Tryz.prog.follows .mixedOrders = true := by kernel_rfl
  have hw1 : IntKind.i64.wrap ((i : Int) + 1) = (i : Int) + 1 := by rw [IntKind.wrap_i64]; omega
  have hb1 : (0 : Int) ≤ (i : Int) + 1 := by omega
  have hin : i ≤ n := by omega
  have htn : ((i : Int) + 1).toNat = i + 1 := by omega
  have hb2 : ¬ (c = i + 1) := by omega
  have hb3 : (i : Int) ≤ (n : Int) + 1 := by omega
  have hb4 : ¬ (c = i) := by omega
  obtain ⟨R1, hR1⟩ : ∃ R1 : Array Value, R1 = (cur.toList.take (i * 4 + 4) ++ cs.drop (i * 4) ++ cur.toList.drop (i * 4 + 4 + (cs.drop (i * 4)).length)).toArray := ⟨_, rfl⟩
  have hR1s : R1.size = cur.size := by rw [hR1]; simp [hcl']; omega
  have hcp1 : ∀ ty dc sc, (Builtin.copy_ #[97, 97] ty #[.slice (some ⟨b, (i + 1) * 4, none⟩) (n + 1 - (i + 1)) dc, .slice (some ⟨b, i * 4, none⟩) (n + 1 - i) sc]).run Tryz.prog w.drew = .ok (goInt ((n - i : Nat) : Int)) (w.drew.setRow b R1) := fun ty dc sc => by
    rw [hR1, show (i + 1) * 4 = i * 4 + 4 by omega]
    refine run_copyZ w.drew _ _ ty 100 4 b (i * 4 + 4) (n + 1 - (i + 1)) dc ⟨b, i * 4, none⟩ (n + 1 - i) sc cur _ (cs.drop (i * 4)) Tryz.underlying97 hsz hb (n - i) (by simp only [Nat.min_def]; split <;> omega) hdl (fun j v hj => ?_) (by omega) (fun v hv => h1c v (List.mem_of_mem_drop hv))
    rw [Addr.add_lit, SX.cell_of (w := w.drew) hb]
    rw [List.getElem?_drop, ← hcl, List.getElem?_take] at hj
    split at hj
    · simpa using hj
    · cases hj
  obtain ⟨R2, hR2⟩ : ∃ R2 : Array Value, R2 = (R1.toList.take (i * 4) ++ vs ++ R1.toList.drop (i * 4 + vs.length)).toArray := ⟨_, rfl⟩
  have hR2s : R2.size = cur.size := by rw [hR2]; simp [hR1s, hvl']; omega
  have hcp2 : ∀ (W : World), W.heap = (w.drew.setRow b R1).heap → ∀ ty dc, (Builtin.copy_ #[97, 97] ty #[.slice (some ⟨b, i * 4, none⟩) (n + 1 - i) dc, .slice (some ⟨vb, 0, none⟩) 1 vc]).run Tryz.prog W = .ok (goInt 1) (W.setRow b R2) := fun W hW ty dc => by
    rw [hR2]
    refine run_copyZ W _ _ ty 100 4 b (i * 4) (n + 1 - i) dc ⟨vb, 0, none⟩ 1 vc R1 bt vs Tryz.underlying97 hsz (by rw [hW]; exact setRow_heap w.drew b cur R1 bt (0, 0) hb) 1 (by simp only [Nat.min_def]; split <;> omega) (by omega) (fun j v hj => ?_) (by omega) h1v
    have hv2 : W.heap[vb]? = some (.cells varr vt (0, 0)) := by rw [hW]; exact (setRow_other w.drew b vb R1 hvb).trans hv
    rw [Addr.add_lit, SX.cell_of hv2, Nat.zero_add]
    rw [← hvl, List.getElem?_take] at hj
    split at hj
    · simpa using hj
    · cases hj
  have HS := Lib.hid (And.intro hR2s (show (w.drew.setRow b R1).heap[b]? = some (.cells R1 bt (0, 0)) from setRow_heap w.drew b cur R1 bt (0, 0) hb))
  have HF : Hid (R2.toList.take ((n + 1) * 4) = cs.take (i * 4) ++ vs ++ cs.drop (i * 4)) := by
    refine Lib.hid ?_
    rw [hR2, hR1]
    refine splice_shift cur.toList vs (cs.drop (i * 4)) (cs.take (i * 4)) (i * 4) ((n + 1) * 4) ?_ (by rw [List.length_take]; omega) hvl' (by simp; omega) (by omega)
    rw [← hcl, List.take_take, show min (i * 4) (n * 4) = i * 4 by omega]
  clear hb hv hR1 hR1s hR2 hR2s hdl hcl' hvl' hcl hvl h1c h1v
  go_enter Tryz.func200, Tryz.ntmps200
  go_wp2_with (simp only [hov])
  go_region_law_o (refine step_copy_runI rfl _ _ 97 97 rfl (.slice (some ⟨b, (i + 1) * 4, none⟩) (n + 1 - (i + 1)) (c - (i + 1))) (.slice (some ⟨b, i * 4, none⟩) (n + 1 - i) (c - i)) (by simp [Act.eval, Act.put]) (by simp [Act.eval, Act.put]) (hcp1 3 (c - (i + 1)) (c - i)) ?_)
  go_wp2_with (refine wpList_copy_runI _ rfl _ _ 97 97 rfl _ _ rfl rfl (hcp2 _ (by rfl) _ _) ?_)
  go_ret
  exact ⟨R2, rfl, setRow_heap _ b R1 R2 bt (0, 0) HS.out.2, HS.out.1, HF.out, ((Frame.refl _ w).drew.setRow (S := fun k => k = b) rfl R1).setRow (S := fun k => k = b) rfl R2, by simp⟩

set_option maxHeartbeats 4000000 in
set_option maxRecDepth 100000 in
theorem ins_end (base : Option Addr) (n c vb vc : Nat) (w w' : World) (res : Value) (hn : base = none → n = 0 ∧ c = 0) (hnc : n ≤ c) (hc63 : c ≤ 9223372036854775807)
    (hrun : ∀ ty, (Builtin.append_ #[97, 97] ty #[.slice base n c, .slice (some ⟨vb, 0, none⟩) 1 vc]).run Tryz.prog w = .ok res w') :
    Calls Tryz.prog 200 #[.slice base n c, .int .i64 n, .slice (some ⟨vb, 0, none⟩) 1 vc] w fun e u => e = .returned res ∧ u = w' := by
  have mixed : Tryz.prog.follows .mixedOrders = true := by kernel_rfl
  go_enter Tryz.func200, Tryz.ntmps200
  cases base with
  | none =>
    obtain ⟨rfl, rfl⟩ := hn rfl
    go_wp2_with (at_builtin; refine Lib.wpList_append_run _ rfl _ _ _ _ rfl _ _ rfl rfl _ _ (hrun _) ?_)
    go_ret
    exact ⟨rfl, rfl⟩
  | some a =>
    obtain ⟨ab, ao, asp⟩ := a
    go_wp2_with (at_builtin; refine Lib.wpList_append_run _ rfl _ _ _ _ rfl _ _ rfl rfl _ _ (hrun _) ?_)
    all_goals (go_ret; exact ⟨rfl, rfl⟩)

end Go.Proofs.YtpaabengkidefaaGreat

namespace Go.Proofs.YtpaabengkidefaaGreat
open Go.RowKit Go.Joins Go.SX

noncomputable def insOld (st : St) (k n i vk : Nat) (vs : List C) : Option R :=
  bi (Nat.ble (Nat.add st.nb 1) 8388608) (bi (Nat.beq k vk) none (bi (Nat.ble n 1000000) (bi (Nat.ble i n) (ob (st.mem.get k) fun b => ob (takeN b.cells (Nat.mul n 4)) fun cs => ob (takeN cs (Nat.mul i 4)) fun pre =>
    some ⟨.s (.c (.sl st.nb 0 (Nat.add n 1) 4)), ⟨(st.mem.set k none).set st.nb (some ⟨app (app pre vs) (dropN cs (Nat.mul i 4))⟩), Nat.add st.nb 1, st.nt⟩, [k], some [k, vk]⟩) none) none)) none

noncomputable def insAt (c : C) (i vk : Nat) (vs : List C) (st : St) : Option R :=
  match c with
  | .sl k _ n _ => insOld st k n i vk vs
  | _ => none
noncomputable def insLen (c : C) : Option Nat :=
  match c with
  | .nsl => some 0
  | .sl _ o n z => bi (Nat.beq o 0) (bi (Nat.beq z 4) (some n) none) none
  | _ => none

noncomputable def insArg (c : C) (st : St) : Option (Nat × List C) :=
  match c with
  | .sl k o n z => bi (Nat.beq o 0) (bi (Nat.beq n 1) (bi (Nat.beq z 4) (ob (st.mem.get k) fun b => ob (takeN b.cells 4) fun l => some (k, l)) none) none) none
  | _ => none

noncomputable def orInsert (P : Program) (l : List V) (st : St) : Option R :=
  match l with
  | [s, i, x] => ob (vC s) fun c => ob (vC i) fun ci => ob (toN ci) fun i => ob (vC x) fun cx => ob (insArg cx st) fun q => ob (insLen c) fun n =>
    bi (Nat.beq i n) (builtinV P .append [97, 97] [.s (.c c), .s (.c cx)] st) (insAt c i q.1 q.2 st)
  | _ => none

def apOp (t : Nat) : Oper := { dst := none, op := .call { callee := .builtin .append, args := #[.tmp 0, .tmp 1], argTypes := #[t, t] }, type := t, pos := "", after := #[], guard := none }
def apEv (c d : C) : Ev := fun x => match x with
  | .tmp 0 => some (.s (.c c))
  | .tmp 1 => some (.s (.c d))
  | _ => none

theorem append_sound {P : Program} {t : Nat} {c d : C} {st : St} {r : R} (hst : StOk st) (h : builtinV P .append [t, t] [.s (.c c), .s (.c d)] st = some r) :
    Eff st r ∧ ∀ (K : Toks) (E : Env) (w : World) (x y : Value), RelC E c x → RelC E d y → Pre K E w st r → ∃ v F u, (∀ ty, (Builtin.append_ #[t, t] ty #[x, y]).run P w = .ok v u) ∧ Out K E w st r F u v := by
  have hs := snd_append (P := P) (fr := apEv c d) (o := apOp t) (c := { callee := .builtin .append, args := #[.tmp 0, .tmp 1], argTypes := #[t, t] }) hst rfl rfl rfl h
  refine ⟨hs.1, fun K E w x y hx hy hp => ?_⟩
  obtain ⟨v, F, u, hr, ho⟩ := hs.2 K E w ⟨#[x, y], []⟩ (by
    intro z q hz
    unfold apEv at hz
    split at hz
    · injection hz with hz; subst hz; exact hx
    · injection hz with hz; subst hz; exact hy
    · cases hz) hp
  refine ⟨v, F, u, fun ty => ?_, ho⟩
  have hb := run_builtin (P := P) (o := apOp t) (c := { callee := .builtin .append, args := #[.tmp 0, .tmp 1], argTypes := #[t, t] }) (b := .append) rfl rfl ⟨#[x, y], []⟩ w
  unfold Runs at hr
  rw [hb] at hr
  have he : (Builtin.append_ #[t, t] ty #[x, y]).run P w = (Builtin.append_ #[t, t] t #[x, y]).run P w := rfl
  have ea : (#[.tmp 0, .tmp 1] : Array Operand).map (Act.eval ⟨#[x, y], []⟩) = #[x, y] := by simp [Act.eval]
  simp only [ea, builtin, Sem.run_bind] at hr
  rw [show (apOp t).type = t from rfl] at hr
  rw [he]
  cases hq : (Builtin.append_ #[t, t] t #[x, y]).run P w with
  | ok a b =>
    rw [hq] at hr
    rcases hr with hr | ⟨hr, _⟩
    · simp only [Result.andThen_ok, Sem.run_pure] at hr
      injection hr with h1 h2
      injection h1 with h1
      rw [h1, h2]
    · simp only [Result.andThen_ok, Sem.run_pure] at hr
      injection hr with h1 h2
      cases h1
  | _ =>
    rw [hq] at hr
    rcases hr with hr | ⟨hr, _⟩ <;> cases hr

section
variable {K : Toks} {E F : Env} {w wr u : World} {st : St} {r : R} {x : Value}

theorem out_fresh {ty : Nat} {cs : List C} {v : V} {arr : Array Value} {rd : Option (List Nat)} {m' : T Blk} {W : List Nat}
    (hm : m'.get st.nb = some ⟨cs⟩) (hW : ∀ k ∈ W, m'.get k = none)
    (hp : Pre K E w st ⟨v, ⟨m', st.nb + 1, st.nt⟩, W, rd⟩)
    (hb : Below w.heap.size w u) (hu : u.heap[w.heap.size]? = some (.cells arr ty (0, 0)))
    (hr : RelF E cs arr.toList) (hv : RelV (E.addB st.nb (w.heap.size, arr.size)) v x) :
    Out K E w st ⟨v, ⟨m', st.nb + 1, st.nt⟩, W, rd⟩ (E.addB st.nb (w.heap.size, arr.size)) u x := by
  have hn : E.rho st.nb = none := hp.newB st.nb (Nat.le_refl _) (Nat.lt_succ_self _)
  have hle : E.le (E.addB st.nb (w.heap.size, arr.size)) := addB_le hn
  have hsz : w.heap.size < u.heap.size := (Array.getElem?_eq_some_iff.1 hu).1
  have hrho : ∀ k p s, (E.addB st.nb (w.heap.size, arr.size)).rho k = some (p, s) → (k = st.nb ∧ p = w.heap.size) ∨ E.rho k = some (p, s) := by
    intro k p s hk
    by_cases e : k = st.nb
    · subst e; rw [addB_same] at hk; injection hk with hk; injection hk with h1 h2; exact .inl ⟨rfl, h1.symm⟩
    · rw [addB_other _ e] at hk; exact .inr hk
  have hnb : ∀ k b, (k ∈ W ∨ st.nb ≤ k ∧ k < st.nb + 1) → m'.get k = some b → k = st.nb := by
    intro k b hk hg
    rcases hk with hk | hk
    · rw [hW k hk] at hg; cases hg
    · omega
  refine ⟨⟨hle, fun k hk => ?_, fun j hj => absurd rfl hj, hb.os, hb.tape, hb.output, hb.size, fun b hlt _ => hb.block b hlt, fun k p s h1 h2 h3 => ?_, ?_⟩, hv, fun k b hk hg => ?_, fun k k' b b' p s s' hk hk' hg hg' _ _ => ?_⟩
  · by_cases e : k = st.nb
    · subst e; exact ⟨Nat.le_refl _, Nat.lt_succ_self _⟩
    · rw [addB_other _ e] at hk; exact absurd rfl hk
  · rcases hrho k p s h3 with ⟨_, rfl⟩ | h
    · exact .inl (Nat.le_refl _)
    · have : k = st.nb := by have : k < st.nb + 1 := h2; omega
      subst this; rw [hn] at h; cases h
  · refine gi_grow hp.gi rfl rfl (fun k p s hk => ?_) (by omega) (fun k p s hk hlt => ?_) (fun b hlt _ => hb.block b hlt)
    · rcases hrho k p s hk with ⟨_, rfl⟩ | h
      · omega
      · have := hp.gi.low k p s h; omega
    · rcases hrho k p s hk with ⟨_, rfl⟩ | h
      · omega
      · exact ⟨k, s, h⟩
  · have := hnb k b hk hg
    subst this
    have hg' : m'.get st.nb = some b := hg
    rw [hm] at hg'
    injection hg' with hg'; subst hg'
    exact ⟨w.heap.size, arr.size, arr, ty, addB_same _ _, hu, rfl, hr.mono hle⟩
  · rw [hnb k b hk hg, hnb k' b' hk' hg']

theorem eff_move {k : Nat} {b : Blk} {cs : List C} {v : V} {l : List Nat} (hst : StOk st) (hnb : st.nb + 1 ≤ 8388608) (hk : st.mem.get k = some b) :
    Eff st ⟨v, ⟨(st.mem.set k none).set st.nb (some ⟨cs⟩), st.nb + 1, st.nt⟩, [k], some (k :: l)⟩ := by
  have hlt := hst.lt hk
  have hget : ∀ (m0 : T Blk) (k : Nat), (m0.set st.nb (some ⟨cs⟩)).get k = if k = st.nb then some ⟨cs⟩ else m0.get k := fun m0 k => get_set _ _ _ _ (by omega)
  have hgk : ∀ k', (st.mem.set k none).get k' = if k' = k then none else st.mem.get k' := fun k' => get_set _ _ _ _ (by have := hst.nb; omega)
  refine ⟨Nat.le_succ _, Nat.le_refl _, fun k' h1 h2 => ?_, fun k' h1 => ?_, ⟨hnb, fun k' h1 => ?_⟩, fun l' hl k' hk' => ?_⟩
  · show (T.set _ _ _).get k' = _
    have : k' < st.nb := h2
    rw [hget, if_neg (by omega), hgk, if_neg (fun e => h1 (by simp [e]))]
  · simp at h1; subst h1; exact ⟨hlt, b, hk⟩
  · show (T.set _ _ _).get k' = none
    have : st.nb + 1 ≤ k' := h1
    rw [hget, if_neg (by omega), hgk, if_neg (by omega)]
    exact hst.dom k' (by omega)
  · injection hl with hl
    simp at hk'; subst hk'
    rw [← hl]; simp

theorem insArg_inv {c : C} {q : Nat × List C} (h : insArg c st = some q) : ∃ b, c = .sl q.1 0 1 4 ∧ st.mem.get q.1 = some b ∧ takeN b.cells 4 = some q.2 := by
  unfold insArg at h
  split at h
  · obtain ⟨h1, h⟩ := bi_inv h
    obtain ⟨h2, h⟩ := bi_inv h
    obtain ⟨h3, h⟩ := bi_inv h
    obtain ⟨b, h4, h⟩ := ob_inv h
    obtain ⟨l, h5, h⟩ := ob_inv h
    injection h with h
    subst h
    rw [beq_inv h1, beq_inv h2, beq_inv h3]
    exact ⟨b, rfl, h4, h5⟩
  · cases h

/-- The edge's cells. -/
theorem arg_rel {q : Nat × List C} {b : Blk} {v : Value} (hm : BlkOk E w q.1 b) (ht : takeN b.cells 4 = some q.2) (hv : RelC E (.sl q.1 0 1 4) v) :
    ∃ vb s vc varr vt, E.rho q.1 = some (vb, s) ∧ v = .slice (some ⟨vb, 0, none⟩) 1 vc ∧ w.heap[vb]? = some (.cells varr vt (0, 0)) ∧ 4 ≤ varr.size ∧ RelL E q.2 (varr.toList.take 4) ∧ varr.size = s := by
  obtain ⟨vb, s, vc, hrho, rfl, h1, h2⟩ := hv
  obtain ⟨p, s', arr, ty, hrho', hh, hs, hr⟩ := hm
  rw [hrho] at hrho'
  injection hrho' with e; injection e with e1 e2
  subst e1 e2
  obtain ⟨e, hl⟩ := takeN_eq _ _ _ ht
  have hl' := hr.length
  simp only [Array.length_toList] at hl'
  exact ⟨vb, s, vc, arr, ty, hrho, rfl, hh, by omega, by rw [e]; exact hr.take 4 hl, hs⟩

theorem rel_one : ∀ {l : List C} {vs : List Value}, RelL E l vs → ∀ v ∈ vs, v.oneCell' = true := by
  intro l vs h v hv
  obtain ⟨i, hi⟩ := List.getElem?_of_mem hv
  have hil : i < l.length := by
    have := (List.getElem?_eq_some_iff.1 hi).1
    rw [h.length] at this
    exact this
  obtain ⟨q, hq, hrel⟩ := h.get i _ (List.getElem?_eq_getElem hil)
  rw [hi] at hq; injection hq with hq; subst hq
  have := hrel.one
  cases v <;> first | rfl | exact absurd rfl (this.1 _) | exact absurd rfl (this.2 _)

theorem RelL.drop' {E : Env} : ∀ (n : Nat) {l : List C} {vs : List Value}, RelL E l vs → RelL E (l.drop n) (vs.drop n)
  | 0, _, _, h => h
  | _ + 1, [], [], _ => trivial
  | n + 1, _ :: _, _ :: _, h => RelL.drop' n h.2
theorem rel_of_take {E : Env} {l : List C} {vs : List Value} (n : Nat) (h : RelL E l (vs.take n)) : RelF E l vs := by
  have := h.appendF (r := []) (us := vs.drop n) trivial
  simpa using this

theorem insLen_inv {c : C} {n : Nat} (h : insLen c = some n) : (c = .nsl ∧ n = 0) ∨ ∃ k, c = .sl k 0 n 4 := by
  unfold insLen at h
  split at h
  · injection h with h; exact .inl ⟨rfl, h.symm⟩
  · obtain ⟨h1, h⟩ := bi_inv h
    obtain ⟨h2, h⟩ := bi_inv h
    injection h with h
    rw [beq_inv h1, beq_inv h2, h]
    exact .inr ⟨_, rfl⟩
  · cases h

theorem orInsert_ok : OrcOne Tryz.prog K 200 (orInsert Tryz.prog) := by
  intro vl st r hr hst
  unfold orInsert at hr
  split at hr
  · rename_i sV iV xV
    obtain ⟨c, h1, hr⟩ := ob_inv hr
    obtain ⟨ci, h2, hr⟩ := ob_inv hr
    obtain ⟨i, h3, hr⟩ := ob_inv hr
    obtain ⟨cx, h4, hr⟩ := ob_inv hr
    obtain ⟨⟨vk, vs⟩, h5, hr⟩ := ob_inv hr
    obtain ⟨n, h6, hr⟩ := ob_inv hr
    obtain ⟨b, h7, h8, h9⟩ := insArg_inv h5
    simp only at h7 h8 h9
    subst h7
    have hargs : ∀ {E : Env} {l : List Value}, RelA E [sV, iV, xV] l → ∃ s x, l = [s, .int .i64 i, x] ∧ RelC E c s ∧ RelC E (.sl vk 0 1 4) x := by
      intro E l hl
      match l, hl with
      | [s, j, x], ⟨r1, r2, r3, _⟩ =>
        have r2' := vC_rel h2 r2
        rw [toN_inv h3] at r2'
        have r2'' : j = .int .i64 i := r2'
        exact ⟨s, x, by rw [r2''], vC_rel h1 r1, vC_rel h4 r3⟩
      | [], hl => exact hl.elim
      | [_], hl => exact hl.2.elim
      | [_, _], hl => exact hl.2.2.elim
      | _ :: _ :: _ :: _ :: _, hl => exact hl.2.2.2.elim
    cases hq : Nat.beq i n with
    | true =>
      rw [hq] at hr
      have hin := beq_inv hq
      subst hin
      obtain ⟨g1, g2⟩ := append_sound hst hr
      refine ⟨g1, Tryz.call200, fun E w vl hrel hp => ?_⟩
      obtain ⟨s, x, rfl, rs, rx⟩ := hargs hrel
      obtain ⟨v, F, u, hrun, ho⟩ := g2 K E w s x rs rx hp
      obtain ⟨vb, sz, vc, hrho, rfl, _⟩ := id rx
      obtain ⟨base, cp, rfl, q1, q2, q3⟩ : ∃ base cp, s = .slice base i cp ∧ (base = none → i = 0 ∧ cp = 0) ∧ i ≤ cp ∧ cp ≤ 9223372036854775807 := by
        rcases insLen_inv h6 with ⟨rfl, rfl⟩ | ⟨k, rfl⟩
        · have rs' : s = .slice none 0 0 := rs
          exact ⟨none, 0, rs', fun _ => ⟨rfl, rfl⟩, Nat.le_refl _, by omega⟩
        · obtain ⟨p, sz', cp, _, rfl, e1, e2⟩ := rs
          exact ⟨_, cp, rfl, (fun h => by cases h), e1, e2.2⟩
      refine (ins_end base i cp vb vc w u v q1 q2 q3 hrun).mono fun e u' ⟨he, hu⟩ => ?_
      subst hu
      exact ⟨v, F, he, ho⟩
    | false =>
      rw [hq] at hr
      have hin : i ≠ n := fun e => by rw [e, Nat.beq_refl] at hq; cases hq
      rcases insLen_inv h6 with ⟨rfl, rfl⟩ | ⟨k, rfl⟩
      · cases hr
      · have hr' : insOld st k n i vk vs = some r := hr
        obtain ⟨a1, hr'⟩ := bi_inv hr'
        have a1' : st.nb + 1 ≤ 8388608 := ble_inv a1
        cases hkv : Nat.beq k vk with
        | true => rw [hkv] at hr'; cases hr'
        | false =>
          rw [hkv] at hr'
          obtain ⟨a2, hr'⟩ := bi_inv (c := Nat.ble n 1000000) hr'
          obtain ⟨a3, hr'⟩ := bi_inv hr'
          obtain ⟨b0, a4, hr'⟩ := ob_inv hr'
          obtain ⟨cs, a5, hr'⟩ := ob_inv hr'
          obtain ⟨pre, a6, hr'⟩ := ob_inv hr'
          injection hr' with hr'
          subst hr'
          have hne : k ≠ vk := fun e => by rw [e, Nat.beq_refl] at hkv; cases hkv
          have hilt : i < n := by have := ble_inv a3; omega
          have hn6 := ble_inv a2
          have hklt := hst.lt a4
          rw [app_eq, app_eq, dropN_eq]
          refine ⟨eff_move hst a1' a4, Tryz.call200, fun E w vl hrel hp => ?_⟩
          obtain ⟨s, x, rfl, rs, rx⟩ := hargs hrel
          obtain ⟨p, sz, cp, hrho, rfl, hncp, hfit⟩ := rs
          obtain ⟨vb, vsz, vc, varr, vt, vrho, rfl, hvh, hv4, hvr, hvs⟩ := arg_rel (q := (vk, vs)) (hp.blk vk b (by simp [inR]) h8) h9 rx
          obtain ⟨p', sz', cur, bt, hrho', hh, hsz, hrf⟩ := hp.blk k b0 (by simp [inR]) a4
          rw [hrho] at hrho'
          injection hrho' with e; injection e with e1 e2
          subst e1 e2
          have hvb : vb ≠ p := fun e => hne (hp.inj k vk b0 b p _ _ (by simp [inR]) (by simp [inR]) a4 h8 hrho (by rw [← e]; exact vrho))
          obtain ⟨ecs, lcs⟩ := takeN_eq _ _ _ a5
          obtain ⟨epre, lpre⟩ := takeN_eq _ _ _ a6
          have hmul : n.mul 4 = n * 4 := rfl
          have hmul2 : i.mul 4 = i * 4 := rfl
          rw [hmul] at ecs lcs
          rw [hmul2] at epre lpre
          have hcr : RelL E cs (cur.toList.take (n * 4)) := by rw [ecs]; exact hrf.take _ lcs
          have hcl : (cur.toList.take (n * 4)).length = n * 4 := by rw [hcr.length, ecs, List.length_take]; omega
          have hnew : RelL E (pre ++ vs ++ cs.drop (i * 4)) ((cur.toList.take (n * 4)).take (i * 4) ++ varr.toList.take 4 ++ (cur.toList.take (n * 4)).drop (i * 4)) := by
            rw [epre]
            exact ((hcr.toF.take (i * 4) lpre).append hvr).append (RelL.drop' _ hcr)
          have hget : ∀ (m0 : T Blk) (q : Blk) (k : Nat), (m0.set st.nb (some q)).get k = if k = st.nb then some q else m0.get k := fun m0 q k => get_set _ _ _ _ (by omega)
          have hgk : ∀ k', (st.mem.set k none).get k' = if k' = k then none else st.mem.get k' := fun k' => get_set _ _ _ _ (by omega)
          have one1 := rel_one hcr
          have one2 := rel_one hvr
          by_cases hroom : n + 1 ≤ cp
          · refine (ins_shift p n cp i vb vc bt vt cur varr _ _ w hilt hroom hfit.2 hvb hh hvh (by omega) rfl rfl hv4 one1 one2).mono fun e u ⟨arr, he, hu, hus, huc, huf, hul⟩ => ?_
            refine ⟨_, E.addB st.nb (p, arr.size), he, out_again (k0 := k) (p := p) (by rw [hget, if_pos rfl]) (by rw [hget, if_neg (by omega), hgk, if_pos rfl]) (by rw [hus, hsz]; exact hrho) hp hu hul (fun b hb => ?_) huf.os huf.tape huf.output ?_ ⟨_, _, cp, addB_same _ _, rfl, hroom, by rw [hus, hsz]; exact hfit.1, hfit.2⟩⟩
            · by_cases hlt : b < w.heap.size
              · exact huf.block b hlt hb
              · rw [Array.getElem?_eq_none (by omega), Array.getElem?_eq_none (by omega)]
            · exact rel_of_take ((n + 1) * 4) (by rw [huc]; exact hnew)
          · refine (ins_grow p n cp i vb vc (cur.toList.take (n * 4)) (varr.toList.take 4) w hilt hncp (by omega) hn6 hcl (by simp; omega) (fun j v hj => ?_) (fun j v hj => ?_) one1 one2).mono fun e u ⟨cap, arr, he, hI, hb⟩ => ?_
            · rw [cell_of hh, ← Array.getElem?_toList]
              rw [List.getElem?_take] at hj
              split at hj
              · exact hj
              · cases hj
            · rw [cell_of hvh, ← Array.getElem?_toList]
              rw [List.getElem?_take] at hj
              split at hj
              · exact hj
              · cases hj
            · obtain ⟨ty, hrow⟩ := hI.row
              refine ⟨_, _, he, out_fresh (arr := arr) (by rw [hget, if_pos rfl]) (fun k' hk' => ?_) hp hb hrow (rel_of_take ((n + 1) * 4) (by rw [hI.cells]; exact hnew)) ⟨_, _, cap, addB_same _ _, rfl, hI.le, by have := hI.size; omega, hI.top⟩⟩
              simp at hk'; subst hk'
              rw [hget, if_neg (by omega), hgk, if_pos rfl]
  · cases hr

end
end Go.Proofs.YtpaabengkidefaaGreat

namespace Go.SX

noncomputable def eqC (a b : C) : Bool :=
  match a, b with
  | .bool a, .bool b => bi a b (bi b false true)
  | .int a, .int b => ibeq a b
  | .u64 a, .u64 b => Nat.beq a b
  | .sl k o n z, .sl k' o' n' z' => bi (Nat.beq k k') (bi (Nat.beq o o') (bi (Nat.beq n n') (Nat.beq z z') false) false) false
  | .nsl, .nsl => true
  | .ptr k o, .ptr k' o' => bi (Nat.beq k k') (Nat.beq o o') false
  | .nptr, .nptr => true
  | .nfn, .nfn => true
  | .cell j i, .cell j' i' => bi (Nat.beq j j') (Nat.beq i i') false
  | .code, .code => true
  | .cur p i, .cur p' i' => bi (Nat.beq p p') (Nat.beq i i') false
  | .small, .small => true
  | .dr a p n, .dr b q m => bi (ibeq a b) (bi (Nat.beq p q) (Nat.beq n m) false) false
  | _, _ => false

theorem bi3 {c d : Bool} (h : bi c d false = true) : c = true ∧ d = true := by cases c <;> first | (cases h; done) | exact ⟨rfl, h⟩

theorem eqC_inv {a b : C} (h : eqC a b = true) : a = b := by
  unfold eqC at h
  split at h
  · rename_i a b; cases a <;> cases b <;> first | rfl | cases h
  · rw [ibeq_eq, beq_iff_eq] at h; rw [h]
  · rw [beq_inv h]
  · obtain ⟨h1, h⟩ := bi3 h
    obtain ⟨h2, h⟩ := bi3 h
    obtain ⟨h3, h⟩ := bi3 h
    rw [beq_inv h1, beq_inv h2, beq_inv h3, beq_inv h]
  · rfl
  · obtain ⟨h1, h⟩ := bi3 h; rw [beq_inv h1, beq_inv h]
  · rfl
  · rfl
  · obtain ⟨h1, h⟩ := bi3 h; rw [beq_inv h1, beq_inv h]
  · rfl
  · obtain ⟨h1, h⟩ := bi3 h; rw [beq_inv h1, beq_inv h]
  · rfl
  · obtain ⟨h1, h⟩ := bi3 h
    obtain ⟨h2, h⟩ := bi3 h
    rw [ibeq_eq, beq_iff_eq] at h1
    rw [h1, beq_inv h2, beq_inv h]
  · cases h

noncomputable def eqL {α : Type} (f : α → α → Bool) (l : List α) : List α → Bool :=
  @List.rec α (fun _ => List α → Bool) (fun r => List.casesOn r true (fun _ _ => false)) (fun a _ ih r => List.casesOn r false (fun b r => bi (f a b) (ih r) false)) l
theorem eqL_inv {α : Type} {f : α → α → Bool} (hf : ∀ a b, f a b = true → a = b) : ∀ {l r : List α}, eqL f l r = true → l = r
  | [], [], _ => rfl
  | [], _ :: _, h => by cases h
  | _ :: _, [], h => by cases h
  | a :: l, b :: r, h => by
    have h' : bi (f a b) (eqL f l r) false = true := h
    obtain ⟨h1, h2⟩ := bi3 h'
    rw [hf a b h1, eqL_inv hf h2]

noncomputable def eqS (a b : S) : Bool := match a, b with
  | .c x, .c y => eqC x y
  | .agg l, .agg r => eqL eqC l r
  | _, _ => false
theorem eqS_inv {a b : S} (h : eqS a b = true) : a = b := by
  unfold eqS at h
  split at h
  · rw [eqC_inv h]
  · rw [eqL_inv (fun _ _ => eqC_inv) h]
  · cases h
noncomputable def eqV (a b : V) : Bool := match a, b with
  | .s x, .s y => eqS x y
  | .tup l, .tup r => eqL eqS l r
  | _, _ => false
theorem eqV_inv {a b : V} (h : eqV a b = true) : a = b := by
  unfold eqV at h
  split at h
  · rw [eqS_inv h]
  · rw [eqL_inv (fun _ _ => eqS_inv) h]
  · cases h

/-! ### Blocks under other numbers -/

noncomputable def mapC (f : Nat → Option Nat) (c : C) : Option C :=
  match c with
  | .sl k o n z => ob (f k) fun k => some (.sl k o n z)
  | .ptr k o => ob (f k) fun k => some (.ptr k o)
  | .fn _ _ => none
  | c => some c
noncomputable def mapS (f : Nat → Option Nat) (s : S) : Option S :=
  match s with
  | .c x => ob (mapC f x) fun y => some (.c y)
  | .agg l => ob (mapO (mapC f) l) fun r => some (.agg r)
noncomputable def mapV (f : Nat → Option Nat) (v : V) : Option V :=
  match v with
  | .s x => ob (mapS f x) fun y => some (.s y)
  | .tup l => ob (mapO (mapS f) l) fun r => some (.tup r)

structure Map (f : Nat → Option Nat) (E F : Env) : Prop where
  rho : ∀ k k' b, f k = some k' → E.rho k = some b → F.rho k' = some b
  sig : ∀ j v, E.sig j = some v → F.sig j = some v
  fix : F.fix = E.fix

section
variable {f : Nat → Option Nat} {E F : Env}

theorem mapC_rel (h : Map f E F) {c c' : C} {v : Value} (hc : mapC f c = some c') (r : RelC E c v) : RelC F c' v := by
  unfold mapC at hc
  split at hc
  · obtain ⟨k', h1, hc⟩ := ob_inv hc
    injection hc with hc
    subst hc
    obtain ⟨b, s, c, h2, h3⟩ := r
    exact ⟨b, s, c, h.rho _ _ _ h1 h2, h3⟩
  · obtain ⟨k', h1, hc⟩ := ob_inv hc
    injection hc with hc
    subst hc
    obtain ⟨b, s, h2, h3⟩ := r
    exact ⟨b, s, h.rho _ _ _ h1 h2, h3⟩
  · cases hc
  · injection hc with hc
    subst hc
    rename_i n1 n2 n3
    cases c <;> first | exact r | (exact absurd rfl (n1 _ _ _ _)) | (exact absurd rfl (n2 _ _)) | (exact absurd rfl (n3 _ _)) | skip
    · obtain ⟨cs, h1, h2⟩ := r
      exact ⟨cs, h.sig _ _ h1, h2⟩
    · obtain ⟨h1, h2⟩ := r
      exact ⟨by rw [h.fix]; exact h1, h2⟩
    · obtain ⟨h1, h2⟩ := r
      exact ⟨by rw [h.fix]; exact h1, h2⟩
    · have r' : v = .int .i64 (_ + ((E.fix.byte _ % _ : Nat) : Int)) := r
      show v = .int .i64 (_ + ((F.fix.byte _ % _ : Nat) : Int))
      rw [h.fix]; exact r'

theorem mapL_rel (h : Map f E F) : ∀ {l l' : List C} {vs : List Value}, mapO (mapC f) l = some l' → RelL E l vs → RelL F l' vs
  | [], l', [], hl, r => by
    have hl' : some [] = some l' := hl
    injection hl' with hl'; subst hl'; trivial
  | c :: l, l', v :: vs, hl, r => by
    have hl' : ob (mapC f c) (fun b => ob (mapO (mapC f) l) fun r => some (b :: r)) = some l' := hl
    obtain ⟨b, h1, hl'⟩ := ob_inv hl'
    obtain ⟨q, h2, hl'⟩ := ob_inv hl'
    injection hl' with hl'
    subst hl'
    exact ⟨mapC_rel h h1 r.1, mapL_rel h h2 r.2⟩
  | [], _, _ :: _, _, r => r.elim
  | _ :: _, _, [], _, r => r.elim

theorem mapF_rel (h : Map f E F) : ∀ {l l' : List C} {vs : List Value}, mapO (mapC f) l = some l' → RelF E l vs → RelF F l' vs
  | [], l', vs, hl, r => by
    have hl' : some [] = some l' := hl
    injection hl' with hl'; subst hl'; trivial
  | c :: l, l', v :: vs, hl, r => by
    have hl' : ob (mapC f c) (fun b => ob (mapO (mapC f) l) fun r => some (b :: r)) = some l' := hl
    obtain ⟨b, h1, hl'⟩ := ob_inv hl'
    obtain ⟨q, h2, hl'⟩ := ob_inv hl'
    injection hl' with hl'
    subst hl'
    exact ⟨mapC_rel h h1 r.1, mapF_rel h h2 r.2⟩
  | _ :: _, _, [], _, r => r.elim

theorem mapS_rel (h : Map f E F) {s s' : S} {v : Value} (hs : mapS f s = some s') (r : RelS E s v) : RelS F s' v := by
  cases s with
  | c x =>
    obtain ⟨y, h1, hs⟩ := ob_inv hs
    injection hs with hs; subst hs
    exact mapC_rel h h1 r
  | agg l =>
    obtain ⟨y, h1, hs⟩ := ob_inv hs
    injection hs with hs; subst hs
    obtain ⟨arr, e, r⟩ := r
    exact ⟨arr, e, mapL_rel h h1 r⟩

theorem mapT_rel (h : Map f E F) : ∀ {l l' : List S} {vs : List Value}, mapO (mapS f) l = some l' → RelT E l vs → RelT F l' vs
  | [], l', [], hl, r => by
    have hl' : some [] = some l' := hl
    injection hl' with hl'; subst hl'; trivial
  | c :: l, l', v :: vs, hl, r => by
    have hl' : ob (mapS f c) (fun b => ob (mapO (mapS f) l) fun r => some (b :: r)) = some l' := hl
    obtain ⟨b, h1, hl'⟩ := ob_inv hl'
    obtain ⟨q, h2, hl'⟩ := ob_inv hl'
    injection hl' with hl'
    subst hl'
    exact ⟨mapS_rel h h1 r.1, mapT_rel h h2 r.2⟩
  | [], _, _ :: _, _, r => r.elim
  | _ :: _, _, [], _, r => r.elim

theorem mapV_rel (h : Map f E F) {v v' : V} {x : Value} (hv : mapV f v = some v') (r : RelV E v x) : RelV F v' x := by
  cases v with
  | s y =>
    obtain ⟨z, h1, hv⟩ := ob_inv hv
    injection hv with hv; subst hv
    exact mapS_rel h h1 r
  | tup l =>
    obtain ⟨z, h1, hv⟩ := ob_inv hv
    injection hv with hv; subst hv
    obtain ⟨arr, e, r⟩ := r
    exact ⟨arr, e, mapT_rel h h1 r⟩
end
end Go.SX

namespace Go.SX

abbrev Cells := List (Nat × List C)

noncomputable def memT (m0 : Cells) : T Blk := @List.rec (Nat × List C) (fun _ => T Blk) .lf (fun p _ ih => ih.set p.1 (some ⟨p.2⟩)) m0
noncomputable def allB {α : Type} (f : α → Bool) (l : List α) : Bool := @List.rec α (fun _ => Bool) true (fun a _ ih => bi (f a) ih false) l

noncomputable def lowK (nb0 : Nat) (k : Nat) : Option Nat := bi (Nat.ble nb0 k) none (some k)
noncomputable def lowL (nb0 : Nat) (l : List C) : Bool := @Option.rec (List C) (fun _ => Bool) false (fun r => eqL eqC r l) (mapO (mapC (lowK nb0)) l)
noncomputable def lowA (nb0 : Nat) (l : List V) : Bool := @Option.rec (List V) (fun _ => Bool) false (fun r => eqL eqV r l) (mapO (mapV (lowK nb0)) l)
/-- What the kept call starts from lies below nb0. -/
noncomputable def memoIn (a0 : List V) (m0 : Cells) (nb0 : Nat) : Bool :=
  bi (Nat.ble nb0 8388608) (bi (lowA nb0 a0) (allB (fun p => bi (Nat.ble nb0 p.1) false (lowL nb0 p.2)) m0) false) false

noncomputable def hasB (m : T Blk) (p : Nat × List C) : Bool := @Option.rec Blk (fun _ => Bool) false (fun b => eqL eqC b.cells p.2) (m.get p.1)
noncomputable def keyIn (k : Nat) (l : Cells) : Bool := @List.rec (Nat × List C) (fun _ => Bool) false (fun p _ ih => bi (Nat.beq p.1 k) true ih) l
noncomputable def nodupK (l : Cells) : Bool := @List.rec (Nat × List C) (fun _ => Bool) true (fun p l ih => bi (keyIn p.1 l) false ih) l

noncomputable def memoR (nb0 nt0 : Nat) (v : V) (res : Cells) (o : Option R) : Bool :=
  @Option.rec R (fun _ => Bool) false (fun r => bi (eqV r.v v) (bi (nilB r.w) (bi (Nat.beq r.st.nt nt0) (bi (nodupK res) (allB (fun p => bi (Nat.ble nb0 p.1) (bi (Nat.ble r.st.nb p.1) false (hasB r.st.mem p)) false) res) false) false) false) false) o

noncomputable def idx (k : Nat) (l : Cells) : Nat → Option Nat := @List.rec (Nat × List C) (fun _ => Nat → Option Nat) (fun _ => none) (fun p _ ih n => bi (Nat.beq p.1 k) (some n) (ih (Nat.add n 1))) l
noncomputable def newK (nb0 : Nat) (res : Cells) (nb k : Nat) : Option Nat := bi (Nat.ble nb0 k) (idx k res nb) (some k)
noncomputable def placeF (f : Nat → Option Nat) (l : Cells) : Nat → T Blk → Option (T Blk) :=
  @List.rec (Nat × List C) (fun _ => Nat → T Blk → Option (T Blk)) (fun _ m => some m) (fun p _ ih n m => ob (mapO (mapC f) p.2) fun cs => ih (Nat.add n 1) (m.set n (some ⟨cs⟩))) l

noncomputable def memo (a0 : List V) (m0 : Cells) (nb0 : Nat) (v : V) (res : Cells) (vl : List V) (st : St) : Option R :=
  bi (eqL eqV vl a0) (bi (Nat.ble nb0 st.nb) (bi (allB (hasB st.mem) m0) (bi (Nat.ble (Nat.add st.nb (len res)) 8388608)
    (ob (mapV (newK nb0 res st.nb) v) fun v' => ob (placeF (newK nb0 res st.nb) res st.nb st.mem) fun m' => some ⟨v', ⟨m', Nat.add st.nb (len res), st.nt⟩, [], none⟩) none) none) none) none

theorem allB_inv {α : Type} {f : α → Bool} : ∀ {l : List α}, allB f l = true → ∀ a ∈ l, f a = true
  | [], _, a, ha => by simp at ha
  | b :: l, h, a, ha => by
    have h' : bi (f b) (allB f l) false = true := h
    obtain ⟨h1, h2⟩ := bi3 h'
    rcases List.mem_cons.1 ha with e | ha
    · rw [e]; exact h1
    · exact allB_inv h2 a ha

theorem hasB_inv {m : T Blk} {p : Nat × List C} (h : hasB m p = true) : m.get p.1 = some ⟨p.2⟩ := by
  unfold hasB at h
  cases hq : m.get p.1 with
  | none => rw [hq] at h; cases h
  | some b =>
    rw [hq] at h
    have e := eqL_inv (fun _ _ => eqC_inv) h
    rw [← e]

theorem lowL_inv {nb0 : Nat} {l : List C} (h : lowL nb0 l = true) : mapO (mapC (lowK nb0)) l = some l := by
  unfold lowL at h
  cases hq : mapO (mapC (lowK nb0)) l with
  | none => rw [hq] at h; cases h
  | some r => rw [hq] at h; rw [eqL_inv (fun _ _ => eqC_inv) h]
theorem lowA_inv {nb0 : Nat} {l : List V} (h : lowA nb0 l = true) : mapO (mapV (lowK nb0)) l = some l := by
  unfold lowA at h
  cases hq : mapO (mapV (lowK nb0)) l with
  | none => rw [hq] at h; cases h
  | some r => rw [hq] at h; rw [eqL_inv (fun _ _ => eqV_inv) h]

theorem bi_flip {c d : Bool} (h : bi c false d = true) : c = false ∧ d = true := by cases c <;> first | (cases h; done) | exact ⟨rfl, h⟩
theorem ble_false {a b : Nat} (h : Nat.ble a b = false) : b < a := by
  by_cases g : a ≤ b
  · rw [Nat.ble_eq_true_of_le g] at h; cases h
  · omega
theorem beq_false' {a b : Nat} (h : Nat.beq a b = false) : a ≠ b := fun e => by rw [e, Nat.beq_refl] at h; cases h

theorem memT_get : ∀ {m0 : Cells} {nb0 : Nat}, nb0 ≤ 8388608 → (∀ p ∈ m0, p.1 < nb0) → ∀ k b, (memT m0).get k = some b → ∃ p ∈ m0, p.1 = k ∧ b = ⟨p.2⟩
  | [], _, _, _, k, b, h => by
    have h' : (T.lf : T Blk).get k = some b := h
    cases h'
  | p :: m0, nb0, hb, hd, k, b, h => by
    have h' : (T.set (memT m0) p.1 (some ⟨p.2⟩)).get k = some b := h
    rw [get_set _ _ _ _ (by have := hd p (by simp); omega)] at h'
    split at h'
    · rename_i e
      injection h' with h'
      exact ⟨p, by simp, e.symm, h'.symm⟩
    · obtain ⟨q, h1, h2⟩ := memT_get hb (fun q hq => hd q (by simp [hq])) k b h'
      exact ⟨q, by simp [h1], h2⟩

theorem keyIn_false {k : Nat} : ∀ {l : Cells}, keyIn k l = false → ∀ p ∈ l, p.1 ≠ k
  | [], _, p, hp => by simp at hp
  | q :: l, h, p, hp => by
    have h' : bi (Nat.beq q.1 k) true (keyIn k l) = false := h
    cases hq : Nat.beq q.1 k with
    | true => rw [hq] at h'; cases h'
    | false =>
      rw [hq] at h'
      rcases List.mem_cons.1 hp with e | hp
      · rw [e]; exact beq_false' hq
      · exact keyIn_false h' p hp

theorem nodup_inv : ∀ {l : Cells}, nodupK l = true → ∀ (i j : Nat) (p q : Nat × List C), l[i]? = some p → l[j]? = some q → p.1 = q.1 → i = j
  | [], _, i, _, p, _, h1, _, _ => by simp at h1
  | a :: l, h, i, j, p, q, h1, h2, h3 => by
    have h' : bi (keyIn a.1 l) false (nodupK l) = true := h
    obtain ⟨g1, g2⟩ := bi_flip h'
    have hk := keyIn_false g1
    cases i with
    | zero =>
      cases j with
      | zero => rfl
      | succ j =>
        simp at h1 h2
        exact absurd (by rw [h1]; exact h3.symm) (hk q (List.mem_of_getElem? h2))
    | succ i =>
      cases j with
      | zero =>
        simp at h1 h2
        exact absurd (by rw [h2]; exact h3) (hk p (List.mem_of_getElem? h1))
      | succ j =>
        simp at h1 h2
        rw [nodup_inv g2 i j p q h1 h2 h3]

theorem idx_inv {k : Nat} : ∀ {l : Cells} {n m : Nat}, idx k l n = some m → ∃ i p, l[i]? = some p ∧ p.1 = k ∧ m = n + i
  | [], _, _, h => by cases h
  | q :: l, n, m, h => by
    have h' : bi (Nat.beq q.1 k) (some n) (idx k l (Nat.add n 1)) = some m := h
    cases hq : Nat.beq q.1 k with
    | true =>
      rw [hq] at h'
      injection h' with h'
      exact ⟨0, q, rfl, beq_inv hq, by omega⟩
    | false =>
      rw [hq] at h'
      obtain ⟨i, p, h1, h2, h3⟩ := idx_inv h'
      have : Nat.add n 1 = n + 1 := rfl
      exact ⟨i + 1, p, by simpa using h1, h2, by omega⟩

theorem placeF_get {f : Nat → Option Nat} : ∀ {l : Cells} {n : Nat} {m m' : T Blk}, placeF f l n m = some m' → n + l.length ≤ 8388608 →
    (∀ k, (k < n ∨ n + l.length ≤ k) → m'.get k = m.get k) ∧ ∀ i p, l[i]? = some p → ∃ cs, mapO (mapC f) p.2 = some cs ∧ m'.get (n + i) = some ⟨cs⟩
  | [], n, m, m', h, _ => by
    have h' : some m = some m' := h
    injection h' with h'; subst h'
    exact ⟨fun _ _ => rfl, fun i p hp => by simp at hp⟩
  | q :: l, n, m, m', h, hb => by
    have h' : ob (mapO (mapC f) q.2) (fun cs => placeF f l (Nat.add n 1) (m.set n (some ⟨cs⟩))) = some m' := h
    obtain ⟨cs, h1, h'⟩ := ob_inv h'
    have hl : (q :: l).length = l.length + 1 := rfl
    have hs : Nat.add n 1 = n + 1 := rfl
    rw [hs] at h'
    obtain ⟨g1, g2⟩ := placeF_get h' (by omega)
    have hget : ∀ k, (m.set n (some ⟨cs⟩)).get k = if k = n then some ⟨cs⟩ else m.get k := fun k => get_set _ _ _ _ (by omega)
    refine ⟨fun k hk => ?_, fun i p hp => ?_⟩
    · rw [g1 k (by omega), hget, if_neg (by omega)]
    · cases i with
      | zero =>
        simp at hp
        subst hp
        exact ⟨cs, h1, by rw [Nat.add_zero, g1 n (by omega), hget, if_pos rfl]⟩
      | succ i =>
        obtain ⟨cs', h2, h3⟩ := g2 i p (by simpa using hp)
        exact ⟨cs', h2, by rw [show n + (i + 1) = n + 1 + i by omega]; exact h3⟩
end Go.SX

namespace Go.SX

section
variable {P : Program} {K : Toks}

theorem mapA_rel {f : Nat → Option Nat} {E F : Env} (h : Map f E F) : ∀ {l l' : List V} {vs : List Value}, mapO (mapV f) l = some l' → RelA E l vs → RelA F l' vs
  | [], l', [], hl, r => by
    have hl' : some [] = some l' := hl
    injection hl' with hl'; subst hl'; trivial
  | c :: l, l', v :: vs, hl, r => by
    have hl' : ob (mapV f c) (fun b => ob (mapO (mapV f) l) fun r => some (b :: r)) = some l' := hl
    obtain ⟨b, h1, hl'⟩ := ob_inv hl'
    obtain ⟨q, h2, hl'⟩ := ob_inv hl'
    injection hl' with hl'
    subst hl'
    exact ⟨mapV_rel h h1 r.1, mapA_rel h h2 r.2⟩
  | [], _, _ :: _, _, r => r.elim
  | _ :: _, _, [], _, r => r.elim

def lowE (E : Env) (nb0 : Nat) : Env := { E with rho := fun k => if k < nb0 then E.rho k else none }

theorem low_map (E : Env) (nb0 : Nat) : Map (lowK nb0) E (lowE E nb0) := by
  refine ⟨fun k k' b hk hb => ?_, fun _ _ h => h, rfl⟩
  obtain ⟨h1, h2⟩ : Nat.ble nb0 k = false ∧ some k = some k' := by
    unfold lowK at hk
    cases hq : Nat.ble nb0 k with
    | true => rw [hq] at hk; cases hk
    | false => rw [hq] at hk; exact ⟨rfl, hk⟩
  injection h2 with h2
  subst h2
  show (if k < nb0 then E.rho k else none) = some b
  rw [if_pos (ble_false h1)]; exact hb

theorem memo_ok {call : CallFn} (hcall : CallOk P K call) {f : Nat} {a0 : List V} {m0 : Cells} {nb0 nt0 : Nat} {v : V} {res : Cells}
    (hin : memoIn a0 m0 nb0 = true) (hrun : memoR nb0 nt0 v res (call f a0 ⟨memT m0, nb0, nt0⟩) = true) :
    ∀ vl st r, memo a0 m0 nb0 v res vl st = some r → StOk st → Eff st r ∧ (∀ vs w, (callFunc f vs).run P w = .ok (.enter f vs) w) ∧
      ∀ E w vs, RelA E vl vs → Pre K E w st r → Calls P f vs.toArray w fun e u => ∃ v F, e = .returned v ∧ Out K E w st r F u v := by
  obtain ⟨i1, hin⟩ := bi3 hin
  obtain ⟨i2, i3⟩ := bi3 hin
  have i1' : nb0 ≤ 8388608 := ble_inv i1
  have hlow : ∀ p ∈ m0, p.1 < nb0 ∧ lowL nb0 p.2 = true := fun p hp => by
    have := allB_inv i3 p hp
    obtain ⟨g1, g2⟩ := bi_flip this
    exact ⟨ble_false g1, g2⟩
  cases hq : call f a0 ⟨memT m0, nb0, nt0⟩ with
  | none => rw [hq] at hrun; cases hrun
  | some r0 =>
    rw [hq] at hrun
    obtain ⟨j1, hrun⟩ := bi3 hrun
    obtain ⟨j2, hrun⟩ := bi3 hrun
    obtain ⟨j3, hrun⟩ := bi3 hrun
    obtain ⟨j4, j5⟩ := bi3 hrun
    have hv0 : r0.v = v := eqV_inv j1
    have hw0 : r0.w = [] := by
      cases hw : r0.w with
      | nil => rfl
      | cons a l => rw [hw] at j2; cases j2
    have hnt0 : r0.st.nt = nt0 := beq_inv j3
    have hres : ∀ p ∈ res, nb0 ≤ p.1 ∧ p.1 < r0.st.nb ∧ r0.st.mem.get p.1 = some ⟨p.2⟩ := fun p hp => by
      have := allB_inv j5 p hp
      obtain ⟨g1, g2⟩ := bi3 this
      obtain ⟨g3, g4⟩ := bi_flip g2
      exact ⟨ble_inv g1, ble_false g3, hasB_inv g4⟩
    have hst0 : StOk ⟨memT m0, nb0, nt0⟩ := by
      refine ⟨i1', fun k hk => ?_⟩
      show (memT m0).get k = none
      cases hg : (memT m0).get k with
      | none => rfl
      | some b =>
        obtain ⟨p, h1, h2, _⟩ := memT_get i1' (fun p hp => (hlow p hp).1) k b hg
        have := (hlow p h1).1
        have : nb0 ≤ k := hk
        omega
    obtain ⟨hE0, henter, hsound⟩ := hcall f a0 _ r0 hq hst0
    intro vl st r h hst
    obtain ⟨c1, h⟩ := bi_inv h
    obtain ⟨c2, h⟩ := bi_inv h
    obtain ⟨c3, h⟩ := bi_inv h
    obtain ⟨c4, h⟩ := bi_inv h
    obtain ⟨v', c5, h⟩ := ob_inv h
    obtain ⟨m', c6, h⟩ := ob_inv h
    injection h with h
    subst h
    have c1' := eqL_inv (fun _ _ => eqV_inv) c1
    subst c1'
    have c2' : nb0 ≤ st.nb := ble_inv c2
    have c4' : st.nb + res.length ≤ 8388608 := by have := ble_inv c4; rw [len_eq] at this; exact this
    have c3' : ∀ p ∈ m0, st.mem.get p.1 = some ⟨p.2⟩ := fun p hp => hasB_inv (allB_inv c3 p hp)
    obtain ⟨p1, p2⟩ := placeF_get c6 c4'
    rw [len_eq]
    refine ⟨⟨Nat.le_add_right _ _, Nat.le_refl _, fun k _ hk => p1 k (.inl hk), fun k hk => by simp at hk, ⟨c4', fun k hk => ?_⟩, fun l hl => by cases hl⟩, henter, fun E w vs hrel hp => ?_⟩
    · show m'.get k = none
      have : st.nb + res.length ≤ k := hk
      rw [p1 k (.inr this)]
      exact hst.dom k (by omega)
    · have hm0 : ∀ k b, (memT m0).get k = some b → ∃ p ∈ m0, p.1 = k ∧ b = ⟨p.2⟩ ∧ st.mem.get k = some b := fun k b hg => by
        obtain ⟨p, h1, h2, h3⟩ := memT_get i1' (fun p hp => (hlow p hp).1) k b hg
        exact ⟨p, h1, h2, h3, by rw [← h2, h3]; exact c3' p h1⟩
      have hlr : ∀ k p, (lowE E nb0).rho k = some p → k < nb0 ∧ E.rho k = some p := by
        intro k p hk
        have hk' : (if k < nb0 then E.rho k else none) = some p := hk
        split at hk'
        · exact ⟨by assumption, hk'⟩
        · cases hk'
      have hpre : Pre K (lowE E nb0) w ⟨memT m0, nb0, nt0⟩ r0 := by
        refine ⟨gi_grow hp.gi rfl rfl (fun k p s hk => hp.gi.low k p s (hlr k _ hk).2) (Nat.le_refl _) (fun k p s hk _ => ⟨k, s, (hlr k _ hk).2⟩) (fun _ _ _ => rfl), fun k b _ hg => ?_, fun k k' b b' p s s' _ _ hg hg' hk hk' => ?_, fun k hk _ => ?_, fun j h1 h2 => ?_⟩
        · obtain ⟨p, h1, h2, h3, h4⟩ := hm0 k b hg
          obtain ⟨q, s, arr, ty, e1, e2, e3, e4⟩ := hp.blk k b trivial h4
          have hk : k < nb0 := by rw [← h2]; exact (hlow p h1).1
          refine ⟨q, s, arr, ty, ?_, e2, e3, ?_⟩
          · show (if k < nb0 then E.rho k else none) = _
            rw [if_pos hk]; exact e1
          · rw [h3] at e4 ⊢
            exact mapF_rel (low_map E nb0) (lowL_inv (hlow p h1).2) e4
        · obtain ⟨_, _, _, _, h4⟩ := hm0 k b hg
          obtain ⟨_, _, _, _, h4'⟩ := hm0 k' b' hg'
          exact hp.inj k k' b b' p s s' trivial trivial h4 h4' (hlr _ _ hk).2 (hlr _ _ hk').2
        · show (if k < nb0 then E.rho k else none) = none
          rw [if_neg (by have : nb0 ≤ k := hk; omega)]
        · have h1' : nt0 ≤ j := h1
          omega
      refine (hsound (lowE E nb0) w vs (mapA_rel (low_map E nb0) (lowA_inv i2) hrel) hpre).mono fun e u ⟨x, F0, he, ho⟩ => ?_
      have hF0 : ∀ k, k < nb0 → F0.rho k = E.rho k := by
        intro k hk
        have : F0.rho k = (lowE E nb0).rho k := by
          by_cases g : F0.rho k = (lowE E nb0).rho k
          · exact g
          · have := (ho.step.newB k g).1
            have : nb0 ≤ k := this
            omega
        rw [this]
        show (if k < nb0 then E.rho k else none) = _
        rw [if_pos hk]
      let F : Env := { E with rho := fun k => if st.nb ≤ k then (match res[k - st.nb]? with | some p => F0.rho p.1 | none => E.rho k) else E.rho k }
      have hFlo : ∀ k, k < st.nb → F.rho k = E.rho k := fun k hk => by
        show (if st.nb ≤ k then _ else E.rho k) = _
        rw [if_neg (by omega)]
      have hFnew : ∀ (i : Nat) (p : Nat × List C), res[i]? = some p → F.rho (st.nb + i) = F0.rho p.1 := fun i p hi => by
        show (if st.nb ≤ st.nb + i then (match res[st.nb + i - st.nb]? with | some p => F0.rho p.1 | none => E.rho (st.nb + i)) else E.rho (st.nb + i)) = _
        rw [if_pos (by omega), show st.nb + i - st.nb = i by omega, hi]
      have hFhi : ∀ k, st.nb + res.length ≤ k → F.rho k = E.rho k := fun k hk => by
        show (if st.nb ≤ k then (match res[k - st.nb]? with | some p => F0.rho p.1 | none => E.rho k) else E.rho k) = _
        rw [if_pos (by omega), List.getElem?_eq_none (by omega)]
      have hcase : ∀ k q, F.rho k = some q → E.rho k = some q ∨ ∃ i p, res[i]? = some p ∧ k = st.nb + i ∧ F0.rho p.1 = some q := by
        intro k q hk
        by_cases g1 : k < st.nb
        · rw [hFlo k g1] at hk; exact .inl hk
        · by_cases g2 : st.nb + res.length ≤ k
          · rw [hFhi k g2] at hk; exact .inl hk
          · have hi : k - st.nb < res.length := by omega
            have := hFnew (k - st.nb) _ (List.getElem?_eq_getElem hi)
            rw [show st.nb + (k - st.nb) = k by omega] at this
            exact .inr ⟨k - st.nb, _, List.getElem?_eq_getElem hi, by omega, by rw [← this]; exact hk⟩
      have hEnew : ∀ (i : Nat) (p : Nat × List C), res[i]? = some p → E.rho (st.nb + i) = none := fun i p hi => by
        have := (List.getElem?_eq_some_iff.1 hi).1
        exact hp.newB _ (Nat.le_add_right _ _) (by show st.nb + i < st.nb + res.length; omega)
      have hhigh : ∀ (i : Nat) (p : Nat × List C) (q s : Nat), res[i]? = some p → F0.rho p.1 = some (q, s) → w.heap.size ≤ q := by
        intro i p q s hi hq
        obtain ⟨g1, g2, _⟩ := hres p (List.mem_of_getElem? hi)
        rcases ho.step.fresh p.1 q s g1 g2 hq with h | ⟨k0, hk0, _⟩
        · exact h
        · rw [hw0] at hk0; simp at hk0
      have hkept : ∀ b, b < w.heap.size → u.heap[b]? = w.heap[b]? := fun b hb => ho.step.kept b hb (fun k hk => by rw [hw0] at hk; simp at hk)
      have hsig : ∀ j, F0.sig j = E.sig j := by
        intro j
        by_cases g : F0.sig j = (lowE E nb0).sig j
        · exact g
        · have := ho.step.newT j g
          obtain ⟨h1, h2⟩ := this
          have h1' : nt0 ≤ j := h1
          omega
      have hmap : Map (newK nb0 res st.nb) F0 F := by
        refine ⟨fun k k' b hk hb => ?_, fun j x hj => by rw [hsig] at hj; exact hj, ho.step.le.fix.symm⟩
        unfold newK at hk
        cases hq : Nat.ble nb0 k with
        | true =>
          rw [hq] at hk
          obtain ⟨i, p, h1, h2, h3⟩ := idx_inv hk
          rw [h3, hFnew i p h1, h2]; exact hb
        | false =>
          rw [hq] at hk
          injection hk with hk
          have := ble_false hq
          rw [← hk, hFlo k (by omega), ← hF0 k this]; exact hb
      have hle : E.le F := by
        refine ⟨fun k b hk => ?_, fun _ _ h => h, rfl⟩
        by_cases g1 : k < st.nb
        · rw [hFlo k g1]; exact hk
        · by_cases g2 : st.nb + res.length ≤ k
          · rw [hFhi k g2]; exact hk
          · have := hEnew (k - st.nb) _ (List.getElem?_eq_getElem (show k - st.nb < res.length by omega))
            rw [show st.nb + (k - st.nb) = k by omega, hk] at this
            cases this
      refine ⟨x, F, he, ⟨hle, fun k hk => ?_, fun j hj => absurd rfl hj, ho.step.os, ho.step.tape, ho.step.output, ho.step.size, fun b hb _ => hkept b hb, fun k p s h1 h2 h3 => ?_, ?_⟩, ?_, fun k b hk hg => ?_, fun k k' b b' p s s' hk hk' hg hg' h3 h4 => ?_⟩
      · show st.nb ≤ k ∧ k < st.nb + res.length
        refine ⟨?_, ?_⟩
        · by_cases g : st.nb ≤ k
          · exact g
          · exact absurd (hFlo k (by omega)) hk
        · by_cases g : k < st.nb + res.length
          · exact g
          · exact absurd (hFhi k (by omega)) hk
      · have h1' : st.nb ≤ k := h1
        have h2' : k < st.nb + res.length := h2
        have hi : k - st.nb < res.length := by omega
        have := hFnew (k - st.nb) _ (List.getElem?_eq_getElem hi)
        rw [show st.nb + (k - st.nb) = k by omega, h3] at this
        exact .inl (hhigh _ _ _ _ (List.getElem?_eq_getElem hi) this.symm)
      · refine gi_grow hp.gi rfl rfl (fun k p s hk => ?_) ho.step.size (fun k p s hk hlt => ?_) (fun b hb _ => hkept b hb)
        · rcases hcase k _ hk with h | ⟨i, q, h1, h2, h3⟩
          · exact Nat.lt_of_lt_of_le (hp.gi.low k p s h) ho.step.size
          · exact ho.step.gi.low _ _ _ h3
        · rcases hcase k _ hk with h | ⟨i, q, h1, h2, h3⟩
          · exact ⟨k, s, h⟩
          · have := hhigh i q p s h1 h3
            omega
      · have := ho.val
        rw [hv0] at this
        exact mapV_rel hmap c5 this
      · have hk2 : st.nb ≤ k ∧ k < st.nb + res.length := by
          rcases hk with hk | hk
          · simp at hk
          · exact hk
        have hi : k - st.nb < res.length := by omega
        obtain ⟨cs, h1, h2⟩ := p2 (k - st.nb) _ (List.getElem?_eq_getElem hi)
        rw [show st.nb + (k - st.nb) = k by omega] at h2
        have hg' : m'.get k = some b := hg
        rw [h2] at hg'
        injection hg' with hg'
        subst hg'
        obtain ⟨g1, g2, g3⟩ := hres _ (List.getElem_mem hi)
        obtain ⟨q, s, arr, ty, e1, e2, e3, e4⟩ := ho.blk _ _ (.inr ⟨g1, g2⟩) g3
        refine ⟨q, s, arr, ty, ?_, e2, e3, mapF_rel hmap h1 e4⟩
        have := hFnew (k - st.nb) _ (List.getElem?_eq_getElem hi)
        rw [show st.nb + (k - st.nb) = k by omega] at this
        rw [this]; exact e1
      · have hk2 : st.nb ≤ k ∧ k < st.nb + res.length := by
          rcases hk with hk | hk
          · simp at hk
          · exact hk
        have hk3 : st.nb ≤ k' ∧ k' < st.nb + res.length := by
          rcases hk' with hk | hk
          · simp at hk
          · exact hk
        have hi : k - st.nb < res.length := by omega
        have hi' : k' - st.nb < res.length := by omega
        have e1 := hFnew (k - st.nb) _ (List.getElem?_eq_getElem hi)
        have e2 := hFnew (k' - st.nb) _ (List.getElem?_eq_getElem hi')
        rw [show st.nb + (k - st.nb) = k by omega, h3] at e1
        rw [show st.nb + (k' - st.nb) = k' by omega, h4] at e2
        obtain ⟨g1, g2, g3⟩ := hres _ (List.getElem_mem hi)
        obtain ⟨g1', g2', g3'⟩ := hres _ (List.getElem_mem hi')
        have := ho.inj _ _ _ _ p s s' (.inr ⟨g1, g2⟩) (.inr ⟨g1', g2'⟩) g3 g3' e1.symm e2.symm
        have := nodup_inv j4 _ _ _ _ (List.getElem?_eq_getElem hi) (List.getElem?_eq_getElem hi') this
        omega

end
end Go.SX

namespace Go.Proofs.YtpaabengkidefaaGreat
open Go.RowKit Go.Joins Go.SX

abbrev Orcs := Nat → Option (List V → St → Option R)

noncomputable def numT (l : List Int) (j : Nat) : Option (Int × Nat) := ob (nth l j) fun a => some (a, 1)
noncomputable def okT (n : Nat) (j : Nat) : Bool := Nat.ble (Nat.add j 1) n
noncomputable def drwT (d0 d1 m1 : Nat) (p m : Nat) : Option Nat := bi (Nat.beq p 0) (bi (Nat.beq m 3) (some d0) none) (bi (Nat.beq p 1) (bi (Nat.beq m m1) (some d1) none) none)

noncomputable def orcB (num : Nat → Option (Int × Nat)) (okj : Nat → Bool) (drw : Nat → Nat → Option Nat) (f : Nat) : Option (List V → St → Option R) :=
  bi (Nat.beq f 191) (some (orFromInt num)) (bi (Nat.beq f 29) (some (orOk okj)) (bi (Nat.beq f 88) (some (orIsSmall num)) (bi (Nat.beq f 89) (some (orSmall num))
  (bi (Nat.beq f 21) (some (orEqual num)) (bi (Nat.beq f 57) (some orNew) (bi (Nat.beq f 77) (some (orBelow drw)) (bi (Nat.beq f 200) (some (orInsert Tryz.prog)) none)))))))

noncomputable def altM (g h : List V → St → Option R) (vl : List V) (st : St) : Option R := @Option.rec R (fun _ => Option R) (h vl st) (fun r => some r) (g vl st)
noncomputable def withM (f0 : Nat) (g : List V → St → Option R) (orc : Orcs) (f : Nat) : Option (List V → St → Option R) := bi (Nat.beq f f0) (some g) (orc f)
noncomputable def isTrue (r : Option R) : Bool := @Option.rec R (fun _ => Bool) false (fun r => eqV r.v (vB true)) r

theorem alt_ok {P : Program} {K : Toks} {f : Nat} {g h : List V → St → Option R} (hg : OrcOne P K f g) (hh : OrcOne P K f h) : OrcOne P K f (altM g h) := by
  intro vl st r hr hst
  unfold altM at hr
  cases hq : g vl st with
  | none => rw [hq] at hr; exact hh vl st r hr hst
  | some r' =>
    rw [hq] at hr
    injection hr with hr
    subst hr
    exact hg vl st r' hq hst

theorem with_ok {P : Program} {K : Toks} {f0 : Nat} {g : List V → St → Option R} {orc : Orcs} (hg : OrcOne P K f0 g) (ho : OrcOk P K orc) : OrcOk P K (withM f0 g orc) := by
  intro f h hf
  unfold withM at hf
  cases hq : Nat.beq f f0 with
  | true =>
    rw [hq] at hf
    injection hf with hf
    subst hf
    rw [beq_inv hq]
    exact hg
  | false => rw [hq] at hf; exact ho f h hf

theorem none_ok {P : Program} {K : Toks} : OrcOk P K (fun _ => none) := fun f g h => by cases h

theorem orcB_ok {val : Nat → RatD} {num : Nat → Option (Int × Nat)} {okj : Nat → Bool} {drw : Nat → Nat → Option Nat} (h1 : NumOk val num) (h2 : OkOk val okj) : OrcOk Tryz.prog (toks val drw) (orcB num okj drw) := by
  show OrcOk _ _ (withM _ _ (withM _ _ (withM _ _ (withM _ _ (withM _ _ (withM _ _ (withM _ _ (withM _ _ (fun _ => none)))))))))
  exact with_ok (orFromInt_ok h1) (with_ok (orOk_ok h2) (with_ok (orIsSmall_ok h1) (with_ok (orSmall_ok h1) (with_ok (orEqual_ok h1) (with_ok orNew_ok (with_ok orBelow_ok (with_ok orInsert_ok none_ok)))))))
end Go.Proofs.YtpaabengkidefaaGreat

namespace Go.Proofs.YtpaabengkidefaaGreat
open Go.RowKit Go.Joins Go.SX

def valT (l : List Int) (j : Nat) : RatD := match l[j]? with
  | some a => ⟨decide (a < 0), FE.toL a.natAbs, FE.toL 1⟩
  | none => ⟨false, [], [1]⟩

theorem numT_inv {l : List Int} {j : Nat} {p : Int × Nat} (h : numT l j = some p) : ∃ a, l[j]? = some a ∧ p = (a, 1) := by
  obtain ⟨a, h1, h⟩ := ob_inv h
  rw [nth_eq] at h1
  injection h with h
  exact ⟨a, h1, h.symm⟩

theorem numT_ok {l : List Int} (hl : ∀ a ∈ l, a.natAbs < 1000000000) : NumOk (valT l) (numT l) := by
  intro j p h
  obtain ⟨a, h1, rfl⟩ := numT_inv h
  have ha := hl a (List.mem_of_getElem? h1)
  refine ⟨?_, ha, Nat.one_pos, (by omega : 1 < 1000000000), Nat.gcd_one_right _⟩
  unfold valT
  rw [h1]

theorem okT_ok {l : List Int} (hl : ∀ a ∈ l, a.natAbs < 1000000000) : OkOk (valT l) (okT l.length) := by
  intro j h
  have hj : j + 1 ≤ l.length := ble_inv h
  have : numT l j = some (l[j], 1) := by
    unfold numT
    rw [nth_eq, List.getElem?_eq_getElem (by omega)]
  exact (num_ok (numT_ok hl) this).1

theorem drwT_ok {d0 d1 m1 : Nat} {f : Fix} (h0 : f.byte 0 % 3 = d0) (h1 : f.byte 1 % m1 = d1) : DrOk (drwT d0 d1 m1) f := by
  intro p m r h
  unfold drwT at h
  cases hp : Nat.beq p 0 with
  | true =>
    rw [hp] at h
    obtain ⟨g1, h⟩ := bi_inv (c := Nat.beq m 3) h
    injection h with h
    rw [beq_inv hp, beq_inv g1, ← h]; exact h0
  | false =>
    rw [hp] at h
    obtain ⟨g1, h⟩ := bi_inv (c := Nat.beq p 1) h
    obtain ⟨g2, h⟩ := bi_inv (c := Nat.beq m m1) h
    injection h with h
    rw [beq_inv g1, beq_inv g2, ← h]; exact h1

def noBlk : Nat → Option (Nat × Nat) := fun _ => none
def noTok : Nat → Option (Array Value) := fun _ => none

theorem prog_ok : ProgOk Tryz.prog := by
  refine ⟨by kernel_rfl, fun f fn h => ?_⟩
  have ha : allB (fun fn : Func => !(fn.name == "runtime.NumGoroutine")) Tryz.prog.funcs.toList = true := by kernel_rfl
  have hm : fn ∈ Tryz.prog.funcs.toList := by
    rw [← Array.getElem?_toList] at h
    exact List.mem_of_getElem? h
  have := allB_inv ha fn hm
  simpa using this

theorem sx_run {l : List Int} {d0 d1 m1 f : Nat} {orc : Orcs} (hl : ∀ a ∈ l, a.natAbs < 1000000000)
    (ho : ∀ val, NumOk val (numT l) → OkOk val (okT l.length) → OrcOk Tryz.prog (toks val (drwT d0 d1 m1)) orc)
    (hrun : isTrue (evCall Tryz.prog orc 100000 40 f [.s (.c .code)] ⟨.lf, 0, 0⟩) = true)
    (n c : Nat) (A : Option Addr) (y : Nat → Int) (w : World) (hn : n ≤ 1048576) (hy : Byt y) (hb : BE w A n y)
    (h0 : (fixOf A n c y).byte 0 % 3 = d0) (h1 : (fixOf A n c y).byte 1 % m1 = d1) :
    Calls Tryz.prog f #[.slice A n c] w fun e u => e = .returned (.bool true) ∧ Below w.heap.size w u := by
  have ho' := ho (valT l) (numT_ok hl) (okT_ok hl)
  cases hq : evCall Tryz.prog orc 100000 40 f [.s (.c .code)] ⟨.lf, 0, 0⟩ with
  | none => rw [hq] at hrun; cases hrun
  | some r =>
    rw [hq] at hrun
    have hv : r.v = vB true := eqV_inv hrun
    have hst : StOk ⟨.lf, 0, 0⟩ := ⟨Nat.zero_le _, fun _ _ => rfl⟩
    obtain ⟨_, _, hs⟩ := evCall_ok prog_ok ho' 100000 40 f _ _ r hq hst
    let E : Env := ⟨noBlk, noTok, fixOf A n c y⟩
    have hgi : GI (toks (valT l) (drwT d0 d1 m1)) E w := by
      refine ⟨(fun k p s h => by cases h), (fun j cs h => by cases h), (match A with | some a => if n = 0 then [] else [a.block] | none => []), fun b hbm => ⟨?_, (fun k s h => by cases h)⟩, A, n, c, y, rfl, hb, hy, hn, fun hn0 a ha => ?_, drwT_ok h0 h1⟩
      · cases A with
        | none => simp at hbm
        | some a =>
          by_cases hn0 : n = 0
          · simp [hn0] at hbm
          · simp [hn0] at hbm
            subst hbm
            obtain ⟨b, o, e, hlt, _⟩ := hb hn0
            injection e with e
            rw [e]; exact hlt
      · subst ha
        simp [hn0]
    refine (hs E w [.slice A n c] ⟨⟨rfl, (fun a e => by cases e), (fun a e => by cases e)⟩, trivial⟩ ⟨hgi, (fun k b _ h => by cases h), (fun k k' b b' p s s' _ _ h => by cases h), (fun k _ _ => rfl), (fun j _ _ => rfl)⟩).mono fun e u ⟨x, F, he, ho⟩ => ?_
    have hx := ho.val
    rw [hv] at hx
    have hx' : x = .bool true := hx
    subst hx'
    exact ⟨he, ho.step.os, ho.step.tape, ho.step.output, ho.step.size, fun b hlt => ho.step.kept b hlt (fun k _ s h => by cases h)⟩

/-- The bytes that are there. -/
theorem be_of_bi {w : World} {A : Option Addr} {n : Nat} (h : BI w A n) : ∃ y, Byt y ∧ BE w A n y := by
  by_cases hn : n = 0
  · exact ⟨fun _ => 0, fun _ => ⟨Int.le_refl 0, (by omega : (0 : Int) < 256)⟩, fun h => absurd hn h⟩
  · obtain ⟨b, o, rfl, hlt, hc⟩ := h hn
    have hc' : ∀ j, ∃ x : Int, (0 ≤ x ∧ x < 256) ∧ (j < n → w.cell? ⟨b, o + j, none⟩ = some (.int .u8 x)) := by
      intro j
      by_cases hj : j < n
      · obtain ⟨x, h1, h2⟩ := hc j hj
        exact ⟨x, h1, fun _ => h2⟩
      · exact ⟨0, by decide, fun h => absurd h hj⟩
    refine ⟨fun j => (hc' j).choose, fun j => (hc' j).choose_spec.1, fun _ => ⟨b, o, rfl, hlt, fun j hj => (hc' j).choose_spec.2 hj⟩⟩
end Go.Proofs.YtpaabengkidefaaGreat
