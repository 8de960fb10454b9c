/-
 Shared texts (Z16).
-/
import Derived.Test.YtcblajhfehadaaaGreatZ15
namespace Go.Proofs.YtcblajhfehadaaaGreat
open Go.RowKit Go.Joins Go.SX
section
variable {val : X → Rat} {drw : Drw} {E : Env} {w u : World} {st : St}
theorem addT_le {j : Nat} {cs : TokD} (hn : E.sig j = none) : E.le (addT E j cs) :=
 ⟨fun _ _ h => h, fun i v hi => by
  have : i ≠ j := fun e => by rw [e, hn] at hi; cases hi
  simp [addT, this, hi], rfl⟩
theorem out_newtok {cs : TokD} {v v0 : V} {x x0 : Value} {m' : T Blk} {W : List Nat} {rd : Option (List Nat)}
 (h0 : Out (toks val drw) E w st ⟨v0, ⟨m', st.nb, st.nt⟩, W, rd⟩ E u x0) (hn : E.sig st.nt = none)
 (hT : ∃ G, (∀ b ∈ G, b < u.heap.size ∧ ∀ k s, E.rho k ≠ some (b, s)) ∧ TVal val st.nt G u cs) (hv : RelV (addT E st.nt cs) v x) :
 Out (toks val drw) E w st ⟨v, ⟨m', st.nb, st.nt + 1⟩, W, rd⟩ (addT E st.nt cs) u x := by
 have hle := addT_le (cs := cs) hn
 have hsame : (addT E st.nt cs).sig st.nt = some cs := by simp [addT]
 have hs := h0.step
 refine ⟨⟨hle, fun k h => absurd rfl h, fun j hj => ?_, hs.os, hs.tape, hs.output, hs.size, hs.kept, hs.fresh, ?_⟩, hv, fun k b hk hg => ?_, h0.inj⟩
 ·by_cases e : j = st.nt
  ·subst e; exact ⟨Nat.le_refl _, Nat.lt_succ_self _⟩
  ·exact absurd (by simp [addT, e]) hj
 ·refine ⟨hs.gi.low, fun j cs' hj => ?_, hs.gi.base⟩
  by_cases e : j = st.nt
  ·subst e
   rw [hsame] at hj
   injection hj with hj
   subst hj
   exact hT
  ·exact hs.gi.tok j cs' (by simpa [addT, e] using hj)
 ·obtain ⟨p, s, arr, ty, h1, h2, h3, h4⟩ := h0.blk k b hk hg
  exact ⟨p, s, arr, ty, h1, h2, h3, h4.mono hle⟩
theorem rat_token {x : Value} {z : X} {base nt : Nat} (hz : z.kd ≠ 1) (hsm : FE.small (val z) = true) (hr : RatP u base x (FE.ofQ (val z))) (hlow : ∀ k p s, E.rho k = some (p, s) → p < base) :
 ∃ cs : TokD, (∃ G, (∀ b ∈ G, b < u.heap.size ∧ ∀ k s, E.rho k ≠ some (b, s)) ∧ TVal val nt G u cs) ∧ RelV (addT E nt cs) (.s (rat nt z)) x := by
 obtain ⟨va, vb, rfl, h1, h2, _⟩ := hr
 obtain ⟨A, c, rfl, hl, hc, _⟩ := id h1
 obtain ⟨B, d, rfl, hm, hd, _⟩ := id h2
 have f1 := ro_fresh h1
 have f2 := ro_fresh h2
 generalize hR : FE.ofQ (val z) = R at *
 let cs : TokD := ⟨#[.bool R.neg, .slice A R.mag.length c, .slice B R.den.length d], z⟩
 have hsame : (addT E nt cs).sig nt = some cs := by simp [addT]
 refine ⟨cs, ⟨(match A with | some a => if R.mag = [] then [] else [a.block] | none => []) ++ (match B with | some b => if R.den = [] then [] else [b.block] | none => []), fun b hbm => ?_, ?_⟩, ?_⟩
 ·have key : base ≤ b ∧ b < u.heap.size := by
   rcases List.mem_append.1 hbm with hbm | hbm
   ·cases A with
    | none => simp at hbm
    | some a =>
     by_cases hx : R.mag = []
     ·simp [hx] at hbm
     ·simp [hx] at hbm
      subst hbm
      exact f1 hx a rfl
   ·cases B with
    | none => simp at hbm
    | some a =>
     by_cases hx : R.den = []
     ·simp [hx] at hbm
     ·simp [hx] at hbm
      subst hbm
      exact f2 hx a rfl
  exact ⟨key.2, fun k s hk => by have := hlow k b s hk; omega⟩
 ·unfold TVal
  rw [if_neg hz]
  show TRat (val z) _ u #[.bool R.neg, .slice A R.mag.length c, .slice B R.den.length d]
  unfold TRat
  rw [hR]
  refine ⟨hsm, A, c, B, d, rfl, ⟨hl, hc, hm, hd⟩, h1.reads, h2.reads, fun a ha hx => ?_, fun a ha hx => ?_⟩
  ·subst ha; simp [hx]
  ·subst ha; simp [hx]
 ·refine ⟨cs.cs, rfl, ⟨cs, hsame, ⟨rfl, rfl⟩, ?_, ?_⟩, ⟨cs, hsame, ⟨rfl, rfl⟩, ?_, ?_⟩, ⟨cs, hsame, ⟨rfl, rfl⟩, ?_, ?_⟩, trivial⟩ <;> simp
theorem cur_open {k0 p : Nat} {b : Blk} (hg : GI (toks val drw) E w) (hm : BlkOk E w k0 b) (h8 : asCur b.cells = some p) :
 ∃ g s A n c y, E.rho k0 = some (g, s) ∧ E.fix = fixOf A n c y ∧ g < w.heap.size ∧ n ≤ 1048576 ∧ Byt y ∧ (n ≠ 0 → ∀ a, A = some a → a.block ≠ g) ∧ BE w A n y ∧ CE s w g A n c (stp n y p).1 (stp n y p).2 := by
 obtain ⟨g, s, arr, ty, hrho, hh, hsz, hrl⟩ := hm
 obtain ⟨G, hG, A, n, cp, y, hfix, hbe, hby, hn, hfoot, hdr⟩ := id hg.base
 have hlt := hg.low _ _ _ hrho
 rw [asCur_inv h8] at hrl
 have hcell : ∀ (o : Nat) (c : C) (v : Value), (curC p)[o]? = some c → (∀ x, RelC E c x → x = v) → w.cell? ⟨g, o, none⟩ = some v := by
  intro o c v hc hx
  obtain ⟨x, h1, h2⟩ := hrl.get o c hc
  rw [cell_of hh, ← hx x h2, ← h1, Array.getElem?_toList]
 refine ⟨g, s, A, n, cp, y, hrho, hfix, hlt, hn, hby, fun hn0 a ha e => ?_, hbe, stp_le n y p, hcell 0 _ _ rfl ?_, hcell 1 _ _ rfl ?_, hcell 2 _ _ rfl ?_, fun o => frozen_of_row _ _ _ _ _ hh, arr, ty, hh, hsz⟩
 ·have := (hG _ (hfoot hn0 a ha)).2 k0 s
  rw [e] at this
  exact this hrho
 all_goals
  rintro x ⟨hx, _⟩
  rw [hfix] at hx
  have hx' : some _ = some x := hx
  injection hx' with hx'
  exact hx'.symm
theorem cur_turned {k0 g s p : Nat} {A : Option Addr} {n c : Nat} {y : Nat → Int} {v : V} {x : Value} {rd : Option (List Nat)} (hst : StOk st) (h0 : k0 < st.nb)
 (hp : Pre (toks val drw) E w st ⟨v, ⟨st.mem.set k0 (some ⟨curC p⟩), st.nb, st.nt⟩, [k0], rd⟩) (hrho : E.rho k0 = some (g, s)) (hfix : E.fix = fixOf A n c y)
 (hc : CE s u g A n c (stp n y p).1 (stp n y p).2) (hf : CF g w u) (hv : RelV E v x) :
 Out (toks val drw) E w st ⟨v, ⟨st.mem.set k0 (some ⟨curC p⟩), st.nb, st.nt⟩, [k0], rd⟩ E u x := by
 obtain ⟨arr', ty', hh', hsz'⟩ := hc.row
 refine out_write hst h0 hp hrho hf hh' hsz' ?_ hv
 have hcur := cur_rel hfix p
 have e3 : ∀ o v, u.cell? ⟨g, o, none⟩ = some v → arr'.toList[o]? = some v := fun o v ho => by rw [Array.getElem?_toList, ← cell_of hh']; exact ho
 have a0 := e3 0 _ hc.sl
 have a1 := e3 1 _ hc.at_
 have a2 := e3 2 _ hc.hash
 match hl : arr'.toList, a0, a1, a2 with
 | u0 :: u1 :: u2 :: rest, a0, a1, a2 =>
  simp at a0 a1 a2
  subst a0 a1 a2
  exact ⟨hcur.1, hcur.2.1, hcur.2.2.1, trivial⟩
 | [], a0, _, _ => simp at a0
 | [_], _, a1, _ => simp at a1
 | [_, _], _, _, a2 => simp at a2
/-! ### The contracts -/
noncomputable def curAt (l : List V) (st : St) : Option (Nat × Nat) := ob (one l) fun c => ob (cPtr c) fun a => bi (Nat.beq a.2 0) (ob (st.mem.get a.1) fun b => ob (asCur b.cells) fun p => some (a.1, p)) none
noncomputable def orByte (l : List V) (st : St) : Option R := ob (curAt l st) fun q => some ⟨.s (.c (.dr 0 q.2 256)), ⟨st.mem.set q.1 (some ⟨curC (Nat.add q.2 1)⟩), st.nb, st.nt⟩, [q.1], some [q.1]⟩
noncomputable def orFew (ux : Nat → Option X) (l : List V) (st : St) : Option R :=
 ob (curAt l st) fun q => ob (ux q.2) fun z => some ⟨.s (rat st.nt z), ⟨st.mem.set q.1 (some ⟨curC (Nat.add q.2 2)⟩), st.nb, Nat.add st.nt 1⟩, [q.1], some [q.1]⟩
theorem curAt_inv {l : List V} {q : Nat × Nat} (h : curAt l st = some q) : ∃ c b, one l = some c ∧ c = .ptr q.1 0 ∧ st.mem.get q.1 = some b ∧ asCur b.cells = some q.2 := by
 obtain ⟨c, h1, h⟩ := ob_inv h
 obtain ⟨⟨k0, o⟩, h2, h⟩ := ob_inv h
 obtain ⟨h3, h⟩ := bi_inv h
 obtain ⟨b, h4, h⟩ := ob_inv h
 obtain ⟨p, h5, h⟩ := ob_inv h
 injection h with h
 subst h
 have h3 := beq_inv h3
 simp only at h3
 subst h3
 exact ⟨c, b, h1, cPtr_inv h2, h4, h5⟩
theorem byte_nat {n : Nat} {y : Nat → Int} (c : Nat) (A : Option Addr) (p : Nat) : nxtB n y (stp n y p) = (((fixOf A n c y).byte p : Nat) : Int) := (Int.toNat_of_nonneg (nxtB_in n y _).1).symm
theorem byte_lt {n : Nat} {y : Nat → Int} (c : Nat) (A : Option Addr) (p : Nat) : (fixOf A n c y).byte p < 256 := by
 have h1 := byte_nat (y := y) (n := n) c A p
 have h2 := nxtB_in n y (stp n y p)
 omega
theorem orByte_ok : OrcOne Tryz.prog (toks val drw) 156 orByte := by
 intro vl st r hr hst
 obtain ⟨⟨k0, p⟩, h1, hr⟩ := ob_inv hr
 injection hr with hr
 subst hr
 obtain ⟨c, b, h2, h3, h4, h5⟩ := curAt_inv h1
 simp only at h3 h4 h5
 refine ⟨eff_write hst h4, Tryz.call156, fun E w vs hrel hp => ?_⟩
 obtain ⟨x1, rfl, hv1⟩ := one_inv h2 hrel
 rw [h3] at hv1
 obtain ⟨g, s, hrho, rfl⟩ := hv1
 obtain ⟨g', s', A, n, cp, y, hrho', hfix, hlt, hn, hby, hne, hbe, hce⟩ := cur_open hp.gi (hp.blk k0 b (by simp [inR]) h4) h5
 rw [hrho] at hrho'
 injection hrho' with e
 injection e with e1 e2
 subst e1; subst e2
 refine (eByte s g n cp (stp n y p).1 (stp n y p).2 A y w hlt hn hby hne hbe hce).mono fun e u ⟨he, hc, hf⟩ => ?_
 have he' : e = .returned (.int .i64 (nxtB n y (stp n y p))) := he
 have hc' : CE s u g A n cp (stp n y (p + 1)).1 (stp n y (p + 1)).2 := hc
 refine ⟨_, E, he', cur_turned hst (hst.lt h4) hp hrho hfix hc' hf ?_⟩
 show Value.int .i64 _ = Value.int .i64 _
 rw [hfix, byte_nat cp A p, Nat.mod_eq_of_lt (byte_lt cp A p), Int.zero_add]
theorem few_val {n : Nat} {y : Nat → Int} (c : Nat) (A : Option Addr) (p : Nat) :
 fewN n y (stp n y p) = (((fixOf A n c y).byte p % 21 : Nat) : Int) - 10 ∧ (fewD n y (stp n y p)).natAbs = fewNat ((fixOf A n c y).byte (p + 1) % 5) ∧ 0 < fewNat ((fixOf A n c y).byte (p + 1) % 5) := by
 refine ⟨?_, ?_⟩
 ·unfold fewN
  rw [byte_nat c A p, Int.natCast_emod]
  rfl
 ·have e : fewD n y (stp n y p) = fewL.getD ((nxtB n y (stp n y (p + 1))) % 5).toNat 0 := rfl
  rw [e, byte_nat c A (p + 1)]
  have h : ((((fixOf A n c y).byte (p + 1) : Nat) : Int) % 5).toNat = (fixOf A n c y).byte (p + 1) % 5 := by omega
  rw [h]
  have h5 : (fixOf A n c y).byte (p + 1) % 5 < 5 := Nat.mod_lt _ (by decide)
  generalize (fixOf A n c y).byte (p + 1) % 5 = q at *
  have : q = 0 ∨ q = 1 ∨ q = 2 ∨ q = 3 ∨ q = 4 := by omega
  rcases this with rfl | rfl | rfl | rfl | rfl <;> decide
theorem eff_write_tok {k0 : Nat} {b0 b1 : Blk} {v : V} (hst : StOk st) (h0 : st.mem.get k0 = some b0) : Eff st ⟨v, ⟨st.mem.set k0 (some b1), st.nb, Nat.add st.nt 1⟩, [k0], some [k0]⟩ := by
 have h := eff_write (b1 := b1) (v := v) hst h0
 exact ⟨h.nb, Nat.le_succ _, h.same, h.live, ⟨h.ok.nb, h.ok.dom⟩, h.rdw⟩
theorem orFew_ok {ux : Nat → Option X} (hu : UxOk val drw ux) : OrcOne Tryz.prog (toks val drw) 79 (orFew ux) := by
 intro vl st r hr hst
 obtain ⟨⟨k0, p⟩, h1, hr⟩ := ob_inv hr
 obtain ⟨z, hz, hr⟩ := ob_inv hr
 injection hr with hr
 subst hr
 obtain ⟨c, b, h2, h3, h4, h5⟩ := curAt_inv h1
 simp only at h3 h4 h5 hz
 obtain ⟨gz, ez⟩ := hu p z hz
 refine ⟨eff_write_tok hst h4, Tryz.call79, fun E w vs hrel hp => ?_⟩
 obtain ⟨x1, rfl, hv1⟩ := one_inv h2 hrel
 rw [h3] at hv1
 obtain ⟨g, s, hrho, rfl⟩ := hv1
 obtain ⟨g', s', A, n, cp, y, hrho', hfix, hlt, hn, hby, hne, hbe, hce⟩ := cur_open hp.gi (hp.blk k0 b (by simp [inR]) h4) h5
 rw [hrho] at hrho'
 injection hrho' with e
 injection e with e1 e2
 subst e1; subst e2
 refine (eFew s g n cp (stp n y p).1 (stp n y p).2 A y w hlt hn hby hne hbe hce).mono fun e u ⟨v, he, hr, hc, hf⟩ => ?_
 have hc' : CE s u g A n cp (stp n y (p + 2)).1 (stp n y (p + 2)).2 := hc
 obtain ⟨q1, q2, q3⟩ := few_val (n := n) (y := y) cp A p
 have hr' : RatP u w.heap.size v (FE.lowI (fewN n y (stp n y p)) (fewD n y (stp n y p)).natAbs) := hr
 rw [q1, q2] at hr'
 have ez' : val z = _root_.mkRat ((((fixOf A n cp y).byte p % 21 : Nat) : Int) - 10) (fewNat ((fixOf A n cp y).byte (p + 1) % 5)) := by
  rw [ez, ← fix_of hp.gi, hfix]; rfl
 rw [low_is z q3 ez' gz.sm] at hr'
 have hn0 := hp.newT st.nt (Nat.le_refl _) (Nat.lt_succ_self _)
 have hp0 : Pre (toks val drw) E w st ⟨vB true, ⟨st.mem.set k0 (some ⟨curC (p + 2)⟩), st.nb, st.nt⟩, [k0], some [k0]⟩ := ⟨hp.gi, hp.blk, hp.inj, hp.newB, fun j h1 h2 => by have : j < st.nt := h2; omega⟩
 have h0 := cur_turned (x := .bool true) hst (hst.lt h4) hp0 hrho hfix hc' hf rfl
 obtain ⟨cs, hT, hv⟩ := rat_token (nt := st.nt) gz.kd gz.sm hr' (fun k p s hk => hp.gi.low k p s hk)
 exact ⟨v, _, he, out_newtok h0 hn0 hT hv⟩
end
open Go.RowKit Go.Joins Go.SX
set_option maxRecDepth 100000 in
set_option maxHeartbeats 1600000 in
theorem eNew31 (n c m : Nat) (A : Option Addr) (y : Nat → Int) (hn : n ≤ 1048576) (hm : m ≤ 1000) (hy : Byt y) (w : World) (h : BE w A n y) :
 Calls Tryz.prog 76 #[.slice A n c, .int .i64 m] w fun e u => ∃ g, e = .returned (.pointer (some ⟨g, 0, none⟩)) ∧ w.heap.size ≤ g ∧ g < u.heap.size ∧ CE 3 u g A n c (stp n y m).1 (stp n y m).2 ∧ Below w.heap.size w u := by
 have HN := Lib.hid (eNew n c A y hn hy w h)
 have HB := Lib.hid (show ∀ (u : World) (g i : Nat) (k : Int), w.heap.size ≤ g → g < u.heap.size → Below w.heap.size w u → CE 3 u g A n c i k → Calls Tryz.prog 156 #[.pointer (some ⟨g, 0, none⟩)] u (EB 3 g n c i k A y id u) from
  fun u g i k hg hgu hb hc => eByte 3 g n c i k A y u hgu hn hy (fun h0 a ha e => by obtain ⟨b, o, e', hlt, _⟩ := h h0; rw [ha] at e'; injection e' with e'; rw [e'] at e; simp only at e; omega)
   (h.same fun h0 a ha => hb.block _ (by obtain ⟨b, o, e', hlt, _⟩ := h h0; rw [ha] at e'; injection e' with e'; rw [e']; exact hlt)) hc)
 clear h hy
 go_enter Tryz.func76, Tryz.ntmps76
 go_wp2_with fail
 refine (HN.out).mono ?_
 rintro e w1 ⟨wr, hb, rfl, rfl⟩
 have hce : CE 3 (wr.alloc (.cells #[.slice A n c, .int .i64 0, .int .i64 (hsh n y (min n 4000))] 156)) wr.heap.size A n c (stp n y 0).1 (stp n y 0).2 :=
  ⟨Nat.zero_le _, by simp, by simp [stp], by simp [stp], fun o => by simp, _, _, heap_alloc_new _ _, rfl⟩
 have hsz := hb.size
 have hbb := below_trans hb (below_alloc1 wr (.cells #[.slice A n c, .int .i64 0, .int .i64 (hsh n y (min n 4000))] 156))
 have hg : wr.heap.size < (wr.alloc (.cells #[.slice A n c, .int .i64 0, .int .i64 (hsh n y (min n 4000))] 156)).heap.size := by simp
 generalize wr.alloc (.cells #[.slice A n c, .int .i64 0, .int .i64 (hsh n y (min n 4000))] 156) = w2 at *
 generalize wr.heap.size = g at *
 clear hb HN
 replace hce := Lib.hid hce
 go_wp2_with fail
 go_loopw [6] (fun z wr => ∃ j : Nat, j ≤ m ∧ z = .int .i64 j ∧ CE 3 wr g A n c (stp n y j).1 (stp n y j).2 ∧ g < wr.heap.size ∧ Below w.heap.size w wr) (fun z _ => m - (intOf z).toNat)
 case atStart => exact ⟨0, Nat.zero_le _, rfl, hce.out, hg, hbb⟩
 case round =>
  obtain ⟨j, hj, rfl, hc, hgw, hbw⟩ := hrel
  have HC := Lib.hid hc
  clear hc
  by_cases hjm : j = m
  ·subst hjm
   have h3 : True := trivial
   go_wp2
   go_ret
   exact ⟨g, rfl, hsz, hgw, HC.out, hbw⟩
  ·have hlt : (j : Int) < (m : Int) := by omega
   go_wp2_with fail
   refine (HB.out _ g _ _ hsz hgw hbw HC.out).mono ?_
   rintro e w3 ⟨rfl, hc3, hf3⟩
   have hc3 : CE 3 w3 g A n c (stp n y (j + 1)).1 (stp n y (j + 1)).2 := hc3
   replace hc3 := Lib.hid hc3
   have hb3 := hbw.trans (hf3.below hbw.size hsz)
   have hg3 := Nat.lt_of_lt_of_le hgw hf3.size
   clear hf3 HC
   go_wp2
   go_roundw
   case rel => exact ⟨j + 1, by omega, rfl, hc3.out, hg3, hb3⟩
   case measure => simp [intOf]; omega
def drawnL (n : Nat) (y : Nat → Int) (j : Nat) : List Int := (List.range j).map fun t => nxtB n y (stp n y (4 + t)) % 8
theorem drawnL_succ (n : Nat) (y : Nat → Int) (j : Nat) : drawnL n y (j + 1) = drawnL n y j ++ [nxtB n y (stp n y (4 + j)) % 8] := by
 unfold drawnL
 rw [List.range_succ, List.map_append]; rfl
def someK (n : Nat) (y : Nat → Int) : Nat := 1 + (nxtB n y (stp n y 3) % 3).toNat
theorem OI.cf {w w' : World} {base g : Nat} {v : Value} {xs : List Int} (h : OI w base v xs) (hf : CF g w w') (hg : g < base) : OI w' base v xs := by
 rcases h.2 with ⟨rfl, h0⟩ | ⟨k, cap, cur, rfl, hb, hh, hnc, hcm, hcs, htake⟩
 ·exact ⟨h.1, .inl ⟨rfl, h0⟩⟩
 ·refine ⟨h.1, .inr ⟨k, cap, cur, rfl, hb, ?_, hnc, hcm, hcs, htake⟩⟩
  rw [hf.block k ((Array.getElem?_eq_some_iff.1 hh).1) (by omega)]
  exact hh
set_option maxRecDepth 100000 in
set_option maxHeartbeats 1600000 in
theorem eSome (n c : Nat) (A : Option Addr) (y : Nat → Int) (hn : n ≤ 1048576) (hy : Byt y) (w : World) (h : BE w A n y) :
 Calls Tryz.prog 24 #[.slice A n c, .int .i64 3] w fun e u => ∃ v, e = .returned v ∧ RO u w.heap.size v (drawnL n y (someK n y)) ∧ Below w.heap.size w u := by
 have HN := Lib.hid (eNew31 n c 3 A y hn (by decide) hy w h)
 have HB := Lib.hid (show ∀ (u : World) (g i : Nat) (k m : Int), 1 ≤ m → m ≤ 256 → w.heap.size ≤ g → g < u.heap.size → Below w.heap.size w u → CE 3 u g A n c i k → Calls Tryz.prog 77 #[.pointer (some ⟨g, 0, none⟩), .int .i64 m] u (EB 3 g n c i k A y (fun x => x % m) u) from
  fun u g i k m h1 h2 hg hgu hb hc => eBelow 3 g n c i k A y m h1 h2 u hgu hn hy (fun h0 a ha e => by obtain ⟨b, o, e', hlt, _⟩ := h h0; rw [ha] at e'; injection e' with e'; rw [e'] at e; simp only at e; omega)
   (h.same fun h0 a ha => hb.block _ (by obtain ⟨b, o, e', hlt, _⟩ := h h0; rw [ha] at e'; injection e' with e'; rw [e']; exact hlt)) hc)
 have HX := nxtB_in n y (stp n y 3)
 have HK := Lib.hid (show (someK n y : Int) = 1 + nxtB n y (stp n y 3) % 3 by unfold someK; omega)
 have HK3 : someK n y ≤ 3 := by unfold someK; omega
 generalize someK n y = K at *
 clear h hy HX
 go_enter Tryz.func24, Tryz.ntmps24
 go_wp2_with fail
 refine (HN.out).mono ?_
 rintro e w1 ⟨g, rfl, hg, hg1, hc1, hb1⟩
 replace hc1 := Lib.hid hc1
 clear HN
 go_wp2_with fail
 have al := below_alloc1 w1 (.cells #[] 3)
 have hA : Arr (w1.alloc (.cells #[] 3)) w1.heap.size 0 [] := ⟨[], rfl, Nat.zero_le _, heap_alloc_new _ _⟩
 have hO := OI.of_arr (base := g + 1) hA hg1
 have hb2 := below_trans hb1 al
 have hc2 := hc1.out.later hg1 al
 have hg2 : g < (w1.alloc (.cells #[] 3)).heap.size := by simp; omega
 refine (HB.out _ g _ _ 3 (by decide) (by decide) hg hg2 hb2 hc2).mono ?_
 rintro e w3 ⟨he, hc3, hf3⟩
 obtain ⟨q, hq⟩ : ∃ q, nxtB n y (stp n y 3) % 3 = q := ⟨_, rfl⟩
 have he : e = .returned (.int .i64 q) := by rw [he]; exact congrArg (fun x => Ending.returned (.int .i64 x)) hq
 subst he
 have hK := HK.out
 rw [hq] at hK
 have hc3 : CE 3 w3 g A n c (stp n y 4).1 (stp n y 4).2 := hc3
 have hO3 : OI w3 (g + 1) (.slice (some ⟨w1.heap.size, 0, none⟩) 0 0) (drawnL n y 0) := hO.cf hf3 (Nat.lt_succ_self g)
 have hb3 := hb2.trans (hf3.below hb2.size hg)
 have hg3 := Nat.lt_of_lt_of_le hg2 hf3.size
 clear hq hA hO al hb1 hb2 hc2 hg2 hc1 HK hf3
 replace hc3 := Lib.hid hc3
 replace hO3 := Lib.hid hO3
 replace hb3 := Lib.hid hb3
 go_wp2_with fail
 go_loopw [6, 7] (fun v z wr => ∃ j : Nat, j ≤ K ∧ z = .int .i64 ((K : Int) - j) ∧ OI wr (g + 1) v (drawnL n y j) ∧ CE 3 wr g A n c (stp n y (4 + j)).1 (stp n y (4 + j)).2 ∧ g < wr.heap.size ∧ Below w.heap.size w wr) (fun _ z _ => (intOf z).toNat)
 case atStart => exact ⟨0, Nat.zero_le _, by rw [show ((K : Int) - ((0 : Nat) : Int)) = 1 + q by omega], hO3.out, hc3.out, hg3, hb3.out⟩
 case round =>
  obtain ⟨j, hj, rfl, hO, hc, hgw, hbw⟩ := hrel
  have HC := Lib.hid hc
  have HO := Lib.hid hO
  clear hc hO
  by_cases hjm : j = K
  ·subst hjm
   have h3 : ¬ ((j : Int) - (j : Int) > 0) := by omega
   go_wp2
   go_ret
   exact ⟨_, rfl, (RO.of_own HO.out).mono (by omega), hbw⟩
  ·have hlt : ((K : Int) - (j : Int) > 0) := by omega
   go_wp2_with fail
   refine (HB.out _ g _ _ 8 (by decide) (by decide) hg hgw hbw HC.out).mono ?_
   rintro e w4 ⟨he, hc4, hf4⟩
   obtain ⟨x, hx⟩ : ∃ x, nxtB n y (stp n y (4 + j)) % 8 = x := ⟨_, rfl⟩
   have he : e = .returned (.int .i64 x) := by rw [he]; exact congrArg (fun x => Ending.returned (.int .i64 x)) hx
   subst he
   have HS := Lib.hid (show drawnL n y (j + 1) = drawnL n y j ++ [x] by rw [drawnL_succ, hx])
   clear hx
   have hc4 : CE 3 w4 g A n c (stp n y (4 + (j + 1))).1 (stp n y (4 + (j + 1))).2 := hc4
   replace hc4 := Lib.hid hc4
   have hb4 := hbw.trans (hf4.below hbw.size hg)
   have hg4 := Nat.lt_of_lt_of_le hgw hf4.size
   have HO4 := Lib.hid (HO.out.cf hf4 (Nat.lt_succ_self g))
   clear hf4 HO HC
   have hlen : (drawnL n y j).length = j := by simp [drawnL]
   go_wp2_with (at_builtin; refine append1 rfl _ _ _ rfl Tryz.underlying28 Tryz.intInfo (g + 1) _ (drawnL n y j) rfl (HO4.out.alloc _) ⟨w4.heap.size, 0, none⟩ _ rfl (cell_new1 _ _ _) (by omega) (by simp; omega) ?_)
   intro v5 w5 hO5 hb5
   have hO5 : OI w5 (g + 1) v5 (drawnL n y (j + 1)) := by rw [HS.out]; exact hO5
   have hb45 : Below (g + 1) w4 w5 := ((Below.refl _ w4).alloc hg4 _).trans hb5
   have hc5 := hc4.out.same (hb45.block g (Nat.lt_succ_self g))
   have hb6 := hb4.trans (hb45.mono (by omega))
   have hg5 := Nat.lt_of_lt_of_le hg4 hb45.size
   replace hc5 := Lib.hid hc5
   replace hO5 := Lib.hid hO5
   clear HO4 hc4 hb4 hb5 hb45
   go_wp2
   go_roundw
   case rel => exact ⟨j + 1, by omega, congrArg (Value.int .i64) (by omega), hO5.out, hc5.out, hg5, hb6⟩
   case measure => simp [intOf]; omega
open Go.RowKit Go.Joins Go.SX
theorem boolInfo : (Tryz.prog.info? 4).map (fun i => (i.zero, i.size, i.bytes)) = some (some (.bool false), 1, 1) := by kernel_rfl
theorem madeCells_bool (n : Nat) : madeCells #[.bool false] n = ((List.replicate n false).map Value.bool).toArray := by
 unfold madeCells
 apply Array.ext
 ·simp
 ·intro i h1 h2
  simp [Nat.mod_one]
def flags (xs : List Int) (n : Nat) : List Bool := (List.range n).map fun (i : Nat) => decide ((i : Int) ∈ xs)
theorem flags_nil (n : Nat) : flags [] n = List.replicate n false := by
 unfold flags
 apply List.ext_getElem
 ·simp
 ·intro i h1 h2
  simp
theorem flags_in {xs : List Int} {n k : Nat} : flags (xs ++ [(k : Int)]) n = (flags xs n).set k true := by
 unfold flags
 apply List.ext_getElem
 ·simp
 ·intro i h1 h2
  rw [List.getElem_set]
  by_cases h : k = i
  ·subst h; simp
  ·have : (i : Int) ≠ (k : Int) := by omega
   simp [h, this]
theorem flags_out {xs : List Int} {n : Nat} {x : Int} (h : inB x 0 ((n : Int) - 1) = false) : flags (xs ++ [x]) n = flags xs n := by
 unfold flags
 apply List.ext_getElem
 ·simp
 ·intro i h1 h2
  have hi : i < n := by simpa using h1
  have : (i : Int) ≠ x := by
   intro e
   subst e
   unfold inB at h
   have h5 : (0 : Int) ≤ (i : Int) := by omega
   have h6 : (i : Int) ≤ (n : Int) - 1 := by omega
   simp [h6] at h
  simp [this]
theorem make_bools {P : Program} {ops : Array Oper} {rest : List Oper} {o : Oper} {a : Act} {w : World} {Q : Exit → Act → World → Prop} (hgd : o.guard = none) (l c : Operand) (T e : TypeId)
 (hop : o.op = Op.makeSlice T l c) (ht : P.underlying T = some (.slice e)) (hinfo : (P.info? e).map (fun i => (i.zero, i.size, i.bytes)) = some (some (.bool false), 1, 1))
 (n : Nat) (x y : Int) (hl : a.eval l = .int .i64 x) (hc : a.eval c = .int .i64 y) (hx : x = n) (hy : y = n) (hk : n ≤ 1099511627)
 (h : wpList P ops Q rest (a.put o.dst (.slice (some ⟨w.heap.size, 0, none⟩) n n)) (w.alloc (.cells (Array.replicate n (Value.bool false)) e))) : wpList P ops Q (o :: rest) a w := by
 cases hi : P.info? e with
 | none => rw [hi] at hinfo; simp at hinfo
 | some i =>
  rw [hi] at hinfo
  simp only [Option.map_some, Option.some.injEq, Prod.mk.injEq] at hinfo
  obtain ⟨hz0, hz1, hz2⟩ := hinfo
  subst hx; subst hy
  refine wpList_plain hgd fun K hK' => ?_
  have hrun := run_make (P := P) w T e i _ ht hi hz0 .i64 .i64 (n : Int) (n : Int) (by omega) (by omega) (by rw [hz2]; omega) (by omega)
  simp only [Int.toNat_natCast, hz1, Nat.mul_one] at hrun
  have hm : madeCells #[.bool false] n = Array.replicate n (Value.bool false) := by rw [madeCells_bool]; simp
  rw [← hm] at h
  unfold Oper.wp
  simp [execOp, hop, hl, hc, hrun, Result.andThen]
  exact hK' _ _ h
def BArr (w : World) (g : Nat) (bs : List Bool) : Prop := w.heap[g]? = some (.cells (bs.map Value.bool).toArray 4 (0, 0))
theorem BArr.set {w : World} {g : Nat} {bs : List Bool} (h : BArr w g bs) (i : Nat) (b : Bool) : BArr (w.setCell ⟨g, i, none⟩ (.bool b)) g (bs.set i b) := by
 unfold BArr at *
 simp only [World.setCell, Array.getElem?_modify, h, if_true]
 simp [List.map_set]
theorem BArr.cell {w : World} {g : Nat} {bs : List Bool} (h : BArr w g bs) (i : Nat) (hi : i < bs.length) : w.cell? ⟨g, i, none⟩ = some (.bool bs[i]) := by
 rw [cell_of_row w g i _ _ (0, 0) h]
 simp [hi]
theorem BArr.froz {w : World} {g : Nat} {bs : List Bool} (h : BArr w g bs) (i : Nat) : w.frozen? ⟨g, i, none⟩ = false := frozen_of_row _ _ _ _ _ h
set_option maxRecDepth 100000 in
set_option maxHeartbeats 1600000 in
theorem eMarked (xs : List Int) (l n c : Nat) (A : Option Addr) (w : World) (hl : xs.length = l) (hl2 : l ≤ 1000) (hn : n ≤ 1000) (hA : RI w A xs) :
 Calls Tryz.prog 221 #[.slice A l c, .int .i64 n] w fun e u => e = .returned (.slice (some ⟨w.heap.size, 0, none⟩) n n) ∧ BArr u w.heap.size (flags xs n) ∧ Below w.heap.size w u := by
 have HL := Lib.hid hl
 clear hl
 go_enter Tryz.func221, Tryz.ntmps221
 go_wp2_with (at_make; refine make_bools rfl _ _ _ 4 rfl Tryz.underlying161 boolInfo n _ _ rfl rfl rfl rfl (by omega) ?_)
 have hb0 : BArr (w.alloc (.cells (Array.replicate n (Value.bool false)) 4)) w.heap.size (flags (xs.take 0) n) := by
  unfold BArr
  rw [heap_alloc_new, List.take_zero, flags_nil]
  simp
 have hbel0 := below_alloc1 w (.cells (Array.replicate n (Value.bool false)) 4)
 have hA0 := hA.later hbel0
 have hlt0 : w.heap.size < (w.alloc (.cells (Array.replicate n (Value.bool false)) 4)).heap.size := by simp
 generalize w.alloc (.cells (Array.replicate n (Value.bool false)) 4) = w1 at *
 obtain ⟨g, hg⟩ : ∃ g, w.heap.size = g := ⟨_, rfl⟩
 rw [hg] at hb0 hlt0 hbel0 ⊢
 have HG := Lib.hid hg
 clear hg
 replace hb0 := Lib.hid hb0
 replace hbel0 := Lib.hid hbel0
 go_wp2_with fail
 go_loopw [12] (fun z wr => ∃ k : Nat, k ≤ l ∧ z = .int .i64 k ∧ BArr wr g (flags (xs.take k) n) ∧ Below g w wr ∧ g < wr.heap.size) (fun z _ => l - (intOf z).toNat)
 case atStart => exact ⟨0, Nat.zero_le _, rfl, hb0.out, hbel0.out, hlt0⟩
 case round =>
  obtain ⟨k, hk, rfl, hb, hbel, hlt⟩ := hrel
  have HB := Lib.hid hb
  have HBel := Lib.hid hbel
  clear hb hbel
  by_cases hkl : k = l
  ·subst hkl
   have h3 : True := trivial
   have HT := Lib.hid (show flags (xs.take k) n = flags xs n by rw [List.take_of_length_le (by rw [HL.out]; exact Nat.le_refl _)])
   go_wp2
   go_ret
   have hG := HG.out
   subst hG
   exact ⟨rfl, by rw [← HT.out]; exact HB.out, HBel.out⟩
  ·have hkl' : (k : Int) < (l : Int) := by omega
   have hl := HL.out
   obtain ⟨b, o, rfl, hb1, hc1⟩ := hA (by intro e; rw [e] at hl; simp at hl; omega)
   have hbg : b < g := by have := HG.out; omega
   have e1 : wr.cell? ⟨b, o + k, none⟩ = some (.int .i64 (xs.getD k 0)) := (World.cell?_of_block (w := w) (HBel.out.block b hbg)).trans (hc1 k (by omega))
   have hstep : xs.take (k + 1) = xs.take k ++ [xs.getD k 0] := by rw [List.take_succ_eq_append_getElem (by omega)]; simp [show k < xs.length by omega]
   generalize xs.getD k 0 = x at *
   have HS := Lib.hid hstep
   clear hstep hc1 hl
   obtain ⟨q, hq⟩ : ∃ q, inB x 0 ((n : Int) - 1) = q := ⟨_, rfl⟩
   have HW := Lib.hid (iWithin x 0 ((n : Int) - 1))
   rw [hq] at HW
   have HQ := Lib.hid hq
   clear hq
   go_wp2_with fail
   refine (HW.out _).mono ?_
   rintro e w5 ⟨rfl, rfl⟩
   cases q with
   | false =>
    go_wp2
    go_roundw
    case rel => exact ⟨k + 1, by omega, rfl, by rw [HS.out, flags_out HQ.out]; exact HB.out, HBel.out, hlt⟩
    case measure => simp [intOf]; omega
   | true =>
    have hx := HQ.out
    unfold inB at hx
    simp only [Bool.and_eq_true, decide_eq_true_eq] at hx
    obtain ⟨m, rfl⟩ : ∃ m : Nat, x = (m : Int) := ⟨x.toNat, by omega⟩
    have hm : (m : Int) < (n : Int) := by omega
    obtain ⟨vb, hz⟩ : ∃ v, w5.cell? ⟨g, m, none⟩ = some (.bool v) := ⟨_, HB.out.cell m (by simp [flags]; omega)⟩
    have hfr := HB.out.froz m
    have HF := Lib.hid (HB.out.set m true)
    rw [← flags_in, ← HS.out] at HF
    clear HW
    have hlt2 : g < (w5.setCell ⟨g, m, none⟩ (.bool true)).heap.size := by simpa [World.setCell] using hlt
    have HB2 := Lib.hid (HBel.out.setCell (p := ⟨g, m, none⟩) (Nat.le_refl g) (.bool true))
    go_wp2
    go_roundw
    case rel => exact ⟨k + 1, by omega, rfl, HF.out, HB2.out, hlt2⟩
    case measure => simp [intOf]; omega
open Go.RowKit Go.Joins Go.SX
def someL (fx : Fix) : List Int := (List.range (1 + fx.byte 3 % 3)).map fun (t : Nat) => ((fx.byte (4 + t) % 8 : Nat) : Int)
def SetOk (fx : Fix) (s : Nat) : Prop := ∀ i : Nat, 2 ^ (i + 1) ≤ s → ((i : Int) ∈ someL fx ↔ s.testBit i = true)
theorem someL_eq {n : Nat} {y : Nat → Int} (c : Nat) (A : Option Addr) : someL (fixOf A n c y) = drawnL n y (someK n y) := by
 unfold someL drawnL
 have hk : someK n y = 1 + (fixOf A n c y).byte 3 % 3 := by
  unfold someK
  rw [byte_nat c A 3]
  omega
 rw [hk]
 apply List.map_congr_left
 intro t _
 rw [byte_nat c A (4 + t), Int.natCast_emod]
 rfl
noncomputable def bitAt (s i : Nat) : Bool := Nat.beq (Nat.mod (Nat.div s (Nat.pow 2 i)) 2) 1
theorem bitAt_eq (s i : Nat) : bitAt s i = s.testBit i := by
 rw [Nat.testBit_eq_decide_div_mod_eq]
 show (s / 2 ^ i % 2).beq 1 = _
 rw [Bool.eq_iff_iff]
 simp [Nat.beq_eq]
noncomputable def flagC (f : Nat → Bool) (n : Nat) : List C → List C := @Nat.rec (fun _ => List C → List C) (fun l => l) (fun i ih l => ih (.bool (f i) :: l)) n
theorem flagC_eq (f : Nat → Bool) : ∀ (n : Nat) (l : List C), flagC f n l = ((List.range n).map fun i => C.bool (f i)) ++ l
 | 0, l => rfl
 | n + 1, l => by
  show flagC f n (.bool (f n) :: l) = _
  rw [flagC_eq f n, List.range_succ, List.map_append, List.append_assoc]
  rfl
noncomputable def memI (xs : List Int) (i : Nat) : Bool := @List.rec Int (fun _ => Bool) false (fun x _ ih => bi (ibeq x (Int.ofNat i)) true ih) xs
theorem memI_eq (i : Nat) : ∀ xs : List Int, memI xs i = decide ((i : Int) ∈ xs)
 | [] => by simp [memI]
 | x :: xs => by
  show bi (ibeq x (Int.ofNat i)) true (memI xs i) = _
  rw [memI_eq i xs, ibeq_eq]
  by_cases h : x = (i : Int)
  ·subst h; simp
  ·have h1 : (x == Int.ofNat i) = false := by simpa using h
   have h2 : (i : Int) ≠ x := fun e => h e.symm
   rw [h1]
   simp [h2]
noncomputable def intsN (n : Nat) : List C → Option (List Int) :=
 @Nat.rec (fun _ => List C → Option (List Int)) (fun _ => some []) (fun _ ih l => List.casesOn l none fun a l => ob (cInt a) fun a => ob (ih l) fun r => some (a :: r)) n
theorem intsN_inv : ∀ (n : Nat) (l : List C) (xs : List Int), intsN n l = some xs → xs.length = n ∧ ∀ i, i < n → l[i]? = some (.int (xs.getD i 0))
 | 0, l, xs, h => by
  injection (show some [] = some xs from h) with h
  subst h
  exact ⟨rfl, fun i h => by omega⟩
 | n + 1, l, xs, h => by
  match l, h with
  | a :: l, h =>
   obtain ⟨a', h1, h⟩ := ob_inv (show ob (cInt a) (fun a => ob (intsN n l) fun r => some (a :: r)) = some xs from h)
   obtain ⟨r, h2, h⟩ := ob_inv h
   injection h with h
   subst h
   obtain ⟨k1, k2⟩ := intsN_inv n l r h2
   rw [cInt_inv h1]
   refine ⟨by simp [k1], fun i hi => ?_⟩
   cases i with
   | zero => rfl
   | succ i => simpa using k2 i (by omega)
  | [], h => cases h
noncomputable def asSet (c : C) : Option Nat := match c with | .cell _ i x => bi (Nat.beq i 0) (bi (Nat.beq x.kd 1) (some x.den) none) none | _ => none
noncomputable def isThree (c : C) : Bool := match c with | .int i => ibeq i 3 | _ => false
noncomputable def orSome (s : Nat) (l : List V) (st : St) : Option R :=
 ob (two l) fun q => bi (isCode q.1) (bi (isThree q.2) (some ⟨.s (.c (.cell st.nt 0 ⟨1, s, []⟩)), ⟨st.mem, st.nb, Nat.add st.nt 1⟩, [], some []⟩) none) none
noncomputable def orMarkT (l : List V) (st : St) : Option R :=
 ob (two l) fun q => ob (asSet q.1) fun s => ob (toN q.2) fun n => bi (Nat.ble n 64) (bi (Nat.ble (Nat.pow 2 n) s) (alloc st (flagC (bitAt s) n []) fun k => .sl k 0 n 1) none) none
noncomputable def marksOf (c : C) (st : St) : Option (List Int) :=
 match c with
 | .nsl => some []
 | .sl k o n _z => bi (Nat.beq o 0) (bi (Nat.ble n 1000) (ob (st.mem.get k) fun b => intsN n b.cells) none) none
 | _ => none
noncomputable def marksAt (c : C) : List Nat :=
 match c with
 | .sl k _ _ _ => [k]
 | _ => []
noncomputable def orMarkL (l : List V) (st : St) : Option R :=
 ob (two l) fun q => ob (marksOf q.1 st) fun xs => ob (toN q.2) fun n => bi (Nat.ble n 1000) (bi (Nat.ble (Nat.add st.nb 1) 8388608)
  (some ⟨.s (.c (.sl st.nb 0 n 1)), ⟨st.mem.set st.nb (some ⟨flagC (memI xs) n []⟩), Nat.add st.nb 1, st.nt⟩, [], some (marksAt q.1)⟩) none) none
section
variable {val : X → Rat} {drw : Drw} {E : Env} {w u : World} {st : St}
theorem isThree_inv {c : C} (h : isThree c = true) : c = .int 3 := by
 unfold isThree at h
 split at h
 ·rw [ibeq_eq, beq_iff_eq] at h; rw [h]
 ·cases h
theorem isCode_inv {c : C} (h : isCode c = true) : c = .code := by
 unfold isCode at h
 split at h
 ·rfl
 ·cases h
theorem asSet_inv {c : C} {s : Nat} (h : asSet c = some s) : ∃ j x, c = .cell j 0 x ∧ x.kd = 1 ∧ x.den = s := by
 unfold asSet at h
 split at h
 ·obtain ⟨h1, h⟩ := bi_inv h
  obtain ⟨h2, h⟩ := bi_inv h
  injection h with h
  rw [beq_inv h1]
  exact ⟨_, _, rfl, beq_inv h2, h⟩
 ·cases h
theorem orSome_ok {s : Nat} (hs : SetOk drw.fx s) : OrcOne Tryz.prog (toks val drw) 24 (orSome s) := by
 intro vl st r hr hst
 obtain ⟨q, h1, hr⟩ := ob_inv hr
 obtain ⟨h2, hr⟩ := bi_inv hr
 obtain ⟨h3, hr⟩ := bi_inv hr
 injection hr with hr
 subst hr
 refine ⟨⟨Nat.le_refl _, Nat.le_succ _, fun _ _ _ => rfl, fun k hk => by simp at hk, ⟨hst.nb, hst.dom⟩, fun l hl k hk => by simp at hk⟩, Tryz.call24, fun E w vs hrel hp => ?_⟩
 obtain ⟨x1, x2, rfl, hv1, hv2⟩ := two_inv h1 hrel
 rw [isCode_inv h2] at hv1
 rw [isThree_inv h3] at hv2
 have hv2 : x2 = .int .i64 3 := hv2
 subst hv2
 obtain ⟨hv, _, _⟩ := hv1
 obtain ⟨G, hG, A, n, cp, y, hfix, hbe, hby, hn, hfoot, hdr⟩ := id hp.gi.base
 rw [hfix] at hv
 have hv' : x1 = .slice A n cp := hv
 subst hv'
 refine (eSome n cp A y hn hby w hbe).mono fun e u ⟨v, he, hro, hb⟩ => ?_
 rw [← someL_eq cp A, ← hfix, fix_of hp.gi] at hro
 have hlen : (someL drw.fx).length ≤ 3 := by
  unfold someL
  rw [List.length_map, List.length_range]
  have : drw.fx.byte 3 % 3 < 3 := Nat.mod_lt _ (by decide)
  omega
 obtain ⟨B, c, rfl, g1, g2, _⟩ := id hro
 have f1 := ro_fresh hro
 have hn0 := hp.newT st.nt (Nat.le_refl _) (Nat.lt_succ_self _)
 have h0 : Out (toks val drw) E w st ⟨vB true, ⟨st.mem, st.nb, st.nt⟩, [], some []⟩ E u (.bool true) := out_below hp.gi hb rfl
 refine ⟨_, _, he, out_newtok (cs := ⟨#[.slice B (someL drw.fx).length c], ⟨1, s, []⟩⟩) h0 hn0 ⟨(match B with | some a => if someL drw.fx = [] then [] else [a.block] | none => []), fun b hbm => ?_, ?_⟩ ?_⟩
 ·have key : w.heap.size ≤ b ∧ b < u.heap.size := by
   cases B with
   | none => simp at hbm
   | some a =>
    by_cases hx : someL drw.fx = []
    ·simp [hx] at hbm
    ·simp [hx] at hbm
     subst hbm
     exact f1 hx a rfl
  exact ⟨key.2, fun k s hk => by have := hp.gi.low k b s hk; omega⟩
 ·unfold TVal
  rw [if_pos rfl]
  refine ⟨B, c, _, rfl, by omega, g1, g2, hro.reads, fun i hi => hs i hi, fun a ha hx => ?_⟩
  subst ha; simp [hx]
 ·exact ⟨⟨#[.slice B (someL drw.fx).length c], ⟨1, s, []⟩⟩, by simp [addT], ⟨rfl, rfl⟩, by simp, by simp⟩
theorem marked_out {xs : List Int} {n l c : Nat} {A : Option Addr} {f : Nat → Bool} {rd : Option (List Nat)} (_hst : StOk st) (hnb : st.nb + 1 ≤ 8388608) (hf : ∀ i, i < n → f i = decide ((i : Int) ∈ xs)) (hl : xs.length = l) (hl2 : l ≤ 1000) (hn : n ≤ 1000) (hA : RI w A xs)
 (hp : Pre (toks val drw) E w st ⟨.s (.c (.sl st.nb 0 n 1)), ⟨st.mem.set st.nb (some ⟨flagC f n []⟩), st.nb + 1, st.nt⟩, [], rd⟩) :
 Calls Tryz.prog 221 #[.slice A l c, .int .i64 n] w fun e u => ∃ v F, e = .returned v ∧ Out (toks val drw) E w st ⟨.s (.c (.sl st.nb 0 n 1)), ⟨st.mem.set st.nb (some ⟨flagC f n []⟩), st.nb + 1, st.nt⟩, [], rd⟩ F u v := by
 refine (eMarked xs l n c A w hl hl2 hn hA).mono fun e u ⟨he, hb, hbel⟩ => ?_
 have hfl : flagC f n [] = (flags xs n).map C.bool := by
  rw [flagC_eq, List.append_nil]
  unfold flags
  rw [List.map_map]
  apply List.map_congr_left
  intro i hi
  rw [List.mem_range] at hi
  rw [hf i hi]; rfl
 have hlen : (flags xs n).length = n := by simp [flags]
 have hrel : ∀ bs : List Bool, RelL E (bs.map C.bool) (bs.map Value.bool) := by
  intro bs
  induction bs with
  | nil => trivial
  | cons b bs ih => exact ⟨rfl, ih⟩
 refine ⟨_, _, he, out_fresh (cs := flagC f n []) (arr := ((flags xs n).map Value.bool).toArray) (ty := 4) ?_ (fun k hk => by simp at hk) hp hbel hb ?_ ⟨w.heap.size, _, n, addB_same _ _, rfl, Nat.le_refl _, by simp [hlen], by omega⟩⟩
 ·rw [get_set _ _ _ _ (by omega), if_pos rfl]
 ·rw [hfl]
  exact (hrel _).toF
theorem orMarkT_ok : OrcOne Tryz.prog (toks val drw) 221 orMarkT := by
 intro vl st r hr hst
 obtain ⟨q, h1, hr⟩ := ob_inv hr
 obtain ⟨s, h2, hr⟩ := ob_inv hr
 obtain ⟨n, h3, hr⟩ := ob_inv hr
 obtain ⟨h4, hr⟩ := bi_inv hr
 obtain ⟨h5, hr⟩ := bi_inv hr
 obtain ⟨hnb, rfl⟩ := alloc_inv hr
 have h4 := ble_inv h4
 have h5 : 2 ^ n ≤ s := ble_inv h5
 refine ⟨eff_alloc hst hnb, Tryz.call221, fun E w vs hrel hp => ?_⟩
 obtain ⟨x1, x2, rfl, hv1, hv2⟩ := two_inv h1 hrel
 rw [toN_inv h3] at hv2
 have hv2 : x2 = .int .i64 n := hv2
 subst hv2
 obtain ⟨j, x, hx, hk, hd⟩ := asSet_inv h2
 rw [hx] at hv1
 obtain ⟨cs, hsig, ⟨hcx, hc0⟩, _, _⟩ := hv1
 obtain ⟨G, hG, hT⟩ := hp.gi.tok j cs hsig
 have hT : TVal val j G w cs := hT
 unfold TVal at hT
 rw [if_pos (by rw [hcx]; exact hk)] at hT
 obtain ⟨A, c, xs, e, g1, g2, g3, g4, g5, g6⟩ := hT
 rw [e] at hc0
 simp at hc0
 subst hc0
 refine marked_out hst hnb (fun i hi => ?_) rfl (by omega) (by omega) g4 hp
 have hp2 : 2 ^ (i + 1) ≤ s := Nat.le_trans (Nat.pow_le_pow_right (by decide) hi) h5
 rw [hcx, hd] at g5
 have := g5 i hp2
 rw [bitAt_eq]
 by_cases hb : s.testBit i = true
 ·rw [hb]; simp [this.2 hb]
 ·have h6 : s.testBit i = false := by simpa using hb
  rw [h6]
  have : ¬ (i : Int) ∈ xs := fun h => hb (this.1 h)
  simp [this]
theorem orMarkL_ok : OrcOne Tryz.prog (toks val drw) 221 orMarkL := by
 intro vl st r hr hst
 obtain ⟨q, h1, hr⟩ := ob_inv hr
 obtain ⟨xs, h2, hr⟩ := ob_inv hr
 obtain ⟨n, h3, hr⟩ := ob_inv hr
 obtain ⟨h4, hr⟩ := bi_inv hr
 obtain ⟨hnb, hr⟩ := bi_inv hr
 injection hr with hr
 subst hr
 have h4 := ble_inv h4
 have hnb : st.nb + 1 ≤ 8388608 := ble_inv hnb
 refine ⟨eff_alloc hst hnb, Tryz.call221, fun E w vs hrel hp => ?_⟩
 obtain ⟨x1, x2, rfl, hv1, hv2⟩ := two_inv h1 hrel
 rw [toN_inv h3] at hv2
 have hv2 : x2 = .int .i64 n := hv2
 subst hv2
 generalize hq : q.1 = c1 at *
 cases c1 with
 | nsl =>
  injection (show some [] = some xs from h2) with h2
  subst h2
  have hv1 : x1 = .slice none 0 0 := hv1
  subst hv1
  exact marked_out (xs := []) hst hnb (fun i hi => by rw [memI_eq]) rfl (by omega) h4 (fun h => absurd rfl h) hp
 | sl k o l z =>
  obtain ⟨g1, m1⟩ := bi_inv (show bi (Nat.beq o 0) (bi (Nat.ble l 1000) (ob (st.mem.get k) fun b => intsN l b.cells) none) none = some xs from h2)
  obtain ⟨g2, m2⟩ := bi_inv m1
  obtain ⟨b, g3, m3⟩ := ob_inv m2
  have g1 := beq_inv g1
  subst g1
  obtain ⟨k1, k2⟩ := intsN_inv _ _ _ m3
  obtain ⟨p, s, cp, hrho, rfl, _⟩ := hv1
  obtain ⟨p', s', arr, ty, hrho', hh, hs, hrl⟩ := hp.blk k b (by simp [inR, marksAt]) g3
  rw [hrho] at hrho'
  injection hrho' with e
  injection e with e1 e2
  subst e1; subst e2
  refine marked_out hst hnb (fun i hi => by rw [memI_eq]) k1 (ble_inv g2) h4 (fun _ => ⟨p, 0, rfl, hp.gi.low _ _ _ hrho, fun i hi => ?_⟩) hp
  obtain ⟨x, j1, j2⟩ := hrl.get i _ (k2 i (by omega))
  have j2 : x = .int .i64 (xs.getD i 0) := j2
  rw [cell_of hh, ← j2, ← j1, Array.getElem?_toList, Nat.zero_add]
 | _ => cases h2
end
open Go.RowKit Go.Joins Go.SX
noncomputable def tabF (l : List (Nat × Nat × Nat)) (p m : Nat) : Option Nat := @List.rec (Nat × Nat × Nat) (fun _ => Option Nat) none (fun a _ ih => bi (Nat.beq a.1 p) (bi (Nat.beq a.2.1 m) (some a.2.2) ih) ih) l
theorem tabF_inv {p m r : Nat} : ∀ {l : List (Nat × Nat × Nat)}, tabF l p m = some r → (p, m, r) ∈ l
 | [], h => by cases h
 | a :: l, h => by
  have h : bi (Nat.beq a.1 p) (bi (Nat.beq a.2.1 m) (some a.2.2) (tabF l p m)) (tabF l p m) = some r := h
  cases h1 : Nat.beq a.1 p with
  | false => rw [h1] at h; exact List.mem_cons_of_mem _ (tabF_inv (show tabF l p m = some r from h))
  | true =>
   rw [h1] at h
   cases h2 : Nat.beq a.2.1 m with
   | false => rw [h2] at h; exact List.mem_cons_of_mem _ (tabF_inv (show tabF l p m = some r from h))
   | true =>
    rw [h2] at h
    injection h with h
    obtain ⟨x, y, z⟩ := a
    rw [← beq_inv h1, ← beq_inv h2, ← h]
    exact List.mem_cons_self
def noBlk : Nat → Option (Nat × Nat) := fun _ => none
def noTok : Nat → Option TokD := fun _ => none
theorem prog_ok : ProgOk Tryz.prog := by
 refine ⟨by kernel_rfl, fun f fn h => ?_⟩
 have ha : allB (fun fn : Func => !(fn.name == "runtime.NumGoroutine")) Tryz.prog.funcs.toList = true := by kernel_rfl
 have hm : fn ∈ Tryz.prog.funcs.toList := by
  rw [← Array.getElem?_toList] at h
  exact List.mem_of_getElem? h
 have := allB_inv ha fn hm
 simpa using this
theorem call_ok {val : X → Rat} {drw : Drw} {orc : Orcs} (ho : OrcOk Tryz.prog (toks val drw) orc) : CallOk Tryz.prog (toks val drw) (evCall Tryz.prog orc 100000 40) := evCall_ok prog_ok ho 100000 40
theorem be_of_bi {w : World} {A : Option Addr} {n : Nat} (h : BI w A n) : ∃ y, Byt y ∧ BE w A n y := by
 by_cases hn : n = 0
 ·exact ⟨fun _ => 0, fun _ => ⟨Int.le_refl 0, (by omega : (0 : Int) < 256)⟩, fun h => absurd hn h⟩
 ·obtain ⟨b, o, rfl, hlt, hc⟩ := h hn
  have hc' : ∀ j, ∃ x : Int, (0 ≤ x ∧ x < 256) ∧ (j < n → w.cell? ⟨b, o + j, none⟩ = some (.int .u8 x)) := by
   intro j
   by_cases hj : j < n
   ·obtain ⟨x, h1, h2⟩ := hc j hj
    exact ⟨x, h1, fun _ => h2⟩
   ·exact ⟨0, by decide, fun h => absurd h hj⟩
  refine ⟨fun j => (hc' j).choose, fun j => (hc' j).choose_spec.1, fun _ => ⟨b, o, rfl, hlt, fun j hj => (hc' j).choose_spec.2 hj⟩⟩
open Go.RowKit Go.Joins Go.SX
set_option maxRecDepth 1000000
noncomputable def tks (t n : Nat) : List C := @Nat.rec (fun _ => Nat → List C) (fun _ => []) (fun _ ih t => .cell t 0 (stepX t) :: .cell t 1 (stepX t) :: .cell t 2 (stepX t) :: ih (Nat.add t 1)) n t
noncomputable def cat (l : List (List C)) : List C := @List.rec (List C) (fun _ => List C) [] (fun a _ ih => app a ih) l
structure Tmp where
 f : Nat
 a0 : List V
 m0 : Cells
 nb0 : Nat
 nt0 : Nat
 v : V
 res : Cells
 tab : List Nd
 sg : List (Nat × Int)
noncomputable def Tmp.call (t : Tmp) : CallFn := evCall Tryz.prog (orcA (algT t.nt0 t.tab t.sg)) 100000 40
noncomputable def Tmp.ok (t : Tmp) : Bool := bi (keptIn t.m0 t.nb0) (keptR t.nb0 (Nat.add t.nt0 (len t.tab)) t.v t.res (t.call t.f t.a0 ⟨memT t.m0, t.nb0, t.nt0⟩)) false
noncomputable def Tmp.orc (t : Tmp) (A : Alg) : List V → St → Option R := tmO A t.a0 t.m0 t.nb0 t.nt0 t.v t.res t.tab t.sg
theorem tmp_ok {t : Tmp} (h : t.ok = true) {val : X → Rat} {drw : Drw} {A : Alg} (hA : AlgOk val A) : OrcOne Tryz.prog (toks val drw) t.f (t.orc A) := by
 obtain ⟨h1, h2⟩ := bi3 h
 refine tmO_ok (call := t.call) hA (fun q hq => call_ok (orcA_ok (algT_ok hq))) ?_
 have e : Nat.add t.nt0 (len t.tab) = t.nt0 + t.tab.length := by rw [len_eq]; rfl
 rw [e] at h2
 exact kept_of h1 h2
noncomputable def tmGrad : Tmp := ⟨205, [.s (.c (.sl 0 0 3 6))], [(0, tks 0 6)], 1, 6, .s (.c (.sl 66 0 3 6)), [(66, cat [tks 21 1, tks 23 1, tks 25 1, tks 27 1, tks 29 1, tks 31 1])], [.bin 1 2 0, .bin 1 3 1, .bin 1 4 0, .bin 1 5 1, .bin 2 6 9, .bin 2 7 8, .bin 1 10 11, .bin 1 2 0, .bin 1 3 1, .bin 1 4 0, .bin 1 5 1, .bin 2 13 16, .bin 2 14 15, .bin 1 17 18, .bin 1 3 5, .bin 3 20 19, .bin 1 4 2, .bin 3 22 19, .bin 1 5 1, .bin 3 24 19, .bin 1 0 4, .bin 3 26 19, .bin 1 1 3, .bin 3 28 19, .bin 1 2 0, .bin 3 30 19], [(12, 1)]⟩
theorem tmGrad_ok : tmGrad.ok = true := by kernel_rfl
noncomputable def tmLGrad : Tmp := ⟨249, [.s (.c (.sl 0 0 3 6)), .s (.c (.sl 1 0 3 3))], [(0, tks 0 6), (1, tks 6 3)], 2, 9, .s (.agg (tks 54 2)), [], [.bin 1 2 0, .bin 1 3 1, .bin 1 4 0, .bin 1 5 1, .bin 2 9 12, .bin 2 10 11, .bin 1 13 14, .num 0 1, .num 0 1, .bin 1 2 0, .bin 1 3 1, .bin 1 4 0, .bin 1 5 1, .bin 2 18 21, .bin 2 19 20, .bin 1 22 23, .bin 1 2 0, .bin 1 3 1, .bin 1 4 0, .bin 1 5 1, .bin 2 25 28, .bin 2 26 27, .bin 1 29 30, .bin 1 3 5, .bin 3 32 31, .bin 1 4 2, .bin 3 34 31, .bin 1 5 1, .bin 3 36 31, .bin 1 0 4, .bin 3 38 31, .bin 1 1 3, .bin 3 40 31, .bin 1 2 0, .bin 3 42 31, .bin 2 6 33, .bin 2 6 35, .bin 0 16 44, .bin 0 17 45, .bin 2 7 37, .bin 2 7 39, .bin 0 46 48, .bin 0 47 49, .bin 2 8 41, .bin 2 8 43, .bin 0 50 52, .bin 0 51 53], [(15, 1), (24, 1)]⟩
theorem tmLGrad_ok : tmLGrad.ok = true := by kernel_rfl
noncomputable def tmArea : Tmp := ⟨168, [.s (.c (.sl 0 0 3 6))], [(0, tks 0 6)], 1, 6, .s (.agg (tks 14 1)), [], [.num 1 2, .bin 1 2 0, .bin 1 3 1, .bin 1 4 0, .bin 1 5 1, .bin 2 7 10, .bin 2 8 9, .bin 1 11 12, .bin 2 6 13], []⟩
theorem tmArea_ok : tmArea.ok = true := by kernel_rfl
noncomputable def tmCent : Tmp := ⟨208, [.s (.c (.sl 0 0 3 6))], [(0, tks 0 6)], 1, 6, .s (.agg (tks 18 2)), [], [.bin 1 2 0, .bin 1 3 1, .bin 1 4 0, .bin 1 5 1, .bin 2 6 9, .bin 2 7 8, .bin 1 10 11, .num 1 3, .bin 0 0 2, .bin 0 1 3, .bin 0 14 4, .bin 0 15 5, .bin 2 13 16, .bin 2 13 17], [(12, 1)]⟩
theorem tmCent_ok : tmCent.ok = true := by kernel_rfl
noncomputable def tmProp : Tmp := ⟨231, [.s (.c (.sl 0 0 3 6))], [(0, tks 0 6)], 1, 6, .s (.c (.bool true)), [], [.bin 1 2 0, .bin 1 3 1, .bin 1 4 0, .bin 1 5 1, .bin 2 6 9, .bin 2 7 8, .bin 1 10 11], [(12, 1)]⟩
theorem tmProp_ok : tmProp.ok = true := by kernel_rfl
noncomputable def tmLStiff : Tmp := ⟨173, [.s (.c (.sl 0 0 3 6))], [(0, tks 0 6)], 1, 6, .s (.c (.sl 295 0 3 1)), [(295, [.sl 141 0 3 3, .sl 217 0 3 3, .sl 293 0 3 3]), (141, cat [tks 44 1, tks 57 1, tks 70 1]), (217, cat [tks 83 1, tks 96 1, tks 109 1]), (293, cat [tks 122 1, tks 135 1, tks 148 1])], [.bin 1 2 0, .bin 1 3 1, .bin 1 4 0, .bin 1 5 1, .bin 2 6 9, .bin 2 7 8, .bin 1 10 11, .bin 1 2 0, .bin 1 3 1, .bin 1 4 0, .bin 1 5 1, .bin 2 13 16, .bin 2 14 15, .bin 1 17 18, .bin 1 3 5, .bin 3 20 19, .bin 1 4 2, .bin 3 22 19, .bin 1 5 1, .bin 3 24 19, .bin 1 0 4, .bin 3 26 19, .bin 1 1 3, .bin 3 28 19, .bin 1 2 0, .bin 3 30 19, .num 1 2, .bin 1 2 0, .bin 1 3 1, .bin 1 4 0, .bin 1 5 1, .bin 2 33 36, .bin 2 34 35, .bin 1 37 38, .bin 2 32 39, .bin 2 21 21, .bin 2 23 23, .bin 0 41 42, .bin 2 40 43, .num 1 2, .bin 1 2 0, .bin 1 3 1, .bin 1 4 0, .bin 1 5 1, .bin 2 46 49, .bin 2 47 48, .bin 1 50 51, .bin 2 45 52, .bin 2 21 25, .bin 2 23 27, .bin 0 54 55, .bin 2 53 56, .num 1 2, .bin 1 2 0, .bin 1 3 1, .bin 1 4 0, .bin 1 5 1, .bin 2 59 62, .bin 2 60 61, .bin 1 63 64, .bin 2 58 65, .bin 2 21 29, .bin 2 23 31, .bin 0 67 68, .bin 2 66 69, .num 1 2, .bin 1 2 0, .bin 1 3 1, .bin 1 4 0, .bin 1 5 1, .bin 2 72 75, .bin 2 73 74, .bin 1 76 77, .bin 2 71 78, .bin 2 25 21, .bin 2 27 23, .bin 0 80 81, .bin 2 79 82, .num 1 2, .bin 1 2 0, .bin 1 3 1, .bin 1 4 0, .bin 1 5 1, .bin 2 85 88, .bin 2 86 87, .bin 1 89 90, .bin 2 84 91, .bin 2 25 25, .bin 2 27 27, .bin 0 93 94, .bin 2 92 95, .num 1 2, .bin 1 2 0, .bin 1 3 1, .bin 1 4 0, .bin 1 5 1, .bin 2 98 101, .bin 2 99 100, .bin 1 102 103, .bin 2 97 104, .bin 2 25 29, .bin 2 27 31, .bin 0 106 107, .bin 2 105 108, .num 1 2, .bin 1 2 0, .bin 1 3 1, .bin 1 4 0, .bin 1 5 1, .bin 2 111 114, .bin 2 112 113, .bin 1 115 116, .bin 2 110 117, .bin 2 29 21, .bin 2 31 23, .bin 0 119 120, .bin 2 118 121, .num 1 2, .bin 1 2 0, .bin 1 3 1, .bin 1 4 0, .bin 1 5 1, .bin 2 124 127, .bin 2 125 126, .bin 1 128 129, .bin 2 123 130, .bin 2 29 25, .bin 2 31 27, .bin 0 132 133, .bin 2 131 134, .num 1 2, .bin 1 2 0, .bin 1 3 1, .bin 1 4 0, .bin 1 5 1, .bin 2 137 140, .bin 2 138 139, .bin 1 141 142, .bin 2 136 143, .bin 2 29 29, .bin 2 31 31, .bin 0 145 146, .bin 2 144 147], [(12, 1)]⟩
theorem tmLStiff_ok : tmLStiff.ok = true := by kernel_rfl
noncomputable def tmInteg : Tmp := ⟨95, [.s (.c (.sl 0 0 3 6)), .s (.c (.sl 1 0 3 3))], [(0, tks 0 6), (1, tks 6 3)], 2, 9, .s (.agg (tks 31 1)), [], [.bin 1 2 0, .bin 1 3 1, .bin 1 4 0, .bin 1 5 1, .bin 2 9 12, .bin 2 10 11, .bin 1 13 14, .num 1 2, .bin 1 2 0, .bin 1 3 1, .bin 1 4 0, .bin 1 5 1, .bin 2 17 20, .bin 2 18 19, .bin 1 21 22, .bin 2 16 23, .num 1 3, .num 0 1, .bin 0 26 6, .bin 0 27 7, .bin 0 28 8, .bin 2 25 29, .bin 2 24 30], [(15, 1)]⟩
theorem tmInteg_ok : tmInteg.ok = true := by kernel_rfl
noncomputable def tmCopyP : Tmp := ⟨170, [.s (.agg (tks 0 2))], [], 0, 2, .s (.agg (tks 2 2)), [], [.un 1 0, .un 1 1], []⟩
theorem tmCopyP_ok : tmCopyP.ok = true := by kernel_rfl
noncomputable def tmValidP : Tmp := ⟨129, [.s (.agg (tks 0 2))], [], 0, 2, .s (.c (.bool true)), [], [], []⟩
theorem tmValidP_ok : tmValidP.ok = true := by kernel_rfl
noncomputable def tmIfP : Tmp := ⟨250, [.s (.agg (tks 0 2))], [], 0, 2, .s (.agg (tks 0 2)), [], [], []⟩
theorem tmIfP_ok : tmIfP.ok = true := by kernel_rfl
noncomputable def tmSubP : Tmp := ⟨210, [.s (.agg (tks 0 2)), .s (.agg (tks 2 2))], [], 0, 4, .s (.agg (tks 4 2)), [], [.bin 1 0 2, .bin 1 1 3], []⟩
theorem tmSubP_ok : tmSubP.ok = true := by kernel_rfl
noncomputable def tmAddP : Tmp := ⟨251, [.s (.agg (tks 0 2)), .s (.agg (tks 2 2))], [], 0, 4, .s (.agg (tks 4 2)), [], [.bin 0 0 2, .bin 0 1 3], []⟩
theorem tmAddP_ok : tmAddP.ok = true := by kernel_rfl
noncomputable def tmScaleP : Tmp := ⟨209, [.s (.agg (tks 0 1)), .s (.agg (tks 1 2))], [], 0, 3, .s (.agg (tks 3 2)), [], [.bin 2 0 1, .bin 2 0 2], []⟩
theorem tmScaleP_ok : tmScaleP.ok = true := by kernel_rfl
noncomputable def tmCrossP : Tmp := ⟨242, [.s (.agg (tks 0 2)), .s (.agg (tks 2 2))], [], 0, 4, .s (.agg (tks 6 1)), [], [.bin 2 0 3, .bin 2 1 2, .bin 1 4 5], []⟩
theorem tmCrossP_ok : tmCrossP.ok = true := by kernel_rfl
noncomputable def tmInnerP : Tmp := ⟨207, [.s (.agg (tks 0 2)), .s (.agg (tks 2 2))], [], 0, 4, .s (.agg (tks 6 1)), [], [.bin 2 0 2, .bin 2 1 3, .bin 0 4 5], []⟩
theorem tmInnerP_ok : tmInnerP.ok = true := by kernel_rfl
noncomputable def tmDArea : Tmp := ⟨190, [.s (.agg (tks 0 2)), .s (.agg (tks 2 2)), .s (.agg (tks 4 2))], [], 0, 6, .s (.agg (tks 12 1)), [], [.bin 1 2 0, .bin 1 3 1, .bin 1 4 0, .bin 1 5 1, .bin 2 6 9, .bin 2 7 8, .bin 1 10 11], []⟩
theorem tmDArea_ok : tmDArea.ok = true := by kernel_rfl
noncomputable def tmMid : Tmp := ⟨216, [.s (.agg (tks 0 2)), .s (.agg (tks 2 2))], [], 0, 4, .s (.agg (tks 7 2)), [], [.num 1 2, .bin 0 0 2, .bin 0 1 3, .bin 2 4 5, .bin 2 4 6], []⟩
theorem tmMid_ok : tmMid.ok = true := by kernel_rfl
noncomputable def tmPSrc : Tmp := ⟨147, [.s (.agg (cat [[.sl 0 0 3 6], tks 0 11]))], [(0, tks 11 6)], 1, 17, .s (.agg (tks 25 1)), [], [.bin 2 10 4, .num 1 3, .bin 2 17 18, .bin 2 5 4, .bin 2 6 8, .bin 2 7 9, .bin 0 21 22, .bin 2 20 23, .bin 1 19 24], []⟩
theorem tmPSrc_ok : tmPSrc.ok = true := by kernel_rfl
noncomputable def tmPTerms : Tmp := ⟨148, [.s (.agg (cat [[.sl 0 0 3 6], tks 0 11])), .s (.agg (tks 11 1)), .s (.agg (tks 12 1))], [(0, tks 13 6)], 1, 19, .tup [.agg (tks 64 1), .agg (tks 69 1)], [], [.num 1 1, .num 2 1, .bin 2 20 4, .bin 3 19 21, .bin 1 15 13, .bin 1 16 14, .bin 1 17 13, .bin 1 18 14, .bin 2 23 26, .bin 2 24 25, .bin 1 27 28, .num 1 3, .bin 0 13 15, .bin 0 14 16, .bin 0 31 17, .bin 0 32 18, .bin 2 30 33, .bin 2 30 34, .bin 1 35 0, .bin 1 36 1, .bin 2 12 37, .bin 2 12 38, .bin 1 35 2, .bin 1 36 3, .bin 2 11 41, .bin 2 11 42, .bin 1 39 43, .bin 1 40 44, .bin 2 22 45, .bin 2 22 46, .bin 1 2 0, .bin 1 3 1, .bin 2 22 49, .bin 2 22 50, .bin 2 51 47, .bin 2 52 48, .bin 0 53 54, .bin 2 4 55, .bin 3 56 5, .bin 2 51 6, .bin 2 52 7, .bin 0 58 59, .bin 2 4 60, .num 1 3, .bin 2 61 62, .bin 0 57 63, .bin 2 51 51, .bin 2 52 52, .bin 0 65 66, .bin 2 4 67, .bin 3 68 5], [(29, 1)]⟩
theorem tmPTerms_ok : tmPTerms.ok = true := by kernel_rfl
noncomputable def orcTm (A : Alg) (orc : Orcs) : Orcs :=
 withM 205 (tmGrad.orc A) (withM 249 (tmLGrad.orc A) (withM 168 (tmArea.orc A) (withM 208 (tmCent.orc A) (withM 231 (tmProp.orc A) (withM 173 (tmLStiff.orc A) (withM 95 (tmInteg.orc A) (withM 170 (tmCopyP.orc A) (withM 129 (tmValidP.orc A) (withM 250 (tmIfP.orc A) (withM 210 (tmSubP.orc A) (withM 251 (tmAddP.orc A) (withM 209 (tmScaleP.orc A) (withM 242 (tmCrossP.orc A) (withM 207 (tmInnerP.orc A) (withM 190 (tmDArea.orc A) (withM 216 (tmMid.orc A) (withM 147 (tmPSrc.orc A) (withM 148 (tmPTerms.orc A) orc))))))))))))))))))
theorem orcTm_ok {val : X → Rat} {drw : Drw} {A : Alg} (h : AlgOk val A) {orc : Orcs} (ho : OrcOk Tryz.prog (toks val drw) orc) : OrcOk Tryz.prog (toks val drw) (orcTm A orc) :=
 with_ok (tmp_ok tmGrad_ok h) (with_ok (tmp_ok tmLGrad_ok h) (with_ok (tmp_ok tmArea_ok h) (with_ok (tmp_ok tmCent_ok h) (with_ok (tmp_ok tmProp_ok h) (with_ok (tmp_ok tmLStiff_ok h) (with_ok (tmp_ok tmInteg_ok h) (with_ok (tmp_ok tmCopyP_ok h) (with_ok (tmp_ok tmValidP_ok h) (with_ok (tmp_ok tmIfP_ok h) (with_ok (tmp_ok tmSubP_ok h) (with_ok (tmp_ok tmAddP_ok h) (with_ok (tmp_ok tmScaleP_ok h) (with_ok (tmp_ok tmCrossP_ok h) (with_ok (tmp_ok tmInnerP_ok h) (with_ok (tmp_ok tmDArea_ok h) (with_ok (tmp_ok tmMid_ok h) (with_ok (tmp_ok tmPSrc_ok h) (with_ok (tmp_ok tmPTerms_ok h) ho))))))))))))))))))
open Go.RowKit Go.Joins Go.SX
noncomputable def cx (n : Int) (d : Nat) : X := @Int.rec (fun _ => X) (fun m => @Nat.rec (fun _ => X) ⟨0, 1, []⟩ (fun k _ => ⟨0, d, [(0, Int.ofNat (Nat.succ k))]⟩) m) (fun m => ⟨0, d, [(0, Int.negSucc m)]⟩) n
noncomputable def ptC (t : Nat) (x : X) (r : List C) : List C := .cell t 0 x :: .cell t 1 x :: .cell t 2 x :: r
noncomputable def ptsC (t : Nat) (l : List (Int × Nat)) : List C := @List.rec (Int × Nat) (fun _ => Nat → List C) (fun _ => []) (fun p _ ih t => ptC t (cx p.1 p.2) (ih (Nat.add t 1))) l t
noncomputable def intsC (l : List Int) : List C := @List.rec Int (fun _ => List C) [] (fun a _ ih => .int a :: ih) l
structure Mk where
 m0 : Cells
 np : Nat
 nt : Nat
 ex : List V
 v : V
 res : Cells
noncomputable def Mk.args (k : Mk) : List V := .s (.agg [.sl 0 0 k.np 6, .sl 1 0 k.nt 5]) :: k.ex
noncomputable def Mk.ok (k : Mk) (orc : Orcs) (f : Nat) : Bool := bi (keptIn k.m0 2) (keptR 2 (Nat.mul 2 k.np) k.v k.res (evCall Tryz.prog orc 100000 40 f k.args ⟨memT k.m0, 2, Nat.mul 2 k.np⟩)) false
noncomputable def Mk.orc (k : Mk) : List V → St → Option R := keptO k.args k.m0 2 (Nat.mul 2 k.np) k.v k.res []
open Go.RowKit Go.Joins Go.SX
theorem sx_run2 {p : Par} {tab : List (Nat × Nat × Nat)} {f : Nat} {orc : Orcs} (n c : Nat) (A : Option Addr) (y : Nat → Int) (w : World)
 (ho : OrcOk Tryz.prog (toks (X.val (p.l (fixOf A n c y))) ⟨tabF tab, fixOf A n c y⟩) orc)
 (hrun : isTrue (evCall Tryz.prog orc 100000 40 f [.s (.c .code)] ⟨.lf, 0, 0⟩) = true) (hn : n ≤ 1048576) (hy : Byt y) (hb : BE w A n y)
 (ht : ∀ q ∈ tab, (fixOf A n c y).byte q.1 % q.2.1 = q.2.2) :
 Calls Tryz.prog f #[.slice A n c] w fun e u => e = .returned (.bool true) ∧ Below w.heap.size w u := by
 cases hq : evCall Tryz.prog orc 100000 40 f [.s (.c .code)] ⟨.lf, 0, 0⟩ with
 | none => rw [hq] at hrun; cases hrun
 | some r =>
  rw [hq] at hrun
  have hv : r.v = vB true := eqV_inv hrun
  have hst : StOk ⟨.lf, 0, 0⟩ := ⟨Nat.zero_le _, fun _ _ => rfl⟩
  obtain ⟨_, _, hs⟩ := evCall_ok prog_ok ho 100000 40 f _ _ r hq hst
  let E : Env := ⟨noBlk, noTok, fixOf A n c y⟩
  have hgi : GI (toks (X.val (p.l (fixOf A n c y))) ⟨tabF tab, fixOf A n c y⟩) E w := by
   refine ⟨(fun k p s h => by cases h), (fun j cs h => by cases h), (match A with | some a => if n = 0 then [] else [a.block] | none => []), fun b hbm => ⟨?_, (fun k s h => by cases h)⟩, A, n, c, y, rfl, hb, hy, hn, fun hn0 a ha => ?_, rfl, fun q m r h => ht _ (tabF_inv h)⟩
   ·cases A with
    | none => simp at hbm
    | some a =>
     by_cases hn0 : n = 0
     ·simp [hn0] at hbm
     ·simp [hn0] at hbm
      subst hbm
      obtain ⟨b, o, e, hlt, _⟩ := hb hn0
      injection e with e
      rw [e]; exact hlt
   ·subst ha
    simp [hn0]
  refine (hs E w [.slice A n c] ⟨⟨rfl, (fun a e => by cases e), (fun a e => by cases e)⟩, trivial⟩ ⟨hgi, (fun k b _ h => by cases h), (fun k k' b b' p s s' _ _ h => by cases h), (fun k _ _ => rfl), (fun j _ _ => rfl)⟩).mono fun e u ⟨x, F, he, ho⟩ => ?_
  have hx := ho.val
  rw [hv] at hx
  have hx' : x = .bool true := hx
  subst hx'
  exact ⟨he, ho.step.os, ho.step.tape, ho.step.output, ho.step.size, fun b hlt => ho.step.kept b hlt (fun k _ s h => by cases h)⟩
/-! ### Which sets of marks there are -/
def setL (k a b c : Nat) : List Nat := [a, b, c].take (1 + k)
def setCode (n k a b c : Nat) : Nat := 2 ^ n + ((List.range n).filter fun i => (setL k a b c).contains i).foldl (fun s i => s + 2 ^ i) 0
def setChk (n : Nat) (tab : List Nat) : Bool :=
 (List.range 3).all fun k => (List.range 8).all fun a => (List.range 8).all fun b => (List.range 8).all fun c =>
  tab.contains (setCode n k a b c) && decide (setCode n k a b c < 2 ^ (n + 1)) && (List.range n).all fun i => (setL k a b c).contains i == (setCode n k a b c).testBit i
theorem someL_set (fx : Fix) : someL fx = (setL (fx.byte 3 % 3) (fx.byte 4 % 8) (fx.byte 5 % 8) (fx.byte 6 % 8)).map fun (i : Nat) => (i : Int) := by
 unfold someL setL
 have h : fx.byte 3 % 3 < 3 := Nat.mod_lt _ (by decide)
 generalize fx.byte 3 % 3 = k at *
 have : k = 0 ∨ k = 1 ∨ k = 2 := by omega
 rcases this with rfl | rfl | rfl <;> rfl
theorem set_ex {n : Nat} {tab : List Nat} (h : setChk n tab = true) (fx : Fix) : ∃ s ∈ tab, SetOk fx s := by
 unfold setChk at h
 simp only [List.all_eq_true, List.mem_range, Bool.and_eq_true, decide_eq_true_eq, beq_iff_eq, List.contains_iff_mem] at h
 obtain ⟨⟨h1, h2⟩, h3⟩ := h (fx.byte 3 % 3) (Nat.mod_lt _ (by decide)) (fx.byte 4 % 8) (Nat.mod_lt _ (by decide)) (fx.byte 5 % 8) (Nat.mod_lt _ (by decide)) (fx.byte 6 % 8) (Nat.mod_lt _ (by decide))
 refine ⟨_, h1, fun i hi => ?_⟩
 have hin : i < n := by
  have h4 : 2 ^ (i + 1) < 2 ^ (n + 1) := Nat.lt_of_le_of_lt hi h2
  have := (Nat.pow_lt_pow_iff_right (by decide : 1 < 2)).1 h4
  omega
 have h5 := h3 i hin
 rw [← h5, someL_set, List.contains_iff_mem]
 constructor
 ·intro h
  obtain ⟨j, hj, e⟩ := List.mem_map.1 h
  have : j = i := by omega
  rw [← this]; exact hj
 ·intro h
  exact List.mem_map.2 ⟨i, h, rfl⟩
open Go.RowKit Go.Joins Go.SX
noncomputable def sosM (fl : List Bool) (ct : List (M × M)) : Option M :=
 @List.rec (M × M) (fun _ => Option M) (some []) (fun a _ ih => bi (posM a.1) (bi (posE fl (lorM a.1)) (ob (mulX a.2 a.2) fun s => ob (mulX a.1 s) fun t => ob ih fun r => some (addM t r)) none) none) ct
noncomputable def sosEq (els : List (Nat × M × M)) (p q : M) : Bool := bi (eqM q p) true (ztM els (addM q (kM (-1) p)))
noncomputable def sosIn (fl : List Bool) (els : List (Nat × M × M)) (p : M) (cts : List (List (M × M))) : Bool :=
 @List.rec (List (M × M)) (fun _ => Bool) false (fun a _ ih => bi (@Option.rec M (fun _ => Bool) false (fun q => sosEq els p q) (sosM fl a)) true ih) cts
theorem sq_nonneg (a : Rat) : 0 ≤ a * a := by
 rcases Rat.le_total (a := 0) (b := a) with h | h
 ·exact Rat.mul_nonneg h h
 ·have h1 : 0 ≤ -a := by grind
  have h2 := Rat.mul_nonneg h1 h1
  grind
theorem sosM_ok {fl : List Bool} {l : List Rat} (hl : PosL l fl) (h64 : l.length ≤ 64) : ∀ {ct : List (M × M)} {p : M}, sosM fl ct = some p → 0 ≤ ev l p
 | [], p, h => by
  injection (show some [] = some p from h) with h
  subst h
  exact Rat.le_refl
 | a :: ct, p, h => by
  obtain ⟨h1, h⟩ := bi_inv (show bi (posM a.1) (bi (posE fl (lorM a.1)) (ob (mulX a.2 a.2) fun s => ob (mulX a.1 s) fun t => ob (sosM fl ct) fun r => some (addM t r)) none) none = some p from h)
  obtain ⟨h2, h⟩ := bi_inv h
  obtain ⟨s, h3, h⟩ := ob_inv h
  obtain ⟨t, h4, h⟩ := ob_inv h
  obtain ⟨r, h5, h⟩ := ob_inv h
  injection h with h
  subst h
  rw [ev_addM, ev_mulX h64 h4, ev_mulX h64 h3]
  have hc := (ev_pos hl h2 a.1 (fun b hb => lorM_sub a.1 b hb) h1).1
  have hs := sosM_ok hl h64 h5
  have := Rat.mul_nonneg hc (sq_nonneg (ev l a.2))
  grind
theorem sosEq_ok {l : List Rat} (h64 : l.length ≤ 64) {els : List (Nat × M × M)} (hels : ∀ e ∈ els, ElOk l e) {p q : M} (h : sosEq els p q = true) : ev l p = ev l q := by
 cases he : eqM q p with
 | true => rw [eqM_inv he]
 | false =>
  have h : bi (eqM q p) true (ztM els (addM q (kM (-1) p))) = true := h
  rw [he] at h
  have h0 := ztM_ok h64 hels (show ztM els (addM q (kM (-1) p)) = true from h)
  rw [ev_addM, ev_kM] at h0
  have e1 : ((-1 : Int) : Rat) = -1 := rfl
  rw [e1] at h0
  grind
theorem sosIn_ok {fl : List Bool} {els : List (Nat × M × M)} {l : List Rat} (hl : PosL l fl) (h64 : l.length ≤ 64) (hels : ∀ e ∈ els, ElOk l e) {p : M} : ∀ {cts : List (List (M × M))}, sosIn fl els p cts = true → 0 ≤ ev l p
 | [], h => by cases h
 | a :: cts, h => by
  have h : bi (@Option.rec M (fun _ => Bool) false (fun q => sosEq els p q) (sosM fl a)) true (sosIn fl els p cts) = true := h
  cases hq : sosM fl a with
  | none => rw [hq] at h; exact sosIn_ok hl h64 hels (show sosIn fl els p cts = true from h)
  | some q =>
   rw [hq] at h
   cases he : sosEq els p q with
   | true => rw [sosEq_ok h64 hels he]; exact sosM_ok hl h64 hq
   | false =>
    have h : bi (sosEq els p q) true (sosIn fl els p cts) = true := h
    rw [he] at h
    exact sosIn_ok hl h64 hels h
noncomputable def orSgnP (fl : List Bool) (els : List (Nat × M × M)) (cts : List (List (M × M))) (l : List V) (st : St) : Option R :=
 ob (rat1 l) fun x => bi (Nat.ble 1 x.den) (bi (sosIn fl els x.ps cts) (some ⟨.s (.c (.rg 0 1)), st, [], some []⟩) none) none
noncomputable def orCmpP (fl : List Bool) (els : List (Nat × M × M)) (cts : List (List (M × M))) (l : List V) (st : St) : Option R :=
 ob (rat2 l) fun p => ob (xsub p.2 p.1) fun x => bi (sosIn fl els x.ps cts) (some ⟨.s (.c (.rg (-1) 0)), st, [], some []⟩) none
theorem nonneg_of {l : List Rat} {x : X} (hd : 0 < x.den) (h : 0 ≤ ev l x.ps) : 0 ≤ x.val l := by
 obtain ⟨h1, h2, h3⟩ := val_sign (l := l) (x := x) hd
 rcases Rat.le_iff_lt_or_eq.1 h with h | h
 ·exact Rat.le_of_lt (h2 h)
 ·rw [h1 h.symm]; exact Rat.le_refl
section
variable {l : List Rat} {drw : Drw} {c : Cfg}
theorem orSgnP_ok {fl : List Bool} {els : List (Nat × M × M)} (hl : PosL l fl) (h64 : l.length ≤ 64) (hels : ∀ e ∈ els, ElOk l e) (cts : List (List (M × M))) : OrcOne Tryz.prog (toks (X.val l) drw) 32 (orSgnP fl els cts) := by
 intro vl st r hr hst
 obtain ⟨x, h1, hr⟩ := ob_inv hr
 obtain ⟨h2, hr⟩ := bi_inv hr
 obtain ⟨h3, hr⟩ := bi_inv hr
 injection hr with hr
 subst hr
 refine ⟨eff_pure hst _ _, Tryz.call32, fun E w vs hrel hp => ?_⟩
 obtain ⟨u, rfl, s1, r1⟩ := rat1_rel hp.gi h1 hrel
 have h0 := nonneg_of (ble_inv h2) (sosIn_ok hl h64 hels h3)
 obtain ⟨s, hs, hs1⟩ : ∃ s, SgnOk s (x.val l) ∧ (0 ≤ s ∧ s ≤ 1) := by
  rcases Rat.le_iff_lt_or_eq.1 h0 with h | h
  ·exact ⟨1, .inr (.inl ⟨rfl, h⟩), by decide⟩
  ·exact ⟨0, .inl ⟨rfl, h.symm⟩, by decide⟩
 refine (iRatSign _ u w r1 (small_len s1)).mono fun e u ⟨he, hb⟩ => ?_
 rw [rsig_ok (is_of _ s1).ok, rsgn_is s1 hs] at he
 exact ⟨_, E, he, out_below hp.gi hb ⟨s, hs1, rfl⟩⟩
theorem orCmpP_ok {fl : List Bool} {els : List (Nat × M × M)} (hl : PosL l fl) (h64 : l.length ≤ 64) (hels : ∀ e ∈ els, ElOk l e) (cts : List (List (M × M))) : OrcOne Tryz.prog (toks (X.val l) drw) 39 (orCmpP fl els cts) := by
 intro vl st r hr hst
 obtain ⟨p, h1, hr⟩ := ob_inv hr
 obtain ⟨x, h2, hr⟩ := ob_inv hr
 obtain ⟨h3, hr⟩ := bi_inv hr
 injection hr with hr
 subst hr
 refine ⟨eff_pure hst _ _, Tryz.call39, fun E w vs hrel hp => ?_⟩
 obtain ⟨u, v, rfl, ⟨s1, r1⟩, s2, r2⟩ := rat2_rel hp.gi h1 hrel
 obtain ⟨ex, hd⟩ := xsub_val (l := l) h2
 have h0 := nonneg_of hd (sosIn_ok hl h64 hels h3)
 rw [ex] at h0
 obtain ⟨s, hs, hs1⟩ : ∃ s, SgnOk s (p.1.val l - p.2.val l) ∧ (-1 ≤ s ∧ s ≤ 0) := by
  rcases Rat.le_iff_lt_or_eq.1 h0 with h | h
  ·exact ⟨-1, .inr (.inr ⟨rfl, by grind⟩), by decide⟩
  ·exact ⟨0, .inl ⟨rfl, by grind⟩, by decide⟩
 refine (iRatCmp _ _ _ _ _ _ (is_of _ s1).okr (is_of _ s2).okr u v w r1 r2).mono fun e u ⟨he, hb⟩ => ?_
 rw [cmpV_is s1 s2 hs] at he
 exact ⟨_, E, he, out_below hp.gi hb ⟨s, hs1, rfl⟩⟩
end
open Go.RowKit Go.Joins Go.SX
noncomputable def xsC (t : Nat) (l : List X) : List C := @List.rec X (fun _ => Nat → List C) (fun _ => []) (fun x _ ih t => ptC t x (ih (Nat.add t 1))) l t
noncomputable def xisF (l : List (Nat × X)) : List X := @List.rec (Nat × X) (fun _ => List X) [] (fun p _ ih => bi (Nat.beq p.1 0) (p.2 :: ih) (app (repl p.1 [⟨0, 1, []⟩]) ih)) l
noncomputable def tpN (n : Nat) (t : Nat) (k : List (Int × Nat) → List C) (l : List (Int × Nat)) : List C :=
 @Nat.rec (fun _ => Nat → List (Int × Nat) → List C) (fun _ l => k l) (fun _ ih t l => List.casesOn l [] fun p l => ptC t (cx p.1 p.2) (ih (Nat.add t 1) l)) n t l
noncomputable def tpC (rs : List (Nat × Nat)) (l : List (Int × Nat)) : List C := @List.rec (Nat × Nat) (fun _ => List (Int × Nat) → List C) (fun _ => []) (fun r _ ih l => tpN r.2 r.1 ih l) rs l
noncomputable def xpN (n : Nat) (k : List (Int × Nat) → List X) (l : List (Int × Nat)) : List X :=
 @Nat.rec (fun _ => List (Int × Nat) → List X) (fun l => k l) (fun _ ih l => List.casesOn l [] fun p l => cx p.1 p.2 :: ih l) n l
noncomputable def xpF (rs : List (Nat × Nat)) (l : List (Int × Nat)) : List X := @List.rec (Nat × Nat) (fun _ => List (Int × Nat) → List X) (fun _ => []) (fun r _ ih l => app (repl r.1 [⟨0, 1, []⟩]) (xpN r.2 ih l)) rs l
abbrev maA (k n m : Nat) : V := .s (.agg [.sl k 0 n 6, .sl (Nat.add k 1) 0 m 5])
abbrev paA (n m : Nat) : V := .s (.agg [.sl 0 0 n 6, .sl 1 0 m 5, .sl 2 0 3 3, .sl 3 0 3 3])
noncomputable abbrev mmC (k t : Nat) (p : List (Int × Nat)) (l : List C) : Cells := [(k, ptsC t p), (Nat.add k 1, l)]
structure Kp where
 a0 : List V
 m0 : Cells
 nb : Nat
 nt : Nat
 v : V
 res : Cells
 xi : List X
noncomputable def Kp.ok (k : Kp) (orc : Orcs) (f : Nat) : Bool :=
 bi (allB kdOk k.xi) (bi (keptIn k.m0 k.nb) (keptR k.nb (Nat.add k.nt (len k.xi)) k.v k.res (evCall Tryz.prog orc 100000 40 f k.a0 ⟨memT k.m0, k.nb, k.nt⟩)) false) false
noncomputable def Kp.orc (k : Kp) : List V → St → Option R := keptO k.a0 k.m0 k.nb k.nt k.v k.res k.xi
theorem kp_ok {k : Kp} {orc : Orcs} {f : Nat} (h : k.ok orc f = true) {val : X → Rat} {drw : Drw} (hc : CallOk Tryz.prog (toks val drw) (evCall Tryz.prog orc 100000 40)) : OrcOne Tryz.prog (toks val drw) f k.orc := by
 obtain ⟨h0, h⟩ := bi3 h
 obtain ⟨h1, h2⟩ := bi3 h
 refine keptO_ok (call := evCall Tryz.prog orc 100000 40) hc ?_ h0
 have e : Nat.add k.nt (len k.xi) = k.nt + k.xi.length := by rw [len_eq]; rfl
 rw [e] at h2
 exact kept_of h1 h2
def OkP (p : Par) (o : Orcs) : Prop := ∀ drw : Drw, OrcOk Tryz.prog (toks (X.val (p.l drw.fx)) drw) o
noncomputable def orcG (p : Par) (cts : List (List (M × M))) : Orcs :=
 withM 32 (altM (orSgn (algO p.cfg)) (orSgnP p.cfg.fl p.cfg.els cts)) (withM 39 (altM (orCmp (algO p.cfg)) (orCmpP p.cfg.fl p.cfg.els cts))
  (withM 221 (altM orMarkT orMarkL) (withM 258 orTriEq (withM 246 orCmpI (withM 245 orOrI (withM 200 (orInsert Tryz.prog)
   (orcTm (algO p.cfg) (orcA (algO p.cfg)))))))))
theorem orcG_ok {p : Par} (h : p.ok = true) (cts : List (List (M × M))) : OkP p (orcG p cts) := fun drw =>
 have hc := (par_ok h drw.fx).1
 have hA := algO_ok hc
 with_ok (alt_ok (orSgn_ok hA) (orSgnP_ok hc.pos hc.len hc.el cts)) (with_ok (alt_ok (orCmp_ok hA) (orCmpP_ok hc.pos hc.len hc.el cts)) (with_ok (alt_ok orMarkT_ok orMarkL_ok) (with_ok orTriEq_ok (with_ok orCmpI_ok (with_ok orOrI_ok (with_ok orInsert_ok (orcTm_ok hA (orcA_ok hA))))))))
noncomputable def orcL (p : Par) (tab : List (Nat × Nat × Nat)) (o : Orcs) : Orcs :=
 withM 79 (orFew (uxF p.cfg.hs p.bs)) (withM 156 orByte (orcD (algO p.cfg) (kxF p.cfg.hs p.bs) (fxF p.cfg.hs p.bs) (tabF tab) o))
theorem orcL_ok {p : Par} (h : p.ok = true) {tab : List (Nat × Nat × Nat)} {o : Orcs} (ho : OkP p o) {drw : Drw} (hd : drw.tab = tabF tab) : OrcOk Tryz.prog (toks (X.val (p.l drw.fx)) drw) (orcL p tab o) := by
 have hA := algO_ok (par_ok h drw.fx).1
 unfold orcL
 rw [← hd]
 exact with_ok (orFew_ok (ux_ok h drw)) (with_ok orByte_ok (orcD_ok hA (kx_ok h drw) (fx_ok h drw) (ho drw)))
noncomputable def altL (l : List Kp) (vl : List V) (st : St) : Option R := @List.rec Kp (fun _ => Option R) none (fun k _ ih => @Option.rec R (fun _ => Option R) ih (fun r => some r) (k.orc vl st)) l
def AllK (l : List Kp) (o : Orcs) (f : Nat) : Prop := @List.rec Kp (fun _ => Prop) True (fun k _ ih => k.ok o f = true ∧ ih) l
noncomputable def withK (f : Nat) (l : List Kp) (o : Orcs) : Orcs := withM f (altL l) o
theorem altL_ok {o : Orcs} {f : Nat} {val : X → Rat} {drw : Drw} (hc : CallOk Tryz.prog (toks val drw) (evCall Tryz.prog o 100000 40)) : ∀ {l : List Kp}, AllK l o f → OrcOne Tryz.prog (toks val drw) f (altL l)
 | [], _ => fun _ _ _ h => by cases h
 | k :: l, h => by
  intro vl st r hr hst
  have hr : @Option.rec R (fun _ => Option R) (altL l vl st) (fun r => some r) (k.orc vl st) = some r := hr
  cases hq : k.orc vl st with
  | none => rw [hq] at hr; exact altL_ok hc h.2 vl st r hr hst
  | some r' =>
   rw [hq] at hr
   injection hr with hr
   subst hr
   exact kp_ok h.1 hc vl st r' hq hst
theorem withK_ok {p : Par} {o : Orcs} (ho : OkP p o) {f : Nat} {l : List Kp} (h : AllK l o f) : OkP p (withK f l o) := fun drw => with_ok (altL_ok (call_ok (ho drw)) h) (ho drw)
end Go.Proofs.YtcblajhfehadaaaGreat
