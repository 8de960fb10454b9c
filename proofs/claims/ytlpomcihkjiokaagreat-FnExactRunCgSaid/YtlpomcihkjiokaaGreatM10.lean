/-
  Shared texts (M10).
-/
import Derived.Test.YtlpomcihkjiokaaGreatM3
import Derived.Test.YtlpomcihkjiokaaGreatM9
import Derived.Deep.RegionWith
import Derived.Deep.DrawnRows
import Derived.Test.YtlpomcihkjiokaaGreatM7
import Derived.Test.YtlpomcihkjiokaaGreatM2
namespace Go.Proofs.YtlpomcihkjiokaaGreat
open Go.RowKit Go.Joins
attribute [local go_sem ↓] Go.wp_at_zero Go.wp_at_succ

/-- The product of a row and a vector, its first k terms. -/
def sumK (x : RowD) (us : List RatD) : Nat → RatD
  | 0 => FE.rint 0
  | k + 1 => FE.radd (sumK x us k) (FE.rmul (x.vals.getD k zR) (us.getD (x.cols.getD k 0).toNat zR))
def vApply (rs : List RowD) (us : List RatD) : List RatD := rs.map fun x => sumK x us x.cols.length
theorem res_few {r : RatD} (h : FE.Res r) : r.mag.length ≤ 1048576 ∧ r.den.length ≤ 1048576 := by
  rcases h with rfl | h
  · exact ⟨by decide, by decide⟩
  · have k := FE.ratOk_iff.1 h
    rw [k.mag, k.den]
    have := k.pl
    have := k.ql
    omega
theorem rint_zero_ok : FE.ratOk (FE.rint 0) = true := by
  have h1 : FE.toL 1 = [1] := toL_one1
  refine FE.OkR.ok (p := 0) (q := 1) ⟨rfl, ?_, by intro h; simp [FE.rint] at h, by omega, by simp [FE.toL_zero], by rw [h1]; decide, by decide⟩
  rw [h1]; rfl
theorem sumK_res (x : RowD) (us : List RatD) : ∀ k, FE.Res (sumK x us k)
  | 0 => .inr rint_zero_ok
  | _k + 1 => FE.radd_res _ _
def vFull (rs : List RatD) : List RatD := if vok rs then rs else []
theorem vApply_len (rs : List RowD) (us : List RatD) : (vApply rs us).length = rs.length := by simp [vApply]
theorem full_any {rs : List RatD} (h : ∀ j, j < rs.length → FE.Res (rs.getD j zR)) : (rs.any fun x => x.den.length == 0) = !vok rs := by
  rw [← vok_any]
  induction rs with
  | nil => rfl
  | cons r rs ih =>
    have h0 := h 0 (by simp)
    simp only [List.getD_cons_zero] at h0
    simp only [List.any_cons, h0.den]
    rw [ih (fun j hj => by have := h (j + 1) (by simp; omega); simpa using this)]
set_option maxHeartbeats 400000 in
theorem iIsRat (x : RatD) (q : Bool) (hq : (x.den.length == 0) = !q) (v : Value) (w : World) (hv : RatV w v x) :
    Calls Tryz.prog 161 #[v] w fun e w' => e = .returned (.bool q) ∧ Below w.heap.size w w' := by
  obtain ⟨A, c, B, d, rfl, ⟨_, _, h3, h4⟩, _, _⟩ := hv
  have l1 : x.den.length ≤ 9223372036854775807 := Nat.le_trans h3 h4
  clear h3 h4
  have h1 : decide ((0 : Int) < (x.den.length : Int)) = q := by cases q <;> simp at hq <;> simp [hq]; exact List.length_pos_iff.2 hq
  have h2 : decide (0 < x.den.length) = q := by cases q <;> simp at hq <;> simp [hq]; exact List.length_pos_iff.2 hq
  clear hq
  generalize x.den.length = m at *
  generalize x.mag.length = n at *
  go_enter Tryz.func161, Tryz.ntmps161
  go_wp2
  go_ret
  exact ⟨ret_bool (by first | rfl | exact h1 | exact h2), below_alloc1 _ _⟩
set_option maxHeartbeats 400000 in
theorem says_ifVector : Says 186 fun x => x.den.length == 0 := by
  intro x v W hv h1 h2
  obtain ⟨q, hq⟩ : ∃ q, (x.den.length == 0) = !q := ⟨!(x.den.length == 0), by simp⟩
  have HC := Lib.hid (fun w' hb => iIsRat x q hq v w' (hv.later (w' := w') hb))
  have HQ := Lib.hid hq
  obtain ⟨A, c, B, d, rfl, _, _, _⟩ := hv
  clear hq
  go_enter Tryz.func186, Tryz.ntmps186
  go_wp2_with fail
  refine (HC.out _ (below_alloc1 _ _)).mono ?_
  rintro e w1 ⟨rfl, hb⟩
  replace hb := box_below hb
  go_wp2
  go_ret
  exact ⟨ret_bool HQ.out.symm, hb⟩
set_option maxHeartbeats 400000 in
theorem iIfVector (rs : List RatD) (hres : ∀ j, j < rs.length → FE.Res (rs.getD j zR)) (n c : Nat) (hn : rs.length = n) (hfew : Few rs) (A : Option Addr) (w : World) (ha : VI w A rs) :
    Calls Tryz.prog 126 #[.slice A n c] w fun e w' => e = .returned (if vok rs then .slice A n c else .slice none 0 0) ∧ Below w.heap.size w w' := by
  have HC := iContainsR _ _ Tryz.call186 says_ifVector rs n c hn hfew A w ha
  rw [full_any hres] at HC
  cases hq : vok rs
  · rw [hq] at HC
    replace HC := Lib.hid HC
    clear hn hfew ha hres hq
    go_enter Tryz.func126, Tryz.ntmps126
    go_wp2_with fail
    refine HC.out.mono ?_
    rintro e w1 ⟨rfl, hb⟩
    go_wp2
    go_ret
    exact ⟨rfl, hb⟩
  · rw [hq] at HC
    replace HC := Lib.hid HC
    clear hn hfew ha hres hq
    go_enter Tryz.func126, Tryz.ntmps126
    go_wp2_with fail
    refine HC.out.mono ?_
    rintro e w1 ⟨rfl, hb⟩
    go_wp2
    go_ret
    exact ⟨rfl, hb⟩
theorem few_res {rs : List RatD} (hl : rs.length ≤ 1048576) (h : ∀ j, j < rs.length → FE.Res (rs.getD j zR)) : Few rs := ⟨hl, fun k hk => res_few (h k hk)⟩
theorem vApply_res (rs : List RowD) (us : List RatD) : ∀ j, j < (vApply rs us).length → FE.Res ((vApply rs us).getD j zR) := by
  intro j hj
  rw [vApply_len] at hj
  simp only [vApply, List.getD_eq_getElem?_getD, List.getElem?_map, List.getElem?_eq_getElem hj, Option.map_some, Option.getD_some]
  exact sumK_res _ _ _
/-- What a call that makes a vector ends in. -/
def VPost (w : World) (rs : List RatD) (e : Ending) (w' : World) : Prop := ∃ v' ps, e = .returned v' ∧ VW w' (w.heap.size + 1) w'.heap.size v' ps rs ∧ Below w.heap.size w w'
theorem take_map_snoc {α β : Type} (f : α → β) (l : List α) (k : Nat) (d : α) (hk : k < l.length) : (l.take (k + 1)).map f = (l.take k).map f ++ [f (l.getD k d)] := by
  rw [List.take_succ_eq_append_getElem hk, List.map_append]
  simp [hk]

set_option maxRecDepth 100000 in
set_option maxHeartbeats 3200000 in
theorem iApply (rs : List RowD) (us : List RatD) (u : Value) (B0 : Option Addr) (m d : Nat) (hm : us.length = m) (w : World) (hu : MatV w u rs) (hv : VI w B0 us) (hf : MFew rs) (hg : Few us) (hok : mOk rs = true) (hlen : us.length = rs.length) :
    Calls Tryz.prog 109 #[u, .slice B0 m d] w (VPost w (vFull (vApply rs us))) := by
  obtain ⟨A, c, rfl, _, hx⟩ := hu
  have hn1 := hf.1
  have HF := Lib.hid hf.2
  have HG := Lib.hid hg.2
  have HOK := Lib.hid (fun i (hi : i < rs.length) => mOk_row hok hi)
  clear hf hg hok
  have hm1 : m ≤ 1048576 := by omega
  have HRS := Lib.hid (fun i x (hi : i < m) (hx : rs.getD i zRow = x) => (by rw [← hx]; exact take_map_snoc (fun x => sumK x us x.cols.length) rs i zRow (by omega) : (rs.take (i + 1)).map (fun x => sumK x us x.cols.length) = (rs.take i).map (fun x => sumK x us x.cols.length) ++ [sumK x us x.cols.length]))
  have HFIN := Lib.hid (show (rs.take m).map (fun x => sumK x us x.cols.length) = vApply rs us by rw [List.take_of_length_le (by omega)]; rfl)
  have HTL := Lib.hid (fun i (hi : i ≤ m) => (show ((rs.take i).map (fun x => sumK x us x.cols.length)).length = i by rw [List.length_map, List.length_take]; omega))
  obtain ⟨n, hn⟩ : ∃ n, rs.length = n := ⟨_, rfl⟩
  rw [hn] at hn1 HOK hlen ⊢
  have HN := Lib.hid hn
  have HM := Lib.hid hm
  have hmn : m = n := by rw [← hm, hlen]
  subst hmn
  clear hn hm hlen

  have hl0 := World.ownsRow_lit (base := w.heap.size + 1) (e := 57) (size := 3) (w.alloc (.cells #[.slice A m c] 52)) #[] 0 (by simp) (by unfold maxLen; omega) rfl
  have hbel0 := below_alloc2 w (.cells #[.slice A m c] 52) (.cells #[] 57)
  have e00 : (w.alloc (.cells #[.slice A m c] 52)).heap.size = w.heap.size + 1 := by simp
  rw [e00] at hl0
  clear e00
  have hsz0 : w.heap.size + 1 < ((w.alloc (.cells #[.slice A m c] 52)).alloc (.cells #[] 57)).heap.size := by simp
  go_enter Tryz.func109, Tryz.ntmps109
  go_wp2_with fail
  generalize (w.alloc (.cells #[.slice A m c] 52)).alloc (.cells #[] 57) = w2 at *
  go_loopw [5, 15] (fun o z wr => ∃ i : Nat, i ≤ m ∧ z = .int .i64 i ∧ Below (w.heap.size + 1) w2 wr ∧ ∃ ps, VW wr (w.heap.size + 1) wr.heap.size o ps ((rs.take i).map fun x => sumK x us x.cols.length)) (fun _ z _ => m - (intOf z).toNat)
  case atStart => exact ⟨0, Nat.zero_le _, rfl, Below.refl _ _, [], VW.nil _ _ _ hl0⟩
  case round =>
    obtain ⟨i, hi, rfl, hbel, ps, hvw⟩ := hrel
    have hbelw := hbel0.trans (hbel.mono (by omega))
    have hszr := hbel.size
    obtain ⟨Ao, co, rfl, _⟩ := hvw.form
    have hno := HTL.out i hi
    rw [hno]
    rw [hno] at hvw
    have HVW := Lib.hid hvw
    clear hvw hno
    by_cases him : i = m
    · subst him
      have h0 : decide ((i : Int) < (i : Int)) = false := by simp
      have hres := vApply_res rs us
      have hvl := vApply_len rs us
      have hV := HVW.out
      rw [HFIN.out] at hV
      have HI := iIfVector (vApply rs us) hres i co (hvl.trans HN.out) (few_res (by rw [hvl, HN.out]; exact hn1) hres) Ao wr hV.reads
      have HVV := Lib.hid hV
      clear hV hres hvl
      cases hq : vok (vApply rs us)
      · rw [hq] at HI
        have HRE := Lib.hid (show vFull (vApply rs us) = [] by simp [vFull, hq])
        replace HI := Lib.hid HI
        clear hq
        go_wp2_with fail
        refine HI.out.mono ?_
        rintro e w5 ⟨rfl, hb5⟩
        have hbf := hbelw.trans (below_le hb5 hbelw.size)
        clear HI
        go_wp2
        go_ret
        exact ⟨.slice none 0 0, [], rfl, by rw [HRE.out]; exact VW.nil _ _ _ (World.ownsRow_nil _ _ _ _), hbf⟩
      · rw [hq] at HI
        have HRE := Lib.hid (show vFull (vApply rs us) = vApply rs us by simp [vFull, hq])
        replace HI := Lib.hid HI
        clear hq
        go_wp2_with fail
        refine HI.out.mono ?_
        rintro e w5 ⟨rfl, hb5⟩
        have hbf := hbelw.trans (below_le hb5 hbelw.size)
        have HVF := Lib.hid ((HVV.out.later hb5).wide (hi' := w5.heap.size) hb5.size)
        clear HI
        go_wp2
        go_ret
        exact ⟨.slice Ao i co, ps, rfl, by rw [HRE.out]; exact HVF.out, hbf⟩
    · have hlt : (i : Int) < (m : Int) := by omega
      have hil : i < rs.length := by rw [HN.out]; omega
      obtain ⟨b0, o0, rfl, hb0, hat⟩ := hx.cells i hil
      have hat1 := RowAt.stays _ _ _ _ _ hb0 hat hbelw
      obtain ⟨okA, _, _, okD⟩ := HOK.out i (by omega)
      have f1 := HF.out i hil
      have HSN := Lib.hid (fun x (hx : rs.getD i zRow = x) => HRS.out i x (by omega) hx)
      have HSN2 := Lib.hid (HSN.out _ rfl)
      clear hat hil HSN
      generalize rs.getD i zRow = x at *
      obtain ⟨A1, c1, A2, c2, g0', g1', hcd, hr1, hr2⟩ := hat1
      have hb0r : b0 < wr.heap.size := Nat.lt_of_lt_of_le hb0 hbelw.size
      have l1 := f1.1
      have l2 := f1.2.1
      have HFV := Lib.hid f1.2.2
      have OKD := Lib.hid okD
      obtain ⟨p, hp⟩ : ∃ n, x.cols.length = n := ⟨_, rfl⟩
      have hpv : x.vals.length = p := by rw [← hp]; exact okA
      rw [hp] at l1 g0' HSN2
      rw [hpv] at g1' l2
      have HPC := Lib.hid hp
      have HPV := Lib.hid hpv
      clear okA okD f1 hcd hp hpv
      have hal := below_alloc1 wr (.cells #[.slice A1 p c1, .slice A2 p c2] 130)
      have S7 := Slots.new (Below.refl _ (wr.alloc (.cells #[.slice A1 p c1, .slice A2 p c2] 130))) (g := wr.heap.size) rfl
      go_wp2_with fail
      clear g0' g1'
      refine (iRatFromInt 0 (by decide) _).mono ?_
      rintro e w4 ⟨v4, rfl, hp4, hb4⟩
      replace hp4 := hp4.mono (base' := wr.heap.size + 1) (by simp)
      replace S7 := S7.later hb4
      have hal4 := below_trans hal hb4
      obtain ⟨As, nS, cs, Bs, mS, ds, rfl⟩ := hp4.shape
      have al8 := below_alloc1 w4 (.cells #[.bool (FE.rint 0).neg, .slice As nS cs, .slice Bs mS ds] 57)
      have S8 := Slots.new (Below.refl _ (w4.alloc (.cells #[.bool (FE.rint 0).neg, .slice As nS cs, .slice Bs mS ds] 57))) (g := w4.heap.size) rfl
      have hg78 : wr.heap.size < w4.heap.size := S7.1
      replace S7 := S7.later al8
      replace hp4 := hp4.later al8
      have hal8 := below_trans hal4 al8
      clear hal hal4 hb4
      obtain ⟨t0, t1, _, _⟩ := S7.k2
      go_wp2_with fail
      clear al8
      generalize w4.alloc (.cells #[.bool (FE.rint 0).neg, .slice As nS cs, .slice Bs mS ds] 57) = wq at *
      generalize hg7 : wr.heap.size = g7 at *
      generalize w4.heap.size = g8 at *
      have HG7 := Lib.hid hg7
      clear hg7
      generalize wr = wo at *
      have HV1 := Lib.hid (fun W (hW : Below wo.heap.size wo W) => hr1.later hW)
      have HV2 := Lib.hid (fun W (hW : Below wo.heap.size wo W) => hr2.later hW)
      have hp4' : RatP wq (g7 + 1) (.agg #[.bool (sumK x us 0).neg, .slice As nS cs, .slice Bs mS ds]) (sumK x us 0) := hp4
      have S8' : Slots wq g8 [.bool (sumK x us 0).neg, .slice As nS cs, .slice Bs mS ds] := S8
      clear t0 t1 hr1 hr2 hp4 S8
      go_loopw [23] (fun z wp => ∃ k : Nat, k ≤ p ∧ z = .int .i64 k ∧ Below g8 wq wp ∧ ∃ As nS cs Bs mS ds, Slots wp g8 [.bool (sumK x us k).neg, .slice As nS cs, .slice Bs mS ds] ∧ RatP wp (g7 + 1) (.agg #[.bool (sumK x us k).neg, .slice As nS cs, .slice Bs mS ds]) (sumK x us k)) (fun z _ => p - (intOf z).toNat)
      case atStart => exact ⟨0, Nat.zero_le _, rfl, Below.refl _ _, _, _, _, _, _, _, S8', hp4'⟩
      case round =>
        clear hp4' S8'
        obtain ⟨k, hk, rfl, hbw, Au, nU, cu, Bu, mU, du, S8, hsum⟩ := hrel
        have hwo : Below wo.heap.size wo wr := by rw [HG7.out]; exact hal8.trans (hbw.mono (by omega))
        have hww : Below w.heap.size w wr := hbelw.trans (below_le hwo hbelw.size)
        have hlt8 := S8.1
        by_cases hkp : k = p
        · subst hkp
          have h0 : decide ((k : Int) < (k : Int)) = false := by simp
          have HSN3 := Lib.hid HSN2.out
          have hres := sumK_res x us k
          generalize sumK x us k = S at *
          have hal9 := below_alloc1 wr (.cells #[.bool S.neg, .slice Au nU cu, .slice Bu mU du] 57)
          have S9 := Slots.new (Below.refl _ (wr.alloc (.cells #[.bool S.neg, .slice Au nU cu, .slice Bu mU du] 57))) (g := wr.heap.size) rfl
          obtain ⟨c0, c1', c2', _, _, _⟩ := S9.c3
          obtain ⟨s0, s1, s2, _, _, _⟩ := S8.c3
          have hvw2 := (HVW.out.later hwo).later hal9
          obtain ⟨va, vb, ev, ra, rb, hap⟩ := hsum
          injection ev with ev
          injection ev with ev
          injection ev with ev0 ev
          injection ev with ev1 ev
          injection ev with ev2 _
          subst ev1 ev2
          have ia := (ra.io.later hal9).wide (lo' := g7) (hi' := wr.heap.size + 1) (by omega) (by omega)
          have ib := (rb.io.later hal9).wide (lo' := g7) (hi' := wr.heap.size + 1) (by omega) (by omega)
          have HVX := Lib.hid hvw2
          have hb7 : w.heap.size + 1 ≤ g7 := by omega
          have hln := HTL.out i (by omega)
          have HLN := Lib.hid hln
          have hbelx : Below (w.heap.size + 1) w2 (wr.alloc (.cells #[.bool S.neg, .slice Au nU cu, .slice Bu mU du] 57)) := (hbel.trans (hwo.mono (by rw [HG7.out]; omega))).trans (hal9.mono (by omega))
          clear hvw2 S9 S8 hln ev0 ra rb hal9
          go_wp2_with (at_builtin; refine appRat rfl _ _ rfl rfl HVX.out (by rw [HLN.out]; omega) (by simp; omega) S _ _ wr.heap.size rfl c0 c1' c2' ia ib hap hb7 (by omega) ?_; intro v9 w9 hvw9 hfr9)
          have hbel9 := hbelx.trans (hfr9.to_below (B := w.heap.size + 1) (by simp; omega) (fun b hb hs => by have := (World.ownsRow.lt HVX.out.2.1 b hs).1; omega))
          rw [← HSN3.out] at hvw9
          have hvw9' := hvw9.wide (hi' := w9.heap.size) (by have := hfr9.size; simp at this; omega)
          clear c0 c1' c2' s0 s1 s2
          go_roundw
          case rel => exact ⟨i + 1, by omega, rfl, hbel9, _, hvw9'⟩
          case measure => simp [intOf]; omega
        · have hltk : (k : Int) < (p : Int) := by omega
          have hkc : k < x.cols.length := by rw [HPC.out]; omega
          have hkv : k < x.vals.length := by rw [HPV.out]; omega
          have hr1' := HV1.out wr hwo
          have hr2' := HV2.out wr hwo
          obtain ⟨b3, o3, rfl, hb3, hc3⟩ := hr1' (by intro h; rw [h] at hkc; simp at hkc)
          have e3 := hc3 k hkc
          have hv2 := HV2.out wo (Below.refl _ _)
          obtain ⟨b4, o4, rfl, hb4, hat4⟩ := hv2.cells k hkv
          have hat4' := RatAt.stays _ _ _ _ _ hb4 hat4 hwo
          rw [HG7.out] at hb4
          obtain ⟨ok1, ok2⟩ := OKD.out k hkc
          obtain ⟨fv1, fv2⟩ := HFV.out k hkv
          obtain ⟨ct, hct0⟩ : ∃ ct : Nat, x.cols.getD k 0 = (ct : Int) := ⟨(x.cols.getD k 0).toNat, by omega⟩
          rw [hct0] at e3 ok2
          have hctm : (ct : Int) < (m : Int) := ok2
          have hcu : ct < us.length := by rw [HM.out]; omega
          obtain ⟨b6, o6, rfl, hb6, hat6⟩ := hv.cells ct hcu
          have hat6' := RatAt.stays _ _ _ _ _ hb6 hat6 hww
          obtain ⟨fu1, fu2⟩ := HG.out ct hcu
          have HSK := Lib.hid (show sumK x us (k + 1) = FE.radd (sumK x us k) (FE.rmul (x.vals.getD k zR) (us.getD ct zR)) by simp only [sumK, hct0, Int.toNat_natCast])
          have HSS := Lib.hid (res_few (sumK_res x us k))
          clear hc3 ok1 ok2 hct0 hkc hkv hcu hr1' hr2' hv2 hat4 hat6
          generalize x.vals.getD k zR = y at *
          generalize us.getD ct zR = z at *
          have hmr := FE.rmul_res y z
          obtain ⟨S2, hS2⟩ : ∃ S2, sumK x us (k + 1) = S2 := ⟨_, rfl⟩
          rw [hS2] at HSK
          have HS2 := Lib.hid hS2
          clear hS2
          generalize sumK x us k = S at *
          obtain ⟨A5, c5, B5, d5, k0, k1, k2, hl5, q1, q2⟩ := hat4'
          obtain ⟨A7, c7, B7, d7, l0, l1', l2', hl7, q3, q4⟩ := hat6'
          have KM := Lib.hid (fun W (hW : Below wr.heap.size wr W) => iRatMul y z (.agg #[.bool y.neg, .slice A5 y.mag.length c5, .slice B5 y.den.length d5]) (.agg #[.bool z.neg, .slice A7 z.mag.length c7, .slice B7 z.den.length d7]) W ⟨_, _, _, _, rfl, hl5, q1.later hW, q2.later hW⟩ ⟨_, _, _, _, rfl, hl7, q3.later hW, q4.later hW⟩ ⟨fv1, fv2⟩ ⟨fu1, fu2⟩)
          have KA := fun W (hW : Below wr.heap.size wr W) v (hv : RatV W v (FE.rmul y z)) => iRatAdd S (FE.rmul y z) _ v W (hsum.reads.later hW) hv HSS.out (res_few hmr)
          rw [← HSK.out] at KA
          replace KA := Lib.hid KA
          obtain ⟨s0, s1, s2, z0, z1, z2⟩ := S8.c3
          have t0 := (hbw.cell (p := ⟨g7, 0, none⟩) hg78).trans S7.k2.1
          have t1 := (hbw.cell (p := ⟨g7, 1, none⟩) hg78).trans S7.k2.2.1
          have hbwW := Lib.hid hbw
          have hwrs : Below wr.heap.size wr wr.drew := ⟨rfl, rfl, rfl, Nat.le_refl _, fun _ _ => rfl⟩
          have hA8 := AnyK.of S8
          have S8o := S8
          clear hl5 q1 q2 hl7 q3 q4 hmr hsum fv1 fv2 fu1 fu2 S8 hwo hww
          generalize FE.rmul y z = Y at *
          have hb6g : b6 < g8 := by omega
          have hb4g : b4 < g8 := by omega
          go_wp2_with fail
          refine wp_region_held_drew (S := fun W => Below g8 wr W) (by kernel_rfl) ?_ (fun hHeld => ?_)
          · exact (show Below g8 wr wr.drew from ⟨rfl, rfl, rfl, Nat.le_refl _, fun _ _ => rfl⟩)
          replace hHeld : Below g8 wr _ := hHeld
          refine wpAnyH_take (i := 1) (v := ?_) rfl (by kernel_rfl) (by kernel_rfl) (by kernel_rfl) (fun _ _ _ h => h) (Or.inl ⟨by rfl, ?_⟩) (by assumption) ?_
          rotate_left
          · intro W hSw
            replace hSw : Below g8 wr W := hSw
            have f0 := (hSw.cell (p := ⟨g7, 0, none⟩) hg78).trans t0
            have f1 := (hSw.cell (p := ⟨g7, 1, none⟩) hg78).trans t1
            have f2 := (hSw.cell (p := ⟨b4, o4 + k * 3, none⟩) hb4g).trans k0
            have f3 := (hSw.cell (p := ⟨b4, o4 + k * 3 + 1, none⟩) hb4g).trans k1
            have f4 := (hSw.cell (p := ⟨b4, o4 + k * 3 + 2, none⟩) hb4g).trans k2
            have f5 := (hSw.cell (p := ⟨b6, o6 + ct * 3, none⟩) hb6g).trans l0
            have f6 := (hSw.cell (p := ⟨b6, o6 + ct * 3 + 1, none⟩) hb6g).trans l1'
            have f7 := (hSw.cell (p := ⟨b6, o6 + ct * 3 + 2, none⟩) hb6g).trans l2'
            go_simp
            try with_reducible rfl
          try simp only [Act.put, List.setIfInBounds_toArray]
          refine wpAnyH_take (i := 2) (v := ?_) rfl (by kernel_rfl) (by kernel_rfl) (by kernel_rfl) (fun _ _ _ h => h) (Or.inl ⟨by rfl, ?_⟩) (by assumption) ?_
          rotate_left
          · intro W hSw
            replace hSw : Below g8 wr W := hSw
            have f0 := (hSw.cell (p := ⟨g7, 0, none⟩) hg78).trans t0
            have f1 := (hSw.cell (p := ⟨g7, 1, none⟩) hg78).trans t1
            have f2 := (hSw.cell (p := ⟨b4, o4 + k * 3, none⟩) hb4g).trans k0
            have f3 := (hSw.cell (p := ⟨b4, o4 + k * 3 + 1, none⟩) hb4g).trans k1
            have f4 := (hSw.cell (p := ⟨b4, o4 + k * 3 + 2, none⟩) hb4g).trans k2
            have f5 := (hSw.cell (p := ⟨b6, o6 + ct * 3, none⟩) hb6g).trans l0
            have f6 := (hSw.cell (p := ⟨b6, o6 + ct * 3 + 1, none⟩) hb6g).trans l1'
            have f7 := (hSw.cell (p := ⟨b6, o6 + ct * 3 + 2, none⟩) hb6g).trans l2'
            go_simp
            try with_reducible rfl
          try simp only [Act.put]
          refine wpAnyH_take (i := 3) (v := ?_) rfl (by kernel_rfl) (by kernel_rfl) (by kernel_rfl) (fun _ _ _ h => h) (Or.inl ⟨by rfl, ?_⟩) (by assumption) ?_
          rotate_left
          · intro W hSw
            replace hSw : Below g8 wr W := hSw
            have f0 := (hSw.cell (p := ⟨g7, 0, none⟩) hg78).trans t0
            have f1 := (hSw.cell (p := ⟨g7, 1, none⟩) hg78).trans t1
            have f2 := (hSw.cell (p := ⟨b4, o4 + k * 3, none⟩) hb4g).trans k0
            have f3 := (hSw.cell (p := ⟨b4, o4 + k * 3 + 1, none⟩) hb4g).trans k1
            have f4 := (hSw.cell (p := ⟨b4, o4 + k * 3 + 2, none⟩) hb4g).trans k2
            have f5 := (hSw.cell (p := ⟨b6, o6 + ct * 3, none⟩) hb6g).trans l0
            have f6 := (hSw.cell (p := ⟨b6, o6 + ct * 3 + 1, none⟩) hb6g).trans l1'
            have f7 := (hSw.cell (p := ⟨b6, o6 + ct * 3 + 2, none⟩) hb6g).trans l2'
            go_simp
            try with_reducible rfl
          try simp only [Act.put]
          refine wpAnyH_take (i := 4) (v := ?_) rfl (by kernel_rfl) (by kernel_rfl) (by kernel_rfl) (fun _ _ _ h => h) (Or.inl ⟨by rfl, ?_⟩) (by assumption) ?_
          rotate_left
          · intro W hSw
            replace hSw : Below g8 wr W := hSw
            have f0 := (hSw.cell (p := ⟨g7, 0, none⟩) hg78).trans t0
            have f1 := (hSw.cell (p := ⟨g7, 1, none⟩) hg78).trans t1
            have f2 := (hSw.cell (p := ⟨b4, o4 + k * 3, none⟩) hb4g).trans k0
            have f3 := (hSw.cell (p := ⟨b4, o4 + k * 3 + 1, none⟩) hb4g).trans k1
            have f4 := (hSw.cell (p := ⟨b4, o4 + k * 3 + 2, none⟩) hb4g).trans k2
            have f5 := (hSw.cell (p := ⟨b6, o6 + ct * 3, none⟩) hb6g).trans l0
            have f6 := (hSw.cell (p := ⟨b6, o6 + ct * 3 + 1, none⟩) hb6g).trans l1'
            have f7 := (hSw.cell (p := ⟨b6, o6 + ct * 3 + 2, none⟩) hb6g).trans l2'
            go_simp
            try with_reducible rfl
          try simp only [Act.put]
          refine wpAnyH_take (i := 5) (v := ?_) rfl (by kernel_rfl) (by kernel_rfl) (by kernel_rfl) (fun _ _ _ h => h) (Or.inl ⟨by rfl, ?_⟩) (by assumption) ?_
          rotate_left
          · intro W hSw
            replace hSw : Below g8 wr W := hSw
            have f0 := (hSw.cell (p := ⟨g7, 0, none⟩) hg78).trans t0
            have f1 := (hSw.cell (p := ⟨g7, 1, none⟩) hg78).trans t1
            have f2 := (hSw.cell (p := ⟨b4, o4 + k * 3, none⟩) hb4g).trans k0
            have f3 := (hSw.cell (p := ⟨b4, o4 + k * 3 + 1, none⟩) hb4g).trans k1
            have f4 := (hSw.cell (p := ⟨b4, o4 + k * 3 + 2, none⟩) hb4g).trans k2
            have f5 := (hSw.cell (p := ⟨b6, o6 + ct * 3, none⟩) hb6g).trans l0
            have f6 := (hSw.cell (p := ⟨b6, o6 + ct * 3 + 1, none⟩) hb6g).trans l1'
            have f7 := (hSw.cell (p := ⟨b6, o6 + ct * 3 + 2, none⟩) hb6g).trans l2'
            go_simp
            try with_reducible rfl
          try simp only [Act.put]
          refine wpAnyH_take (i := 6) (v := ?_) rfl (by kernel_rfl) (by kernel_rfl) (by kernel_rfl) (fun _ _ _ h => h) (Or.inl ⟨by rfl, ?_⟩) (by assumption) ?_
          rotate_left
          · intro W hSw
            replace hSw : Below g8 wr W := hSw
            have f0 := (hSw.cell (p := ⟨g7, 0, none⟩) hg78).trans t0
            have f1 := (hSw.cell (p := ⟨g7, 1, none⟩) hg78).trans t1
            have f2 := (hSw.cell (p := ⟨b4, o4 + k * 3, none⟩) hb4g).trans k0
            have f3 := (hSw.cell (p := ⟨b4, o4 + k * 3 + 1, none⟩) hb4g).trans k1
            have f4 := (hSw.cell (p := ⟨b4, o4 + k * 3 + 2, none⟩) hb4g).trans k2
            have f5 := (hSw.cell (p := ⟨b6, o6 + ct * 3, none⟩) hb6g).trans l0
            have f6 := (hSw.cell (p := ⟨b6, o6 + ct * 3 + 1, none⟩) hb6g).trans l1'
            have f7 := (hSw.cell (p := ⟨b6, o6 + ct * 3 + 2, none⟩) hb6g).trans l2'
            go_simp
            try with_reducible rfl
          try simp only [Act.put]
          refine wpAnyH_take (i := 7) (v := ?_) rfl (by kernel_rfl) (by kernel_rfl) (by kernel_rfl) (fun _ _ _ h => h) (Or.inl ⟨by rfl, ?_⟩) (by assumption) ?_
          rotate_left
          · intro W hSw
            replace hSw : Below g8 wr W := hSw
            have f0 := (hSw.cell (p := ⟨g7, 0, none⟩) hg78).trans t0
            have f1 := (hSw.cell (p := ⟨g7, 1, none⟩) hg78).trans t1
            have f2 := (hSw.cell (p := ⟨b4, o4 + k * 3, none⟩) hb4g).trans k0
            have f3 := (hSw.cell (p := ⟨b4, o4 + k * 3 + 1, none⟩) hb4g).trans k1
            have f4 := (hSw.cell (p := ⟨b4, o4 + k * 3 + 2, none⟩) hb4g).trans k2
            have f5 := (hSw.cell (p := ⟨b6, o6 + ct * 3, none⟩) hb6g).trans l0
            have f6 := (hSw.cell (p := ⟨b6, o6 + ct * 3 + 1, none⟩) hb6g).trans l1'
            have f7 := (hSw.cell (p := ⟨b6, o6 + ct * 3 + 2, none⟩) hb6g).trans l2'
            go_simp
            try with_reducible rfl
          try simp only [Act.put]
          refine wpAnyH_take (i := 8) (v := ?_) rfl (by kernel_rfl) (by kernel_rfl) (by kernel_rfl) (fun _ _ _ h => h) (Or.inl ⟨by rfl, ?_⟩) (by assumption) ?_
          rotate_left
          · intro W hSw
            replace hSw : Below g8 wr W := hSw
            have f0 := (hSw.cell (p := ⟨g7, 0, none⟩) hg78).trans t0
            have f1 := (hSw.cell (p := ⟨g7, 1, none⟩) hg78).trans t1
            have f2 := (hSw.cell (p := ⟨b4, o4 + k * 3, none⟩) hb4g).trans k0
            have f3 := (hSw.cell (p := ⟨b4, o4 + k * 3 + 1, none⟩) hb4g).trans k1
            have f4 := (hSw.cell (p := ⟨b4, o4 + k * 3 + 2, none⟩) hb4g).trans k2
            have f5 := (hSw.cell (p := ⟨b6, o6 + ct * 3, none⟩) hb6g).trans l0
            have f6 := (hSw.cell (p := ⟨b6, o6 + ct * 3 + 1, none⟩) hb6g).trans l1'
            have f7 := (hSw.cell (p := ⟨b6, o6 + ct * 3 + 2, none⟩) hb6g).trans l2'
            go_simp
            try with_reducible rfl
          try simp only [Act.put]
          refine wpAnyH_take (i := 9) (v := ?_) rfl (by kernel_rfl) (by kernel_rfl) (by kernel_rfl) (fun _ _ _ h => h) (Or.inl ⟨by rfl, ?_⟩) (by assumption) ?_
          rotate_left
          · intro W hSw
            replace hSw : Below g8 wr W := hSw
            have f0 := (hSw.cell (p := ⟨g7, 0, none⟩) hg78).trans t0
            have f1 := (hSw.cell (p := ⟨g7, 1, none⟩) hg78).trans t1
            have f2 := (hSw.cell (p := ⟨b4, o4 + k * 3, none⟩) hb4g).trans k0
            have f3 := (hSw.cell (p := ⟨b4, o4 + k * 3 + 1, none⟩) hb4g).trans k1
            have f4 := (hSw.cell (p := ⟨b4, o4 + k * 3 + 2, none⟩) hb4g).trans k2
            have f5 := (hSw.cell (p := ⟨b6, o6 + ct * 3, none⟩) hb6g).trans l0
            have f6 := (hSw.cell (p := ⟨b6, o6 + ct * 3 + 1, none⟩) hb6g).trans l1'
            have f7 := (hSw.cell (p := ⟨b6, o6 + ct * 3 + 2, none⟩) hb6g).trans l2'
            go_simp
            try with_reducible rfl
          try simp only [Act.put]
          refine wpAnyH_ready (rs := [0, 10]) (by kernel_rfl) (by simp) ?_
          refine AllReadyH.cons rfl (fun K hK => ?_) ?_
          · simp only [List.getElem_toArray, List.getElem_cons_succ, List.getElem_cons_zero]
            go_simp
            refine hK.out _ _ ?_ (fun hHeld2 => ?_)
            · exact hHeld
            clear hK K hHeld
            have hHeld : Below g8 wr _ := hHeld2
            clear hHeld2
            try simp only [Act.put, List.setIfInBounds_toArray, List.set_cons_zero, List.set_cons_succ]
            refine wpAnyH_ready (rs := [10]) (by kernel_rfl) (by simp) ?_
            refine AllReadyH.cons rfl (fun K hK => ?_) ?_
            · simp only [List.getElem_toArray, List.getElem_cons_succ, List.getElem_cons_zero]
              go_simp
              (go_at_call 45; (with_reducible refine (KM.out _ (by first | exact hwrs | exact Below.refl _ _)).mono ?_); rintro e3 w3 ⟨v3, rfl, hp3, hb3⟩)
              try (go_wp2_with fail)
              have hv3 := hp3.reads
              have hb3' : Below wr.heap.size wr w3 := ⟨hb3.os, hb3.tape, hb3.output, hb3.size, hb3.block⟩
              have hB3 : Below g8 wr w3 := hb3'.mono (by omega)
              have s0' := cell_later hlt8 s0 hb3'
              have s1' := cell_later hlt8 s1 hb3'
              have s2' := cell_later hlt8 s2 hb3'
              have hA3 := hA8.later hb3'
              refine hK.out _ _ ?_ (fun hHeld2 => ?_)
              · exact hB3
              clear hK K hHeld
              have hHeld : Below g8 wr _ := hHeld2
              clear hHeld2
              try simp only [Act.put, List.setIfInBounds_toArray, List.set_cons_zero, List.set_cons_succ]
              refine wpAnyH_ready (rs := [11]) (by kernel_rfl) (by simp) ?_
              refine AllReadyH.cons rfl (fun K hK => ?_) ?_
              · simp only [List.getElem_toArray, List.getElem_cons_succ, List.getElem_cons_zero]
                go_simp
                (go_at_call 46; (with_reducible refine (KA.out _ hb3' v3 hv3).mono ?_); rintro e6 w6 ⟨v6, rfl, hrp, hb6⟩)
                try (go_wp2_with fail)
                obtain ⟨A6, n6, c6, B6, m6, d6, rfl⟩ := hrp.shape
                have hb63 := below_trans hb3' hb6
                have hB6 : Below g8 wr w6 := hb63.mono (by omega)
                have hA6 := hA3.later hb6
                obtain ⟨_, _, _, x0, x1, x2, _z0, _z1, _z2⟩ := hA6.c3
                refine hK.out _ _ ?_ (fun hHeld2 => ?_)
                · exact hB6
                clear hK K hHeld
                have hHeld : Below g8 wr _ := hHeld2
                clear hHeld2
                try simp only [Act.put, List.setIfInBounds_toArray, List.set_cons_zero, List.set_cons_succ]
                refine wpAnyH_ready (rs := [12]) (by kernel_rfl) (by simp) ?_
                refine AllReadyH.cons rfl (fun K hK => ?_) ?_
                · simp only [List.getElem_toArray, List.getElem_cons_succ, List.getElem_cons_zero]
                  go_simp
                  refine hK.out _ _ ?_ (fun hHeld2 => ?_)
                  · exact below3 hB6 (Nat.le_refl g8) _ _ _
                  clear hK K hHeld
                  have hHeld : Below g8 wr _ := hHeld2
                  clear hHeld2
                  try simp only [Act.put, List.setIfInBounds_toArray, List.set_cons_zero, List.set_cons_succ]
                  refine wpAnyH_done (by kernel_rfl) ?_ _
                  have hb6 := hbwW.out.trans ((below_le hb63 (Nat.le_refl _)).mono (by omega))
                  have hb8 := below3 hb6 (Nat.le_refl g8) (.bool S2.neg) (.slice A6 n6 c6) (.slice B6 m6 d6)
                  have S9 := (((S8o.later hb63).set 0 (by show 0 < 3; decide) (.bool S2.neg)).set 1 (by show 1 < 3; decide) (.slice A6 n6 c6)).set 2 (by show 2 < 3; decide) (.slice B6 m6 d6)
                  have hp9 := (hrp.mono (base' := g8 + 1) (by have := hb3'.size; omega)).far3 (g := g8) (Nat.lt_succ_self _) (.bool S2.neg) (.slice A6 n6 c6) (.slice B6 m6 d6)
                  have hp10 := hp9.mono (base' := g7 + 1) (by omega)
                  clear hp9 hrp hv3 hp3 hb3' hb63 hb6 x0 x1 x2 s0 s1 s2 t0 t1 k0 k1 k2 l0 l1' l2' e3 hHeld hB6 hB3
                  go_wp2
                  go_roundw
                  case rel =>
                    have e := HS2.out
                    subst e
                    exact ⟨k + 1, by omega, rfl, hb8, _, _, _, _, _, _, S9, hp10⟩
                  case measure => simp [intOf]; omega
                exact AllReadyH.nil
              exact AllReadyH.nil
            exact AllReadyH.nil
          refine AllReadyH.cons rfl (fun K hK => ?_) ?_
          · simp only [List.getElem_toArray, List.getElem_cons_succ, List.getElem_cons_zero]
            go_simp
            (go_at_call 45; (with_reducible refine (KM.out _ (by first | exact hwrs | exact Below.refl _ _)).mono ?_); rintro e3 w3 ⟨v3, rfl, hp3, hb3⟩)
            try (go_wp2_with fail)
            have hv3 := hp3.reads
            have hb3' : Below wr.heap.size wr w3 := ⟨hb3.os, hb3.tape, hb3.output, hb3.size, hb3.block⟩
            have hB3 : Below g8 wr w3 := hb3'.mono (by omega)
            have s0' := cell_later hlt8 s0 hb3'
            have s1' := cell_later hlt8 s1 hb3'
            have s2' := cell_later hlt8 s2 hb3'
            have hA3 := hA8.later hb3'
            refine hK.out _ _ ?_ (fun hHeld2 => ?_)
            · exact hB3
            clear hK K hHeld
            have hHeld : Below g8 wr _ := hHeld2
            clear hHeld2
            try simp only [Act.put, List.setIfInBounds_toArray, List.set_cons_zero, List.set_cons_succ]
            refine wpAnyH_ready (rs := [0]) (by kernel_rfl) (by simp) ?_
            refine AllReadyH.cons rfl (fun K hK => ?_) ?_
            · simp only [List.getElem_toArray, List.getElem_cons_zero]
              go_simp
              refine hK.out _ _ ?_ (fun hHeld2 => ?_)
              · exact hB3
              clear hK K hHeld
              have hHeld : Below g8 wr _ := hHeld2
              clear hHeld2
              try simp only [Act.put, List.setIfInBounds_toArray, List.set_cons_zero, List.set_cons_succ]
              refine wpAnyH_ready (rs := [11]) (by kernel_rfl) (by simp) ?_
              refine AllReadyH.cons rfl (fun K hK => ?_) ?_
              · simp only [List.getElem_toArray, List.getElem_cons_succ, List.getElem_cons_zero]
                go_simp
                (go_at_call 46; (with_reducible refine (KA.out _ hb3' v3 hv3).mono ?_); rintro e6 w6 ⟨v6, rfl, hrp, hb6⟩)
                try (go_wp2_with fail)
                obtain ⟨A6, n6, c6, B6, m6, d6, rfl⟩ := hrp.shape
                have hb63 := below_trans hb3' hb6
                have hB6 : Below g8 wr w6 := hb63.mono (by omega)
                have hA6 := hA3.later hb6
                obtain ⟨_, _, _, x0, x1, x2, _z0, _z1, _z2⟩ := hA6.c3
                refine hK.out _ _ ?_ (fun hHeld2 => ?_)
                · exact hB6
                clear hK K hHeld
                have hHeld : Below g8 wr _ := hHeld2
                clear hHeld2
                try simp only [Act.put, List.setIfInBounds_toArray, List.set_cons_zero, List.set_cons_succ]
                refine wpAnyH_ready (rs := [12]) (by kernel_rfl) (by simp) ?_
                refine AllReadyH.cons rfl (fun K hK => ?_) ?_
                · simp only [List.getElem_toArray, List.getElem_cons_succ, List.getElem_cons_zero]
                  go_simp
                  refine hK.out _ _ ?_ (fun hHeld2 => ?_)
                  · exact below3 hB6 (Nat.le_refl g8) _ _ _
                  clear hK K hHeld
                  have hHeld : Below g8 wr _ := hHeld2
                  clear hHeld2
                  try simp only [Act.put, List.setIfInBounds_toArray, List.set_cons_zero, List.set_cons_succ]
                  refine wpAnyH_done (by kernel_rfl) ?_ _
                  have hb6 := hbwW.out.trans ((below_le hb63 (Nat.le_refl _)).mono (by omega))
                  have hb8 := below3 hb6 (Nat.le_refl g8) (.bool S2.neg) (.slice A6 n6 c6) (.slice B6 m6 d6)
                  have S9 := (((S8o.later hb63).set 0 (by show 0 < 3; decide) (.bool S2.neg)).set 1 (by show 1 < 3; decide) (.slice A6 n6 c6)).set 2 (by show 2 < 3; decide) (.slice B6 m6 d6)
                  have hp9 := (hrp.mono (base' := g8 + 1) (by have := hb3'.size; omega)).far3 (g := g8) (Nat.lt_succ_self _) (.bool S2.neg) (.slice A6 n6 c6) (.slice B6 m6 d6)
                  have hp10 := hp9.mono (base' := g7 + 1) (by omega)
                  clear hp9 hrp hv3 hp3 hb3' hb63 hb6 x0 x1 x2 s0 s1 s2 t0 t1 k0 k1 k2 l0 l1' l2' e3 hHeld hB6 hB3
                  go_wp2
                  go_roundw
                  case rel =>
                    have e := HS2.out
                    subst e
                    exact ⟨k + 1, by omega, rfl, hb8, _, _, _, _, _, _, S9, hp10⟩
                  case measure => simp [intOf]; omega
                exact AllReadyH.nil
              exact AllReadyH.nil
            exact AllReadyH.nil
          exact AllReadyH.nil
end Go.Proofs.YtlpomcihkjiokaaGreat

namespace Go.Proofs.YtlpomcihkjiokaaGreat
open Go.RowKit Go.Joins
attribute [local go_sem ↓] Go.wp_at_zero Go.wp_at_succ

set_option maxRecDepth 100000 in
set_option maxHeartbeats 3200000 in
theorem sApply (rs : List RowD) (us : List RatD) (u : Value) (B0 : Option Addr) (m d : Nat) (hm : us.length = m) (w : World) (hu : MatV w u rs) (hv : VI w B0 us) (hf : MFew rs) (hg : Few us) (hok : mOk rs = true) (hlen : us.length = rs.length) :
    Calls Tryz.prog 166 #[u, .slice B0 m d] w (VPost w (vApply rs us)) := by
  obtain ⟨A, c, rfl, _, hx⟩ := hu
  have hn1 := hf.1
  have HF := Lib.hid hf.2
  have HG := Lib.hid hg.2
  have HOK := Lib.hid (fun i (hi : i < rs.length) => mOk_row hok hi)
  clear hf hg hok
  have hm1 : m ≤ 1048576 := by omega
  have HRS := Lib.hid (fun i x (hi : i < m) (hx : rs.getD i zRow = x) => (by rw [← hx]; exact take_map_snoc (fun x => sumK x us x.cols.length) rs i zRow (by omega) : (rs.take (i + 1)).map (fun x => sumK x us x.cols.length) = (rs.take i).map (fun x => sumK x us x.cols.length) ++ [sumK x us x.cols.length]))
  have HFIN := Lib.hid (show (rs.take m).map (fun x => sumK x us x.cols.length) = vApply rs us by rw [List.take_of_length_le (by omega)]; rfl)
  have HTL := Lib.hid (fun i (hi : i ≤ m) => (show ((rs.take i).map (fun x => sumK x us x.cols.length)).length = i by rw [List.length_map, List.length_take]; omega))
  obtain ⟨n, hn⟩ : ∃ n, rs.length = n := ⟨_, rfl⟩
  rw [hn] at hn1 HOK hlen ⊢
  have HN := Lib.hid hn
  have HM := Lib.hid hm
  have hmn : m = n := by rw [← hm, hlen]
  subst hmn
  clear hn hm hlen

  have hl0 := World.ownsRow_lit (base := w.heap.size + 1) (e := 57) (size := 3) (w.alloc (.cells #[.slice A m c] 52)) #[] 0 (by simp) (by unfold maxLen; omega) rfl
  have hbel0 := below_alloc2 w (.cells #[.slice A m c] 52) (.cells #[] 57)
  have e00 : (w.alloc (.cells #[.slice A m c] 52)).heap.size = w.heap.size + 1 := by simp
  rw [e00] at hl0
  clear e00
  have hsz0 : w.heap.size + 1 < ((w.alloc (.cells #[.slice A m c] 52)).alloc (.cells #[] 57)).heap.size := by simp
  go_enter Tryz.func166, Tryz.ntmps166
  go_wp2_with fail
  generalize (w.alloc (.cells #[.slice A m c] 52)).alloc (.cells #[] 57) = w2 at *
  go_loopw [5, 15] (fun o z wr => ∃ i : Nat, i ≤ m ∧ z = .int .i64 i ∧ Below (w.heap.size + 1) w2 wr ∧ ∃ ps, VW wr (w.heap.size + 1) wr.heap.size o ps ((rs.take i).map fun x => sumK x us x.cols.length)) (fun _ z _ => m - (intOf z).toNat)
  case atStart => exact ⟨0, Nat.zero_le _, rfl, Below.refl _ _, [], VW.nil _ _ _ hl0⟩
  case round =>
    obtain ⟨i, hi, rfl, hbel, ps, hvw⟩ := hrel
    have hbelw := hbel0.trans (hbel.mono (by omega))
    have hszr := hbel.size
    obtain ⟨Ao, co, rfl, _⟩ := hvw.form
    have hno := HTL.out i hi
    rw [hno]
    rw [hno] at hvw
    have HVW := Lib.hid hvw
    clear hvw hno
    by_cases him : i = m
    · subst him
      have h0 : decide ((i : Int) < (i : Int)) = false := by simp
      have hV := HVW.out
      rw [HFIN.out] at hV
      have HVV := Lib.hid hV
      clear hV
      go_wp2
      go_ret
      exact ⟨.slice Ao i co, ps, rfl, HVV.out, hbelw⟩
    · have hlt : (i : Int) < (m : Int) := by omega
      have hil : i < rs.length := by rw [HN.out]; omega
      obtain ⟨b0, o0, rfl, hb0, hat⟩ := hx.cells i hil
      have hat1 := RowAt.stays _ _ _ _ _ hb0 hat hbelw
      obtain ⟨okA, _, _, okD⟩ := HOK.out i (by omega)
      have f1 := HF.out i hil
      have HSN := Lib.hid (fun x (hx : rs.getD i zRow = x) => HRS.out i x (by omega) hx)
      have HSN2 := Lib.hid (HSN.out _ rfl)
      clear hat hil HSN
      generalize rs.getD i zRow = x at *
      obtain ⟨A1, c1, A2, c2, g0', g1', hcd, hr1, hr2⟩ := hat1
      have hb0r : b0 < wr.heap.size := Nat.lt_of_lt_of_le hb0 hbelw.size
      have l1 := f1.1
      have l2 := f1.2.1
      have HFV := Lib.hid f1.2.2
      have OKD := Lib.hid okD
      obtain ⟨p, hp⟩ : ∃ n, x.cols.length = n := ⟨_, rfl⟩
      have hpv : x.vals.length = p := by rw [← hp]; exact okA
      rw [hp] at l1 g0' HSN2
      rw [hpv] at g1' l2
      have HPC := Lib.hid hp
      have HPV := Lib.hid hpv
      clear okA okD f1 hcd hp hpv
      have hal := below_alloc1 wr (.cells #[.slice A1 p c1, .slice A2 p c2] 130)
      have S7 := Slots.new (Below.refl _ (wr.alloc (.cells #[.slice A1 p c1, .slice A2 p c2] 130))) (g := wr.heap.size) rfl
      go_wp2_with fail
      clear g0' g1'
      refine (sRatFromInt_pos 0 (by decide) _).mono ?_
      rintro e w4 ⟨v4, rfl, hp4, hb4⟩
      replace hp4 := hp4.mono (base' := wr.heap.size + 1) (by simp)
      replace S7 := S7.later hb4
      have hal4 := below_trans hal hb4
      obtain ⟨As, nS, cs, Bs, mS, ds, rfl⟩ := hp4.shape
      have al8 := below_alloc1 w4 (.cells #[.bool (FE.rint 0).neg, .slice As nS cs, .slice Bs mS ds] 57)
      have S8 := Slots.new (Below.refl _ (w4.alloc (.cells #[.bool (FE.rint 0).neg, .slice As nS cs, .slice Bs mS ds] 57))) (g := w4.heap.size) rfl
      have hg78 : wr.heap.size < w4.heap.size := S7.1
      replace S7 := S7.later al8
      replace hp4 := hp4.later al8
      have hal8 := below_trans hal4 al8
      clear hal hal4 hb4
      obtain ⟨t0, t1, _, _⟩ := S7.k2
      go_wp2_with fail
      clear al8
      generalize w4.alloc (.cells #[.bool (FE.rint 0).neg, .slice As nS cs, .slice Bs mS ds] 57) = wq at *
      generalize hg7 : wr.heap.size = g7 at *
      generalize w4.heap.size = g8 at *
      have HG7 := Lib.hid hg7
      clear hg7
      generalize wr = wo at *
      have HV1 := Lib.hid (fun W (hW : Below wo.heap.size wo W) => hr1.later hW)
      have HV2 := Lib.hid (fun W (hW : Below wo.heap.size wo W) => hr2.later hW)
      have hp4' : RatP wq (g7 + 1) (.agg #[.bool (sumK x us 0).neg, .slice As nS cs, .slice Bs mS ds]) (sumK x us 0) := hp4
      have S8' : Slots wq g8 [.bool (sumK x us 0).neg, .slice As nS cs, .slice Bs mS ds] := S8
      clear t0 t1 hr1 hr2 hp4 S8
      go_loopw [23] (fun z wp => ∃ k : Nat, k ≤ p ∧ z = .int .i64 k ∧ Below g8 wq wp ∧ ∃ As nS cs Bs mS ds, Slots wp g8 [.bool (sumK x us k).neg, .slice As nS cs, .slice Bs mS ds] ∧ RatP wp (g7 + 1) (.agg #[.bool (sumK x us k).neg, .slice As nS cs, .slice Bs mS ds]) (sumK x us k)) (fun z _ => p - (intOf z).toNat)
      case atStart => exact ⟨0, Nat.zero_le _, rfl, Below.refl _ _, _, _, _, _, _, _, S8', hp4'⟩
      case round =>
        clear hp4' S8'
        obtain ⟨k, hk, rfl, hbw, Au, nU, cu, Bu, mU, du, S8, hsum⟩ := hrel
        have hwo : Below wo.heap.size wo wr := by rw [HG7.out]; exact hal8.trans (hbw.mono (by omega))
        have hww : Below w.heap.size w wr := hbelw.trans (below_le hwo hbelw.size)
        have hlt8 := S8.1
        by_cases hkp : k = p
        · subst hkp
          have h0 : decide ((k : Int) < (k : Int)) = false := by simp
          have HSN3 := Lib.hid HSN2.out
          have hres := sumK_res x us k
          generalize sumK x us k = S at *
          have hal9 := below_alloc1 wr (.cells #[.bool S.neg, .slice Au nU cu, .slice Bu mU du] 57)
          have S9 := Slots.new (Below.refl _ (wr.alloc (.cells #[.bool S.neg, .slice Au nU cu, .slice Bu mU du] 57))) (g := wr.heap.size) rfl
          obtain ⟨c0, c1', c2', _, _, _⟩ := S9.c3
          obtain ⟨s0, s1, s2, _, _, _⟩ := S8.c3
          have hvw2 := (HVW.out.later hwo).later hal9
          obtain ⟨va, vb, ev, ra, rb, hap⟩ := hsum
          injection ev with ev
          injection ev with ev
          injection ev with ev0 ev
          injection ev with ev1 ev
          injection ev with ev2 _
          subst ev1 ev2
          have ia := (ra.io.later hal9).wide (lo' := g7) (hi' := wr.heap.size + 1) (by omega) (by omega)
          have ib := (rb.io.later hal9).wide (lo' := g7) (hi' := wr.heap.size + 1) (by omega) (by omega)
          have HVX := Lib.hid hvw2
          have hb7 : w.heap.size + 1 ≤ g7 := by omega
          have hln := HTL.out i (by omega)
          have HLN := Lib.hid hln
          have hbelx : Below (w.heap.size + 1) w2 (wr.alloc (.cells #[.bool S.neg, .slice Au nU cu, .slice Bu mU du] 57)) := (hbel.trans (hwo.mono (by rw [HG7.out]; omega))).trans (hal9.mono (by omega))
          clear hvw2 S9 S8 hln ev0 ra rb hal9
          go_wp2_with (at_builtin; refine appRat rfl _ _ rfl rfl HVX.out (by rw [HLN.out]; omega) (by simp; omega) S _ _ wr.heap.size rfl c0 c1' c2' ia ib hap hb7 (by omega) ?_; intro v9 w9 hvw9 hfr9)
          have hbel9 := hbelx.trans (hfr9.to_below (B := w.heap.size + 1) (by simp; omega) (fun b hb hs => by have := (World.ownsRow.lt HVX.out.2.1 b hs).1; omega))
          rw [← HSN3.out] at hvw9
          have hvw9' := hvw9.wide (hi' := w9.heap.size) (by have := hfr9.size; simp at this; omega)
          clear c0 c1' c2' s0 s1 s2
          go_roundw
          case rel => exact ⟨i + 1, by omega, rfl, hbel9, _, hvw9'⟩
          case measure => simp [intOf]; omega
        · have hltk : (k : Int) < (p : Int) := by omega
          have hkc : k < x.cols.length := by rw [HPC.out]; omega
          have hkv : k < x.vals.length := by rw [HPV.out]; omega
          have hr1' := HV1.out wr hwo
          have hr2' := HV2.out wr hwo
          obtain ⟨b3, o3, rfl, hb3, hc3⟩ := hr1' (by intro h; rw [h] at hkc; simp at hkc)
          have e3 := hc3 k hkc
          have hv2 := HV2.out wo (Below.refl _ _)
          obtain ⟨b4, o4, rfl, hb4, hat4⟩ := hv2.cells k hkv
          have hat4' := RatAt.stays _ _ _ _ _ hb4 hat4 hwo
          rw [HG7.out] at hb4
          obtain ⟨ok1, ok2⟩ := OKD.out k hkc
          obtain ⟨fv1, fv2⟩ := HFV.out k hkv
          obtain ⟨ct, hct0⟩ : ∃ ct : Nat, x.cols.getD k 0 = (ct : Int) := ⟨(x.cols.getD k 0).toNat, by omega⟩
          rw [hct0] at e3 ok2
          have hctm : (ct : Int) < (m : Int) := ok2
          have hcu : ct < us.length := by rw [HM.out]; omega
          obtain ⟨b6, o6, rfl, hb6, hat6⟩ := hv.cells ct hcu
          have hat6' := RatAt.stays _ _ _ _ _ hb6 hat6 hww
          obtain ⟨fu1, fu2⟩ := HG.out ct hcu
          have HSK := Lib.hid (show sumK x us (k + 1) = FE.radd (sumK x us k) (FE.rmul (x.vals.getD k zR) (us.getD ct zR)) by simp only [sumK, hct0, Int.toNat_natCast])
          have HSS := Lib.hid (res_few (sumK_res x us k))
          clear hc3 ok1 ok2 hct0 hkc hkv hcu hr1' hr2' hv2 hat4 hat6
          generalize x.vals.getD k zR = y at *
          generalize us.getD ct zR = z at *
          have hmr := FE.rmul_res y z
          obtain ⟨S2, hS2⟩ : ∃ S2, sumK x us (k + 1) = S2 := ⟨_, rfl⟩
          rw [hS2] at HSK
          have HS2 := Lib.hid hS2
          clear hS2
          generalize sumK x us k = S at *
          obtain ⟨A5, c5, B5, d5, k0, k1, k2, hl5, q1, q2⟩ := hat4'
          obtain ⟨A7, c7, B7, d7, l0, l1', l2', hl7, q3, q4⟩ := hat6'
          have KM := Lib.hid (fun W (hW : Below wr.heap.size wr W) => sRatMul y z (.agg #[.bool y.neg, .slice A5 y.mag.length c5, .slice B5 y.den.length d5]) (.agg #[.bool z.neg, .slice A7 z.mag.length c7, .slice B7 z.den.length d7]) W ⟨_, _, _, _, rfl, hl5, q1.later hW, q2.later hW⟩ ⟨_, _, _, _, rfl, hl7, q3.later hW, q4.later hW⟩ ⟨fv1, fv2⟩ ⟨fu1, fu2⟩)
          have KA := fun W (hW : Below wr.heap.size wr W) v (hv : RatV W v (FE.rmul y z)) => sRatAdd S (FE.rmul y z) _ v W (hsum.reads.later hW) hv HSS.out (res_few hmr)
          rw [← HSK.out] at KA
          replace KA := Lib.hid KA
          obtain ⟨s0, s1, s2, z0, z1, z2⟩ := S8.c3
          have t0 := (hbw.cell (p := ⟨g7, 0, none⟩) hg78).trans S7.k2.1
          have t1 := (hbw.cell (p := ⟨g7, 1, none⟩) hg78).trans S7.k2.2.1
          have hbwW := Lib.hid hbw
          have hwrs : Below wr.heap.size wr wr.drew := ⟨rfl, rfl, rfl, Nat.le_refl _, fun _ _ => rfl⟩
          have hA8 := AnyK.of S8
          have S8o := S8
          clear hl5 q1 q2 hl7 q3 q4 hmr hsum fv1 fv2 fu1 fu2 S8 hwo hww
          generalize FE.rmul y z = Y at *
          have hb6g : b6 < g8 := by omega
          have hb4g : b4 < g8 := by omega
          go_wp2_with fail
          refine wp_region_held_drew (S := fun W => Below g8 wr W) (by kernel_rfl) ?_ (fun hHeld => ?_)
          · exact (show Below g8 wr wr.drew from ⟨rfl, rfl, rfl, Nat.le_refl _, fun _ _ => rfl⟩)
          replace hHeld : Below g8 wr _ := hHeld
          refine wpAnyH_take (i := 1) (v := ?_) rfl (by kernel_rfl) (by kernel_rfl) (by kernel_rfl) (fun _ _ _ h => h) (Or.inl ⟨by rfl, ?_⟩) (by assumption) ?_
          rotate_left
          · intro W hSw
            replace hSw : Below g8 wr W := hSw
            have f0 := (hSw.cell (p := ⟨g7, 0, none⟩) hg78).trans t0
            have f1 := (hSw.cell (p := ⟨g7, 1, none⟩) hg78).trans t1
            have f2 := (hSw.cell (p := ⟨b4, o4 + k * 3, none⟩) hb4g).trans k0
            have f3 := (hSw.cell (p := ⟨b4, o4 + k * 3 + 1, none⟩) hb4g).trans k1
            have f4 := (hSw.cell (p := ⟨b4, o4 + k * 3 + 2, none⟩) hb4g).trans k2
            have f5 := (hSw.cell (p := ⟨b6, o6 + ct * 3, none⟩) hb6g).trans l0
            have f6 := (hSw.cell (p := ⟨b6, o6 + ct * 3 + 1, none⟩) hb6g).trans l1'
            have f7 := (hSw.cell (p := ⟨b6, o6 + ct * 3 + 2, none⟩) hb6g).trans l2'
            go_simp
            try with_reducible rfl
          try simp only [Act.put, List.setIfInBounds_toArray]
          refine wpAnyH_take (i := 2) (v := ?_) rfl (by kernel_rfl) (by kernel_rfl) (by kernel_rfl) (fun _ _ _ h => h) (Or.inl ⟨by rfl, ?_⟩) (by assumption) ?_
          rotate_left
          · intro W hSw
            replace hSw : Below g8 wr W := hSw
            have f0 := (hSw.cell (p := ⟨g7, 0, none⟩) hg78).trans t0
            have f1 := (hSw.cell (p := ⟨g7, 1, none⟩) hg78).trans t1
            have f2 := (hSw.cell (p := ⟨b4, o4 + k * 3, none⟩) hb4g).trans k0
            have f3 := (hSw.cell (p := ⟨b4, o4 + k * 3 + 1, none⟩) hb4g).trans k1
            have f4 := (hSw.cell (p := ⟨b4, o4 + k * 3 + 2, none⟩) hb4g).trans k2
            have f5 := (hSw.cell (p := ⟨b6, o6 + ct * 3, none⟩) hb6g).trans l0
            have f6 := (hSw.cell (p := ⟨b6, o6 + ct * 3 + 1, none⟩) hb6g).trans l1'
            have f7 := (hSw.cell (p := ⟨b6, o6 + ct * 3 + 2, none⟩) hb6g).trans l2'
            go_simp
            try with_reducible rfl
          try simp only [Act.put]
          refine wpAnyH_take (i := 3) (v := ?_) rfl (by kernel_rfl) (by kernel_rfl) (by kernel_rfl) (fun _ _ _ h => h) (Or.inl ⟨by rfl, ?_⟩) (by assumption) ?_
          rotate_left
          · intro W hSw
            replace hSw : Below g8 wr W := hSw
            have f0 := (hSw.cell (p := ⟨g7, 0, none⟩) hg78).trans t0
            have f1 := (hSw.cell (p := ⟨g7, 1, none⟩) hg78).trans t1
            have f2 := (hSw.cell (p := ⟨b4, o4 + k * 3, none⟩) hb4g).trans k0
            have f3 := (hSw.cell (p := ⟨b4, o4 + k * 3 + 1, none⟩) hb4g).trans k1
            have f4 := (hSw.cell (p := ⟨b4, o4 + k * 3 + 2, none⟩) hb4g).trans k2
            have f5 := (hSw.cell (p := ⟨b6, o6 + ct * 3, none⟩) hb6g).trans l0
            have f6 := (hSw.cell (p := ⟨b6, o6 + ct * 3 + 1, none⟩) hb6g).trans l1'
            have f7 := (hSw.cell (p := ⟨b6, o6 + ct * 3 + 2, none⟩) hb6g).trans l2'
            go_simp
            try with_reducible rfl
          try simp only [Act.put]
          refine wpAnyH_take (i := 4) (v := ?_) rfl (by kernel_rfl) (by kernel_rfl) (by kernel_rfl) (fun _ _ _ h => h) (Or.inl ⟨by rfl, ?_⟩) (by assumption) ?_
          rotate_left
          · intro W hSw
            replace hSw : Below g8 wr W := hSw
            have f0 := (hSw.cell (p := ⟨g7, 0, none⟩) hg78).trans t0
            have f1 := (hSw.cell (p := ⟨g7, 1, none⟩) hg78).trans t1
            have f2 := (hSw.cell (p := ⟨b4, o4 + k * 3, none⟩) hb4g).trans k0
            have f3 := (hSw.cell (p := ⟨b4, o4 + k * 3 + 1, none⟩) hb4g).trans k1
            have f4 := (hSw.cell (p := ⟨b4, o4 + k * 3 + 2, none⟩) hb4g).trans k2
            have f5 := (hSw.cell (p := ⟨b6, o6 + ct * 3, none⟩) hb6g).trans l0
            have f6 := (hSw.cell (p := ⟨b6, o6 + ct * 3 + 1, none⟩) hb6g).trans l1'
            have f7 := (hSw.cell (p := ⟨b6, o6 + ct * 3 + 2, none⟩) hb6g).trans l2'
            go_simp
            try with_reducible rfl
          try simp only [Act.put]
          refine wpAnyH_take (i := 5) (v := ?_) rfl (by kernel_rfl) (by kernel_rfl) (by kernel_rfl) (fun _ _ _ h => h) (Or.inl ⟨by rfl, ?_⟩) (by assumption) ?_
          rotate_left
          · intro W hSw
            replace hSw : Below g8 wr W := hSw
            have f0 := (hSw.cell (p := ⟨g7, 0, none⟩) hg78).trans t0
            have f1 := (hSw.cell (p := ⟨g7, 1, none⟩) hg78).trans t1
            have f2 := (hSw.cell (p := ⟨b4, o4 + k * 3, none⟩) hb4g).trans k0
            have f3 := (hSw.cell (p := ⟨b4, o4 + k * 3 + 1, none⟩) hb4g).trans k1
            have f4 := (hSw.cell (p := ⟨b4, o4 + k * 3 + 2, none⟩) hb4g).trans k2
            have f5 := (hSw.cell (p := ⟨b6, o6 + ct * 3, none⟩) hb6g).trans l0
            have f6 := (hSw.cell (p := ⟨b6, o6 + ct * 3 + 1, none⟩) hb6g).trans l1'
            have f7 := (hSw.cell (p := ⟨b6, o6 + ct * 3 + 2, none⟩) hb6g).trans l2'
            go_simp
            try with_reducible rfl
          try simp only [Act.put]
          refine wpAnyH_take (i := 6) (v := ?_) rfl (by kernel_rfl) (by kernel_rfl) (by kernel_rfl) (fun _ _ _ h => h) (Or.inl ⟨by rfl, ?_⟩) (by assumption) ?_
          rotate_left
          · intro W hSw
            replace hSw : Below g8 wr W := hSw
            have f0 := (hSw.cell (p := ⟨g7, 0, none⟩) hg78).trans t0
            have f1 := (hSw.cell (p := ⟨g7, 1, none⟩) hg78).trans t1
            have f2 := (hSw.cell (p := ⟨b4, o4 + k * 3, none⟩) hb4g).trans k0
            have f3 := (hSw.cell (p := ⟨b4, o4 + k * 3 + 1, none⟩) hb4g).trans k1
            have f4 := (hSw.cell (p := ⟨b4, o4 + k * 3 + 2, none⟩) hb4g).trans k2
            have f5 := (hSw.cell (p := ⟨b6, o6 + ct * 3, none⟩) hb6g).trans l0
            have f6 := (hSw.cell (p := ⟨b6, o6 + ct * 3 + 1, none⟩) hb6g).trans l1'
            have f7 := (hSw.cell (p := ⟨b6, o6 + ct * 3 + 2, none⟩) hb6g).trans l2'
            go_simp
            try with_reducible rfl
          try simp only [Act.put]
          refine wpAnyH_take (i := 7) (v := ?_) rfl (by kernel_rfl) (by kernel_rfl) (by kernel_rfl) (fun _ _ _ h => h) (Or.inl ⟨by rfl, ?_⟩) (by assumption) ?_
          rotate_left
          · intro W hSw
            replace hSw : Below g8 wr W := hSw
            have f0 := (hSw.cell (p := ⟨g7, 0, none⟩) hg78).trans t0
            have f1 := (hSw.cell (p := ⟨g7, 1, none⟩) hg78).trans t1
            have f2 := (hSw.cell (p := ⟨b4, o4 + k * 3, none⟩) hb4g).trans k0
            have f3 := (hSw.cell (p := ⟨b4, o4 + k * 3 + 1, none⟩) hb4g).trans k1
            have f4 := (hSw.cell (p := ⟨b4, o4 + k * 3 + 2, none⟩) hb4g).trans k2
            have f5 := (hSw.cell (p := ⟨b6, o6 + ct * 3, none⟩) hb6g).trans l0
            have f6 := (hSw.cell (p := ⟨b6, o6 + ct * 3 + 1, none⟩) hb6g).trans l1'
            have f7 := (hSw.cell (p := ⟨b6, o6 + ct * 3 + 2, none⟩) hb6g).trans l2'
            go_simp
            try with_reducible rfl
          try simp only [Act.put]
          refine wpAnyH_take (i := 8) (v := ?_) rfl (by kernel_rfl) (by kernel_rfl) (by kernel_rfl) (fun _ _ _ h => h) (Or.inl ⟨by rfl, ?_⟩) (by assumption) ?_
          rotate_left
          · intro W hSw
            replace hSw : Below g8 wr W := hSw
            have f0 := (hSw.cell (p := ⟨g7, 0, none⟩) hg78).trans t0
            have f1 := (hSw.cell (p := ⟨g7, 1, none⟩) hg78).trans t1
            have f2 := (hSw.cell (p := ⟨b4, o4 + k * 3, none⟩) hb4g).trans k0
            have f3 := (hSw.cell (p := ⟨b4, o4 + k * 3 + 1, none⟩) hb4g).trans k1
            have f4 := (hSw.cell (p := ⟨b4, o4 + k * 3 + 2, none⟩) hb4g).trans k2
            have f5 := (hSw.cell (p := ⟨b6, o6 + ct * 3, none⟩) hb6g).trans l0
            have f6 := (hSw.cell (p := ⟨b6, o6 + ct * 3 + 1, none⟩) hb6g).trans l1'
            have f7 := (hSw.cell (p := ⟨b6, o6 + ct * 3 + 2, none⟩) hb6g).trans l2'
            go_simp
            try with_reducible rfl
          try simp only [Act.put]
          refine wpAnyH_take (i := 9) (v := ?_) rfl (by kernel_rfl) (by kernel_rfl) (by kernel_rfl) (fun _ _ _ h => h) (Or.inl ⟨by rfl, ?_⟩) (by assumption) ?_
          rotate_left
          · intro W hSw
            replace hSw : Below g8 wr W := hSw
            have f0 := (hSw.cell (p := ⟨g7, 0, none⟩) hg78).trans t0
            have f1 := (hSw.cell (p := ⟨g7, 1, none⟩) hg78).trans t1
            have f2 := (hSw.cell (p := ⟨b4, o4 + k * 3, none⟩) hb4g).trans k0
            have f3 := (hSw.cell (p := ⟨b4, o4 + k * 3 + 1, none⟩) hb4g).trans k1
            have f4 := (hSw.cell (p := ⟨b4, o4 + k * 3 + 2, none⟩) hb4g).trans k2
            have f5 := (hSw.cell (p := ⟨b6, o6 + ct * 3, none⟩) hb6g).trans l0
            have f6 := (hSw.cell (p := ⟨b6, o6 + ct * 3 + 1, none⟩) hb6g).trans l1'
            have f7 := (hSw.cell (p := ⟨b6, o6 + ct * 3 + 2, none⟩) hb6g).trans l2'
            go_simp
            try with_reducible rfl
          try simp only [Act.put]
          refine wpAnyH_ready (rs := [0, 10]) (by kernel_rfl) (by simp) ?_
          refine AllReadyH.cons rfl (fun K hK => ?_) ?_
          · simp only [List.getElem_toArray, List.getElem_cons_succ, List.getElem_cons_zero]
            go_simp
            refine hK.out _ _ ?_ (fun hHeld2 => ?_)
            · exact hHeld
            clear hK K hHeld
            have hHeld : Below g8 wr _ := hHeld2
            clear hHeld2
            try simp only [Act.put, List.setIfInBounds_toArray, List.set_cons_zero, List.set_cons_succ]
            refine wpAnyH_ready (rs := [10]) (by kernel_rfl) (by simp) ?_
            refine AllReadyH.cons rfl (fun K hK => ?_) ?_
            · simp only [List.getElem_toArray, List.getElem_cons_succ, List.getElem_cons_zero]
              go_simp
              (go_at_call 84; (with_reducible refine (KM.out _ (by first | exact hwrs | exact Below.refl _ _)).mono ?_); rintro e3 w3 ⟨v3, rfl, hp3, hb3⟩)
              try (go_wp2_with fail)
              have hv3 := hp3.reads
              have hb3' : Below wr.heap.size wr w3 := ⟨hb3.os, hb3.tape, hb3.output, hb3.size, hb3.block⟩
              have hB3 : Below g8 wr w3 := hb3'.mono (by omega)
              have s0' := cell_later hlt8 s0 hb3'
              have s1' := cell_later hlt8 s1 hb3'
              have s2' := cell_later hlt8 s2 hb3'
              have hA3 := hA8.later hb3'
              refine hK.out _ _ ?_ (fun hHeld2 => ?_)
              · exact hB3
              clear hK K hHeld
              have hHeld : Below g8 wr _ := hHeld2
              clear hHeld2
              try simp only [Act.put, List.setIfInBounds_toArray, List.set_cons_zero, List.set_cons_succ]
              refine wpAnyH_ready (rs := [11]) (by kernel_rfl) (by simp) ?_
              refine AllReadyH.cons rfl (fun K hK => ?_) ?_
              · simp only [List.getElem_toArray, List.getElem_cons_succ, List.getElem_cons_zero]
                go_simp
                (go_at_call 83; (with_reducible refine (KA.out _ hb3' v3 hv3).mono ?_); rintro e6 w6 ⟨v6, rfl, hrp, hb6⟩)
                try (go_wp2_with fail)
                obtain ⟨A6, n6, c6, B6, m6, d6, rfl⟩ := hrp.shape
                have hb63 := below_trans hb3' hb6
                have hB6 : Below g8 wr w6 := hb63.mono (by omega)
                have hA6 := hA3.later hb6
                obtain ⟨_, _, _, x0, x1, x2, _z0, _z1, _z2⟩ := hA6.c3
                refine hK.out _ _ ?_ (fun hHeld2 => ?_)
                · exact hB6
                clear hK K hHeld
                have hHeld : Below g8 wr _ := hHeld2
                clear hHeld2
                try simp only [Act.put, List.setIfInBounds_toArray, List.set_cons_zero, List.set_cons_succ]
                refine wpAnyH_ready (rs := [12]) (by kernel_rfl) (by simp) ?_
                refine AllReadyH.cons rfl (fun K hK => ?_) ?_
                · simp only [List.getElem_toArray, List.getElem_cons_succ, List.getElem_cons_zero]
                  go_simp
                  refine hK.out _ _ ?_ (fun hHeld2 => ?_)
                  · exact below3 hB6 (Nat.le_refl g8) _ _ _
                  clear hK K hHeld
                  have hHeld : Below g8 wr _ := hHeld2
                  clear hHeld2
                  try simp only [Act.put, List.setIfInBounds_toArray, List.set_cons_zero, List.set_cons_succ]
                  refine wpAnyH_done (by kernel_rfl) ?_ _
                  have hb6 := hbwW.out.trans ((below_le hb63 (Nat.le_refl _)).mono (by omega))
                  have hb8 := below3 hb6 (Nat.le_refl g8) (.bool S2.neg) (.slice A6 n6 c6) (.slice B6 m6 d6)
                  have S9 := (((S8o.later hb63).set 0 (by show 0 < 3; decide) (.bool S2.neg)).set 1 (by show 1 < 3; decide) (.slice A6 n6 c6)).set 2 (by show 2 < 3; decide) (.slice B6 m6 d6)
                  have hp9 := (hrp.mono (base' := g8 + 1) (by have := hb3'.size; omega)).far3 (g := g8) (Nat.lt_succ_self _) (.bool S2.neg) (.slice A6 n6 c6) (.slice B6 m6 d6)
                  have hp10 := hp9.mono (base' := g7 + 1) (by omega)
                  clear hp9 hrp hv3 hp3 hb3' hb63 hb6 x0 x1 x2 s0 s1 s2 t0 t1 k0 k1 k2 l0 l1' l2' e3 hHeld hB6 hB3
                  go_wp2
                  go_roundw
                  case rel =>
                    have e := HS2.out
                    subst e
                    exact ⟨k + 1, by omega, rfl, hb8, _, _, _, _, _, _, S9, hp10⟩
                  case measure => simp [intOf]; omega
                exact AllReadyH.nil
              exact AllReadyH.nil
            exact AllReadyH.nil
          refine AllReadyH.cons rfl (fun K hK => ?_) ?_
          · simp only [List.getElem_toArray, List.getElem_cons_succ, List.getElem_cons_zero]
            go_simp
            (go_at_call 84; (with_reducible refine (KM.out _ (by first | exact hwrs | exact Below.refl _ _)).mono ?_); rintro e3 w3 ⟨v3, rfl, hp3, hb3⟩)
            try (go_wp2_with fail)
            have hv3 := hp3.reads
            have hb3' : Below wr.heap.size wr w3 := ⟨hb3.os, hb3.tape, hb3.output, hb3.size, hb3.block⟩
            have hB3 : Below g8 wr w3 := hb3'.mono (by omega)
            have s0' := cell_later hlt8 s0 hb3'
            have s1' := cell_later hlt8 s1 hb3'
            have s2' := cell_later hlt8 s2 hb3'
            have hA3 := hA8.later hb3'
            refine hK.out _ _ ?_ (fun hHeld2 => ?_)
            · exact hB3
            clear hK K hHeld
            have hHeld : Below g8 wr _ := hHeld2
            clear hHeld2
            try simp only [Act.put, List.setIfInBounds_toArray, List.set_cons_zero, List.set_cons_succ]
            refine wpAnyH_ready (rs := [0]) (by kernel_rfl) (by simp) ?_
            refine AllReadyH.cons rfl (fun K hK => ?_) ?_
            · simp only [List.getElem_toArray, List.getElem_cons_zero]
              go_simp
              refine hK.out _ _ ?_ (fun hHeld2 => ?_)
              · exact hB3
              clear hK K hHeld
              have hHeld : Below g8 wr _ := hHeld2
              clear hHeld2
              try simp only [Act.put, List.setIfInBounds_toArray, List.set_cons_zero, List.set_cons_succ]
              refine wpAnyH_ready (rs := [11]) (by kernel_rfl) (by simp) ?_
              refine AllReadyH.cons rfl (fun K hK => ?_) ?_
              · simp only [List.getElem_toArray, List.getElem_cons_succ, List.getElem_cons_zero]
                go_simp
                (go_at_call 83; (with_reducible refine (KA.out _ hb3' v3 hv3).mono ?_); rintro e6 w6 ⟨v6, rfl, hrp, hb6⟩)
                try (go_wp2_with fail)
                obtain ⟨A6, n6, c6, B6, m6, d6, rfl⟩ := hrp.shape
                have hb63 := below_trans hb3' hb6
                have hB6 : Below g8 wr w6 := hb63.mono (by omega)
                have hA6 := hA3.later hb6
                obtain ⟨_, _, _, x0, x1, x2, _z0, _z1, _z2⟩ := hA6.c3
                refine hK.out _ _ ?_ (fun hHeld2 => ?_)
                · exact hB6
                clear hK K hHeld
                have hHeld : Below g8 wr _ := hHeld2
                clear hHeld2
                try simp only [Act.put, List.setIfInBounds_toArray, List.set_cons_zero, List.set_cons_succ]
                refine wpAnyH_ready (rs := [12]) (by kernel_rfl) (by simp) ?_
                refine AllReadyH.cons rfl (fun K hK => ?_) ?_
                · simp only [List.getElem_toArray, List.getElem_cons_succ, List.getElem_cons_zero]
                  go_simp
                  refine hK.out _ _ ?_ (fun hHeld2 => ?_)
                  · exact below3 hB6 (Nat.le_refl g8) _ _ _
                  clear hK K hHeld
                  have hHeld : Below g8 wr _ := hHeld2
                  clear hHeld2
                  try simp only [Act.put, List.setIfInBounds_toArray, List.set_cons_zero, List.set_cons_succ]
                  refine wpAnyH_done (by kernel_rfl) ?_ _
                  have hb6 := hbwW.out.trans ((below_le hb63 (Nat.le_refl _)).mono (by omega))
                  have hb8 := below3 hb6 (Nat.le_refl g8) (.bool S2.neg) (.slice A6 n6 c6) (.slice B6 m6 d6)
                  have S9 := (((S8o.later hb63).set 0 (by show 0 < 3; decide) (.bool S2.neg)).set 1 (by show 1 < 3; decide) (.slice A6 n6 c6)).set 2 (by show 2 < 3; decide) (.slice B6 m6 d6)
                  have hp9 := (hrp.mono (base' := g8 + 1) (by have := hb3'.size; omega)).far3 (g := g8) (Nat.lt_succ_self _) (.bool S2.neg) (.slice A6 n6 c6) (.slice B6 m6 d6)
                  have hp10 := hp9.mono (base' := g7 + 1) (by omega)
                  clear hp9 hrp hv3 hp3 hb3' hb63 hb6 x0 x1 x2 s0 s1 s2 t0 t1 k0 k1 k2 l0 l1' l2' e3 hHeld hB6 hB3
                  go_wp2
                  go_roundw
                  case rel =>
                    have e := HS2.out
                    subst e
                    exact ⟨k + 1, by omega, rfl, hb8, _, _, _, _, _, _, S9, hp10⟩
                  case measure => simp [intOf]; omega
                exact AllReadyH.nil
              exact AllReadyH.nil
            exact AllReadyH.nil
          exact AllReadyH.nil
end Go.Proofs.YtlpomcihkjiokaaGreat

namespace Go.Proofs.YtlpomcihkjiokaaGreat
open Go.RowKit Go.Joins

/-- The sign of a fraction, 0 for one that is not valid. -/
def rsig (x : RatD) : Int := if FE.ratOk x then rsgn x else 0

set_option maxHeartbeats 800000 in
theorem sRatSign (x : RatD) (v : Value) (w : World) (hv : RatV w v x) (l1 : x.mag.length ≤ 1048576) (l2 : x.den.length ≤ 1048576) :
    Calls Tryz.prog 143 #[v] w fun e w' => e = .returned (.int .i64 (rsig x)) ∧ Below w.heap.size w w' := by
  have HC := fun w' hb => sRatOk x v w' (hv.later (w' := w') hb) l1 l2
  obtain ⟨A, c, B, d, rfl, _, _, _⟩ := hv
  have HR := Lib.hid (show rsig x = if FE.ratOk x then (if x.mag.length = 0 then 0 else if x.neg then -1 else 1) else 0 from rfl)
  generalize rsig x = res at *
  obtain ⟨q, hq⟩ : ∃ q, FE.ratOk x = q := ⟨_, rfl⟩
  rw [hq] at HR
  simp only [hq] at HC
  replace HC := Lib.hid HC
  clear hq
  generalize x.mag.length = n at *
  generalize x.den.length = m at *
  generalize x.neg = s at *
  cases q
  · go_enter Tryz.func143, Tryz.ntmps143
    go_wp2_with fail
    refine (HC.out _ (below_alloc1 _ _)).mono ?_
    rintro e w1 ⟨rfl, hb⟩
    replace hb := box_below hb
    go_wp2
    go_ret
    exact ⟨ret_int (by rw [HR.out]; rfl), hb⟩
  · by_cases h0 : n = 0
    · subst h0
      go_enter Tryz.func143, Tryz.ntmps143
      go_wp2_with fail
      refine (HC.out _ (below_alloc1 _ _)).mono ?_
      rintro e w1 ⟨rfl, hb⟩
      obtain ⟨a0, a1, a2, _, _, _⟩ := (box_lat hb).c3
      replace hb := box_below hb
      go_wp2
      go_ret
      exact ⟨ret_int (by rw [HR.out]; simp), hb⟩
    · have h1 : ((n : Int) == 0) = false := by simp; omega
      have HN := Lib.hid h0
      clear h0
      cases s
      · go_enter Tryz.func143, Tryz.ntmps143
        go_wp2_with fail
        refine (HC.out _ (below_alloc1 _ _)).mono ?_
        rintro e w1 ⟨rfl, hb⟩
        obtain ⟨a0, a1, a2, _, _, _⟩ := (box_lat hb).c3
        replace hb := box_below hb
        go_wp2
        go_ret
        exact ⟨ret_int (by rw [HR.out]; simp [HN.out]), hb⟩
      · go_enter Tryz.func143, Tryz.ntmps143
        go_wp2_with fail
        refine (HC.out _ (below_alloc1 _ _)).mono ?_
        rintro e w1 ⟨rfl, hb⟩
        obtain ⟨a0, a1, a2, _, _, _⟩ := (box_lat hb).c3
        replace hb := box_below hb
        go_wp2
        go_ret
        exact ⟨ret_int (by rw [HR.out]; simp [HN.out]), hb⟩

theorem vok_get {rs : List RatD} (h : vok rs = true) {i : Nat} (hi : i < rs.length) : FE.ratOk (rs.getD i zR) = true := by
  have := List.all_eq_true.1 h _ (List.getElem_mem hi)
  simpa [hi] using this
theorem rsig_ok {x : RatD} (h : FE.ratOk x = true) : rsig x = rsgn x := by simp [rsig, h]
theorem rowB_len {n : Nat} {x : RowD} (h : x.cols.length ≠ x.vals.length) : rowB n x = false := rowB_1 (by rw [Bool.and_eq_false_iff]; left; exact decide_eq_false (by omega))
theorem rowB_vok {n : Nat} {x : RowD} (h : vok x.vals = false) : rowB n x = false := rowB_1 (by rw [h, Bool.and_false])
theorem rowB_sgn {n : Nat} {x : RowD} {i : Nat} (hi : i < x.vals.length) (h : rsgn (x.vals.getD i zR) = 0) : rowB n x = false := rowB_2 (any_yes hi (by rw [h]; rfl))
theorem rowB_ok {n : Nat} {x : RowD} (h0 : x.cols.length = x.vals.length) (h1 : vok x.vals = true) (h2 : ∀ i, i < x.cols.length → colOk n x.cols i = true ∧ (rsgn (x.vals.getD i zR) == 0) = false) : rowB n x = true :=
  rowB_4 (by rw [h1, Bool.and_true]; exact decide_eq_true (by omega)) (any_no (d := zR) fun j hj => (h2 j (by omega)).2) (fun i hi => (h2 i hi).1)
theorem mOk_big {rs : List RowD} (h : 40 < rs.length) : mOk rs = false := by simp only [mOk, decide_eq_false (show ¬ rs.length ≤ 40 by omega), Bool.false_and]

set_option maxRecDepth 100000 in
set_option maxHeartbeats 3000000 in
theorem sIsMatrix (rs : List RowD) (u : Value) (w : World) (hu : MatV w u rs) (hf : MFew rs) :
    Calls Tryz.prog 80 #[u] w fun e w' => e = .returned (.bool (mOk rs)) ∧ Below w.heap.size w w' := by
  obtain ⟨A, c, rfl, _, hx⟩ := hu
  have hn1 := hf.1
  have HF := Lib.hid hf.2
  clear hf
  obtain ⟨n, hn⟩ : ∃ n, rs.length = n := ⟨_, rfl⟩
  rw [hn] at hn1 ⊢
  by_cases h40 : n ≤ 40
  · have HB := Lib.hid (fun (k : Nat) (hk : k < n) (h : rowB n (rs.getD k zRow) = false) => mOk_bad (rs := rs) (k := k) (hn ▸ hk) (by rw [hn]; exact h))
    have HA := Lib.hid (fun (h : ∀ j, j < n → rowB n (rs.getD j zRow) = true) => (show mOk rs = true by rw [mOk_all (by rw [hn]; exact h), hn]; exact decide_eq_true h40))
    have HN := Lib.hid hn; clear hn
    go_enter Tryz.func80, Tryz.ntmps80
    go_wp2_with fail
    go_loopw [16] (fun u wr => ∃ k : Nat, k ≤ n ∧ u = .int .i64 k ∧ (∀ j, j < k → rowB n (rs.getD j zRow) = true) ∧ Below w.heap.size w wr) (fun u _ => n - (intOf u).toNat)
    case atStart => exact ⟨0, Nat.zero_le _, rfl, fun j hj => by omega, below_alloc1 _ _⟩
    case round =>
      obtain ⟨k, hk, rfl, ht, hbel⟩ := hrel
      have HT := Lib.hid ht; clear ht
      by_cases hkn : k = n
      · subst hkn
        have h0 : decide ((k : Int) < (k : Int)) = false := by simp
        have HR := Lib.hid (HA.out HT.out)
        go_wp2
        go_ret
        exact ⟨ret_bool HR.out.symm, hbel⟩
      · have hlt : (k : Int) < (n : Int) := by omega
        have hkl : k < rs.length := by rw [HN.out]; omega
        obtain ⟨b, off, rfl, hb1, hat⟩ := hx.cells k hkl
        have hat1 := RowAt.stays _ _ _ _ _ hb1 hat hbel
        have f1 := HF.out k hkl
        clear hat hkl
        have HB2 := Lib.hid (HB.out k (by omega))
        have HG := Lib.hid (show rowB n (rs.getD k zRow) = true → ∀ j, j < k + 1 → rowB n (rs.getD j zRow) = true from fun h j hj => (Nat.lt_succ_iff_lt_or_eq.1 hj).elim (HT.out j) (fun e => e ▸ h))
        generalize rs.getD k zRow = x at *
        obtain ⟨A1, c1, B1, d1, g0, g1, hcd, hr1, hr2⟩ := hat1
        have l1 := f1.1
        have l2 := f1.2.1
        have lc1 : x.cols.length ≤ c1 := hcd.1
        have HE1 := Lib.hid (fun W (hW : Below wr.heap.size wr W) => sValid x.vals _ d1 rfl f1.2 B1 W (hr2.later hW))
        have HR1 := Lib.hid (fun h => HB2.out (rowB_len (x := x) h))
        have HR2 := Lib.hid (fun h => HB2.out (rowB_vok (x := x) h))
        have HR3 := Lib.hid (fun i hi h => HB2.out (rowB_3 (i := i) hi h))
        have HR4 := Lib.hid (fun i hi h => HB2.out (rowB_sgn (i := i) hi h))
        have HR5 := Lib.hid (fun h1 h2 h3 => HG.out (rowB_ok (x := x) h1 h2 h3))
        have HVG := Lib.hid (fun h i hi => vok_get (rs := x.vals) h (i := i) hi)
        have HFF := Lib.hid f1.2.2
        clear f1 hcd HB2 HG
        obtain ⟨q1, hq1⟩ : ∃ q, vok x.vals = q := ⟨_, rfl⟩
        rw [hq1] at HE1 HR2 HR5 HVG
        clear hq1
        obtain ⟨p, hp⟩ : ∃ n, x.cols.length = n := ⟨_, rfl⟩
        obtain ⟨m, hm⟩ : ∃ n, x.vals.length = n := ⟨_, rfl⟩
        rw [hp] at l1 g0 lc1 HR1 HR3 HR5
        rw [hm] at l2 g1 HE1 HR1 HR5 HR4 HVG HFF
        have HP := Lib.hid hp; clear hp
        have HM := Lib.hid hm; clear hm
        by_cases hpm : p = m
        · subst hpm
          have hh : ((p : Int) != p) = false := by simp
          go_wp2_with fail
          refine (HE1.out _ (below_alloc1 _ _)).mono ?_
          rintro e w4 ⟨rfl, hb4⟩
          have S := box_lat hb4
          have hal := box_below hb4
          have hbel4 := hbel.trans (below_le hal hbel.size)
          clear hb4 g0 g1
          cases q1
          · have HF1 := Lib.hid (HR2.out (by trivial))
            clear S
            go_wp2
            go_ret
            exact ⟨ret_bool HF1.out.symm, hbel4⟩
          · obtain ⟨a0, a1, _, _⟩ := S.c2
            have hr5 := hr1.later hal
            have hr6 := hr2.later hal
            clear hr1 hr2
            go_wp2_with fail
            clear a0 a1
            go_loopw [36] (fun u wq => ∃ i : Nat, i ≤ p ∧ u = .int .i64 i ∧ (∀ j, j < i → colOk n x.cols j = true ∧ (rsgn (x.vals.getD j zR) == 0) = false) ∧ Below w4.heap.size w4 wq) (fun u _ => p - (intOf u).toNat)
            case atStart => exact ⟨0, Nat.zero_le _, rfl, fun j hj => by omega, Below.refl _ _⟩
            case round =>
              obtain ⟨i, hi, rfl, hti, hbq⟩ := hrel
              have HTI := Lib.hid hti; clear hti
              have hbelq := hbel4.trans (below_le hbq hbel4.size)
              by_cases hip : i = p
              · subst hip
                have h0 : decide ((i : Int) < (i : Int)) = false := by simp
                have HF1 := Lib.hid (HR5.out (by trivial) (by trivial) HTI.out)
                clear S hr5 hr6
                go_wp2
                go_roundw
                case rel => exact ⟨k + 1, by omega, rfl, HF1.out, hbelq⟩
                case measure => simp [intOf]; omega
              · have hilt : (i : Int) < (p : Int) := by omega
                have hil : i < x.cols.length := by rw [HP.out]; omega
                have hil2 : i < x.vals.length := by rw [HM.out]; omega
                obtain ⟨a0, a1, _, _⟩ := (S.later hbq).c2
                obtain ⟨b3, o3, rfl, hb3, hc3⟩ := hr5.later hbq (by intro h; rw [h] at hil; simp at hil)
                obtain ⟨b4, o4, rfl, hb4, hat4⟩ := (hr6.later hbq).cells i hil2
                obtain ⟨f3, f4⟩ := HFF.out i (by omega)
                have HOK := Lib.hid (HVG.out (by trivial) i (by omega))
                have HBI := Lib.hid (fun h => HR3.out i (by omega) h)
                have HBS := Lib.hid (fun h => HR4.out i (by omega) h)
                have HGI := Lib.hid (show colOk n x.cols i = true → (rsgn (x.vals.getD i zR) == 0) = false → ∀ j, j < i + 1 → colOk n x.cols j = true ∧ (rsgn (x.vals.getD j zR) == 0) = false from fun h h' j hj => (Nat.lt_succ_iff_lt_or_eq.1 hj).elim (HTI.out j) (fun e => e ▸ ⟨h, h'⟩))
                generalize x.vals.getD i zR = y at *
                obtain ⟨A2, c2, B2, d2, k0, k1, k2, hcd2, hs1, hs2⟩ := hat4
                have HSG := Lib.hid (fun W (hW : Below wr.heap.size wr W) => sRatSign y (.agg #[.bool y.neg, .slice A2 y.mag.length c2, .slice B2 y.den.length d2]) W ⟨_, _, _, _, rfl, hcd2, hs1.later hW, hs2.later hW⟩ f3 f4)
                rw [rsig_ok HOK.out] at HSG
                clear hcd2 hs1 hs2 f3 f4 hil hil2
                obtain ⟨t, ht⟩ : ∃ t, rsgn y = t := ⟨_, rfl⟩
                rw [ht] at HSG HBS HGI
                clear ht
                have e1 := hc3 i (by rw [HP.out]; omega)
                have HW := fun W => sIn (x.cols.getD i 0) 0 ((n : Int) - 1) W
                obtain ⟨q, hq⟩ : ∃ q, inB (x.cols.getD i 0) 0 ((n : Int) - 1) = q := ⟨_, rfl⟩
                simp only [hq] at HW
                replace HW := Lib.hid HW
                cases q
                · have HF1 := Lib.hid (HBI.out (colOk_in hq))
                  generalize x.cols.getD i 0 = xi at *
                  clear hq hc3
                  go_wp2_with fail
                  refine (HW.out _).mono ?_
                  rintro e w6 ⟨rfl, rfl⟩
                  go_wp2
                  go_ret
                  exact ⟨ret_bool HF1.out.symm, hbelq⟩
                · by_cases hi0 : i = 0
                  · subst hi0
                    rw [Nat.add_zero] at e1
                    rw [Nat.zero_mul, Nat.add_zero] at k0 k1 k2
                    have HF1 := Lib.hid (HGI.out (colOk_zero hq))
                    generalize x.cols.getD 0 0 = xi at *
                    clear hq hc3
                    by_cases ht0 : t = 0
                    · subst ht0
                      have HF2 := Lib.hid (HBS.out (by trivial))
                      go_wp2_with fail
                      refine (HW.out _).mono ?_
                      rintro e w6 ⟨rfl, hw6⟩
                      subst w6
                      go_wp2_with fail
                      refine (HSG.out _ (Below.refl _ _)).mono ?_
                      rintro e w7 ⟨rfl, hb7⟩
                      replace hbelq := hbelq.trans (below_le hb7 hbelq.size)
                      clear hb7 S hr5 hr6 a0 a1 k0 k1 k2 e1
                      go_wp2
                      go_ret
                      exact ⟨ret_bool HF2.out.symm, hbelq⟩
                    · have ht1 : (t == 0) = false := by simp [ht0]
                      have HF2 := Lib.hid (HF1.out ht1)
                      go_wp2_with fail
                      refine (HW.out _).mono ?_
                      rintro e w6 ⟨rfl, hw6⟩
                      subst w6
                      go_wp2_with fail
                      refine (HSG.out _ (Below.refl _ _)).mono ?_
                      rintro e w7 ⟨rfl, hb7⟩
                      replace hbq := hbq.trans (below_le hb7 hbq.size)
                      clear hb7 S hr5 hr6 a0 a1 k0 k1 k2 e1
                      go_wp2
                      go_roundw
                      case rel => exact ⟨1, by omega, rfl, HF2.out, hbq⟩
                      case measure => simp [intOf]; omega
                  · obtain ⟨i', rfl⟩ : ∃ i', i = i' + 1 := ⟨i - 1, by omega⟩
                    have e2 := hc3 i' (by rw [HP.out]; omega)
                    have HQ := Lib.hid hq
                    clear hq hc3 hi0
                    by_cases hle : x.cols.getD (i' + 1) 0 ≤ x.cols.getD i' 0
                    · have HF1 := Lib.hid (HBI.out (colOk_no hle))
                      generalize x.cols.getD (i' + 1) 0 = xi at *
                      generalize x.cols.getD i' 0 = xj at *
                      go_wp2_with fail
                      refine (HW.out _).mono ?_
                      rintro e w6 ⟨rfl, rfl⟩
                      go_wp2
                      go_ret
                      exact ⟨ret_bool HF1.out.symm, hbelq⟩
                    · have HF1 := Lib.hid (HGI.out (colOk_yes HQ.out (by omega)))
                      clear HQ
                      generalize x.cols.getD (i' + 1) 0 = xi at *
                      generalize x.cols.getD i' 0 = xj at *
                      have hle2 : ¬ xj ≥ xi := by omega
                      by_cases ht0 : t = 0
                      · subst ht0
                        have HF2 := Lib.hid (HBS.out (by trivial))
                        go_wp2_with fail
                        refine (HW.out _).mono ?_
                        rintro e w6 ⟨rfl, hw6⟩
                        subst w6
                        go_wp2_with fail
                        refine (HSG.out _ (Below.refl _ _)).mono ?_
                        rintro e w7 ⟨rfl, hb7⟩
                        replace hbelq := hbelq.trans (below_le hb7 hbelq.size)
                        clear hb7 S hr5 hr6 a0 a1 k0 k1 k2 e1 e2
                        go_wp2
                        go_ret
                        exact ⟨ret_bool HF2.out.symm, hbelq⟩
                      · have ht1 : (t == 0) = false := by simp [ht0]
                        have HF2 := Lib.hid (HF1.out ht1)
                        go_wp2_with fail
                        refine (HW.out _).mono ?_
                        rintro e w6 ⟨rfl, hw6⟩
                        subst w6
                        go_wp2_with fail
                        refine (HSG.out _ (Below.refl _ _)).mono ?_
                        rintro e w7 ⟨rfl, hb7⟩
                        replace hbq := hbq.trans (below_le hb7 hbq.size)
                        clear hb7 S hr5 hr6 a0 a1 k0 k1 k2 e1 e2
                        go_wp2
                        go_roundw
                        case rel => exact ⟨i' + 1 + 1, by omega, rfl, HF2.out, hbq⟩
                        case measure => simp [intOf]; omega
        · have hh : ((p : Int) != m) = true := by simp; omega
          have HF1 := Lib.hid (HR1.out (by omega))
          go_wp2
          go_ret
          exact ⟨ret_bool HF1.out.symm, hbel.trans (below_le (below_alloc1 _ _) hbel.size)⟩
  · have HF1 := Lib.hid (mOk_big (rs := rs) (by omega))
    clear hn
    go_enter Tryz.func80, Tryz.ntmps80
    go_wp2
    go_ret
    exact ⟨ret_bool HF1.out.symm, below_alloc1 _ _⟩
end Go.Proofs.YtlpomcihkjiokaaGreat

namespace Go.Proofs.YtlpomcihkjiokaaGreat
open Go.RowKit Go.Joins

theorem VS.nil (w : World) (lo hi : Nat) : VS w lo hi (.slice none 0 0) [] [] := ⟨rfl, none, 0, rfl, Nat.le_refl _, Nat.zero_le _, fun h => absurd rfl h⟩
/-- A vector that a call has made: all behind what stood before it, its parts apart. -/
def VRes (w : World) (rs : List RatD) (e : Ending) (w' : World) : Prop := ∃ v' ps, e = .returned v' ∧ VS w' w.heap.size w'.heap.size v' ps rs ∧ Aps ps ∧ Below w.heap.size w w'
theorem VPost.res {w w' : World} {rs : List RatD} {e : Ending} (h : VPost w rs e w') : VRes w rs e w' := by
  obtain ⟨v, ps, e, hv, hb⟩ := h
  exact ⟨v, ps, e, hv.parts.wide (by omega) (by simp), hv.2.2.2, hb⟩
theorem VRes.nil {w w' : World} (hb : Below w.heap.size w w') : VRes w [] (.returned (.slice none 0 0)) w' := ⟨_, _, rfl, VS.nil _ _ _, aps_nil, hb⟩
theorem VRes.up {w W w' : World} {rs : List RatD} {e : Ending} (hW : Below w.heap.size w W) (h : VRes W rs e w') : VRes w rs e w' := by
  obtain ⟨v, ps, he, hv, ha, hb⟩ := h
  exact ⟨v, ps, he, hv.wide hW.size (Nat.le_refl _), ha, below_trans hW hb⟩

set_option maxRecDepth 100000 in
set_option maxHeartbeats 1600000 in
theorem sFits (rs : List RowD) (us : List RatD) (u : Value) (B0 : Option Addr) (m d : Nat) (hm : us.length = m) (w : World) (hu : MatV w u rs) (hv : VI w B0 us) (hf : MFew rs) (hg : Few us) :
    Calls Tryz.prog 164 #[u, .slice B0 m d] w fun e w' => e = .returned (.bool (mOk rs && (decide ((us.length : Int) = (rs.length : Int)) && vok us))) ∧ Below w.heap.size w w' := by
  have HU := Lib.hid (fun W (hW : Below w.heap.size w W) => hu.later hW)
  have HVV := Lib.hid (fun W (hW : Below w.heap.size w W) => hv.later hW)
  have HF := Lib.hid hf
  have HG := Lib.hid hg
  obtain ⟨A, c, rfl, _, _⟩ := hu
  have hn1 := hf.1
  have hm1 : m ≤ 1048576 := hm ▸ hg.1
  clear hv hf hg
  have HM := fun W hW => sIsMatrix rs _ W (HU.out W hW) HF.out
  have HV := fun W hW => sValid us m d hm HG.out B0 W (HVV.out W hW)
  rw [hm]
  clear HU HVV HF HG hm
  generalize rs.length = n at *
  generalize vok us = bv at *
  cases hq : mOk rs
  · rw [hq] at HM
    simp only [Bool.false_and]
    replace HM := Lib.hid HM
    replace HV := Lib.hid HV
    clear hq
    go_enter Tryz.func164, Tryz.ntmps164
    go_wp2_with fail
    refine (HM.out _ (below_alloc1 _ _)).mono ?_
    rintro e w1 ⟨rfl, hb1⟩
    replace hb1 := box_below hb1
    go_wp2
    go_ret
    exact ⟨rfl, hb1⟩
  · rw [hq] at HM
    simp only [Bool.true_and]
    replace HM := Lib.hid HM
    clear hq
    by_cases hmn : (m : Int) = (n : Int)
    · rw [decide_eq_true hmn, Bool.true_and]
      have h0 : decide ((m : Int) = (n : Int)) = true := decide_eq_true hmn
      have HD := Lib.hid hmn
      clear hmn
      replace HV := Lib.hid HV
      go_enter Tryz.func164, Tryz.ntmps164
      go_wp2_with fail
      refine (HM.out _ (below_alloc1 _ _)).mono ?_
      rintro e w1 ⟨rfl, hb1⟩
      have S0 := Slots.new hb1 (g := w.heap.size) rfl
      replace hb1 := box_below hb1
      obtain ⟨a0, _⟩ := S0.c1
      go_wp2_with fail
      refine (HV.out _ hb1).mono ?_
      rintro e w2 ⟨rfl, hb2⟩
      replace hb2 := below_trans hb1 hb2
      clear S0 a0
      go_wp2
      go_ret
      exact ⟨rfl, hb2⟩
    · rw [decide_eq_false hmn, Bool.false_and]
      have h0 : decide ((m : Int) = (n : Int)) = false := decide_eq_false hmn
      have HD := Lib.hid hmn
      clear hmn
      replace HV := Lib.hid HV
      go_enter Tryz.func164, Tryz.ntmps164
      go_wp2_with fail
      refine (HM.out _ (below_alloc1 _ _)).mono ?_
      rintro e w1 ⟨rfl, hb1⟩
      have S0 := Slots.new hb1 (g := w.heap.size) rfl
      replace hb1 := box_below hb1
      obtain ⟨a0, _⟩ := S0.c1
      go_wp2
      go_ret
      exact ⟨rfl, hb1⟩

set_option maxHeartbeats 400000 in
theorem sFull (rs : List RatD) (n c : Nat) (hn : rs.length = n) (hfew : Few rs) (A : Option Addr) (w : World) (ha : VI w A rs) :
    Calls Tryz.prog 68 #[.slice A n c] w fun e w' => e = .returned (if vok rs then .slice A n c else .slice none 0 0) ∧ Below w.heap.size w w' := by
  have HC := sValid rs n c hn hfew A w ha
  cases hq : vok rs
  · rw [hq] at HC
    replace HC := Lib.hid HC
    clear hn hfew ha hq
    go_enter Tryz.func68, Tryz.ntmps68
    go_wp2_with fail
    refine HC.out.mono ?_
    rintro e w1 ⟨rfl, hb⟩
    go_wp2
    go_ret
    exact ⟨rfl, hb⟩
  · rw [hq] at HC
    replace HC := Lib.hid HC
    clear hn hfew ha hq
    go_enter Tryz.func68, Tryz.ntmps68
    go_wp2_with fail
    refine HC.out.mono ?_
    rintro e w1 ⟨rfl, hb⟩
    go_wp2
    go_ret
    exact ⟨rfl, hb⟩

end Go.Proofs.YtlpomcihkjiokaaGreat

namespace Go.Proofs.YtlpomcihkjiokaaGreat
open Go.RowKit Go.Joins

set_option maxRecDepth 100000 in
set_option maxHeartbeats 1600000 in
theorem heldRatS (rs : List RatD) (n c : Nat) (hn : rs.length = n) (k : Int) (hk : 0 ≤ k) (hk1 : k + (cntV rs : Nat) ≤ 4611686018426339328) (hfew : Few rs) (A : Option Addr) (w : World) (ha : VI w A (mkV rs k)) :
    Calls Tryz.prog 20 #[.slice A n c, .int .i64 k] w fun e w' => e = .returned (.int .i64 (k + (cntV rs : Nat))) ∧ Below w.heap.size w w' := by
  have hn1 : n ≤ 1048576 := hn ▸ hfew.1
  have HF := Lib.hid hfew.2
  have HC := Lib.hid hk1
  have HA := Lib.hid (fun j (hj : j < rs.length) => by
    have := ha.cells j (by rw [mkV, mixV_len]; exact hj)
    rw [mkV, mixV_get hj, if_pos hj] at this
    exact this)
  have HN := Lib.hid hn
  clear ha hfew hk1 hn
  go_enter Tryz.func20, Tryz.ntmps20
  go_wp2_with fail
  go_loopw [1, 5] (fun u z wr => ∃ j : Nat, j ≤ n ∧ u = .int .i64 (k + (cntV (rs.take j) : Nat)) ∧ z = .int .i64 j ∧ Below w.heap.size w wr) (fun _ z _ => n - (intOf z).toNat)
  case atStart => exact ⟨0, Nat.zero_le _, by simp [cntV], rfl, Below.refl _ _⟩
  case round =>
    obtain ⟨j, hj, rfl, rfl, hbel⟩ := hrel
    by_cases hjn : j = n
    · subst hjn
      have h0 : decide ((j : Int) < (j : Int)) = false := by simp
      have HT := Lib.hid (show rs.take j = rs from List.take_of_length_le (by rw [HN.out]; exact Nat.le_refl _))
      go_wp2
      go_ret
      exact ⟨ret_int (by rw [HT.out]), hbel⟩
    · have hlt : (j : Int) < (n : Int) := by omega
      have hjl : j < rs.length := by rw [HN.out]; omega
      obtain ⟨b, off, rfl, hb1, hat⟩ := HA.out j hjl
      have hat1 := RatAt.stays _ _ _ _ _ hb1 hat hbel
      obtain ⟨f1, f2⟩ := HF.out j hjl
      have hcs := cntV_step rs j hjl
      have hcl := cntV_le rs (j + 1)
      have hx : cntR (rs.getD j zR) = 1 + (rs.getD j zR).mag.length + (rs.getD j zR).den.length := rfl
      have hK0 : 0 ≤ k + (cntV (rs.take j) : Nat) := by omega
      have hK1 : k + (cntV (rs.take j) : Nat) ≤ 4611686018426339328 - 1 - (rs.getD j zR).mag.length - (rs.getD j zR).den.length := by have := HC.out; omega
      have HT := Lib.hid (show k + (cntV (rs.take (j + 1)) : Nat) = k + (cntV (rs.take j) : Nat) + 1 + (rs.getD j zR).mag.length + (rs.getD j zR).den.length by omega)
      clear hcs hcl hx hjl hat
      generalize rs.getD j zR = x at *
      generalize k + (cntV (rs.take j) : Nat) = K at *
      obtain ⟨A1, c1, B1, d1, g0, g1, g2, hcd, r1, r2⟩ := hat1
      simp only [mkRat, mkI_len] at g0 g1 g2 r1 r2
      have HM1 := Lib.hid (fun W (hW : Below wr.heap.size wr W) => heldIntS x.mag.length c1 (K + 1) (by omega) (by omega) f1 A1 W (r1.later hW))
      have HM2 := Lib.hid (fun W (hW : Below wr.heap.size wr W) => heldIntS x.den.length d1 (K + 1 + x.mag.length) (by omega) (by omega) f2 B1 W (r2.later hW))
      have hbb : ((K % 3 == 0) == (K % 3 == 0)) = true := by simp
      have hp1 : decide (K + 1 + (x.mag.length : Int) < 0) = false := decide_eq_false (by omega)
      have hp2 : decide (K + 1 + (x.mag.length : Int) + (x.den.length : Int) < 0) = false := decide_eq_false (by omega)
      have hbw : b < wr.heap.size := Nat.lt_of_lt_of_le hb1 hbel.size
      clear r1 r2 hcd
      go_wp2_with fail
      refine (HM1.out _ (Below.refl _ _)).mono ?_
      rintro e w2 ⟨rfl, hb2⟩
      have g2' := cell_later hbw g2 hb2
      clear g0 g1 g2
      go_wp2_with fail
      refine (HM2.out _ hb2).mono ?_
      rintro e w3 ⟨rfl, hb3⟩
      have hbel3 := hbel.trans (below_le (below_trans hb2 hb3) hbel.size)
      clear g2' hb2 hb3 hbel
      go_wp2
      go_roundw
      case rel => exact ⟨j + 1, by omega, by rw [HT.out], rfl, hbel3⟩
      case measure => simp [intOf]; omega
end Go.Proofs.YtlpomcihkjiokaaGreat

namespace Go.Proofs.YtlpomcihkjiokaaGreat
open Go.RowKit Go.Joins

theorem matSelf (rs : List RowD) (u v : Value) (w : World) (hu : MatV w u rs) (hv : MatV w v rs) (hf : MFew rs) :
    Calls Tryz.prog 27 #[u, v] w fun e w' => e = .returned (.bool true) ∧ Below w.heap.size w w' := by
  have h := eqMatrix rs rs u v w hu hv hf hf
  rwa [msame_refl] at h
end Go.Proofs.YtlpomcihkjiokaaGreat
