/-
  Shared texts (M16).
-/
import Derived.Test.YtlpomcihkjiokaaGreatM15
import Derived.Test.YtlpomcihkjiokaaGreatM3
import Derived.Test.YtlpomcihkjiokaaGreatM1
import Derived.ProofKit
namespace Go.Proofs.YtlpomcihkjiokaaGreat
open Go.RowKit Go.Joins

def runS (rs : List RowD) : Nat → ItD → ItD
  | 0, s => s
  | k + 1, s => if stepOk rs s then runS rs k (stepIt rs s) else s
def runC (rs : List RowD) : Nat → ItD → Nat
  | 0, _ => 0
  | k + 1, s => if stepOk rs s then runC rs k (stepIt rs s) + 1 else 0
def runOk (rs : List RowD) (bs xs : List RatD) (most : Int) : Bool := startOk rs bs xs && inB most 0 40
def runIt (rs : List RowD) (bs xs : List RatD) (most : Int) : ItD := if runOk rs bs xs most then runS rs most.toNat (startIt rs bs xs) else zIt
def runN (rs : List RowD) (bs xs : List RatD) (most : Int) : Int := if runOk rs bs xs most then (runC rs most.toNat (startIt rs bs xs) : Nat) else 0
theorem runS_few {rs : List RowD} (h : MFew rs) : ∀ k s, ItD.few s → (runS rs k s).few
  | 0, _, hs => hs
  | k + 1, s, hs => by
    unfold runS
    split
    · exact runS_few h k _ (stepIt_few h hs)
    · exact hs
theorem runIt_few {rs : List RowD} {bs xs : List RatD} (h : MFew rs) (h1 : Few bs) (h2 : Few xs) (most : Int) : (runIt rs bs xs most).few := by
  unfold runIt
  split
  · exact runS_few h _ _ (startIt_few h h1 h2)
  · exact zIt_few
theorem start_fit {rs : List RowD} {bs xs : List RatD} (h : startOk rs bs xs = true) : fit3 rs (startIt rs bs xs) = true := by
  have h' : fitsB rs [bs, xs] = true ∧ vok (resB rs bs xs) = true := by simpa [startOk, residOk] using h
  obtain ⟨a, b⟩ := h'
  obtain ⟨m, e1, e2, _, v2⟩ := fits2 a
  have hr : resid rs bs xs = resB rs bs xs := by unfold resid vFull; rw [if_pos a, if_pos b]
  have hl : (resB rs bs xs).length = rs.length := (comb_len _ _ _ _).trans e1
  unfold startIt
  rw [if_pos (show residOk rs bs xs = true from h), hr]
  exact fit3_mk m e2 hl hl v2 b b
/-- Where a run is behind k rounds of at most m. -/
def RInv (rs : List RowD) (m k : Nat) (s S : ItD) (C : Nat) : Prop := fit3 rs s = true ∧ s.few ∧ runS rs (m - k) s = S ∧ k + runC rs (m - k) s = C
theorem RInv.start {rs : List RowD} {m : Nat} {s : ItD} (h1 : fit3 rs s = true) (h2 : s.few) : RInv rs m 0 s (runS rs m s) (runC rs m s) := ⟨h1, h2, rfl, Nat.zero_add _⟩
theorem RInv.done {rs : List RowD} {m k C : Nat} {s S : ItD} (h : RInv rs m k s S C) (hk : k = m) : S = s ∧ C = k := by
  obtain ⟨_, _, h3, h4⟩ := h
  subst hk
  rw [Nat.sub_self] at h3 h4
  exact ⟨h3.symm, h4.symm⟩
theorem RInv.stop {rs : List RowD} {m k C : Nat} {s S : ItD} (h : RInv rs m k s S C) (hk : k < m) (hq : stepOk rs s = false) : S = s ∧ C = k := by
  obtain ⟨_, _, h3, h4⟩ := h
  rw [show m - k = (m - (k + 1)) + 1 by omega] at h3 h4
  unfold runS at h3
  unfold runC at h4
  rw [hq] at h3 h4
  exact ⟨h3.symm, h4.symm⟩
theorem RInv.step {rs : List RowD} {m k C : Nat} {s S : ItD} (hf : MFew rs) (h : RInv rs m k s S C) (hk : k < m) (hq : stepOk rs s = true) : RInv rs m (k + 1) (stepIt rs s) S C := by
  obtain ⟨h1, h2, h3, h4⟩ := h
  rw [show m - k = (m - (k + 1)) + 1 by omega] at h3 h4
  unfold runS at h3
  unfold runC at h4
  rw [if_pos hq] at h3 h4
  refine ⟨?_, stepIt_few hf h2, h3, by omega⟩
  unfold stepIt
  rw [if_pos hq]
  have hq' : fit3 rs s = true ∧ cgGo rs s = true ∧ cgOk rs s = true := by simpa [stepOk] using hq
  exact cgNext_fit (fit3_of hq'.1).1 hq'.2.2
/-- What one step ends in, told of the step alone. -/
def NPost (rs : List RowD) (s : ItD) (W : World) (e : Ending) (w' : World) : Prop := ∃ D, SPost W D (.bool (stepOk rs s)) e w' ∧ (stepOk rs s = true → D = stepIt rs s)
theorem iNextN (rs : List RowD) (s : ItD) (u v : Value) (w : World) (hu : ItC w u s) (hv : MatV w v rs) (hf : MFew rs) (hs : s.few) (hfit : fit3 rs s = true) :
    Calls Tryz.prog 103 #[u, v] w (NPost rs s w) := by
  refine (iNext rs s u v w hu.itw hv hf hs hfit).mono ?_
  intro e w' h
  have hq : nextOk rs s = stepOk rs s := by unfold stepOk; rw [hfit]; rfl
  rw [hq] at h
  exact ⟨_, h, fun h1 => (step_go hfit (hq.trans h1)).2.symm⟩
theorem sStepN (rs : List RowD) (s : ItD) (v u : Value) (w : World) (hv : MatV w v rs) (hu : ItC w u s) (hf : MFew rs) (hs : s.few) :
    Calls Tryz.prog 101 #[v, u] w (NPost rs s w) := (sStepCg rs s v u w hv hu hf hs).mono (fun _ _ h => ⟨_, h, fun _ => rfl⟩)

set_option maxRecDepth 100000 in
set_option maxHeartbeats 3200000 in
theorem iRunCg (rs : List RowD) (bs xs : List RatD) (u v1 v2 : Value) (most : Int) (w : World) (hu : MatV w u rs) (h1 : VecV w v1 bs) (h2 : VecV w v2 xs) (hf : MFew rs) (hg : Few bs) (hh : Few xs) :
    Calls Tryz.prog 33 #[u, v1, v2, .int .i64 most] w (SPost w (runIt rs bs xs most) (.int .i64 (runN rs bs xs most))) := by
  have HT := Lib.hid (fun W (hW : Below w.heap.size w W) => iStartCg rs bs xs u v1 v2 W (hu.later hW) (h1.later hW) (h2.later hW) hf hg hh)
  have HSN := Lib.hid (fun (s : ItD) W v (hW : Below w.heap.size w W) (h : ItC W v s) (hs : s.few) (hfit : fit3 rs s = true) => iNextN rs s v u W h (hu.later hW) hf hs hfit)
  have HW := Lib.hid (fun W => iWithin most 0 40 W)
  have hfit := fun h => start_fit (rs := rs) (bs := bs) (xs := xs) h
  have hsf := startIt_few hf hg hh (rs := rs) (bs := bs) (xs := xs)
  have HSTEP := Lib.hid (fun m k C (s S : ItD) (h : RInv rs m k s S C) (hk : k < m) (hq : stepOk rs s = true) => h.step hf hk hq)
  obtain ⟨A, c, rfl, _, _⟩ := hu
  obtain ⟨A1, c1, rfl, _, _⟩ := h1
  obtain ⟨A2, c2, rfl, _, _⟩ := h2
  have hru : runIt rs bs xs most = if startOk rs bs xs && inB most 0 40 then runS rs most.toNat (startIt rs bs xs) else zIt := rfl
  have hrn : runN rs bs xs most = if startOk rs bs xs && inB most 0 40 then ((runC rs most.toNat (startIt rs bs xs) : Nat) : Int) else 0 := rfl
  rw [hru, hrn]
  clear hru hrn hf hg hh
  generalize startIt rs bs xs = S0 at *
  generalize startOk rs bs xs = ok at *
  have hnn := fun (h : inB most 0 40 = true) => (show 0 ≤ most ∧ most ≤ 40 by simp [inB] at h; omega)
  generalize inB most 0 40 = inn at *
  obtain ⟨n, hn⟩ : ∃ n, rs.length = n := ⟨_, rfl⟩
  rw [hn] at HT HSN ⊢
  clear hn
  generalize bs.length = n1 at *
  generalize xs.length = n2 at *
  have R0 := Slots.new (Below.refl _ ((w.alloc (.cells #[.slice A n c] 52)).alloc (.cells #[.slice none 0 0, .slice none 0 0, .slice none 0 0] 66))) (g := w.heap.size + 1) (by simp)
  have SM := Slots.new (below_step (Below.refl _ ((w.alloc (.cells #[.slice A n c] 52)).alloc (.cells #[.slice none 0 0, .slice none 0 0, .slice none 0 0] 66)))) (g := w.heap.size) rfl
  have hb0 := below_alloc2 w (.cells #[.slice A n c] 52) (.cells #[.slice none 0 0, .slice none 0 0, .slice none 0 0] 66)
  cases ok
  · simp only [Bool.false_and, Bool.false_eq_true, if_false]
    clear hfit hnn
    go_enter Tryz.func33, Tryz.ntmps33
    go_wp2_with fail
    generalize (w.alloc (.cells #[.slice A n c] 52)).alloc (.cells #[.slice none 0 0, .slice none 0 0, .slice none 0 0] 66) = w0 at *
    have hz0 := R0.1
    refine (HT.out _ hb0).mono ?_
    intro e w1 hp
    obtain ⟨A3, c3, B3, b3, C3, f3, rfl, hd, hb1⟩ := hp.form
    have hz1 := hb1.size
    have al := below_alloc1 w1 (.cells #[.slice A3 S0.x.length c3, .slice B3 S0.r.length b3, .slice C3 S0.p.length f3] 66)
    have G0 := Slots.new (Below.refl _ (w1.alloc (.cells #[.slice A3 S0.x.length c3, .slice B3 S0.r.length b3, .slice C3 S0.p.length f3] 66))) (g := w1.heap.size) rfl
    have hh := below_trans hb1 al
    replace R0 := R0.later hh
    replace SM := SM.later hh
    replace hb0 := below_trans hb0 hh
    replace hd := hd.later al
    clear hp hb1 al hh
    obtain ⟨q0, q1, q2, z0, z1, z2⟩ := R0.c3
    have hb := below3 hb0 (show w.heap.size ≤ w.heap.size + 1 by omega) (.slice none 0 0) (.slice none 0 0) (.slice none 0 0)
    clear R0 SM G0 hd HSN HSTEP HT
    go_wp2
    exact bodyPost_ret (v := .tuple #[.agg #[.slice none 0 0, .slice none 0 0, .slice none 0 0], .int .i64 0]) (by simp [results, Tryz.results33, go_sem, q0, q1, q2]) rfl (SPost.zero hb)
  cases inn
  · simp only [Bool.and_false, Bool.false_eq_true, if_false]
    clear hfit hnn
    go_enter Tryz.func33, Tryz.ntmps33
    go_wp2_with fail
    generalize (w.alloc (.cells #[.slice A n c] 52)).alloc (.cells #[.slice none 0 0, .slice none 0 0, .slice none 0 0] 66) = w0 at *
    have hz0 := R0.1
    refine (HT.out _ hb0).mono ?_
    intro e w1 hp
    obtain ⟨A3, c3, B3, b3, C3, f3, rfl, hd, hb1⟩ := hp.form
    have hz1 := hb1.size
    have al := below_alloc1 w1 (.cells #[.slice A3 S0.x.length c3, .slice B3 S0.r.length b3, .slice C3 S0.p.length f3] 66)
    have G0 := Slots.new (Below.refl _ (w1.alloc (.cells #[.slice A3 S0.x.length c3, .slice B3 S0.r.length b3, .slice C3 S0.p.length f3] 66))) (g := w1.heap.size) rfl
    have hh := below_trans hb1 al
    replace R0 := R0.later hh
    replace SM := SM.later hh
    replace hb0 := below_trans hb0 hh
    replace hd := hd.later al
    clear hp hb1 al hh
    go_wp2_with fail
    generalize w1.alloc (.cells #[.slice A3 S0.x.length c3, .slice B3 S0.r.length b3, .slice C3 S0.p.length f3] 66) = w2 at *
    refine (HW.out _).mono ?_
    rintro e wx ⟨rfl, rfl⟩
    obtain ⟨q0, q1, q2, z0, z1, z2⟩ := R0.c3
    have hb := below3 hb0 (show w.heap.size ≤ w.heap.size + 1 by omega) (.slice none 0 0) (.slice none 0 0) (.slice none 0 0)
    clear R0 SM G0 hd HSN HSTEP HT
    go_wp2
    exact bodyPost_ret (v := .tuple #[.agg #[.slice none 0 0, .slice none 0 0, .slice none 0 0], .int .i64 0]) (by simp [results, Tryz.results33, go_sem, q0, q1, q2]) rfl (SPost.zero hb)
  · simp only [Bool.and_self, if_true]
    obtain ⟨hmost, hm40⟩ := hnn rfl
    obtain ⟨m, rfl⟩ := Int.eq_ofNat_of_zero_le hmost
    replace hm40 : m ≤ 40 := by omega
    have HI0 := Lib.hid (RInv.start (m := m) (hfit rfl) hsf)
    simp only [Int.toNat_natCast]
    clear hfit hnn hmost hsf
    generalize runS rs m S0 = RS at *
    generalize runC rs m S0 = RC at *
    go_enter Tryz.func33, Tryz.ntmps33
    go_wp2_with fail
    generalize (w.alloc (.cells #[.slice A n c] 52)).alloc (.cells #[.slice none 0 0, .slice none 0 0, .slice none 0 0] 66) = w0 at *
    have hz0 := R0.1
    refine (HT.out _ hb0).mono ?_
    intro e w1 hp
    obtain ⟨A3, c3, B3, b3, C3, f3, rfl, hd, hb1⟩ := hp.form
    have hz1 := hb1.size
    have al := below_alloc1 w1 (.cells #[.slice A3 S0.x.length c3, .slice B3 S0.r.length b3, .slice C3 S0.p.length f3] 66)
    have G0 := Slots.new (Below.refl _ (w1.alloc (.cells #[.slice A3 S0.x.length c3, .slice B3 S0.r.length b3, .slice C3 S0.p.length f3] 66))) (g := w1.heap.size) rfl
    have hh := below_trans hb1 al
    replace R0 := R0.later hh
    replace SM := SM.later hh
    replace hb0 := below_trans hb0 hh
    replace hd := hd.later al
    clear hp hb1 al hh
    go_wp2_with fail
    have hg3 := G0.1
    generalize w1.alloc (.cells #[.slice A3 S0.x.length c3, .slice B3 S0.r.length b3, .slice C3 S0.p.length f3] 66) = w2 at *
    refine (HW.out _).mono ?_
    rintro e wx ⟨rfl, rfl⟩
    go_wp2_with fail
    have hlt0 : w.heap.size + 1 < w1.heap.size := by omega
    go_loopw [31] (fun z wr => ∃ (k : Nat) (s : ItD) (A4 : Option Addr) (c4 : Nat) (B4 : Option Addr) (b4 : Nat) (C4 : Option Addr) (f4 : Nat) (lo hi : Nat), k ≤ m ∧ z = .int .i64 k ∧ Below w1.heap.size wx wr ∧ Slots wr w1.heap.size [.slice A4 s.x.length c4, .slice B4 s.r.length b4, .slice C4 s.p.length f4] ∧
      ITD wr lo hi (.agg #[.slice A4 s.x.length c4, .slice B4 s.r.length b4, .slice C4 s.p.length f4]) s ∧ (w.heap.size + 1 < lo ∧ (hi ≤ w1.heap.size ∨ w1.heap.size < lo)) ∧ Hid (RInv rs m k s RS RC)) (fun z _ => m - (intOf z).toNat)
    case atStart => exact ⟨0, S0, _, _, _, _, _, _, _, _, Nat.zero_le _, rfl, Below.refl _ _, G0, hd, ⟨by omega, .inl (Nat.le_refl _)⟩, HI0⟩
    case round =>
      obtain ⟨k, s, A4, c4, B4, b4, C4, f4, lo, hi, hk, rfl, hbw, G, hd, ⟨o1, o2⟩, HR⟩ := hrel
      have R1 := R0.below hbw hlt0
      have M1 := SM.below hbw (by omega)
      have hbl : Below w.heap.size w wr := hb0.trans (hbw.mono (by omega))
      have hgl := G.1
      by_cases hkm : k = m
      · subst hkm
        have HE := Lib.hid (HR.out.done rfl)
        have hlf : decide ((k : Int) < (k : Int)) = false := by simp
        obtain ⟨q0, q1, q2, z0, z1, z2⟩ := R1.c3
        obtain ⟨t0, t1, t2, _, _, _⟩ := G.c3
        clear R1 G M1 R0 SM G0
        go_wp2
        exact bodyPost_ret (v := .tuple #[.agg #[.slice A4 s.x.length c4, .slice B4 s.r.length b4, .slice C4 s.p.length f4], .int .i64 k]) (by simp [results, Tryz.results33, go_sem, q0, q1, q2]) rfl
          (by obtain ⟨e1, e2⟩ := HE.out; subst e1 e2; exact SPost.ofI hd (by omega) (by omega) hbl (by omega))
      · have hkl : k < m := by omega
        have hlt : (k : Int) < (m : Int) := by omega
        have HSK := fun W v hW h => HSN.out s W v hW h HR.out.2.1 HR.out.1
        unfold NPost at HSK
        have HE0 := Lib.hid (fun (h : stepOk rs s = false) => HR.out.stop hkl h)
        have HE1 := Lib.hid (fun (h : stepOk rs s = true) => HSTEP.out _ _ _ _ _ HR.out hkl h)
        generalize stepOk rs s = q at *
        obtain ⟨m0, _⟩ := M1.c1
        obtain ⟨t0, t1, t2, _, _, _⟩ := G.c3
        replace HSK := Lib.hid HSK
        go_wp2_with fail
        refine (HSK.out _ _ hbl hd.itc).mono ?_
        rintro e w5 ⟨D, hp, hD⟩
        obtain ⟨A5, c5, B5, b5, C5, f5, rfl, hn5, hb5⟩ := hp.form
        have HD := Lib.hid hD
        have hz5 := hb5.size
        have al := below_alloc1 w5 (.cells #[.slice A5 D.x.length c5, .slice B5 D.r.length b5, .slice C5 D.p.length f5] 66)
        have S5 := Slots.new (Below.refl _ (w5.alloc (.cells #[.slice A5 D.x.length c5, .slice B5 D.r.length b5, .slice C5 D.p.length f5] 66))) (g := w5.heap.size) rfl
        have hh := below_trans hb5 al
        replace R1 := R1.later hh
        replace G := G.later hh
        replace hbl := below_trans hbl hh
        replace hbw := hbw.trans (hh.mono (by omega))
        replace hd := hd.later hh
        replace hn5 := hn5.later al
        have hz6 : w5.heap.size < (w5.alloc (.cells #[.slice A5 D.x.length c5, .slice B5 D.r.length b5, .slice C5 D.p.length f5] 66)).heap.size := by simp
        clear hp hD hb5 al hh t0 t1 t2 m0 M1
        cases q
        · have HE := Lib.hid (HE0.out rfl)
          clear HE1 HE0 HD hn5
          obtain ⟨q0, q1, q2, z0, z1, z2⟩ := R1.c3
          obtain ⟨t0, t1, t2, _, _, _⟩ := G.c3
          clear R1 G R0 SM G0 S5
          go_wp2
          exact bodyPost_ret (v := .tuple #[.agg #[.slice A4 s.x.length c4, .slice B4 s.r.length b4, .slice C4 s.p.length f4], .int .i64 k]) (by simp [results, Tryz.results33, go_sem, q0, q1, q2]) rfl
            (by obtain ⟨e1, e2⟩ := HE.out; subst e1 e2; exact SPost.ofI hd (by omega) (by omega) hbl (by omega))
        · have HI := Lib.hid (HE1.out rfl)
          have HDD := Lib.hid (HD.out rfl)
          clear HE1 HE0 HD hd
          obtain ⟨t0, t1, t2, z0, z1, z2⟩ := G.c3
          obtain ⟨s0, s1, s2, _, _, _⟩ := S5.c3
          have G2 := G.st3 (.slice A5 D.x.length c5) (.slice B5 D.r.length b5) (.slice C5 D.p.length f5)
          have hn6 : ITD _ wr.heap.size w5.heap.size _ D := ITD.frame (S := fun x => x = w1.heap.size) hn5 (frame3 (g := w1.heap.size) (.slice A5 D.x.length c5) (.slice B5 D.r.length b5) (.slice C5 D.p.length f5)) (fun x h1 _ (e : x = w1.heap.size) => by omega)
          have hbw2 := below3 hbw (Nat.le_refl _) (.slice A5 D.x.length c5) (.slice B5 D.r.length b5) (.slice C5 D.p.length f5)
          clear hn5 R1 S5 G
          go_wp2
          go_roundw
          case rel => exact ⟨k + 1, D, _, _, _, _, _, _, _, _, by omega, rfl, hbw2, G2, hn6, ⟨by omega, .inr (by omega)⟩, Lib.hid (by rw [HDD.out]; exact HI.out)⟩
          case measure => simp [intOf]; omega

set_option maxRecDepth 100000 in
set_option maxHeartbeats 3200000 in
theorem sRunCg (rs : List RowD) (bs xs : List RatD) (u v1 v2 : Value) (most : Int) (w : World) (hu : MatV w u rs) (h1 : VecV w v1 bs) (h2 : VecV w v2 xs) (hf : MFew rs) (hg : Few bs) (hh : Few xs) :
    Calls Tryz.prog 32 #[u, v1, v2, .int .i64 most] w (SPost w (runIt rs bs xs most) (.int .i64 (runN rs bs xs most))) := by
  have HT := Lib.hid (fun W (hW : Below w.heap.size w W) => sStartCg rs bs xs u v1 v2 W (hu.later hW) (h1.later hW) (h2.later hW) hf hg hh)
  have HSN := Lib.hid (fun (s : ItD) W v (hW : Below w.heap.size w W) (h : ItC W v s) (hs : s.few) (_hfit : fit3 rs s = true) => sStepN rs s u v W (hu.later hW) h hf hs)
  have HW := Lib.hid (fun W => sIn most 0 40 W)
  have hfit := fun h => start_fit (rs := rs) (bs := bs) (xs := xs) h
  have hsf := startIt_few hf hg hh (rs := rs) (bs := bs) (xs := xs)
  have HSTEP := Lib.hid (fun m k C (s S : ItD) (h : RInv rs m k s S C) (hk : k < m) (hq : stepOk rs s = true) => h.step hf hk hq)
  obtain ⟨A, c, rfl, _, _⟩ := hu
  obtain ⟨A1, c1, rfl, _, _⟩ := h1
  obtain ⟨A2, c2, rfl, _, _⟩ := h2
  have hru : runIt rs bs xs most = if startOk rs bs xs && inB most 0 40 then runS rs most.toNat (startIt rs bs xs) else zIt := rfl
  have hrn : runN rs bs xs most = if startOk rs bs xs && inB most 0 40 then ((runC rs most.toNat (startIt rs bs xs) : Nat) : Int) else 0 := rfl
  rw [hru, hrn]
  clear hru hrn hf hg hh
  generalize startIt rs bs xs = S0 at *
  generalize startOk rs bs xs = ok at *
  have hnn := fun (h : inB most 0 40 = true) => (show 0 ≤ most ∧ most ≤ 40 by simp [inB] at h; omega)
  generalize inB most 0 40 = inn at *
  obtain ⟨n, hn⟩ : ∃ n, rs.length = n := ⟨_, rfl⟩
  rw [hn] at HT HSN ⊢
  clear hn
  generalize bs.length = n1 at *
  generalize xs.length = n2 at *
  have R0 := Slots.new (Below.refl _ ((w.alloc (.cells #[.slice A n c] 52)).alloc (.cells #[.slice none 0 0, .slice none 0 0, .slice none 0 0] 66))) (g := w.heap.size + 1) (by simp)
  have SM := Slots.new (below_step (Below.refl _ ((w.alloc (.cells #[.slice A n c] 52)).alloc (.cells #[.slice none 0 0, .slice none 0 0, .slice none 0 0] 66)))) (g := w.heap.size) rfl
  have hb0 := below_alloc2 w (.cells #[.slice A n c] 52) (.cells #[.slice none 0 0, .slice none 0 0, .slice none 0 0] 66)
  cases ok
  · simp only [Bool.false_and, Bool.false_eq_true, if_false]
    clear hfit hnn
    go_enter Tryz.func32, Tryz.ntmps32
    go_wp2_with fail
    generalize (w.alloc (.cells #[.slice A n c] 52)).alloc (.cells #[.slice none 0 0, .slice none 0 0, .slice none 0 0] 66) = w0 at *
    have hz0 := R0.1
    refine (HT.out _ hb0).mono ?_
    intro e w1 hp
    obtain ⟨A3, c3, B3, b3, C3, f3, rfl, hd, hb1⟩ := hp.form
    have hz1 := hb1.size
    have al := below_alloc1 w1 (.cells #[.slice A3 S0.x.length c3, .slice B3 S0.r.length b3, .slice C3 S0.p.length f3] 66)
    have G0 := Slots.new (Below.refl _ (w1.alloc (.cells #[.slice A3 S0.x.length c3, .slice B3 S0.r.length b3, .slice C3 S0.p.length f3] 66))) (g := w1.heap.size) rfl
    have hh := below_trans hb1 al
    replace R0 := R0.later hh
    replace SM := SM.later hh
    replace hb0 := below_trans hb0 hh
    replace hd := hd.later al
    clear hp hb1 al hh
    obtain ⟨q0, q1, q2, z0, z1, z2⟩ := R0.c3
    have hb := below3 hb0 (show w.heap.size ≤ w.heap.size + 1 by omega) (.slice none 0 0) (.slice none 0 0) (.slice none 0 0)
    clear R0 SM G0 hd HSN HSTEP HT
    go_wp2
    exact bodyPost_ret (v := .tuple #[.agg #[.slice none 0 0, .slice none 0 0, .slice none 0 0], .int .i64 0]) (by simp [results, Tryz.results32, go_sem, q0, q1, q2]) rfl (SPost.zero hb)
  cases inn
  · simp only [Bool.and_false, Bool.false_eq_true, if_false]
    clear hfit hnn
    go_enter Tryz.func32, Tryz.ntmps32
    go_wp2_with fail
    generalize (w.alloc (.cells #[.slice A n c] 52)).alloc (.cells #[.slice none 0 0, .slice none 0 0, .slice none 0 0] 66) = w0 at *
    have hz0 := R0.1
    refine (HT.out _ hb0).mono ?_
    intro e w1 hp
    obtain ⟨A3, c3, B3, b3, C3, f3, rfl, hd, hb1⟩ := hp.form
    have hz1 := hb1.size
    have al := below_alloc1 w1 (.cells #[.slice A3 S0.x.length c3, .slice B3 S0.r.length b3, .slice C3 S0.p.length f3] 66)
    have G0 := Slots.new (Below.refl _ (w1.alloc (.cells #[.slice A3 S0.x.length c3, .slice B3 S0.r.length b3, .slice C3 S0.p.length f3] 66))) (g := w1.heap.size) rfl
    have hh := below_trans hb1 al
    replace R0 := R0.later hh
    replace SM := SM.later hh
    replace hb0 := below_trans hb0 hh
    replace hd := hd.later al
    clear hp hb1 al hh
    go_wp2_with fail
    generalize w1.alloc (.cells #[.slice A3 S0.x.length c3, .slice B3 S0.r.length b3, .slice C3 S0.p.length f3] 66) = w2 at *
    refine (HW.out _).mono ?_
    rintro e wx ⟨rfl, rfl⟩
    obtain ⟨q0, q1, q2, z0, z1, z2⟩ := R0.c3
    have hb := below3 hb0 (show w.heap.size ≤ w.heap.size + 1 by omega) (.slice none 0 0) (.slice none 0 0) (.slice none 0 0)
    clear R0 SM G0 hd HSN HSTEP HT
    go_wp2
    exact bodyPost_ret (v := .tuple #[.agg #[.slice none 0 0, .slice none 0 0, .slice none 0 0], .int .i64 0]) (by simp [results, Tryz.results32, go_sem, q0, q1, q2]) rfl (SPost.zero hb)
  · simp only [Bool.and_self, if_true]
    obtain ⟨hmost, hm40⟩ := hnn rfl
    obtain ⟨m, rfl⟩ := Int.eq_ofNat_of_zero_le hmost
    replace hm40 : m ≤ 40 := by omega
    have HI0 := Lib.hid (RInv.start (m := m) (hfit rfl) hsf)
    simp only [Int.toNat_natCast]
    clear hfit hnn hmost hsf
    generalize runS rs m S0 = RS at *
    generalize runC rs m S0 = RC at *
    go_enter Tryz.func32, Tryz.ntmps32
    go_wp2_with fail
    generalize (w.alloc (.cells #[.slice A n c] 52)).alloc (.cells #[.slice none 0 0, .slice none 0 0, .slice none 0 0] 66) = w0 at *
    have hz0 := R0.1
    refine (HT.out _ hb0).mono ?_
    intro e w1 hp
    obtain ⟨A3, c3, B3, b3, C3, f3, rfl, hd, hb1⟩ := hp.form
    have hz1 := hb1.size
    have al := below_alloc1 w1 (.cells #[.slice A3 S0.x.length c3, .slice B3 S0.r.length b3, .slice C3 S0.p.length f3] 66)
    have G0 := Slots.new (Below.refl _ (w1.alloc (.cells #[.slice A3 S0.x.length c3, .slice B3 S0.r.length b3, .slice C3 S0.p.length f3] 66))) (g := w1.heap.size) rfl
    have hh := below_trans hb1 al
    replace R0 := R0.later hh
    replace SM := SM.later hh
    replace hb0 := below_trans hb0 hh
    replace hd := hd.later al
    clear hp hb1 al hh
    go_wp2_with fail
    have hg3 := G0.1
    generalize w1.alloc (.cells #[.slice A3 S0.x.length c3, .slice B3 S0.r.length b3, .slice C3 S0.p.length f3] 66) = w2 at *
    refine (HW.out _).mono ?_
    rintro e wx ⟨rfl, rfl⟩
    go_wp2_with fail
    have hlt0 : w.heap.size + 1 < w1.heap.size := by omega
    go_loopw [12] (fun z wr => ∃ (k : Nat) (s : ItD) (A4 : Option Addr) (c4 : Nat) (B4 : Option Addr) (b4 : Nat) (C4 : Option Addr) (f4 : Nat) (lo hi : Nat), k ≤ m ∧ z = .int .i64 k ∧ Below w1.heap.size wx wr ∧ Slots wr w1.heap.size [.slice A4 s.x.length c4, .slice B4 s.r.length b4, .slice C4 s.p.length f4] ∧
      ITD wr lo hi (.agg #[.slice A4 s.x.length c4, .slice B4 s.r.length b4, .slice C4 s.p.length f4]) s ∧ (w.heap.size + 1 < lo ∧ (hi ≤ w1.heap.size ∨ w1.heap.size < lo)) ∧ Hid (RInv rs m k s RS RC)) (fun z _ => m - (intOf z).toNat)
    case atStart => exact ⟨0, S0, _, _, _, _, _, _, _, _, Nat.zero_le _, rfl, Below.refl _ _, G0, hd, ⟨by omega, .inl (Nat.le_refl _)⟩, HI0⟩
    case round =>
      obtain ⟨k, s, A4, c4, B4, b4, C4, f4, lo, hi, hk, rfl, hbw, G, hd, ⟨o1, o2⟩, HR⟩ := hrel
      have R1 := R0.below hbw hlt0
      have M1 := SM.below hbw (by omega)
      have hbl : Below w.heap.size w wr := hb0.trans (hbw.mono (by omega))
      have hgl := G.1
      by_cases hkm : k = m
      · subst hkm
        have HE := Lib.hid (HR.out.done rfl)
        have hlf : decide ((k : Int) < (k : Int)) = false := by simp
        obtain ⟨q0, q1, q2, z0, z1, z2⟩ := R1.c3
        obtain ⟨t0, t1, t2, _, _, _⟩ := G.c3
        clear R1 G M1 R0 SM G0
        go_wp2
        exact bodyPost_ret (v := .tuple #[.agg #[.slice A4 s.x.length c4, .slice B4 s.r.length b4, .slice C4 s.p.length f4], .int .i64 k]) (by simp [results, Tryz.results32, go_sem, q0, q1, q2]) rfl
          (by obtain ⟨e1, e2⟩ := HE.out; subst e1 e2; exact SPost.ofI hd (by omega) (by omega) hbl (by omega))
      · have hkl : k < m := by omega
        have hlt : (k : Int) < (m : Int) := by omega
        have HSK := fun W v hW h => HSN.out s W v hW h HR.out.2.1 HR.out.1
        unfold NPost at HSK
        have HE0 := Lib.hid (fun (h : stepOk rs s = false) => HR.out.stop hkl h)
        have HE1 := Lib.hid (fun (h : stepOk rs s = true) => HSTEP.out _ _ _ _ _ HR.out hkl h)
        generalize stepOk rs s = q at *
        obtain ⟨m0, _⟩ := M1.c1
        obtain ⟨t0, t1, t2, _, _, _⟩ := G.c3
        replace HSK := Lib.hid HSK
        go_wp2_with fail
        refine (HSK.out _ _ hbl hd.itc).mono ?_
        rintro e w5 ⟨D, hp, hD⟩
        obtain ⟨A5, c5, B5, b5, C5, f5, rfl, hn5, hb5⟩ := hp.form
        have HD := Lib.hid hD
        have hz5 := hb5.size
        have al := below_alloc1 w5 (.cells #[.slice A5 D.x.length c5, .slice B5 D.r.length b5, .slice C5 D.p.length f5] 66)
        have S5 := Slots.new (Below.refl _ (w5.alloc (.cells #[.slice A5 D.x.length c5, .slice B5 D.r.length b5, .slice C5 D.p.length f5] 66))) (g := w5.heap.size) rfl
        have hh := below_trans hb5 al
        replace R1 := R1.later hh
        replace G := G.later hh
        replace hbl := below_trans hbl hh
        replace hbw := hbw.trans (hh.mono (by omega))
        replace hd := hd.later hh
        replace hn5 := hn5.later al
        have hz6 : w5.heap.size < (w5.alloc (.cells #[.slice A5 D.x.length c5, .slice B5 D.r.length b5, .slice C5 D.p.length f5] 66)).heap.size := by simp
        clear hp hD hb5 al hh t0 t1 t2 m0 M1
        cases q
        · have HE := Lib.hid (HE0.out rfl)
          clear HE1 HE0 HD hn5
          obtain ⟨q0, q1, q2, z0, z1, z2⟩ := R1.c3
          obtain ⟨t0, t1, t2, _, _, _⟩ := G.c3
          clear R1 G R0 SM G0 S5
          go_wp2
          exact bodyPost_ret (v := .tuple #[.agg #[.slice A4 s.x.length c4, .slice B4 s.r.length b4, .slice C4 s.p.length f4], .int .i64 k]) (by simp [results, Tryz.results32, go_sem, q0, q1, q2]) rfl
            (by obtain ⟨e1, e2⟩ := HE.out; subst e1 e2; exact SPost.ofI hd (by omega) (by omega) hbl (by omega))
        · have HI := Lib.hid (HE1.out rfl)
          have HDD := Lib.hid (HD.out rfl)
          clear HE1 HE0 HD hd
          obtain ⟨t0, t1, t2, z0, z1, z2⟩ := G.c3
          obtain ⟨s0, s1, s2, _, _, _⟩ := S5.c3
          have G2 := G.st3 (.slice A5 D.x.length c5) (.slice B5 D.r.length b5) (.slice C5 D.p.length f5)
          have hn6 : ITD _ wr.heap.size w5.heap.size _ D := ITD.frame (S := fun x => x = w1.heap.size) hn5 (frame3 (g := w1.heap.size) (.slice A5 D.x.length c5) (.slice B5 D.r.length b5) (.slice C5 D.p.length f5)) (fun x h1 _ (e : x = w1.heap.size) => by omega)
          have hbw2 := below3 hbw (Nat.le_refl _) (.slice A5 D.x.length c5) (.slice B5 D.r.length b5) (.slice C5 D.p.length f5)
          clear hn5 R1 S5 G
          go_wp2
          go_roundw
          case rel => exact ⟨k + 1, D, _, _, _, _, _, _, _, _, by omega, rfl, hbw2, G2, hn6, ⟨by omega, .inr (by omega)⟩, Lib.hid (by rw [HDD.out]; exact HI.out)⟩
          case measure => simp [intOf]; omega

end Go.Proofs.YtlpomcihkjiokaaGreat

namespace Go.Proofs.YtlpomcihkjiokaaGreat
open Go.ChangeShapes Go.RowKit Go.Joins Go.Deep

theorem list3 {α : Type} {l : List α} (h : l.length = 3) : ∃ a b c, l = [a, b, c] := by
  match l, h with
  | [a, b, c], _ => exact ⟨a, b, c, rfl⟩

section
variable {H : Type} {enc : TypeId × Value → H} {w : World}

theorem cells1 : Tryz.prog.cellsOf 3 = 1 := by kernel_rfl
theorem cellsB : Tryz.prog.cellsOf 42 = 2 := by kernel_rfl
theorem cellsR : Tryz.prog.cellsOf 44 = 3 := by kernel_rfl
theorem cellsS : Tryz.prog.cellsOf 40 = 1 := by kernel_rfl
theorem cellsBool : Tryz.prog.cellsOf 4 = 1 := by kernel_rfl

theorem openRat {n : Nat} {cs : List Value} {y : DataW H × List MemPlace} (h : DataW.trod enc Tryz.prog w 0 (fun _ => true) true n 44 cs = some y) (hl : cs.length = 3) :
    ∃ (z : RatD) (A : Option Addr) (c : Nat) (B : Option Addr) (d : Nat), cs = [.bool z.neg, .slice A z.mag.length c, .slice B z.den.length d] ∧ (z.mag.length ≤ c ∧ c ≤ maxLen ∧ z.den.length ≤ d ∧ d ≤ maxLen) ∧ RI w A z.mag ∧ RI w B z.den := by
  obtain ⟨y0, y1, n1, _, _, h0, h1⟩ := trod_struct2 Tryz.underlying44 h
  obtain ⟨z0, z1, n2, _, _, g0, g1⟩ := trod_struct2 Tryz.underlying42 h0
  obtain ⟨a, b, c, rfl⟩ := list3 hl
  simp [cellsB, cellsS, cellsBool] at h0 h1 g0 g1
  obtain ⟨s, hs, _⟩ := DataW.trod_bool Tryz.underlying4 g0
  obtain ⟨A, ca, xs, hA, la, ma, ra, _⟩ := openRI Tryz.underlying40 Tryz.underlying3 cells1 g1
  obtain ⟨B, cb, ys, hB, lb, mb, rb, _⟩ := openRI Tryz.underlying40 Tryz.underlying3 cells1 h1
  simp at hs hA hB
  subst hs hA hB
  exact ⟨⟨s, xs, ys⟩, A, ca, B, cb, rfl, ⟨la, ma, lb, mb⟩, ra, rb⟩

theorem openVI {n : Nat} {cs : List Value} {y : DataW H × List MemPlace} (h : DataW.trod enc Tryz.prog w 0 (fun _ => true) true n 23 cs = some y) :
    ∃ (A : Option Addr) (c : Nat) (rs : List RatD), cs = [.slice A rs.length c] ∧ rs.length ≤ c ∧ c ≤ maxLen ∧ VI w A rs := by
  obtain ⟨A, c, rs, h1, h2, h3, h4, _⟩ := openSI (At := RatAt) (k := 3) (d := zR) (G := fun _ => True) Tryz.underlying23 cellsR (by omega) (fun n cs' y hy hl => by
    obtain ⟨z, A, c, B, d, rfl, hl', ra, rb⟩ := openRat hy hl
    refine ⟨z, trivial, fun b o hc => ⟨A, c, B, d, ?_, ?_, ?_, hl', ra, rb⟩⟩
    · simpa using hc 0 (by omega)
    · simpa using hc 1 (by omega)
    · simpa using hc 2 (by omega)) h
  exact ⟨A, c, rs, h1, h2, h3, h4⟩
end
end Go.Proofs.YtlpomcihkjiokaaGreat

namespace Go.Proofs.YtlpomcihkjiokaaGreat
open Go.ChangeShapes Go.RowKit Go.Joins Go.Deep Go.WideShapes

section
variable {H : Type} {enc : TypeId × Value → H} {w : World}

/-- A struct by value, opened. -/
theorem open_agg {P : Program} {t : TypeId} {v : Value} {d : DataW H} {p : List MemPlace} (hv : ∃ cs, v = .agg cs ∧ cs.size = P.cellsOf t) (h : DataW.Trod enc P w 0 (fun _ => true) true t v d p) :
    ∃ (cs : List Value) (y : DataW H × List MemPlace) (n : Nat), v = .agg cs.toArray ∧ cs.length = P.cellsOf t ∧ DataW.trod enc P w 0 (fun _ => true) true n t cs = some y := by
  obtain ⟨cs, rfl, hsz⟩ := hv
  obtain ⟨fuel, hf⟩ := h
  exact ⟨cs.toList, _, fuel, by simp, by simpa using hsz, hf⟩

theorem list2 {α : Type} {l : List α} (h : l.length = 2) : ∃ a b, l = [a, b] := by
  match l, h with
  | [a, b], _ => exact ⟨a, b, rfl⟩
theorem list1 {α : Type} {l : List α} (h : l.length = 1) : ∃ a, l = [a] := by
  match l, h with
  | [a], _ => exact ⟨a, rfl⟩
theorem cellsRow : Tryz.prog.cellsOf 152 = 2 := by kernel_rfl
theorem cellsMat : Tryz.prog.cellsOf 47 = 1 := by kernel_rfl
theorem cellsRS : Tryz.prog.cellsOf 23 = 1 := by kernel_rfl
theorem cellsRowS : Tryz.prog.cellsOf 45 = 1 := by kernel_rfl

theorem openRow {n : Nat} {cs : List Value} {y : DataW H × List MemPlace} (h : DataW.trod enc Tryz.prog w 0 (fun _ => true) true n 152 cs = some y) (hl : cs.length = 2) :
    ∃ (z : RowD) (A : Option Addr) (c : Nat) (B : Option Addr) (d : Nat), cs = [.slice A z.cols.length c, .slice B z.vals.length d] ∧ (z.cols.length ≤ c ∧ c ≤ maxLen ∧ z.vals.length ≤ d ∧ d ≤ maxLen) ∧ RI w A z.cols ∧ VI w B z.vals := by
  obtain ⟨y0, y1, n1, _, _, h0, h1⟩ := trod_struct2 Tryz.underlying152 h
  obtain ⟨a, b, rfl⟩ := list2 hl
  simp [cellsRS, cellsS] at h0 h1
  obtain ⟨A, ca, xs, hA, la, ma, ra, _⟩ := openRI Tryz.underlying40 Tryz.underlying3 cells1 h0
  obtain ⟨B, cb, ys, hB, lb, mb, rb⟩ := openVI h1
  simp at hA hB
  subst hA hB
  exact ⟨⟨xs, ys⟩, A, ca, B, cb, rfl, ⟨la, ma, lb, mb⟩, ra, rb⟩

set_option maxRecDepth 100000 in
theorem openMI {n : Nat} {cs : List Value} {y : DataW H × List MemPlace} (h : DataW.trod enc Tryz.prog w 0 (fun _ => true) true n 45 cs = some y) :
    ∃ (A : Option Addr) (c : Nat) (rs : List RowD), cs = [.slice A rs.length c] ∧ rs.length ≤ c ∧ c ≤ maxLen ∧ MI w A rs := by
  obtain ⟨A, c, rs, h1, h2, h3, h4, _⟩ := openSI (At := RowAt) (k := 2) (d := zRow) (G := fun _ => True) Tryz.underlying45 cellsRow (by omega) (fun n cs' y hy hl => by
    obtain ⟨z, A, c, B, d, rfl, hl', ra, rb⟩ := openRow hy hl
    refine ⟨z, trivial, fun b o hc => ⟨A, c, B, d, ?_, ?_, hl', ra, rb⟩⟩
    · simpa using hc 0 (by omega)
    · simpa using hc 1 (by omega)) h
  exact ⟨A, c, rs, h1, h2, h3, h4⟩

theorem openMatrix {v : Value} {d : DataW H} {p : List MemPlace} (hv : ∃ cs, v = .agg cs ∧ cs.size = Tryz.prog.cellsOf 47) (h : DataW.Trod enc Tryz.prog w 0 (fun _ => true) true 47 v d p) : ∃ rs, MatV w v rs := by
  obtain ⟨cs, y, n, rfl, hl, h1⟩ := open_agg hv h
  rw [cellsMat] at hl
  obtain ⟨a, rfl⟩ := list1 hl
  obtain ⟨y0, n1, _, _, h0⟩ := trod_struct1 Tryz.underlying47 h1
  simp [cellsRowS] at h0
  obtain ⟨A, c, rs, hA, la, ma, ra⟩ := openMI h0
  simp at hA
  subst hA
  exact ⟨rs, A, c, rfl, ⟨la, ma⟩, ra⟩
end
end Go.Proofs.YtlpomcihkjiokaaGreat

namespace Go.Proofs.YtlpomcihkjiokaaGreat
open Go.ChangeShapes Go.WideShapes Go.ChangeAt Go.RowKit Go.Joins Go.WideElems Go.Deep
section
variable {H : Type} {enc : TypeId × Value → H} {w : World}
/-- An argument of type []laws.Rat. -/
theorem openRatS {v : Value} {d : DataW H} {p : List MemPlace} (hv : ∃ a len cap, v = .slice a len cap) (h : DataW.Trod enc Tryz.prog w 0 (fun _ => true) true 23 v d p) :
    ∃ (A : Option Addr) (c : Nat) (rs : List RatD), v = .slice A rs.length c ∧ rs.length ≤ maxLen ∧ VI w A rs := by
  obtain ⟨a, n, cap, rfl⟩ := hv
  obtain ⟨fuel, hf⟩ := h
  obtain ⟨A, c, rs, h1, h2, h3, h4⟩ := openVI hf
  simp [Value.cells] at h1
  obtain ⟨rfl, rfl, rfl⟩ := h1
  exact ⟨_, _, rs, rfl, Nat.le_trans h2 h3, h4⟩
end
end Go.Proofs.YtlpomcihkjiokaaGreat
