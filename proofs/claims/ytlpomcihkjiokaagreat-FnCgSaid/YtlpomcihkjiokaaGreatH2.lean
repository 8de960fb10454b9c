/-
 Shared texts (H2).
-/
import Derived.Test.YtlpomcihkjiokaaGreatH1
import Derived.Deep.LoopGhost
import Derived.Lib.QuietBelow
namespace Go.Proofs.YtlpomcihkjiokaaGreat
open Go.RowKit
def Only (g : Nat) (w w' : World) : Prop := w.grownBy w' (some g)
theorem Only.refl (g : Nat) (w : World) : Only g w w := ⟨rfl, rfl, rfl, Nat.le_refl _, fun _ _ _ => rfl⟩
theorem Only.set {g : Nat} {a w : World} (h : Only g a w) (i : Nat) (u : Value) : Only g a (w.setCell ⟨g, i, none⟩ u) :=
 ⟨h.os, h.tape, h.output, by simpa [World.setCell] using h.size, fun k hk hne => (Below.heap_setCell w _ u k (fun e => hne (by rw [e]))).trans (h.block k hk hne)⟩
theorem Only.drew {g : Nat} {a w : World} (h : Only g a w) : Only g a w.drew := ⟨h.os, h.tape, h.output, h.size, h.block⟩
theorem Only.below {g B : Nat} {a w : World} (h : Only g a w) (hg : B ≤ g) (hB : B ≤ a.heap.size) : Below B a w :=
 ⟨h.os, h.tape, h.output, h.size, fun k hk => h.block k (by omega) (fun e => by injection e with e; omega)⟩
theorem Only.reads {g : Nat} {a w : World} {A : Option Addr} {xs : List Int} (h : Only g a w) (hr : RI a A xs) (hne : ∀ b, A = some b → xs ≠ [] → b.block ≠ g) : RI w A xs := by
 intro hx
 obtain ⟨b, off, rfl, hb, hc⟩ := hr hx
 refine ⟨b, off, rfl, Nat.lt_of_lt_of_le hb h.size, fun i hi => ?_⟩
 rw [World.cell?_of_block (w := a) (w' := w) (h.block b hb (fun e => hne _ rfl hx (by injection e)))]
 exact hc i hi
theorem Only.arr {g g' cap : Nat} {a w : World} {xs : List Int} (h : Only g a w) (hr : Arr a g' cap xs) (hne : g' ≠ g) : Arr w g' cap xs :=
 hr.block (h.block g' hr.lt (fun e => hne (by injection e)))
set_option maxRecDepth 100000 in
set_option maxHeartbeats 2000000 in
theorem subtract_any (us vs : List Int) (off n c1 d cap g : Nat) (q : Int) (hm : vs.length = n) (hus : off + n + 1 ≤ us.length) (hul : us.length ≤ 1048576) (hud : FE.Dig us) (hvd : FE.Dig vs) (hq : 0 ≤ q ∧ q < 1000000000)
 (hlo : - FE.bp n ≤ FE.val ((us.drop off).take (n + 1)) - q * FE.val vs)
 (B : Option Addr) (w : World) (harr : Arr w g cap us) (hb : RI w B vs) (hne : ∀ b, B = some b → vs ≠ [] → b.block ≠ g) :
 Calls Tryz.prog 209 #[.slice (some ⟨g, off, none⟩) (n + 1) c1, .slice B n d, .int .i64 q] w fun e w' => ∃ (zs : List Int) (r : Int), e = .returned (.int .i64 r) ∧ (r = 0 ∨ r = 1) ∧ zs.length = n + 1 ∧ FE.Dig zs ∧
  FE.val zs = FE.val ((us.drop off).take (n + 1)) - q * FE.val vs + FE.bp (n + 1) * r ∧ Arr w' g cap (us.take off ++ zs ++ us.drop (off + n + 1)) ∧ Only g w w' := by
 go_enter Tryz.func209, Tryz.ntmps209
 go_wp2_with fail
 have HLO := Lib.hid hlo; clear hlo
 have HNE := Lib.hid hne; clear hne
 have hwd : FE.Dig (us.drop off) := hud.drop off
 go_loopw [7, 14] (fun r i wr => ∃ (k : Nat) (zs : List Int) (bo : Int), k ≤ n ∧ i = .int .i64 k ∧ r = .int .i64 bo ∧ 0 ≤ bo ∧ bo < 1000000000 ∧ zs.length = k ∧ FE.Dig zs ∧
  FE.val zs - FE.bp k * bo = FE.val ((us.drop off).take k) - q * FE.val (vs.take k) ∧ Arr wr g cap ((us.take off ++ zs) ++ us.drop (off + k)) ∧ Only g w wr) (fun _ i _ => n - (intOf i).toNat)
 case atStart => exact ⟨0, [], 0, Nat.zero_le _, rfl, rfl, by omega, by omega, rfl, FE.Dig.nil, by simp [FE.val], by simpa using harr, Only.refl _ _⟩
 case round =>
  obtain ⟨k, zs, bo, hk, rfl, rfl, hb0, hb1, hz, hzd, hv, har, honly⟩ := hrel
  have HZ := Lib.hid hz; clear hz
  have HV := Lib.hid hv; clear hv
  have hpl : (us.take off ++ zs).length = off + k := by simp [HZ.out]; omega
  have hlen : off + k < ((us.take off ++ zs) ++ us.drop (off + k)).length := by rw [List.length_append, hpl, List.length_drop]; omega
  have e2 := har.cell (off + k) hlen
  have e3 := har.frozen (off + k)
  rw [FE.getD_mid _ _ _ hpl (by omega)] at e2
  have hwk : (us.drop off).getD k 0 = us.getD (off + k) 0 := by simp
  have hfin : ∀ t (wz : World), Arr wz g cap (((us.take off ++ zs) ++ us.drop (off + k)).set (off + k) t) → Arr wz g cap ((us.take off ++ (zs ++ [t])) ++ us.drop (off + (k + 1))) := fun t wz h => by
   rw [FE.set_mid _ _ _ _ hpl (by omega)] at h
   simpa [Nat.add_assoc] using h
  have HF := Lib.hid hfin; clear hfin
  have HPL := Lib.hid hpl; clear hpl
  by_cases hkn : k < n
  ·obtain ⟨b2, o2, rfl, hb2', hc2⟩ := hb (by intro h; subst h; simp at hm; omega)
   have hneq : b2 ≠ g := HNE.out _ rfl (by intro h; subst h; simp at hm; omega)
   have e4 := (World.cell?_of_block (w := w) (w' := wr) (a := ⟨b2, o2 + k, none⟩) (honly.block b2 hb2' (fun e => hneq (by injection e)))).trans (hc2 k (by omega))
   clear hc2
   have hx := hud.getD (off + k)
   have hy := hvd.getD k
   have hmm := FE.mul_bound hy ⟨hq.1, by omega⟩
   have hstep := FE.takeStep (t := us.getD (off + k) 0 - bo - vs.getD k 0 * q) HZ.out hzd hwd hvd hb0 hb1 hq HV.out (by rw [hwk]) rfl rfl
   clear hwk
   generalize hye : vs.getD k 0 = y at *
   generalize hxe : us.getD (off + k) 0 = x at *
   clear hxe hye
   by_cases ht : x - bo - y * q < 0
   ·rw [if_pos ht, if_pos ht] at hstep
    have HS := Lib.hid hstep; clear hstep
    go_wp2
    go_roundw
    case rel => exact ⟨k + 1, zs ++ [_], _, by omega, by go_num, rfl, HS.out.2.2.1, HS.out.2.2.2, by simp; exact HZ.out, HS.out.1, HS.out.2.1, HF.out _ _ (har.set (off + k) hlen _), honly.set _ _⟩
    case measure => simp [intOf]; omega
   ·rw [if_neg ht, if_neg ht] at hstep
    have HS := Lib.hid hstep; clear hstep
    go_wp2
    go_roundw
    case rel => exact ⟨k + 1, zs ++ [x - bo - y * q], 0, by omega, by go_num, rfl, by omega, by omega, by simp; exact HZ.out, HS.out.1, HS.out.2.1, HF.out _ _ (har.set (off + k) hlen _), honly.set _ _⟩
    case measure => simp [intOf]; omega
  ·have hkn' : k = n := by omega
   subst hkn'
   have hend := FE.takeEnd (t := us.getD (off + k) 0 - bo) HZ.out hzd hwd hm hb0 HV.out HLO.out (by rw [hwk])
   clear hwk
   have hx := hud.getD (off + k)
   generalize hxe : us.getD (off + k) 0 = x at *
   clear hxe
   have h1 := hend.1
   have h2 := hend.2.1
   have hee := hend.2.2
   clear hend
   have HE := Lib.hid hee; clear hee
   by_cases ht : x - bo < 0
   ·go_wp2
    go_ret
    exact ⟨zs ++ [x - bo + 1000000000], 1, rfl, .inr rfl, by simp; exact HZ.out, (HE.out.1 ht).1, (HE.out.1 ht).2, by
     have h3 := HF.out _ _ (har.set2 (off + k) hlen (x - bo) (x - bo + 1000000000))
     simpa [Nat.add_assoc] using h3, (honly.set _ _).set _ _⟩
   ·go_wp2
    go_ret
    exact ⟨zs ++ [x - bo], 0, rfl, .inl rfl, by simp; exact HZ.out, (HE.out.2 (by omega)).1, (HE.out.2 (by omega)).2, by
     have h3 := HF.out _ _ (har.set (off + k) hlen (x - bo))
     simpa [Nat.add_assoc] using h3, honly.set _ _⟩
set_option maxRecDepth 100000 in
set_option maxHeartbeats 2000000 in
theorem addBack_any (us vs : List Int) (off n c1 d cap g N : Nat) (hm : vs.length = n) (hnN : n ≤ N) (hus : off + N ≤ us.length) (hul : us.length ≤ 1048576) (hud : FE.Dig us) (hvd : FE.Dig vs)
 (B : Option Addr) (w : World) (harr : Arr w g cap us) (hb : RI w B vs) (hne : ∀ b, B = some b → vs ≠ [] → b.block ≠ g) :
 Calls Tryz.prog 210 #[.slice (some ⟨g, off, none⟩) N c1, .slice B n d] w fun e w' => ∃ (zs : List Int) (cy : Int), e = .returned (.tuple #[]) ∧ 0 ≤ cy ∧ cy ≤ 1 ∧ zs.length = N ∧ FE.Dig zs ∧
  FE.val zs + FE.bp N * cy = FE.val ((us.drop off).take N) + FE.val vs ∧ Arr w' g cap (us.take off ++ zs ++ us.drop (off + N)) ∧ Only g w w' := by
 go_enter Tryz.func210, Tryz.ntmps210
 go_wp2_with fail
 have HNE := Lib.hid hne; clear hne
 have hwd : FE.Dig (us.drop off) := hud.drop off
 go_loopw [4, 9] (fun r i wr => ∃ (k : Nat) (zs : List Int) (cy : Int), k ≤ N ∧ i = .int .i64 k ∧ r = .int .i64 cy ∧ 0 ≤ cy ∧ cy ≤ 1 ∧ zs.length = k ∧ FE.Dig zs ∧
  FE.val zs + FE.bp k * cy = FE.val ((us.drop off).take k) + FE.val (vs.take k) ∧ Arr wr g cap ((us.take off ++ zs) ++ us.drop (off + k)) ∧ Only g w wr) (fun _ i _ => N - (intOf i).toNat)
 case atStart => exact ⟨0, [], 0, Nat.zero_le _, rfl, rfl, by omega, by omega, rfl, FE.Dig.nil, by simp [FE.val], by simpa using harr, Only.refl _ _⟩
 case round =>
  obtain ⟨k, zs, cy, hk, rfl, rfl, hb0, hb1, hz, hzd, hv, har, honly⟩ := hrel
  have HZ := Lib.hid hz; clear hz
  have HV := Lib.hid hv; clear hv
  by_cases hkN : k < N
  ·have hpl : (us.take off ++ zs).length = off + k := by simp [HZ.out]; omega
   have hlen : off + k < ((us.take off ++ zs) ++ us.drop (off + k)).length := by rw [List.length_append, hpl, List.length_drop]; omega
   have e2 := har.cell (off + k) hlen
   have e3 := har.frozen (off + k)
   rw [FE.getD_mid _ _ _ hpl (by omega)] at e2
   have hwk : (us.drop off).getD k 0 = us.getD (off + k) 0 := by simp
   have hfin : ∀ t (wz : World), Arr wz g cap (((us.take off ++ zs) ++ us.drop (off + k)).set (off + k) t) → Arr wz g cap ((us.take off ++ (zs ++ [t])) ++ us.drop (off + (k + 1))) := fun t wz h => by
    rw [FE.set_mid _ _ _ _ hpl (by omega)] at h
    simpa [Nat.add_assoc] using h
   have HF := Lib.hid hfin; clear hfin hpl
   have hx := hud.getD (off + k)
   have hy := hvd.getD k
   have hstep := FE.addBackStep (t := us.getD (off + k) 0 + cy + vs.getD k 0) HZ.out hzd hwd hvd hb0 hb1 HV.out (by rw [hwk])
   clear hwk
   by_cases hkn : k < n
   ·obtain ⟨b2, o2, rfl, hb2', hc2⟩ := hb (by intro h; subst h; simp at hm; omega)
    have hneq : b2 ≠ g := HNE.out _ rfl (by intro h; subst h; simp at hm; omega)
    have e4 := (World.cell?_of_block (w := w) (w' := wr) (a := ⟨b2, o2 + k, none⟩) (honly.block b2 hb2' (fun e => hneq (by injection e)))).trans (hc2 k (by omega))
    clear hc2
    generalize hye : vs.getD k 0 = y at *
    generalize hxe : us.getD (off + k) 0 = x at *
    clear hxe hye
    have HS := Lib.hid hstep; clear hstep
    go_wp2
    go_roundw
    case rel => exact ⟨k + 1, zs ++ [_], _, by omega, by go_num, rfl, HS.out.2.2.1, HS.out.2.2.2, by simp; exact HZ.out, HS.out.1, HS.out.2.1, HF.out _ _ (har.set (off + k) hlen _), honly.set _ _⟩
    case measure => simp [intOf]; omega
   ·have hy0 : vs.getD k 0 = 0 := by simp [List.getElem?_eq_none (show vs.length ≤ k by omega)]
    rw [hy0] at hstep
    simp only [Int.add_zero] at hstep
    clear hy0 hy
    generalize hxe : us.getD (off + k) 0 = x at *
    clear hxe
    have HS := Lib.hid hstep; clear hstep
    go_wp2
    go_roundw
    case rel => exact ⟨k + 1, zs ++ [_], _, by omega, by go_num, rfl, HS.out.2.2.1, HS.out.2.2.2, by simp; exact HZ.out, HS.out.1, HS.out.2.1, HF.out _ _ (har.set (off + k) hlen _), honly.set _ _⟩
    case measure => simp [intOf]; omega
  ·have hkN' : k = N := by omega
   subst hkN'
   go_wp2
   go_end0
   exact ⟨zs, cy, rfl, hb0, hb1, HZ.out, hzd, FE.addBackEnd (by omega) HV.out, har, honly⟩
open Go.RowKit
theorem toL_step (zs : List Int) (q : Nat) (hq : q ≠ 0) : zs ++ FE.toL q = (zs ++ [((q % 1000000000 : Nat) : Int)]) ++ FE.toL (q / 1000000000) := by
 rw [FE.toL_pos hq]; simp
theorem natOf_len {l : List Int} {q N : Nat} (hq : q ≠ 0) (h : 1000000000 ^ l.length * q ≤ N) (hN : N ≤ 4611686018427387904) : l.length < 1000 := by
 rcases Nat.lt_or_ge l.length 1000 with h1 | h1
 ·exact h1
 ·exfalso
  have h2 : 1000000000 ^ 7 ≤ 1000000000 ^ l.length := Nat.pow_le_pow_right (by omega) (by omega)
  have h3 : 1000000000 ^ l.length * 1 ≤ 1000000000 ^ l.length * q := Nat.mul_le_mul_left _ (by omega)
  omega
theorem natOf_step {l : List Int} {q N : Nat} {x : Int} (h : 1000000000 ^ l.length * q ≤ N) : 1000000000 ^ (l ++ [x]).length * (q / 1000000000) ≤ N := by
 have h1 : (l ++ [x]).length = l.length + 1 := by simp
 rw [h1, Nat.pow_succ, Nat.mul_assoc]
 exact Nat.le_trans (Nat.mul_le_mul_left _ (Nat.mul_div_le _ _)) h
set_option maxRecDepth 100000 in
set_option maxHeartbeats 800000 in
theorem natOf_any (N : Nat) (hN : N ≤ 4611686018427387904) (w : World) :
 Calls Tryz.prog 180 #[.int .u64 N] w fun e w' => ∃ v, e = .returned v ∧ RO w' w.heap.size v (FE.toL N) ∧ Below w.heap.size w w' := by
 go_enter Tryz.func180, Tryz.ntmps180
 go_wp2_with fail
 go_loopw [0, 3] (fun r v wr => ∃ (q : Nat) (zs : List Int), q ≤ N ∧ r = .int .u64 q ∧ 1000000000 ^ zs.length * q ≤ N ∧ FE.toL N = zs ++ FE.toL q ∧ OI wr w.heap.size v zs ∧ Below w.heap.size w wr) (fun r _ _ => (intOf r).toNat)
 case atStart => exact ⟨N, [], Nat.le_refl _, rfl, by simp, by simp, OI.of_arr (g := w.heap.size) (cap := 0) ⟨[], rfl, Nat.zero_le _, heap_alloc_new _ _⟩ (Nat.le_refl _), (Below.refl _ _).alloc (Nat.le_refl _) _⟩
 case round =>
  obtain ⟨q, zs, hq, rfl, hl1, hL, hown, hbel⟩ := hrel
  have HL := Lib.hid hL; clear hL
  by_cases hq0 : q = 0
  ·subst hq0
   go_wp2
   go_ret
   exact ⟨_, rfl, RO.of_own (by rw [HL.out, FE.toL_zero, List.append_nil]; exact hown), hbel⟩
  ·have hlen := natOf_len hq0 hl1 hN
   have HL1 := Lib.hid hl1; clear hl1
   go_wp2_with (at_builtin; refine append1 rfl _ _ _ rfl Tryz.underlying40 Tryz.intInfo w.heap.size _ zs rfl (hown.alloc _) ⟨wr.heap.size, 0, none⟩ _ rfl (cell_new1 _ _ _) (by omega) (by have := hbel.size; simp; omega) ?_)
   intro v' w1 hown1 hb1'
   go_wp2
   go_roundw
   case rel => exact ⟨q / 1000000000, zs ++ [((q % 1000000000 : Nat) : Int)], by omega, by go_num, natOf_step HL1.out, by rw [HL.out]; exact toL_step zs q hq0, by simpa using hown1, (hbel.alloc hbel.size _).trans hb1'⟩
   case measure => simp [intOf]; omega
set_option maxHeartbeats 800000 in
theorem gcd_any (a b : Nat) (ha : a ≤ 4611686018427387904) (hb : b ≤ 4611686018427387904) (w : World) :
 Calls Tryz.prog 137 #[.int .i64 a, .int .i64 b] w fun e w' => e = .returned (.int .i64 (Nat.gcd a b)) ∧ ∃ k, w' = w.drewN k := by
 go_enter Tryz.func137, Tryz.ntmps137
 go_wp2_with fail
 go_loopw [0, 1] (fun r s wr => ∃ (p q : Nat), p ≤ 4611686018427387904 ∧ q ≤ 4611686018427387904 ∧ r = .int .i64 p ∧ s = .int .i64 q ∧ Nat.gcd a b = Nat.gcd p q ∧ ∃ k, wr = w.drewN k) (fun _ s _ => (intOf s).toNat)
 case atStart => exact ⟨a, b, ha, hb, rfl, rfl, rfl, 0, rfl⟩
 case round =>
  obtain ⟨p, q, hp, hq, rfl, rfl, hg, k, rfl⟩ := hrel
  have HG := Lib.hid hg; clear hg
  by_cases hq0 : q = 0
  ·subst hq0
   go_wp2
   go_ret
   exact ⟨by rw [HG.out, Nat.gcd_zero_right]; rfl, k, rfl⟩
  ·have hm := Nat.mod_lt p (show 0 < q by omega)
   have HM : Nat.gcd p q = Nat.gcd q (p % q) := by rw [Nat.gcd_comm, Nat.gcd_rec, Nat.gcd_comm]
   have HM' := Lib.hid HM; clear HM
   have e1 : ((p : Int) % (q : Int)) = ((p % q : Nat) : Int) := by omega
   have hq1 : 1 ≤ q := by omega
   clear hq0
   have E1 := Lib.hid e1; clear e1
   go_wp2
   go_quiet (fail)
   go_wp2
   go_roundw
   case rel => exact ⟨q, p % q, hq, by omega, rfl, by rw [E1.out], by rw [HG.out, HM'.out], _, World.drewN_drewN _ _ _⟩
   case measure => simp [intOf]; omega
open Go.RowKit
theorem natCmp_val (xs ys : List Int) (n m c d : Nat) (hn : xs.length = n) (hm : ys.length = m) (hn1 : n ≤ 1048576) (hm1 : m ≤ 1048576) (hxd : FE.Dig xs) (hxt : FE.Top xs) (hyd : FE.Dig ys) (hyt : FE.Top ys)
 (v : Int) (hv : cmpI (FE.val xs) (FE.val ys) = v) (A B : Option Addr) (w : World) (ha : RI w A xs) (hb : RI w B ys) :
 Calls Tryz.prog 206 #[.slice A n c, .slice B m d] w fun e w' => e = .returned (.int .i64 v) ∧ ∃ k, w' = w.drewN k := by
 have h := natCmp_any xs ys n m c d hn hm (by omega) (by omega) A B w ha hb
 rwa [FE.cmpL_spec hxd hxt hyd hyt, hv] at h
set_option maxRecDepth 100000 in
set_option maxHeartbeats 1000000 in
theorem natDiv_lt (xs ys : List Int) (n m c d : Nat) (hn : xs.length = n) (hm : ys.length = m) (hn1 : n ≤ 65536) (hm1 : m ≤ 65536) (hxd : FE.Dig xs) (hxt : FE.Top xs) (hyd : FE.Dig ys) (hyt : FE.Top ys)
 (hlt : FE.val xs < FE.val ys) (A B : Option Addr) (w : World) (ha : RI w A xs) (hb : RI w B ys) :
 Calls Tryz.prog 181 #[.slice A n c, .slice B m d] w fun e w' => ∃ v1 v2, e = .returned (.tuple #[v1, v2]) ∧ RO w' w.heap.size v1 (FE.toL (FE.val xs / FE.val ys).toNat) ∧ RO w' w.heap.size v2 (FE.toL (FE.val xs % FE.val ys).toNat) ∧ Below w.heap.size w w' := by
 have hx0 := FE.val_nonneg hxd
 have hq : FE.val xs / FE.val ys = 0 := Int.ediv_eq_zero_of_lt hx0 hlt
 have hr : FE.val xs % FE.val ys = FE.val xs := Int.emod_eq_of_lt hx0 hlt
 have hL : FE.toL (FE.val xs).toNat = xs := FE.toL_val hxd hxt
 rw [hq, hr, hL, show FE.toL (0 : Int).toNat = [] from FE.toL_zero]
 have C := fun W h1 h2 => natCmp_val xs ys n m c d hn hm (by omega) (by omega) hxd hxt hyd hyt (-1) (by rw [cmpI, if_pos hlt]) A B W h1 h2
 have HC := Lib.hid C
 clear C hq hr hL hx0 hlt
 go_enter Tryz.func181, Tryz.ntmps181
 go_wp2_with fail
 refine (HC.out _ ha hb).mono ?_
 rintro e w1 ⟨rfl, k, rfl⟩
 go_wp2_with (go_at_call 185; refine (clone_any xs n c hn (by omega) A _ ((ha.drewN _).alloc _)).mono ?_; rintro e w2 ⟨v2, rfl, hro, hb2⟩)
 go_ret2
 have hsz : w.heap.size ≤ ((w.drewN k).alloc (.cells #[] 3)).heap.size := by simp
 exact ⟨_, _, rfl, RO.nil _ _ _ _ (Nat.zero_le _), hro.mono hsz, (below_drewN ((Below.refl _ _).alloc (Nat.le_refl _) _) k).trans (hb2.mono hsz)⟩
set_option maxRecDepth 100000 in
set_option maxHeartbeats 1000000 in
theorem natDiv_one (xs : List Int) (y : Int) (n c d : Nat) (hn : xs.length = n) (hn1 : n ≤ 65536) (hxd : FE.Dig xs) (hxt : FE.Top xs) (hy0 : 0 < y) (hy1 : y < 1000000000)
 (hge : y ≤ FE.val xs) (A B : Option Addr) (w : World) (ha : RI w A xs) (hb : RI w B [y]) :
 Calls Tryz.prog 181 #[.slice A n c, .slice B 1 d] w fun e w' => ∃ v1 v2, e = .returned (.tuple #[v1, v2]) ∧ RO w' w.heap.size v1 (FE.toL (FE.val xs / y).toNat) ∧ RO w' w.heap.size v2 (FE.toL (FE.val xs % y).toNat) ∧ Below w.heap.size w w' := by
 have hvy : FE.val [y] = y := by simp [FE.val]
 have hyd : FE.Dig [y] := FE.Dig.cons (by omega) hy1 FE.Dig.nil
 have hyt : FE.Top [y] := by intro h; simp; omega
 obtain ⟨b2, o2, rfl, hb2, hc2⟩ := hb (by simp)
 have e2 := hc2 0 (by simp)
 simp only [List.getD_cons_zero, Nat.add_zero] at e2
 have hr0 := Int.emod_nonneg (FE.val xs) (show y ≠ 0 by omega)
 have hr1 := Int.emod_lt_of_pos (FE.val xs) hy0
 obtain ⟨r, hr⟩ : ∃ r : Nat, FE.val xs % y = r := ⟨(FE.val xs % y).toNat, by omega⟩
 have hDS := fun W h1 => divSmall_any xs n c y hn (by omega) hxd hy0 (by omega) A W h1
 have hNO := fun W => natOf_any r (by omega) W
 rw [hr]
 simp only [hr] at hDS
 simp only [Int.toNat_natCast]
 have hrl : r ≤ 1000000000 := by omega
 have hsgn : ∀ v : Int, v = cmpI (FE.val xs) y → (v = 0 ∨ v = 1) := by intro v hv; unfold cmpI at hv; rw [if_neg (by omega)] at hv; split at hv <;> omega
 obtain ⟨s, hs⟩ : ∃ s, cmpI (FE.val xs) y = s := ⟨_, rfl⟩
 have C := fun W h1 h2 => natCmp_val xs [y] n 1 c d hn rfl (by omega) (by omega) hxd hxt hyd hyt s (by rw [hvy]; exact hs) A (some ⟨b2, o2, none⟩) W h1 h2
 have hs0 : 0 ≤ s := by have := hsgn s hs.symm; omega
 have HC := Lib.hid C
 have HDS := Lib.hid hDS
 have HNO := Lib.hid hNO
 clear C hDS hNO hs hsgn hvy hge hr hr0 hr1
 go_enter Tryz.func181, Tryz.ntmps181
 go_wp2_with fail
 refine (HC.out _ ha hb).mono ?_
 rintro e w1 ⟨rfl, k, rfl⟩
 go_wp2_with fail
 refine (HDS.out _ (ha.drewN k)).mono ?_
 rintro e w2 ⟨v2, rfl, hro2, hb2'⟩
 go_wp2_with fail
 refine (HNO.out _).mono ?_
 rintro e w3 ⟨v3, rfl, hro3, hb3⟩
 go_wp2
 go_ret2
 exact ⟨_, _, rfl, hro2.later hb3, hro3.mono hb2'.size, (below_self_drewN w k).trans (hb2'.trans (hb3.mono hb2'.size))⟩
namespace FE
theorem normal {ys : List Int} {m : Nat} (hd : Dig ys) (ht : Top ys) (hm : ys.length = m + 1) : 1 ≤ ys.getD m 0 ∧ 1 ≤ 1000000000 / (ys.getD m 0 + 1) ∧ 1000000000 / (ys.getD m 0 + 1) ≤ 500000000 ∧ val ys * (1000000000 / (ys.getD m 0 + 1)) < bp (m + 1) := by
 have h1 := hd.getD m
 have hl : ys ≠ [] := by intro e; subst e; simp at hm
 have htop : ys.getD m 0 ≠ 0 := by
  have := ht hl
  rw [List.getLast_eq_getElem] at this
  have e : ys.length - 1 = m := by omega
  simp only [e] at this
  rw [List.getD_eq_getElem?_getD, List.getElem?_eq_getElem (by omega)]
  simpa using this
 have e : val ys = val (ys.take m) + bp m * ys.getD m 0 := by
  have e : val ys = val (ys.take (m + 1)) := by rw [List.take_of_length_le (by omega)]
  rw [e, val_take_succ']
 have hlow := val_lt (hd.take m)
 rw [List.length_take, Nat.min_eq_left (by omega)] at hlow
 generalize ys.getD m 0 = b at *
 have hb : 0 < b + 1 := by omega
 have hf := Int.ediv_mul_le 1000000000 (show b + 1 ≠ 0 by omega)
 have h2 : 1 ≤ 1000000000 / (b + 1) := (Int.le_ediv_iff_mul_le hb).2 (by omega)
 have h3 : 1000000000 / (b + 1) ≤ 500000000 := by
  have : 1000000000 / (b + 1) < 500000001 := (Int.ediv_lt_iff_lt_mul hb).2 (by omega)
  omega
 generalize 1000000000 / (b + 1) = f at *
 refine ⟨by omega, h2, h3, ?_⟩
 have hv : val ys < bp m * (b + 1) := by rw [e, Int.mul_add]; omega
 have h4 : val ys * f < bp m * (b + 1) * f := Int.mul_lt_mul_of_pos_right hv (by omega)
 have h5 : bp m * (f * (b + 1)) ≤ bp m * 1000000000 := Int.mul_le_mul_of_nonneg_left hf (by have := bp_pos m; omega)
 have h6 : bp m * (b + 1) * f = bp m * (f * (b + 1)) := by grind
 rw [bp_succ]; omega
theorem start {xs ys : List Int} {n m : Nat} {f : Int} (hxd : Dig xs) (hyd : Dig ys) (hyt : Top ys) (hn : xs.length = n) (hm : ys.length = m + 1) (hmn : m + 1 ≤ n) (hf : 1 ≤ f) :
 val xs * f < val ys * f * bp (n - (m + 1) + 1) := by
 have h1 := val_lt hxd
 have h2 := val_ge hyd hyt (by intro e; subst e; simp at hm)
 rw [hn] at h1
 rw [hm, Nat.add_sub_cancel] at h2
 have e : n = m + (n - (m + 1) + 1) := by omega
 have h3 : bp n = bp m * bp (n - (m + 1) + 1) := by rw [← bp_add, ← e]
 have hp := bp_pos (n - (m + 1) + 1)
 have h4 : bp m * bp (n - (m + 1) + 1) ≤ val ys * bp (n - (m + 1) + 1) := Int.mul_le_mul_of_nonneg_right h2 (by omega)
 have h5 : val xs < val ys * bp (n - (m + 1) + 1) := by omega
 have h6 := Int.mul_lt_mul_of_pos_right h5 (show 0 < f by omega)
 have h7 : val ys * bp (n - (m + 1) + 1) * f = val ys * f * bp (n - (m + 1) + 1) := by grind
 omega
theorem window {us : List Int} {j m : Nat} {V : Int} (hd : Dig us) (hl : j + m + 1 ≤ us.length) (hV : V < bp m) (hlt : val us < V * bp (j + 1)) :
 val us = val (us.take j) + bp j * val ((us.drop j).take (m + 1)) ∧ val (us.drop (j + m + 1)) = 0 ∧ 0 ≤ val ((us.drop j).take (m + 1)) ∧ val ((us.drop j).take (m + 1)) < V * 1000000000 := by
 have e1 := val_take_drop us j (by omega)
 have e2 := val_take_drop (us.drop j) (m + 1) (by rw [List.length_drop]; omega)
 rw [List.drop_drop] at e2
 have a1 := val_nonneg (hd.take j)
 have a2 := val_nonneg ((hd.drop j).take (m + 1))
 have a3 := val_nonneg (hd.drop (j + (m + 1)))
 have p1 := bp_pos j
 have p2 := bp_pos (m + 1)
 have p3 := bp_pos (j + 1)
 have hz : val (us.drop (j + (m + 1))) = 0 := by
  rcases Int.lt_or_le 0 (val (us.drop (j + (m + 1)))) with h | h
  ·exfalso
   have h1 : bp (m + 1) * 1 ≤ bp (m + 1) * val (us.drop (j + (m + 1))) := Int.mul_le_mul_of_nonneg_left (by omega) (by omega)
   have h2 : bp j * bp (m + 1) ≤ bp j * val (us.drop j) := Int.mul_le_mul_of_nonneg_left (by omega) (by omega)
   have h3 : V * bp (j + 1) ≤ bp m * bp (j + 1) := Int.mul_le_mul_of_nonneg_right (by omega) (by omega)
   have h4 : bp j * bp (m + 1) = bp m * bp (j + 1) := by rw [← bp_add, ← bp_add]; congr 1; omega
   omega
  ·omega
 rw [hz] at e2
 simp only [Int.mul_zero, Int.add_zero] at e2
 rw [e2] at e1
 refine ⟨e1, hz, a2, ?_⟩
 rcases Int.lt_or_le (val ((us.drop j).take (m + 1))) (V * 1000000000) with h | h
 ·exact h
 ·exfalso
  have h1 := Int.mul_le_mul_of_nonneg_left h (show 0 ≤ bp j by omega)
  have h2 : V * bp (j + 1) = bp j * (V * 1000000000) := by rw [bp_succ]; grind
  omega
theorem newU {us Z : List Int} {j m : Nat} (hl : j + m + 1 ≤ us.length) (hZ : Z.length = m + 1) (hz : val (us.drop (j + m + 1)) = 0) :
 (us.take j ++ Z ++ us.drop (j + m + 1)).length = us.length ∧ val (us.take j ++ Z ++ us.drop (j + m + 1)) = val (us.take j) + bp j * val Z := by
 constructor
 ·simp [hZ]; omega
 ·rw [val_append, val_append, hz, List.length_take, Nat.min_eq_left (by omega)]; simp
theorem newU_len {us Z : List Int} {j m : Nat} (hl : j + m + 1 ≤ us.length) (hZ : Z.length = m + 1) : (us.take j ++ Z ++ us.drop (j + m + 1)).length = us.length := by
 simp [hZ]; omega
theorem round {us zs Z : List Int} {j m M : Nat} {V q U : Int} (hud : Dig us) (hl : j + m + 1 ≤ us.length) (hV : V < bp m) (hlt : val us < V * bp (j + 1)) (hZ : Z.length = m + 1) (hZd : Dig Z)
 (hZv : val Z = val ((us.drop j).take (m + 1)) - q * V) (hZlt : val Z < V) (hzl : zs.length = M) (hj : j < M) (hz0 : zs.getD j 0 = 0) (hU : U = V * val zs + val us) :
 (us.take j ++ Z ++ us.drop (j + m + 1)).length = us.length ∧ Dig (us.take j ++ Z ++ us.drop (j + m + 1)) ∧ val (us.take j ++ Z ++ us.drop (j + m + 1)) < V * bp j ∧
  U = V * val (zs.set j q) + val (us.take j ++ Z ++ us.drop (j + m + 1)) := by
 obtain ⟨h1, h2, h3, h4⟩ := window hud hl hV hlt
 obtain ⟨h5, h6⟩ := newU hl hZ h2
 refine ⟨h5, ((hud.take j).append hZd).append (hud.drop _), ?_, ?_⟩
 ·rw [h6]
  have a := val_lt (hud.take j)
  rw [List.length_take, Nat.min_eq_left (by omega)] at a
  have b := Int.mul_le_mul_of_nonneg_left (show val Z + 1 ≤ V by omega) (show 0 ≤ bp j by have := bp_pos j; omega)
  rw [Int.mul_add] at b
  rw [Int.mul_comm V]; omega
 ·rw [h6, hU, val_set' _ _ _ (by omega), hz0, hZv, h1]; grind
theorem low_zero {us : List Int} {m : Nat} {V : Int} (hd : Dig us) (hl : m ≤ us.length) (hV : V < bp m) (hlt : val us < V * bp 0) : val (us.take m) = val us := by
 have e := val_take_drop us m hl
 have a1 := val_nonneg (hd.take m)
 have a3 := val_nonneg (hd.drop m)
 have p := bp_pos m
 rw [bp_zero, Int.mul_one] at hlt
 rcases Int.lt_or_le 0 (val (us.drop m)) with h | h
 ·exfalso
  have := Int.mul_le_mul_of_nonneg_left (show 1 ≤ val (us.drop m) by omega) (show 0 ≤ bp m by omega)
  omega
 ·have : val (us.drop m) = 0 := by omega
  rw [this] at e; omega
theorem finish {x y f z u : Int} (hf : 1 ≤ f) (hU : x * f = y * f * z + u) (hu0 : 0 ≤ u) (hu : u < y * f) (hy : 0 < y) : x / y = z ∧ x % y = u / f := by
 have hu' : u = x * f - y * f * z := by omega
 have hdvd : f ∣ u := ⟨x - y * z, by rw [hu']; grind⟩
 obtain ⟨r, rfl⟩ := hdvd
 have hr0 : 0 ≤ r := by
  rcases Int.lt_or_le r 0 with h | h
  ·exfalso
   have := Int.mul_le_mul_of_nonneg_left (show r ≤ -1 by omega) (show 0 ≤ f by omega)
   omega
  ·exact h
 have hr1 : r < y := by
  rcases Int.lt_or_le r y with h | h
  ·exact h
  ·exfalso
   have := Int.mul_le_mul_of_nonneg_left h (show 0 ≤ f by omega)
   rw [Int.mul_comm f y] at this
   omega
 have hx : x = y * z + r := by
  have : f * x = f * (y * z + r) := by grind
  exact Int.eq_of_mul_eq_mul_left (by omega) this
 refine ⟨?_, ?_⟩
 ·rw [hx, Int.add_comm, Int.add_mul_ediv_left _ _ (by omega), Int.ediv_eq_zero_of_lt hr0 hr1]; omega
 ·rw [hx, Int.add_comm, Int.add_mul_emod_self_left, Int.emod_eq_of_lt hr0 hr1, Int.mul_ediv_cancel_left _ (by omega)]
theorem len_le_of_val {xs ys : List Int} (hxd : Dig xs) (hyd : Dig ys) (hyt : Top ys) (h : val ys ≤ val xs) : ys.length ≤ xs.length := by
 have := val_lt hxd
 exact (len_le_iff hyd hyt _).2 (by omega)
theorem carry_zero {a cy p b : Int} (ha0 : 0 ≤ a) (hcy : 0 ≤ cy) (h : a + p * cy = b) (hb : b < p) (hp : 0 < p) : cy = 0 := by
 rcases Int.lt_or_le 0 cy with h1 | h1
 ·exfalso
  have := Int.mul_le_mul_of_nonneg_left (show 1 ≤ cy by omega) (show 0 ≤ p by omega)
  omega
 ·omega
theorem scaled_fits {xs zs : List Int} {n : Nat} {f cy : Int} (hxd : Dig xs) (hn : xs.length = n) (_hf0 : 0 ≤ f) (hf : f ≤ 500000000) (hzd : Dig zs) (_hz : zs.length = n + 1) (hcy : 0 ≤ cy) (h : val zs + bp (n + 1) * cy = val xs * f) : cy = 0 := by
 refine carry_zero (val_nonneg hzd) hcy h ?_ (bp_pos _)
 have h1 := val_lt hxd
 rw [hn] at h1
 have h3 := val_nonneg hxd
 have h2 := Int.mul_le_mul_of_nonneg_left hf h3
 rw [bp_succ]
 omega
theorem scaled_fits' {zs : List Int} {n : Nat} {b cy : Int} (hb : b < bp n) (hzd : Dig zs) (hcy : 0 ≤ cy) (h : val zs + bp n * cy = b) : cy = 0 :=
 carry_zero (val_nonneg hzd) hcy h hb (bp_pos _)
theorem mid_drop {us Z R : List Int} {j k : Nat} (hj : j ≤ us.length) (hZ : Z.length = k) : ((us.take j ++ Z ++ R).drop j).take k = Z ∧ (us.take j ++ Z ++ R).take j = us.take j ∧ (us.take j ++ Z ++ R).drop (j + k) = R := by
 have hl : (us.take j).length = j := by rw [List.length_take]; omega
 refine ⟨?_, ?_, ?_⟩
 ·rw [List.append_assoc, List.drop_append_of_le_length (by omega), List.drop_eq_nil_of_le (by omega), List.nil_append, ← hZ, List.take_left']
  rfl
 ·rw [List.append_assoc, List.take_append_of_le_length (by omega), List.take_of_length_le (by omega)]
 ·rw [List.drop_append, List.drop_eq_nil_of_le (by rw [List.length_append]; omega), List.nil_append, List.length_append, hl, hZ, Nat.sub_self, List.drop_zero]
end FE
open Go.RowKit
theorem step_rest {top q z rest : Int} (h : rest = top - q * z) : rest + z = top - (q - 1) * z := by
 rw [Int.sub_mul, Int.one_mul]; omega
set_option maxRecDepth 100000 in
set_option maxHeartbeats 4000000 in
theorem natDiv_many (xs ys : List Int) (n m c d : Nat) (hn : xs.length = n) (hm : ys.length = m + 2) (hn1 : n ≤ 65536) (hxd : FE.Dig xs) (hxt : FE.Top xs) (hyd : FE.Dig ys) (hyt : FE.Top ys)
 (hle : FE.val ys ≤ FE.val xs) (A B : Option Addr) (w : World) (ha : RI w A xs) (hb : RI w B ys) :
 Calls Tryz.prog 181 #[.slice A n c, .slice B (m + 2) d] w fun e w' => ∃ v1 v2, e = .returned (.tuple #[v1, v2]) ∧ RO w' w.heap.size v1 (FE.toL (FE.val xs / FE.val ys).toNat) ∧ RO w' w.heap.size v2 (FE.toL (FE.val xs % FE.val ys).toNat) ∧ Below w.heap.size w w' := by
 have hmn : m + 2 ≤ n := by have := FE.len_le_of_val hxd hyd hyt hle; omega
 obtain ⟨s, hs, hs0⟩ : ∃ s, cmpI (FE.val xs) (FE.val ys) = s ∧ 0 ≤ s := ⟨_, rfl, by unfold cmpI; rw [if_neg (by omega)]; split <;> omega⟩
 have C := fun W h1 h2 => natCmp_val xs ys n (m + 2) c d hn hm (by omega) (by omega) hxd hxt hyd hyt s hs A B W h1 h2
 have hnorm := FE.normal hyd hyt hm
 have hstart := FE.start (f := 1000000000 / (ys.getD (m + 1) 0 + 1)) hxd hyd hyt hn hm (by omega) hnorm.2.1
 have hb1 := hyd.getD (m + 1)
 have hc1 := hb
 obtain ⟨b2, o2, rfl, hb2, hc2⟩ := hb (by intro h; subst h; simp at hm)
 have e2 := hc2 (m + 1) (by omega)
 clear hc2
 generalize hf : 1000000000 / (ys.getD (m + 1) 0 + 1) = f at *
 generalize hyy : ys.getD (m + 1) 0 = y1 at *
 have hf1 := hnorm.2.1
 have hf2 := hnorm.2.2.1
 have hy1 := hnorm.1
 have HN := Lib.hid hnorm
 have HF := Lib.hid hf
 have HC := Lib.hid C
 have HLE := Lib.hid hle
 have hmb : (((m : Int) + 2) == 1) = false := by simp; omega
 have SC1 : ∀ W, RI W A xs → Calls Tryz.prog 208 #[.slice A n c, .int .i64 f, .int .i64 ((n : Int) + 1)] W fun e w' => ∃ (g : Nat) (zs : List Int), e = .returned (.slice (some ⟨g, 0, none⟩) (n + 1) (n + 1)) ∧ W.heap.size ≤ g ∧ Arr w' g (n + 1) zs ∧ zs.length = n + 1 ∧
  FE.Dig zs ∧ FE.val zs = FE.val xs * f ∧ Below W.heap.size W w' := fun W h => by
  have h1 := scaled_any xs n c (n + 1) f hn (by omega) (by omega) hxd (by omega) (by omega) A W h
  rw [show ((n + 1 : Nat) : Int) = (n : Int) + 1 by omega] at h1
  refine h1.mono ?_
  rintro e w' ⟨g, zs, cy, h2, h3, h4, h5, h6, h7, h8, h9⟩
  refine ⟨g, zs, h2, h3, h4, h5, h6, ?_, h9⟩
  rw [List.take_of_length_le (by omega)] at h8
  have a := FE.scaled_fits hxd hn (by omega) hf2 h6 h5 h7 h8
  rw [a] at h8; omega
 have SC2 : ∀ W, RI W (some ⟨b2, o2, none⟩) ys → Calls Tryz.prog 208 #[.slice (some ⟨b2, o2, none⟩) (m + 2) d, .int .i64 f, .int .i64 ((m : Int) + 2)] W fun e w' => ∃ (g : Nat) (zs : List Int), e = .returned (.slice (some ⟨g, 0, none⟩) (m + 2) (m + 2)) ∧ W.heap.size ≤ g ∧ Arr w' g (m + 2) zs ∧ zs.length = m + 2 ∧
  FE.Dig zs ∧ FE.val zs = FE.val ys * f ∧ Below W.heap.size W w' := fun W h => by
  have h1 := scaled_any ys (m + 2) d (m + 2) f hm (by omega) (by omega) hyd (by omega) (by omega) _ W h
  rw [show ((m + 2 : Nat) : Int) = (m : Int) + 2 by omega] at h1
  refine h1.mono ?_
  rintro e w' ⟨g, zs, cy, h2, h3, h4, h5, h6, h7, h8, h9⟩
  refine ⟨g, zs, h2, h3, h4, h5, h6, ?_, h9⟩
  rw [List.take_of_length_le (by omega)] at h8
  have a := FE.scaled_fits' hnorm.2.2.2 h6 h7 h8
  rw [a] at h8; omega
 obtain ⟨M, hMa, hMb, hM1⟩ : ∃ M, M + m + 1 ≤ n ∧ n ≤ M + m + 1 ∧ 1 ≤ M := ⟨n - (m + 2) + 1, by omega, by omega, by omega⟩
 have hstart' : FE.val xs * f < FE.val ys * f * FE.bp M := by
  rw [show M = n - (m + 1 + 1) + 1 by omega]; exact hstart
 have HST := Lib.hid hstart'
 have HS1 := Lib.hid SC1
 have HS2 := Lib.hid SC2
 clear C hs hnorm hstart hstart' hf hyy hle SC1 SC2
 go_enter Tryz.func181, Tryz.ntmps181
 go_wp2_with fail
 refine (HC.out _ ha hc1).mono ?_
 rintro e w1 ⟨rfl, k, rfl⟩
 go_wp2_with fail
 rw [HF.out]
 refine (HS1.out _ (ha.drewN k)).mono ?_
 rintro e w2 ⟨gu, us0, rfl, hgu, harru0, hul0, hud0, huv0, hbe1⟩
 go_wp2_with fail
 refine (HS2.out _ ((hc1.drewN k).later hbe1)).mono ?_
 rintro e w3 ⟨gv, vs, rfl, hgv, harrv0, hvl, hvd, hvv, hbe2⟩
 have harru1 := harru0.later hbe2
 have hgu1 := harru0.lt
 have hgv1 := harrv0.lt
 have hsz1 := hbe1.size
 have hsz2 := hbe2.size
 have hw1 : (w.drewN k).heap.size = w.heap.size := rfl
 rw [hw1] at hgu hsz1
 have hB3 : Below w.heap.size w w3 := (below_self_drewN w k).trans (hbe1.trans (hbe2.mono hsz1))
 have HUV := Lib.hid huv0
 have HVV := Lib.hid hvv
 have hvpos : FE.bp (m + 1) ≤ FE.val vs := by
  have h1 := FE.val_ge hyd hyt (by intro e; subst e; simp at hm)
  rw [hm] at h1
  have h2 := Int.mul_le_mul_of_nonneg_left hf1 (FE.val_nonneg hyd)
  rw [hvv]
  have : m + 2 - 1 = m + 1 := by omega
  rw [this] at h1
  omega
 clear huv0 hvv hbe1 hbe2 harru0 hw1 e2 hc1 hb hb2 hb1
 have HVP := Lib.hid hvpos
 clear hvpos
 have hvl' := hvl
 have HVL := Lib.hid hvl'; clear hvl'
 go_wp2_with (at_make; refine makeInts rfl _ _ _ rfl Tryz.underlying40 Tryz.intInfo M M _ _ rfl rfl (by omega) (by omega) (Nat.le_refl _) (by omega) ?_; intro harr0)
 have hal : Below w3.heap.size w3 (w3.alloc (.cells (madeCells #[.int .i64 0] M) 3)) := (Below.refl _ _).alloc (Nat.le_refl _) _
 go_loopw [13] (fun i wr => ∃ (k : Nat) (us zs : List Int), k ≤ M ∧ i = .int .i64 ((k : Int) - 1) ∧ us.length = n + 1 ∧ FE.Dig us ∧ zs.length = M ∧ FE.Dig zs ∧ (∀ j, j < k → zs.getD j 0 = 0) ∧ FE.val us < FE.val vs * FE.bp k ∧
  FE.val xs * f = FE.val vs * FE.val zs + FE.val us ∧ Arr wr gu (n + 1) us ∧ Arr wr gv (m + 2) vs ∧ Arr wr w3.heap.size M zs ∧ Below w.heap.size w wr) (fun i _ => (intOf i + 1).toNat)
 case atStart =>
  refine ⟨M, us0, List.replicate M 0, Nat.le_refl _, by go_num, hul0, hud0, by simp, FE.Dig.replicate _, fun j hj => by simp [hj], ?_, ?_, harru1.later hal, harrv0.later hal, harr0, hB3.trans (hal.mono (by omega))⟩
  ·rw [HUV.out, HVV.out]; exact HST.out
  ·rw [FE.val_replicate, HUV.out]; simp
 case round =>
  obtain ⟨k, us, zs, hk, rfl, hul, hud, hzl, hzd, hzz, hlt, hU, hau, hav, hao, hbel⟩ := hrel
  have HZ := Lib.hid hzl; clear hzl
  have HUL := Lib.hid hul; clear hul
  have HZZ := Lib.hid hzz; clear hzz
  have HLT := Lib.hid hlt; clear hlt
  have HU := Lib.hid hU; clear hU
  clear harr0 hal harru1 harrv0
  by_cases hk0 : k = 0
  ·subst hk0
   have hvm := FE.val_lt hvd
   rw [HVL.out] at hvm
   have hlow := FE.low_zero hud (by have := HUL.out; omega) hvm HLT.out
   have hpos : 0 < FE.val ys := by
    refine FE.val_pos hyd hyt ?_
    intro e; subst e; simp at hm
   have hus0 := FE.val_nonneg hud
   have hfin := FE.finish (x := FE.val xs) (y := FE.val ys) (f := f) (z := FE.val zs) (u := FE.val us) hf1 (by rw [← HVV.out]; exact HU.out) hus0 (by rw [← HVV.out]; have := HLT.out; rwa [FE.bp_zero, Int.mul_one] at this) hpos
   have hcut := hau.cut (m + 2)
   have htk : (us.take (m + 2)).length = m + 2 := by rw [List.length_take]; have := HUL.out; omega
   have hT := trim_take (us.take (m + 2))
   have hTl := trim_len (us.take (m + 2))
   have hcut2 : Arr wr gu (n + 1) (FE.trim (us.take (m + 2))) := by rw [hT]; exact hcut.cut _
   have hTd : FE.Dig (FE.trim (us.take (m + 2))) := FE.dig_trim (hud.take _)
   have hTv : FE.val (FE.trim (us.take (m + 2))) = FE.val us := by rw [FE.val_trim, hlow]
   have hz0 := FE.val_nonneg hzd
   have htz : FE.trim zs = FE.toL (FE.val xs / FE.val ys).toNat := FE.trim_eq hzd (by rw [hfin.1]; omega)
   rw [htk] at hTl
   have HTV := Lib.hid (And.intro hTv (And.intro hfin.2 htz))
   have HTK := Lib.hid htk
   clear hvm hlow hpos hus0 hfin hT hTv hz0 htz htk
   go_wp2_with fail
   refine (trimmed_any (us.take (m + 2)) (m + 2) (n + 1) HTK.out (by omega) (by omega) _ _ hcut.reads).mono ?_
   rintro e w4 ⟨rfl, rfl⟩
   generalize FE.trim (us.take (m + 2)) = T at *
   go_wp2_with fail
   refine (divSmall_any T T.length (n + 1) f rfl (by omega) hTd (by omega) (by omega) _ _ hcut2.reads).mono ?_
   rintro e w5 ⟨v5, rfl, hro5, hb5⟩
   have hao5 := hao.later hb5
   go_wp2_with fail
   refine (trimmed_any zs M M HZ.out (by omega) (Nat.le_refl _) _ _ hao5.reads).mono ?_
   rintro e w6 ⟨rfl, rfl⟩
   go_wp2
   go_ret2
   refine ⟨_, _, rfl, ?_, ?_, hbel.trans (hb5.mono hbel.size)⟩
   ·rw [← HTV.out.2.2]
    exact RO.of_trim hao5 (show w.heap.size ≤ w3.heap.size by omega)
   ·rw [HTV.out.2.1, ← HTV.out.1]
    exact hro5.mono hbel.size
  ·obtain ⟨j, rfl⟩ : ∃ j, k = j + 1 := ⟨k - 1, by omega⟩
   rw [show ((j + 1 : Nat) : Int) - 1 = (j : Int) by omega]
   have hul := HUL.out
   have r1 := hau.cell (j + (m + 2)) (by omega)
   have r2 := hau.cell (j + (m + 1)) (by omega)
   have r3 := hau.cell (j + m) (by omega)
   have r3' : wr.cell? ⟨gu, j + (m + 2) - 2, none⟩ = some (.int .i64 (us.getD (j + m) 0)) := r3
   have r4 := hav.cell (m + 1) (by have := HVL.out; omega)
   have r5 := hav.cell m (by have := HVL.out; omega)
   have u1 := hud.getD (j + (m + 2))
   have u2 := hud.getD (j + (m + 1))
   have u3 := hud.getD (j + m)
   have v1 := hvd.getD (m + 1)
   have v2 := hvd.getD m
   generalize hx1 : us.getD (j + (m + 2)) 0 = x1 at *
   generalize hx2 : us.getD (j + (m + 1)) 0 = x2 at *
   generalize hx3 : us.getD (j + m) 0 = x3 at *
   generalize hz1 : vs.getD (m + 1) 0 = z1 at *
   generalize hz2 : vs.getD m 0 = z2 at *
   have hz1p : 1 ≤ z1 := by
    have h1 := FE.val_top2 HVL.out
    have h2 := HVP.out
    have h3 := FE.val_lt (hvd.take m)
    rw [List.length_take, Nat.min_eq_left (by have := HVL.out; omega)] at h3
    rw [hz1, hz2] at h1
    rcases Int.lt_or_le 0 z1 with h | h
    ·omega
    ·exfalso
     have e : z1 = 0 := by omega
     subst e
     have h4 := Int.mul_le_mul_of_nonneg_left (show z2 + 1 ≤ 1000000000 by omega) (show 0 ≤ FE.bp m by have := FE.bp_pos m; omega)
     rw [Int.mul_add] at h4
     rw [FE.bp_succ] at h2
     simp at h1
     omega
   have hvm := FE.val_lt hvd
   rw [HVL.out] at hvm
   have hwin := FE.window hud (by omega) hvm HLT.out
   have hwl : ((us.drop j).take (m + 2 + 1)).length = m + 3 := by rw [List.length_take, List.length_drop]; omega
   have hw3 := FE.val_top3 hwl
   have hv2 := FE.val_top2 HVL.out
   have hwg : ∀ i, i < m + 3 → ((us.drop j).take (m + 2 + 1)).getD i 0 = us.getD (j + i) 0 := fun i hi => by
    simp [show i < m + 2 + 1 by omega]
   rw [hwg _ (by omega), hwg _ (by omega), hwg _ (by omega), hx1, hx2, hx3] at hw3
   rw [hz1, hz2] at hv2
   have hlow0 := FE.val_nonneg ((((hud.drop j).take (m + 2 + 1))).take m)
   have hlow1 := FE.val_lt ((((hud.drop j).take (m + 2 + 1))).take m)
   rw [List.length_take, hwl, Nat.min_eq_left (by omega)] at hlow1
   have hvl0 := FE.val_nonneg (hvd.take m)
   have hvl1 := FE.val_lt (hvd.take m)
   rw [List.length_take, HVL.out, Nat.min_eq_left (by omega)] at hvl1
   have hP := FE.bp_pos m
   have hdl : (us.take j ++ (us.drop j).take (m + 2 + 1) ++ us.drop (j + (m + 2) + 1)).length = n + 1 := by simp; omega
   clear hwg hdl
   generalize hWW : FE.val ((us.drop j).take (m + 2 + 1)) = W at *
   generalize hVV : FE.val vs = V at *
   generalize hll : FE.val (((us.drop j).take (m + 2 + 1)).take m) = wl at *
   generalize hvv : FE.val (vs.take m) = vl at *
   generalize hPP : FE.bp m = P at *
   have hguess := FE.guess hP hlow1 hvl0 hw3 hv2 u3.2 v2.1 (by omega) (show 0 ≤ x1 * 1000000000 + x2 by omega)
   have hcor := fun (q rest : Int) => FE.correct (q := q) (rest := rest) hP hlow1 hvl0 hw3 hv2
   have hlea := fun (q rest : Int) (h1 : rest = (x1 * 1000000000 + x2) - q * z1) (h2 : 0 ≤ q) (h3 : q ≤ 999999999) h4 => FE.leave hP hlow0 hvl1 hw3 hv2 h1 h2 h3 (by omega) v2 u3.1 hvl0 h4
   have htq0 := Int.ediv_nonneg (show 0 ≤ x1 * 1000000000 + x2 by omega) (show 0 ≤ z1 by omega)
   have htq1 := Int.ediv_mul_le (x1 * 1000000000 + x2) (show z1 ≠ 0 by omega)
   have htq2 := Int.mul_nonneg htq0 (show 0 ≤ z1 by omega)
   have htq3 : 999999999 ≤ (x1 * 1000000000 + x2) / z1 → 999999999 * z1 ≤ x1 * 1000000000 + x2 := fun h => by
    have := Int.mul_le_mul_of_nonneg_right (show 999999999 ≤ (x1 * 1000000000 + x2) / z1 by omega) (show 0 ≤ z1 by omega)
    omega
   have hWV := hwin.2.2.2
   have hW0 := hwin.2.2.1
   have HW := Lib.hid hwin
   have HCO := Lib.hid hcor
   have HLEA := Lib.hid hlea
   have HG := Lib.hid hguess
   have HVM := Lib.hid hvm
   have HX := Lib.hid (And.intro hx1 (And.intro hx2 (And.intro hx3 (And.intro hz1 hz2))))
   have HN := Lib.hid (And.intro hWW (And.intro hVV hPP))
   have HWV := Lib.hid (And.intro hWV hW0)
   have HT3 := Lib.hid htq3
   clear hx1 hx2 hx3 hz1 hz2 hul hWW hVV hll hvv hPP hguess hcor hlea hwin hw3 hv2 hlow0 hlow1 hvl0 hvl1 hP hvm hwl htq3 hWV hW0
   by_cases hq9 : 999999999 ≤ (x1 * 1000000000 + x2) / z1
   ·have hq9z := HT3.out hq9
    go_wp2_with fail
    go_quiet (fail)
    go_wp2_with fail
    go_loopw [15, 16] (fun qv rv wq => ∃ q rest : Int, qv = .int .i64 q ∧ rv = .int .i64 rest ∧ 0 ≤ q ∧ q ≤ 999999999 ∧ 0 ≤ rest ∧ rest ≤ 2000000000000000000 ∧ rest = (x1 * 1000000000 + x2) - q * z1 ∧ FE.NoMore W V q ∧ ∃ nz, wq = wr.drewN nz) (fun qv _ _ => (intOf qv).toNat)
    case atStart => exact ⟨999999999, _, rfl, rfl, by omega, by omega, by omega, by omega, rfl, fun t _ h _ => h, nq, rfl⟩
    case round =>
     clear nq htq0 htq1 htq2 hq9 hq9z
     obtain ⟨q, rest, rfl, rfl, hq0, hq1, hr0, hr1, hre, hno, nz, rfl⟩ := hrel
     have HRE := Lib.hid hre
     have HNO := Lib.hid hno
     clear hre hno
     have hm1 := Int.mul_nonneg hq0 v2.1
     have hm2 := Int.mul_le_mul_of_nonneg_left (show z2 ≤ 999999999 by omega) hq0
     by_cases hc : rest < 1000000000 ∧ rest * 1000000000 + x3 < q * z2
     ·obtain ⟨hc1, hc2⟩ := hc
      have hqp : 1 ≤ q := by
       rcases Int.lt_or_le 0 q with h | h
       ·omega
       ·exfalso
        have e : q = 0 := by omega
        subst e
        simp at hc2; omega
      have hnx := HCO.out q rest HRE.out HNO.out hc2
      have HNX := Lib.hid hnx; clear hnx
      have hd : decide (rest < 1000000000) = true := by simpa using hc1
      go_wp2
      go_quiet (fail)
      go_wp2
      go_roundw
      case rel => exact ⟨q - 1, rest + z1, rfl, rfl, by omega, by omega, by omega, by omega, step_rest HRE.out, HNX.out, nz + nq, rfl⟩
      case measure => simp [intOf]; omega
     ·have hqV := HLEA.out q rest HRE.out hq0 hq1 (by omega)
      have hWq := FE.noMore_lt hq0 hq1 HNO.out HWV.out.1
      have hlo : -FE.bp (m + 2) ≤ FE.val ((us.drop j).take (m + 2 + 1)) - q * FE.val vs := by
       rw [HN.out.1, HN.out.2.1]
       have := HVM.out
       omega
      have HLO := Lib.hid hlo
      have HQV := Lib.hid (And.intro hqV hWq)
      clear hlo
      clear hqV hWq
      have hc' : 1000000000 ≤ rest ∨ (rest < 1000000000 ∧ q * z2 ≤ rest * 1000000000 + x3) := by omega
      clear hc
      rcases hc' with hc1 | ⟨hc1, hc2⟩
      ·have hd : decide (rest < 1000000000) = false := by simp; omega
       go_wp2
       go_quiet (fail)
       go_wp2_with fail
       rw [show j + (m + 2) + 1 - j = m + 2 + 1 by omega]
       refine (subtract_any us vs j (m + 2) (n + 1 - j) (m + 2) (n + 1) gu q HVL.out (by have := HUL.out; omega) (by have := HUL.out; omega) hud hvd ⟨hq0, by omega⟩ HLO.out _ _ (hau.drewN _) (hav.reads.drewN _) (by rintro b hb' _; injection hb' with hb'; subst hb'; show gv ≠ gu; omega)).mono ?_
       rintro e w4 ⟨Z, r, rfl, hr, hZl, hZd, hZv, hau4, honly4⟩
       have hao4 := honly4.arr (hao.drewN _) (by omega)
       have hav4 := honly4.arr (hav.drewN _) (by omega)
       have hbel4 := (below_drewN hbel _).trans (honly4.below (B := w.heap.size) hgu (by show w.heap.size ≤ wr.heap.size; exact hbel.size))
       have hZlt := FE.val_lt hZd
       have hZ0 := FE.val_nonneg hZd
       rw [HN.out.1, HN.out.2.1] at hZv
       rw [hZl] at hZlt
       rcases hr with rfl | rfl
       ·have hR := FE.round (M := M) (q := q) hud (by have := HUL.out; omega) HVM.out HLT.out hZl hZd (by rw [HN.out.1, hZv]; omega) (by have := HQV.out.2; omega) HZ.out (by omega) (HZZ.out j (by omega)) HU.out
        have s1 := hao4.cell j (by have := HZ.out; omega)
        have s2 := hao4.frozen j
        have hset := hao4.set j (by have := HZ.out; omega) q
        have HR := Lib.hid hR
        have HSET := Lib.hid hset
        clear hR hset hZv hZlt hZ0 honly4 hao hav hau hbel hm1 hm2
        go_wp2
        go_roundw
        case rel =>
         refine ⟨j, _, zs.set j q, by omega, rfl, HR.out.1.trans HUL.out, HR.out.2.1, by simp; exact HZ.out, hzd.set j hq0 (by omega), ?_, ?_, ?_, hau4.far (by show gu ≠ w3.heap.size; omega) _, hav4.far (by show gv ≠ w3.heap.size; omega) _, HSET.out, hbel4.setCell (by show w.heap.size ≤ w3.heap.size; omega) _⟩
         ·intro j' hj'
          rw [FE.getD_set, if_neg (by omega)]
          exact HZZ.out j' (by omega)
         ·have := HR.out.2.2.1; first | exact this | (rw [HN.out.2.1]; exact this)
         ·have := HR.out.2.2.2; first | exact this | (rw [HN.out.2.1]; exact this)
        case measure => simp [intOf]
       ·have hmd := FE.mid_drop (us := us) (Z := Z) (R := us.drop (j + (m + 2) + 1)) (j := j) (by have := HUL.out; omega) hZl
        have hul4 := FE.newU_len (us := us) (Z := Z) (j := j) (m := m + 2) (by have := HUL.out; omega) hZl
        have hud4 : FE.Dig (us.take j ++ Z ++ us.drop (j + (m + 2) + 1)) := ((hud.take j).append hZd).append (hud.drop _)
        have HMD := Lib.hid hmd
        have HUL4 := Lib.hid hul4
        have HZV := Lib.hid hZv
        have HZL := Lib.hid hZl
        generalize hus4 : us.take j ++ Z ++ us.drop (j + (m + 2) + 1) = us4 at *
        clear hmd hul4 hZv hZl hus4 honly4 hao hav hau hbel hm1 hm2
        go_wp2_with fail
        rw [show j + (m + 2) + 1 - j = m + 2 + 1 by omega]
        refine (addBack_any us4 vs j (m + 2) (n + 1 - j) (m + 2) (n + 1) gu (m + 2 + 1) HVL.out (by omega) (by have := HUL4.out; have := HUL.out; omega) (by have := HUL4.out; have := HUL.out; omega) hud4 hvd _ _ hau4 hav4.reads (by rintro b hb' _; injection hb' with hb'; subst hb'; show gv ≠ gu; omega)).mono ?_
        rintro e w5 ⟨Z2, cy, rfl, hcy0, hcy1, hZ2l, hZ2d, hZ2v, hau5, honly5⟩
        rw [HMD.out.1, HZV.out, HN.out.2.1] at hZ2v
        rw [show j + (m + 2 + 1) = j + (m + 2) + 1 by omega] at hau5
        rw [HMD.out.2.1, show us4.drop (j + (m + 2) + 1) = us.drop (j + (m + 2) + 1) from HMD.out.2.2] at hau5
        have hZ2lt := FE.val_lt hZ2d
        have hZ20 := FE.val_nonneg hZ2d
        rw [hZ2l] at hZ2lt
        have hao5 := honly5.arr hao4 (by omega)
        have hav5 := honly5.arr hav4 (by omega)
        have hbel5 := hbel4.trans (honly5.below (B := w.heap.size) hgu hbel4.size)
        have hq1' : 1 ≤ q := by
         rcases Int.lt_or_le 0 q with h | h
         ·omega
         ·exfalso
          have e : q = 0 := by omega
          subst e
          have h1 := HZV.out
          have h2 := HWV.out.2
          simp at h1
          omega
        have hsub : (q - 1) * V = q * V - V := by rw [Int.sub_mul, Int.one_mul]
        have hcy : cy = 1 := by
         rcases Int.lt_or_le 0 cy with h | h
         ·omega
         ·exfalso
          have e : cy = 0 := by omega
          subst e
          have h1 := HQV.out.1
          simp at hZ2v
          omega
        subst hcy
        have hR := FE.round (M := M) (q := q - 1) hud (by have := HUL.out; omega) HVM.out HLT.out hZ2l hZ2d (by rw [HN.out.1, hsub]; omega) (by have h1 := HZV.out; omega) HZ.out (by omega) (HZZ.out j (by omega)) HU.out
        have s1 := hao5.cell j (by have := HZ.out; omega)
        have s2 := hao5.frozen j
        have hset := hao5.set j (by have := HZ.out; omega) (q - 1)
        have HR := Lib.hid hR
        have HSET := Lib.hid hset
        clear hR hset hZ2v hZ2lt hZ20 honly5 hao4 hav4 hau4 hbel4 hsub hZlt hZ0 hcy0 hcy1
        go_wp2
        go_roundw
        case rel =>
         refine ⟨j, _, zs.set j (q - 1), by omega, rfl, HR.out.1.trans HUL.out, HR.out.2.1, by simp; exact HZ.out, hzd.set j (by omega) (by omega), ?_, ?_, ?_, hau5.far (by show gu ≠ w3.heap.size; omega) _, hav5.far (by show gv ≠ w3.heap.size; omega) _, HSET.out, hbel5.setCell (by show w.heap.size ≤ w3.heap.size; omega) _⟩
         ·intro j' hj'
          rw [FE.getD_set, if_neg (by omega)]
          exact HZZ.out j' (by omega)
         ·have := HR.out.2.2.1; first | exact this | (rw [HN.out.2.1]; exact this)
         ·have := HR.out.2.2.2; first | exact this | (rw [HN.out.2.1]; exact this)
        case measure => simp [intOf]
      ·have hd : decide (rest < 1000000000) = true := by simp; omega
       go_wp2
       go_quiet (fail)
       go_wp2_with fail
       rw [show j + (m + 2) + 1 - j = m + 2 + 1 by omega]
       refine (subtract_any us vs j (m + 2) (n + 1 - j) (m + 2) (n + 1) gu q HVL.out (by have := HUL.out; omega) (by have := HUL.out; omega) hud hvd ⟨hq0, by omega⟩ HLO.out _ _ (hau.drewN _) (hav.reads.drewN _) (by rintro b hb' _; injection hb' with hb'; subst hb'; show gv ≠ gu; omega)).mono ?_
       rintro e w4 ⟨Z, r, rfl, hr, hZl, hZd, hZv, hau4, honly4⟩
       have hao4 := honly4.arr (hao.drewN _) (by omega)
       have hav4 := honly4.arr (hav.drewN _) (by omega)
       have hbel4 := (below_drewN hbel _).trans (honly4.below (B := w.heap.size) hgu (by show w.heap.size ≤ wr.heap.size; exact hbel.size))
       have hZlt := FE.val_lt hZd
       have hZ0 := FE.val_nonneg hZd
       rw [HN.out.1, HN.out.2.1] at hZv
       rw [hZl] at hZlt
       rcases hr with rfl | rfl
       ·have hR := FE.round (M := M) (q := q) hud (by have := HUL.out; omega) HVM.out HLT.out hZl hZd (by rw [HN.out.1, hZv]; omega) (by have := HQV.out.2; omega) HZ.out (by omega) (HZZ.out j (by omega)) HU.out
        have s1 := hao4.cell j (by have := HZ.out; omega)
        have s2 := hao4.frozen j
        have hset := hao4.set j (by have := HZ.out; omega) q
        have HR := Lib.hid hR
        have HSET := Lib.hid hset
        clear hR hset hZv hZlt hZ0 honly4 hao hav hau hbel hm1 hm2
        go_wp2
        go_roundw
        case rel =>
         refine ⟨j, _, zs.set j q, by omega, rfl, HR.out.1.trans HUL.out, HR.out.2.1, by simp; exact HZ.out, hzd.set j hq0 (by omega), ?_, ?_, ?_, hau4.far (by show gu ≠ w3.heap.size; omega) _, hav4.far (by show gv ≠ w3.heap.size; omega) _, HSET.out, hbel4.setCell (by show w.heap.size ≤ w3.heap.size; omega) _⟩
         ·intro j' hj'
          rw [FE.getD_set, if_neg (by omega)]
          exact HZZ.out j' (by omega)
         ·have := HR.out.2.2.1; first | exact this | (rw [HN.out.2.1]; exact this)
         ·have := HR.out.2.2.2; first | exact this | (rw [HN.out.2.1]; exact this)
        case measure => simp [intOf]
       ·have hmd := FE.mid_drop (us := us) (Z := Z) (R := us.drop (j + (m + 2) + 1)) (j := j) (by have := HUL.out; omega) hZl
        have hul4 := FE.newU_len (us := us) (Z := Z) (j := j) (m := m + 2) (by have := HUL.out; omega) hZl
        have hud4 : FE.Dig (us.take j ++ Z ++ us.drop (j + (m + 2) + 1)) := ((hud.take j).append hZd).append (hud.drop _)
        have HMD := Lib.hid hmd
        have HUL4 := Lib.hid hul4
        have HZV := Lib.hid hZv
        have HZL := Lib.hid hZl
        generalize hus4 : us.take j ++ Z ++ us.drop (j + (m + 2) + 1) = us4 at *
        clear hmd hul4 hZv hZl hus4 honly4 hao hav hau hbel hm1 hm2
        go_wp2_with fail
        rw [show j + (m + 2) + 1 - j = m + 2 + 1 by omega]
        refine (addBack_any us4 vs j (m + 2) (n + 1 - j) (m + 2) (n + 1) gu (m + 2 + 1) HVL.out (by omega) (by have := HUL4.out; have := HUL.out; omega) (by have := HUL4.out; have := HUL.out; omega) hud4 hvd _ _ hau4 hav4.reads (by rintro b hb' _; injection hb' with hb'; subst hb'; show gv ≠ gu; omega)).mono ?_
        rintro e w5 ⟨Z2, cy, rfl, hcy0, hcy1, hZ2l, hZ2d, hZ2v, hau5, honly5⟩
        rw [HMD.out.1, HZV.out, HN.out.2.1] at hZ2v
        rw [show j + (m + 2 + 1) = j + (m + 2) + 1 by omega] at hau5
        rw [HMD.out.2.1, show us4.drop (j + (m + 2) + 1) = us.drop (j + (m + 2) + 1) from HMD.out.2.2] at hau5
        have hZ2lt := FE.val_lt hZ2d
        have hZ20 := FE.val_nonneg hZ2d
        rw [hZ2l] at hZ2lt
        have hao5 := honly5.arr hao4 (by omega)
        have hav5 := honly5.arr hav4 (by omega)
        have hbel5 := hbel4.trans (honly5.below (B := w.heap.size) hgu hbel4.size)
        have hq1' : 1 ≤ q := by
         rcases Int.lt_or_le 0 q with h | h
         ·omega
         ·exfalso
          have e : q = 0 := by omega
          subst e
          have h1 := HZV.out
          have h2 := HWV.out.2
          simp at h1
          omega
        have hsub : (q - 1) * V = q * V - V := by rw [Int.sub_mul, Int.one_mul]
        have hcy : cy = 1 := by
         rcases Int.lt_or_le 0 cy with h | h
         ·omega
         ·exfalso
          have e : cy = 0 := by omega
          subst e
          have h1 := HQV.out.1
          simp at hZ2v
          omega
        subst hcy
        have hR := FE.round (M := M) (q := q - 1) hud (by have := HUL.out; omega) HVM.out HLT.out hZ2l hZ2d (by rw [HN.out.1, hsub]; omega) (by have h1 := HZV.out; omega) HZ.out (by omega) (HZZ.out j (by omega)) HU.out
        have s1 := hao5.cell j (by have := HZ.out; omega)
        have s2 := hao5.frozen j
        have hset := hao5.set j (by have := HZ.out; omega) (q - 1)
        have HR := Lib.hid hR
        have HSET := Lib.hid hset
        clear hR hset hZ2v hZ2lt hZ20 honly5 hao4 hav4 hau4 hbel4 hsub hZlt hZ0 hcy0 hcy1
        go_wp2
        go_roundw
        case rel =>
         refine ⟨j, _, zs.set j (q - 1), by omega, rfl, HR.out.1.trans HUL.out, HR.out.2.1, by simp; exact HZ.out, hzd.set j (by omega) (by omega), ?_, ?_, ?_, hau5.far (by show gu ≠ w3.heap.size; omega) _, hav5.far (by show gv ≠ w3.heap.size; omega) _, HSET.out, hbel5.setCell (by show w.heap.size ≤ w3.heap.size; omega) _⟩
         ·intro j' hj'
          rw [FE.getD_set, if_neg (by omega)]
          exact HZZ.out j' (by omega)
         ·have := HR.out.2.2.1; first | exact this | (rw [HN.out.2.1]; exact this)
         ·have := HR.out.2.2.2; first | exact this | (rw [HN.out.2.1]; exact this)
        case measure => simp [intOf]
   ·have hwr1 : wrap64 ((x1 * 1000000000 + x2) / z1 * z1) = (x1 * 1000000000 + x2) / z1 * z1 := IntWalk.wrap64_in _ ⟨by omega, by omega⟩
    have hwr2 : wrap64 (x1 * 1000000000 + x2 - (x1 * 1000000000 + x2) / z1 * z1) = x1 * 1000000000 + x2 - (x1 * 1000000000 + x2) / z1 * z1 := IntWalk.wrap64_in _ ⟨by omega, by omega⟩
    go_wp2_with fail
    go_quiet (fail)
    go_wp2_with fail
    go_loopw [15, 16] (fun qv rv wq => ∃ q rest : Int, qv = .int .i64 q ∧ rv = .int .i64 rest ∧ 0 ≤ q ∧ q ≤ 999999999 ∧ 0 ≤ rest ∧ rest ≤ 2000000000000000000 ∧ rest = (x1 * 1000000000 + x2) - q * z1 ∧ FE.NoMore W V q ∧ ∃ nz, wq = wr.drewN nz) (fun qv _ _ => (intOf qv).toNat)
    case atStart => exact ⟨(x1 * 1000000000 + x2) / z1, _, rfl, rfl, by omega, by omega, by omega, by omega, rfl, by have := HG.out; rwa [if_neg (by omega)] at this, nq, rfl⟩
    case round =>
     clear nq htq0 htq1 htq2 hq9 hwr1 hwr2
     obtain ⟨q, rest, rfl, rfl, hq0, hq1, hr0, hr1, hre, hno, nz, rfl⟩ := hrel
     have HRE := Lib.hid hre
     have HNO := Lib.hid hno
     clear hre hno
     have hm1 := Int.mul_nonneg hq0 v2.1
     have hm2 := Int.mul_le_mul_of_nonneg_left (show z2 ≤ 999999999 by omega) hq0
     by_cases hc : rest < 1000000000 ∧ rest * 1000000000 + x3 < q * z2
     ·obtain ⟨hc1, hc2⟩ := hc
      have hqp : 1 ≤ q := by
       rcases Int.lt_or_le 0 q with h | h
       ·omega
       ·exfalso
        have e : q = 0 := by omega
        subst e
        simp at hc2; omega
      have hnx := HCO.out q rest HRE.out HNO.out hc2
      have HNX := Lib.hid hnx; clear hnx
      have hd : decide (rest < 1000000000) = true := by simpa using hc1
      go_wp2
      go_quiet (fail)
      go_wp2
      go_roundw
      case rel => exact ⟨q - 1, rest + z1, rfl, rfl, by omega, by omega, by omega, by omega, step_rest HRE.out, HNX.out, nz + nq, rfl⟩
      case measure => simp [intOf]; omega
     ·have hqV := HLEA.out q rest HRE.out hq0 hq1 (by omega)
      have hWq := FE.noMore_lt hq0 hq1 HNO.out HWV.out.1
      have hlo : -FE.bp (m + 2) ≤ FE.val ((us.drop j).take (m + 2 + 1)) - q * FE.val vs := by
       rw [HN.out.1, HN.out.2.1]
       have := HVM.out
       omega
      have HLO := Lib.hid hlo
      have HQV := Lib.hid (And.intro hqV hWq)
      clear hlo
      clear hqV hWq
      have hc' : 1000000000 ≤ rest ∨ (rest < 1000000000 ∧ q * z2 ≤ rest * 1000000000 + x3) := by omega
      clear hc
      rcases hc' with hc1 | ⟨hc1, hc2⟩
      ·have hd : decide (rest < 1000000000) = false := by simp; omega
       go_wp2
       go_quiet (fail)
       go_wp2_with fail
       rw [show j + (m + 2) + 1 - j = m + 2 + 1 by omega]
       refine (subtract_any us vs j (m + 2) (n + 1 - j) (m + 2) (n + 1) gu q HVL.out (by have := HUL.out; omega) (by have := HUL.out; omega) hud hvd ⟨hq0, by omega⟩ HLO.out _ _ (hau.drewN _) (hav.reads.drewN _) (by rintro b hb' _; injection hb' with hb'; subst hb'; show gv ≠ gu; omega)).mono ?_
       rintro e w4 ⟨Z, r, rfl, hr, hZl, hZd, hZv, hau4, honly4⟩
       have hao4 := honly4.arr (hao.drewN _) (by omega)
       have hav4 := honly4.arr (hav.drewN _) (by omega)
       have hbel4 := (below_drewN hbel _).trans (honly4.below (B := w.heap.size) hgu (by show w.heap.size ≤ wr.heap.size; exact hbel.size))
       have hZlt := FE.val_lt hZd
       have hZ0 := FE.val_nonneg hZd
       rw [HN.out.1, HN.out.2.1] at hZv
       rw [hZl] at hZlt
       rcases hr with rfl | rfl
       ·have hR := FE.round (M := M) (q := q) hud (by have := HUL.out; omega) HVM.out HLT.out hZl hZd (by rw [HN.out.1, hZv]; omega) (by have := HQV.out.2; omega) HZ.out (by omega) (HZZ.out j (by omega)) HU.out
        have s1 := hao4.cell j (by have := HZ.out; omega)
        have s2 := hao4.frozen j
        have hset := hao4.set j (by have := HZ.out; omega) q
        have HR := Lib.hid hR
        have HSET := Lib.hid hset
        clear hR hset hZv hZlt hZ0 honly4 hao hav hau hbel hm1 hm2
        go_wp2
        go_roundw
        case rel =>
         refine ⟨j, _, zs.set j q, by omega, rfl, HR.out.1.trans HUL.out, HR.out.2.1, by simp; exact HZ.out, hzd.set j hq0 (by omega), ?_, ?_, ?_, hau4.far (by show gu ≠ w3.heap.size; omega) _, hav4.far (by show gv ≠ w3.heap.size; omega) _, HSET.out, hbel4.setCell (by show w.heap.size ≤ w3.heap.size; omega) _⟩
         ·intro j' hj'
          rw [FE.getD_set, if_neg (by omega)]
          exact HZZ.out j' (by omega)
         ·have := HR.out.2.2.1; first | exact this | (rw [HN.out.2.1]; exact this)
         ·have := HR.out.2.2.2; first | exact this | (rw [HN.out.2.1]; exact this)
        case measure => simp [intOf]
       ·have hmd := FE.mid_drop (us := us) (Z := Z) (R := us.drop (j + (m + 2) + 1)) (j := j) (by have := HUL.out; omega) hZl
        have hul4 := FE.newU_len (us := us) (Z := Z) (j := j) (m := m + 2) (by have := HUL.out; omega) hZl
        have hud4 : FE.Dig (us.take j ++ Z ++ us.drop (j + (m + 2) + 1)) := ((hud.take j).append hZd).append (hud.drop _)
        have HMD := Lib.hid hmd
        have HUL4 := Lib.hid hul4
        have HZV := Lib.hid hZv
        have HZL := Lib.hid hZl
        generalize hus4 : us.take j ++ Z ++ us.drop (j + (m + 2) + 1) = us4 at *
        clear hmd hul4 hZv hZl hus4 honly4 hao hav hau hbel hm1 hm2
        go_wp2_with fail
        rw [show j + (m + 2) + 1 - j = m + 2 + 1 by omega]
        refine (addBack_any us4 vs j (m + 2) (n + 1 - j) (m + 2) (n + 1) gu (m + 2 + 1) HVL.out (by omega) (by have := HUL4.out; have := HUL.out; omega) (by have := HUL4.out; have := HUL.out; omega) hud4 hvd _ _ hau4 hav4.reads (by rintro b hb' _; injection hb' with hb'; subst hb'; show gv ≠ gu; omega)).mono ?_
        rintro e w5 ⟨Z2, cy, rfl, hcy0, hcy1, hZ2l, hZ2d, hZ2v, hau5, honly5⟩
        rw [HMD.out.1, HZV.out, HN.out.2.1] at hZ2v
        rw [show j + (m + 2 + 1) = j + (m + 2) + 1 by omega] at hau5
        rw [HMD.out.2.1, show us4.drop (j + (m + 2) + 1) = us.drop (j + (m + 2) + 1) from HMD.out.2.2] at hau5
        have hZ2lt := FE.val_lt hZ2d
        have hZ20 := FE.val_nonneg hZ2d
        rw [hZ2l] at hZ2lt
        have hao5 := honly5.arr hao4 (by omega)
        have hav5 := honly5.arr hav4 (by omega)
        have hbel5 := hbel4.trans (honly5.below (B := w.heap.size) hgu hbel4.size)
        have hq1' : 1 ≤ q := by
         rcases Int.lt_or_le 0 q with h | h
         ·omega
         ·exfalso
          have e : q = 0 := by omega
          subst e
          have h1 := HZV.out
          have h2 := HWV.out.2
          simp at h1
          omega
        have hsub : (q - 1) * V = q * V - V := by rw [Int.sub_mul, Int.one_mul]
        have hcy : cy = 1 := by
         rcases Int.lt_or_le 0 cy with h | h
         ·omega
         ·exfalso
          have e : cy = 0 := by omega
          subst e
          have h1 := HQV.out.1
          simp at hZ2v
          omega
        subst hcy
        have hR := FE.round (M := M) (q := q - 1) hud (by have := HUL.out; omega) HVM.out HLT.out hZ2l hZ2d (by rw [HN.out.1, hsub]; omega) (by have h1 := HZV.out; omega) HZ.out (by omega) (HZZ.out j (by omega)) HU.out
        have s1 := hao5.cell j (by have := HZ.out; omega)
        have s2 := hao5.frozen j
        have hset := hao5.set j (by have := HZ.out; omega) (q - 1)
        have HR := Lib.hid hR
        have HSET := Lib.hid hset
        clear hR hset hZ2v hZ2lt hZ20 honly5 hao4 hav4 hau4 hbel4 hsub hZlt hZ0 hcy0 hcy1
        go_wp2
        go_roundw
        case rel =>
         refine ⟨j, _, zs.set j (q - 1), by omega, rfl, HR.out.1.trans HUL.out, HR.out.2.1, by simp; exact HZ.out, hzd.set j (by omega) (by omega), ?_, ?_, ?_, hau5.far (by show gu ≠ w3.heap.size; omega) _, hav5.far (by show gv ≠ w3.heap.size; omega) _, HSET.out, hbel5.setCell (by show w.heap.size ≤ w3.heap.size; omega) _⟩
         ·intro j' hj'
          rw [FE.getD_set, if_neg (by omega)]
          exact HZZ.out j' (by omega)
         ·have := HR.out.2.2.1; first | exact this | (rw [HN.out.2.1]; exact this)
         ·have := HR.out.2.2.2; first | exact this | (rw [HN.out.2.1]; exact this)
        case measure => simp [intOf]
      ·have hd : decide (rest < 1000000000) = true := by simp; omega
       go_wp2
       go_quiet (fail)
       go_wp2_with fail
       rw [show j + (m + 2) + 1 - j = m + 2 + 1 by omega]
       refine (subtract_any us vs j (m + 2) (n + 1 - j) (m + 2) (n + 1) gu q HVL.out (by have := HUL.out; omega) (by have := HUL.out; omega) hud hvd ⟨hq0, by omega⟩ HLO.out _ _ (hau.drewN _) (hav.reads.drewN _) (by rintro b hb' _; injection hb' with hb'; subst hb'; show gv ≠ gu; omega)).mono ?_
       rintro e w4 ⟨Z, r, rfl, hr, hZl, hZd, hZv, hau4, honly4⟩
       have hao4 := honly4.arr (hao.drewN _) (by omega)
       have hav4 := honly4.arr (hav.drewN _) (by omega)
       have hbel4 := (below_drewN hbel _).trans (honly4.below (B := w.heap.size) hgu (by show w.heap.size ≤ wr.heap.size; exact hbel.size))
       have hZlt := FE.val_lt hZd
       have hZ0 := FE.val_nonneg hZd
       rw [HN.out.1, HN.out.2.1] at hZv
       rw [hZl] at hZlt
       rcases hr with rfl | rfl
       ·have hR := FE.round (M := M) (q := q) hud (by have := HUL.out; omega) HVM.out HLT.out hZl hZd (by rw [HN.out.1, hZv]; omega) (by have := HQV.out.2; omega) HZ.out (by omega) (HZZ.out j (by omega)) HU.out
        have s1 := hao4.cell j (by have := HZ.out; omega)
        have s2 := hao4.frozen j
        have hset := hao4.set j (by have := HZ.out; omega) q
        have HR := Lib.hid hR
        have HSET := Lib.hid hset
        clear hR hset hZv hZlt hZ0 honly4 hao hav hau hbel hm1 hm2
        go_wp2
        go_roundw
        case rel =>
         refine ⟨j, _, zs.set j q, by omega, rfl, HR.out.1.trans HUL.out, HR.out.2.1, by simp; exact HZ.out, hzd.set j hq0 (by omega), ?_, ?_, ?_, hau4.far (by show gu ≠ w3.heap.size; omega) _, hav4.far (by show gv ≠ w3.heap.size; omega) _, HSET.out, hbel4.setCell (by show w.heap.size ≤ w3.heap.size; omega) _⟩
         ·intro j' hj'
          rw [FE.getD_set, if_neg (by omega)]
          exact HZZ.out j' (by omega)
         ·have := HR.out.2.2.1; first | exact this | (rw [HN.out.2.1]; exact this)
         ·have := HR.out.2.2.2; first | exact this | (rw [HN.out.2.1]; exact this)
        case measure => simp [intOf]
       ·have hmd := FE.mid_drop (us := us) (Z := Z) (R := us.drop (j + (m + 2) + 1)) (j := j) (by have := HUL.out; omega) hZl
        have hul4 := FE.newU_len (us := us) (Z := Z) (j := j) (m := m + 2) (by have := HUL.out; omega) hZl
        have hud4 : FE.Dig (us.take j ++ Z ++ us.drop (j + (m + 2) + 1)) := ((hud.take j).append hZd).append (hud.drop _)
        have HMD := Lib.hid hmd
        have HUL4 := Lib.hid hul4
        have HZV := Lib.hid hZv
        have HZL := Lib.hid hZl
        generalize hus4 : us.take j ++ Z ++ us.drop (j + (m + 2) + 1) = us4 at *
        clear hmd hul4 hZv hZl hus4 honly4 hao hav hau hbel hm1 hm2
        go_wp2_with fail
        rw [show j + (m + 2) + 1 - j = m + 2 + 1 by omega]
        refine (addBack_any us4 vs j (m + 2) (n + 1 - j) (m + 2) (n + 1) gu (m + 2 + 1) HVL.out (by omega) (by have := HUL4.out; have := HUL.out; omega) (by have := HUL4.out; have := HUL.out; omega) hud4 hvd _ _ hau4 hav4.reads (by rintro b hb' _; injection hb' with hb'; subst hb'; show gv ≠ gu; omega)).mono ?_
        rintro e w5 ⟨Z2, cy, rfl, hcy0, hcy1, hZ2l, hZ2d, hZ2v, hau5, honly5⟩
        rw [HMD.out.1, HZV.out, HN.out.2.1] at hZ2v
        rw [show j + (m + 2 + 1) = j + (m + 2) + 1 by omega] at hau5
        rw [HMD.out.2.1, show us4.drop (j + (m + 2) + 1) = us.drop (j + (m + 2) + 1) from HMD.out.2.2] at hau5
        have hZ2lt := FE.val_lt hZ2d
        have hZ20 := FE.val_nonneg hZ2d
        rw [hZ2l] at hZ2lt
        have hao5 := honly5.arr hao4 (by omega)
        have hav5 := honly5.arr hav4 (by omega)
        have hbel5 := hbel4.trans (honly5.below (B := w.heap.size) hgu hbel4.size)
        have hq1' : 1 ≤ q := by
         rcases Int.lt_or_le 0 q with h | h
         ·omega
         ·exfalso
          have e : q = 0 := by omega
          subst e
          have h1 := HZV.out
          have h2 := HWV.out.2
          simp at h1
          omega
        have hsub : (q - 1) * V = q * V - V := by rw [Int.sub_mul, Int.one_mul]
        have hcy : cy = 1 := by
         rcases Int.lt_or_le 0 cy with h | h
         ·omega
         ·exfalso
          have e : cy = 0 := by omega
          subst e
          have h1 := HQV.out.1
          simp at hZ2v
          omega
        subst hcy
        have hR := FE.round (M := M) (q := q - 1) hud (by have := HUL.out; omega) HVM.out HLT.out hZ2l hZ2d (by rw [HN.out.1, hsub]; omega) (by have h1 := HZV.out; omega) HZ.out (by omega) (HZZ.out j (by omega)) HU.out
        have s1 := hao5.cell j (by have := HZ.out; omega)
        have s2 := hao5.frozen j
        have hset := hao5.set j (by have := HZ.out; omega) (q - 1)
        have HR := Lib.hid hR
        have HSET := Lib.hid hset
        clear hR hset hZ2v hZ2lt hZ20 honly5 hao4 hav4 hau4 hbel4 hsub hZlt hZ0 hcy0 hcy1
        go_wp2
        go_roundw
        case rel =>
         refine ⟨j, _, zs.set j (q - 1), by omega, rfl, HR.out.1.trans HUL.out, HR.out.2.1, by simp; exact HZ.out, hzd.set j (by omega) (by omega), ?_, ?_, ?_, hau5.far (by show gu ≠ w3.heap.size; omega) _, hav5.far (by show gv ≠ w3.heap.size; omega) _, HSET.out, hbel5.setCell (by show w.heap.size ≤ w3.heap.size; omega) _⟩
         ·intro j' hj'
          rw [FE.getD_set, if_neg (by omega)]
          exact HZZ.out j' (by omega)
         ·have := HR.out.2.2.1; first | exact this | (rw [HN.out.2.1]; exact this)
         ·have := HR.out.2.2.2; first | exact this | (rw [HN.out.2.1]; exact this)
        case measure => simp [intOf]
open Go.RowKit
theorem natDiv_any (xs ys : List Int) (n m c d : Nat) (hn : xs.length = n) (hm : ys.length = m) (hn1 : n ≤ 65536) (hm1 : m ≤ 65536) (hxd : FE.Dig xs) (hxt : FE.Top xs) (hyd : FE.Dig ys) (hyt : FE.Top ys) (hy : ys ≠ [])
 (A B : Option Addr) (w : World) (ha : RI w A xs) (hb : RI w B ys) :
 Calls Tryz.prog 181 #[.slice A n c, .slice B m d] w fun e w' => ∃ v1 v2, e = .returned (.tuple #[v1, v2]) ∧ RO w' w.heap.size v1 (FE.toL (FE.val xs / FE.val ys).toNat) ∧ RO w' w.heap.size v2 (FE.toL (FE.val xs % FE.val ys).toNat) ∧ Below w.heap.size w w' := by
 rcases Int.lt_or_le (FE.val xs) (FE.val ys) with hlt | hge
 ·exact natDiv_lt xs ys n m c d hn hm hn1 hm1 hxd hxt hyd hyt hlt A B w ha hb
 ·match m, hm with
  | 0, hm => exact absurd (List.eq_nil_of_length_eq_zero hm) hy
  | 1, hm =>
   obtain ⟨y, rfl⟩ := List.length_eq_one_iff.1 hm
   have h1 := hyd.head
   have h2 := hyt (by simp)
   simp at h2
   have e : FE.val [y] = y := by simp [FE.val]
   rw [e] at hge ⊢
   exact natDiv_one xs y n c d hn hn1 hxd hxt (by omega) h1.2 hge A B w ha hb
  | m + 2, hm => exact natDiv_many xs ys n m c d hn hm hn1 hxd hxt hyd hyt hge A B w ha hb
theorem natDiv_nat (p q : Nat) (n m c d : Nat) (hn : (FE.toL p).length = n) (hm : (FE.toL q).length = m) (hn1 : n ≤ 65536) (hm1 : m ≤ 65536) (hq : q ≠ 0)
 (A B : Option Addr) (w : World) (ha : RI w A (FE.toL p)) (hb : RI w B (FE.toL q)) :
 Calls Tryz.prog 181 #[.slice A n c, .slice B m d] w fun e w' => ∃ v1 v2, e = .returned (.tuple #[v1, v2]) ∧ RO w' w.heap.size v1 (FE.toL (p / q)) ∧ RO w' w.heap.size v2 (FE.toL (p % q)) ∧ Below w.heap.size w w' := by
 have h := natDiv_any (FE.toL p) (FE.toL q) n m c d hn hm hn1 hm1 (FE.toL_dig _) (FE.toL_top _) (FE.toL_dig _) (FE.toL_top _) (fun h => hq (FE.toL_eq_nil.1 h)) A B w ha hb
 rw [FE.val_toL, FE.val_toL, ← Int.natCast_ediv, ← Int.natCast_emod, Int.toNat_natCast, Int.toNat_natCast] at h
 exact h
theorem toL_len_mono {p q : Nat} (h : p ≤ q) : (FE.toL p).length ≤ (FE.toL q).length := by
 have h1 := FE.val_lt (FE.toL_dig q)
 rw [FE.val_toL] at h1
 exact (FE.toL_len_le p _).2 (by omega)
set_option maxRecDepth 100000 in
set_option maxHeartbeats 1000000 in
theorem natGcd_nat (p q : Nat) (n m c d : Nat) (hn : (FE.toL p).length = n) (hm : (FE.toL q).length = m) (hn1 : n ≤ 65536) (hm1 : m ≤ 65536)
 (A B : Option Addr) (w : World) (ha : RI w A (FE.toL p)) (hb : RI w B (FE.toL q)) :
 Calls Tryz.prog 139 #[.slice A n c, .slice B m d] w fun e w' => ∃ v, e = .returned v ∧ RO w' w.heap.size v (FE.toL (Nat.gcd p q)) ∧ Below w.heap.size w w' := by
 go_enter Tryz.func139, Tryz.ntmps139
 go_wp2_with fail
 go_loopg [0, 1] q (fun k v0 v1 wr => ∃ (p' q' : Nat) (A' B' : Option Addr) (n' m' c' d' : Nat), v0 = .slice A' n' c' ∧ v1 = .slice B' m' d' ∧ (FE.toL p').length = n' ∧ (FE.toL q').length = m' ∧ n' ≤ 65536 ∧ m' ≤ 65536 ∧
  RI wr A' (FE.toL p') ∧ RI wr B' (FE.toL q') ∧ q' ≤ k ∧ Nat.gcd p q = Nat.gcd p' q' ∧ Below w.heap.size w wr)
 case atStart => exact ⟨p, q, A, B, n, m, c, d, rfl, rfl, hn, hm, hn1, hm1, ha, hb, Nat.le_refl _, rfl, Below.refl _ _⟩
 case round =>
  obtain ⟨p', q', A', B', n', m', c', d', rfl, rfl, hn', hm', hn1', hm1', ha', hb', hk, hg, hbel⟩ := hrel
  have HG := Lib.hid hg
  have HN := Lib.hid hn'
  have HM := Lib.hid hm'
  clear hg
  by_cases hq0 : q' = 0
  ·subst hq0
   have hm0 : m' = 0 := by rw [FE.toL_zero] at hm'; simp at hm'; omega
   subst hm0
   clear hn' hm'
   go_wp2_with (go_at_call 185; refine (clone_any (FE.toL p') n' c' HN.out (by omega) A' _ ha').mono ?_; rintro e w2 ⟨v2, rfl, hro, hb2⟩)
   go_ret
   refine ⟨_, rfl, ?_, hbel.trans (hb2.mono hbel.size)⟩
   rw [HG.out, Nat.gcd_zero_right]
   exact hro.mono hbel.size
  ·have hm1 : 1 ≤ m' := by
    have : FE.toL q' ≠ [] := fun h => hq0 (FE.toL_eq_nil.1 h)
    have := List.length_pos_iff.2 this
    omega
   have hlt := Nat.mod_lt p' (show 0 < q' by omega)
   have hgc : Nat.gcd p' q' = Nat.gcd q' (p' % q') := by rw [Nat.gcd_comm, Nat.gcd_rec, Nat.gcd_comm]
   have hlen := toL_len_mono (show p' % q' ≤ q' by omega)
   rw [hm'] at hlen
   have HQ := Lib.hid hq0
   have HGC := Lib.hid hgc
   have HLT := Lib.hid hlt
   clear hn' hm' hq0 hgc hlt
   go_wp2_with fail
   refine (natDiv_nat p' q' n' m' c' d' HN.out HM.out hn1' hm1' HQ.out A' B' _ ha' hb').mono ?_
   rintro e w2 ⟨v1, v2, rfl, ⟨A1, c1, rfl, _⟩, hro2, hb2⟩
   obtain ⟨A2, c2, rfl, hl2⟩ := hro2.form
   go_wp2
   go_roundg (p' % q')
   case measure => have := HLT.out; omega
   case rel => exact ⟨q', p' % q', B', A2, m', _, d', c2, rfl, rfl, HM.out, rfl, hm1', by omega, hb'.later hb2, hro2.reads, Nat.le_refl _, by rw [HG.out, HGC.out], hbel.trans (hb2.mono hbel.size)⟩
open Go.RowKit Go.Joins
theorem eq_take {xs ys : List Int} {k : Nat} (h : xs.take k = ys.take k) (hx : k < xs.length) (hy : k < ys.length) (he : xs.getD k 0 = ys.getD k 0) : xs.take (k + 1) = ys.take (k + 1) := by
 rw [List.take_succ_eq_append_getElem hx, List.take_succ_eq_append_getElem hy, h]
 have : xs[k] = ys[k] := by simpa [hx, hy] using he
 rw [this]
open Go.RowKit Go.Joins
def RatD.size (r : RatD) : Nat := r.mag.length + r.den.length
def RatD.same (r s : RatD) : Bool := r.neg == s.neg && (r.mag == s.mag && r.den == s.den)
def RatO (w : World) (base : Nat) (v : Value) (r : RatD) : Prop :=
 ∃ va vb, v = .agg #[.bool r.neg, va, vb] ∧ RO w base va r.mag ∧ RO w base vb r.den
theorem RatO.reads {w : World} {base : Nat} {v : Value} {r : RatD} (h : RatO w base v r) : RatV w v r := by
 obtain ⟨va, vb, rfl, h1, h2⟩ := h
 obtain ⟨A, c, rfl, hl, hc, _⟩ := id h1
 obtain ⟨B, d, rfl, hm, hd, _⟩ := id h2
 exact ⟨A, c, B, d, rfl, ⟨hl, hc, hm, hd⟩, h1.reads, h2.reads⟩
open Go.RowKit Go.Joins
def sumSz (rs : List RatD) : Nat := (rs.map RatD.size).sum
def vsz (rs : List RatD) : Nat := rs.length + sumSz rs
theorem VI.cells {w : World} {A : Option Addr} {rs : List RatD} (h : VI w A rs) (k : Nat) (hk : k < rs.length) : ∃ b off, A = some ⟨b, off, none⟩ ∧ b < w.heap.size ∧ RatAt w b (off + k * 3) (rs.getD k zR) := by
 obtain ⟨b, off, rfl, hb, hc⟩ := h (by intro h; subst h; simp at hk)
 exact ⟨b, off, rfl, hb, hc k hk⟩
def vsame : List RatD → List RatD → Bool
 | [], [] => true
 | x :: r, y :: s => x.same y && vsame r s
 | _, _ => false
theorem vsame_iff : ∀ (rs ss : List RatD), vsame rs ss = true ↔ rs.length = ss.length ∧ ∀ j, j < rs.length → (rs.getD j zR).same (ss.getD j zR) = true
 | [], [] => by simp [vsame]
 | [], _ :: _ => by simp [vsame]
 | _ :: _, [] => by simp [vsame]
 | x :: r, y :: s => by
  simp only [vsame, Bool.and_eq_true, vsame_iff r s, List.length_cons]
  constructor
  ·rintro ⟨h1, h2, h3⟩
   refine ⟨by omega, fun j hj => ?_⟩
   cases j with
   | zero => simpa using h1
   | succ j => simpa using h3 j (by omega)
  ·rintro ⟨h1, h2⟩
   exact ⟨by simpa using h2 0 (by omega), by omega, fun j hj => by simpa using h2 (j + 1) (by omega)⟩
theorem RatD.same_refl (x : RatD) : x.same x = true := by simp [RatD.same]
theorem vsame_refl (rs : List RatD) : vsame rs rs = true := (vsame_iff rs rs).2 ⟨rfl, fun _ _ => RatD.same_refl _⟩
theorem vsame_no {rs ss : List RatD} (j : Nat) (hj : j < rs.length) (h : (rs.getD j zR).same (ss.getD j zR) = false) : vsame rs ss = false := by
 cases hv : vsame rs ss
 ·rfl
 ·have := ((vsame_iff rs ss).1 hv).2 j hj
  rw [h] at this; cases this
def Few (rs : List RatD) : Prop := rs.length ≤ 1048576 ∧ ∀ k, k < rs.length → (rs.getD k zR).mag.length ≤ 1048576 ∧ (rs.getD k zR).den.length ≤ 1048576
open Go.RowKit Go.Joins
def ROAt (w : World) (base b off : Nat) (r : RatD) : Prop :=
 ∃ va vb, w.cell? ⟨b, off, none⟩ = some (.bool r.neg) ∧ w.cell? ⟨b, off + 1, none⟩ = some va ∧ w.cell? ⟨b, off + 2, none⟩ = some vb ∧ RO w base va r.mag ∧ RO w base vb r.den
theorem ROAt.reads {w : World} {base b off : Nat} {r : RatD} (h : ROAt w base b off r) : RatAt w b off r := by
 obtain ⟨va, vb, h0, h1, h2, h3, h4⟩ := h
 obtain ⟨A, c, rfl, hl, hc, _⟩ := id h3
 obtain ⟨B, d, rfl, hm, hd, _⟩ := id h4
 exact ⟨A, c, B, d, h0, h1, h2, ⟨hl, hc, hm, hd⟩, h3.reads, h4.reads⟩
theorem ROAt.later {w w' : World} {base b off : Nat} {r : RatD} (h : ROAt w base b off r) (hlt : b < w.heap.size) (hb : Below w.heap.size w w') : ROAt w' base b off r := by
 obtain ⟨va, vb, h0, h1, h2, h3, h4⟩ := h
 exact ⟨va, vb, cell_later hlt h0 hb, cell_later hlt h1 hb, cell_later hlt h2 hb, h3.later hb, h4.later hb⟩
def VO (w : World) (base : Nat) (v : Value) (rs : List RatD) : Prop :=
 ∃ A c, v = .slice A rs.length c ∧ rs.length ≤ c ∧ c ≤ maxLen ∧ (rs ≠ [] → ∃ g, A = some ⟨g, 0, none⟩ ∧ base ≤ g ∧ g < w.heap.size ∧ (∀ i, w.frozen? ⟨g, i, none⟩ = false) ∧ ∀ j, j < rs.length → ROAt w (g + 1) g (j * 3) (rs.getD j zR))
theorem VO.form {w : World} {base : Nat} {v : Value} {rs : List RatD} (h : VO w base v rs) : ∃ A c, v = .slice A rs.length c ∧ rs.length ≤ c ∧ c ≤ maxLen := by
 obtain ⟨A, c, h1, h2, h3, _⟩ := h; exact ⟨A, c, h1, h2, h3⟩
theorem VO.reads {w : World} {base n c : Nat} {A : Option Addr} {rs : List RatD} (h : VO w base (.slice A n c) rs) : VI w A rs := by
 intro hx
 obtain ⟨A', c', he, _, _, h⟩ := h
 injection he with e1 e2 e3
 subst e1
 obtain ⟨g, rfl, _, hlt, _, h⟩ := h hx
 exact ⟨g, 0, rfl, hlt, fun j hj => by rw [Nat.zero_add]; exact (h j hj).reads⟩
open Go.RowKit Go.Joins
set_option maxHeartbeats 400000 in
theorem slEqual (xs ys : List Int) (n m c d : Nat) (hn : xs.length = n) (hm : ys.length = m) (hn1 : n ≤ 1048576) (hm1 : m ≤ 1048576) (A B : Option Addr) (w : World) (ha : RI w A xs) (hb : RI w B ys) :
 Calls Tryz.prog 113 #[.slice A n c, .slice B m d] w fun r w' => r = .returned (.bool (xs == ys)) ∧ ∃ k, w' = w.drewN k := by
 by_cases hnm : n = m
 ·subst hnm
  have hh : ((n : Int) != n) = false := by simp
  have HN := Lib.hid hn; clear hn
  have HM := Lib.hid hm; clear hm
  go_enter Tryz.func113, Tryz.ntmps113
  go_wp2_with fail
  go_loopw [13] (fun u wr => ∃ k : Nat, k ≤ n ∧ u = .int .i64 k ∧ xs.take k = ys.take k ∧ ∃ q, wr = w.drewN q) (fun u _ => n - (intOf u).toNat)
  case atStart => exact ⟨0, Nat.zero_le _, rfl, rfl, 0, rfl⟩
  case round =>
   obtain ⟨k, hk, rfl, ht, q, rfl⟩ := hrel
   have HT := Lib.hid ht; clear ht
   by_cases hkn : k = n
   ·subst hkn
    have h0 : decide ((k : Int) < (k : Int)) = false := by simp
    go_wp2
    go_ret
    refine ⟨ret_bool ?_, q, rfl⟩
    have := HT.out
    rw [List.take_of_length_le (by rw [HN.out]; exact Nat.le_refl _), List.take_of_length_le (by rw [HM.out]; exact Nat.le_refl _)] at this
    subst this
    simp
   ·have hlt : (k : Int) < (n : Int) := by omega
    have hnx := HN.out
    have hny := HM.out
    obtain ⟨b1, o1, rfl, hb1, hc1⟩ := ha (by intro h; subst h; simp at hnx; omega)
    obtain ⟨b2, o2, rfl, hb2, hc2⟩ := hb (by intro h; subst h; simp at hny; omega)
    have e1 := hc1 k (by omega)
    have e2 := hc2 k (by omega)
    clear hc1 hc2 hnx hny
    generalize hxe : xs.getD k 0 = x at *
    generalize hye : ys.getD k 0 = y at *
    have HX := Lib.hid hxe; clear hxe
    have HY := Lib.hid hye; clear hye
    by_cases hxy : x = y
    ·subst hxy
     have h1 : (x != x) = false := by simp
     go_wp2
     go_quiet (fail)
     simp only [World.drewN_drewN]
     generalize q + nq = q2
     go_wp2
     go_roundw
     case rel => exact ⟨k + 1, by omega, rfl, eq_take HT.out (by have := HN.out; omega) (by have := HM.out; omega) (HX.out.trans HY.out.symm), q2, rfl⟩
     case measure => simp [intOf]; omega
    ·have h1 : (x != y) = true := by simp [hxy]
     replace hxy := Lib.hid hxy
     go_wp2
     go_quiet (fail)
     simp only [World.drewN_drewN]
     generalize q + nq = q2
     go_wp2
     go_ret
     refine ⟨ret_bool ?_, q2, rfl⟩
     have : xs ≠ ys := by
      intro h
      subst h
      exact hxy.out (HX.out.symm.trans HY.out)
     simp [this]
 ·have hh : ((n : Int) != m) = true := by simp; omega
  have HE := Lib.hid (show xs ≠ ys from fun h => hnm (by rw [← hn, ← hm, h]))
  clear hnm hn hm
  go_enter Tryz.func113, Tryz.ntmps113
  go_wp2
  go_ret
  exact ⟨ret_bool (by simp [HE.out]), 0, rfl⟩
set_option maxHeartbeats 800000 in
theorem iRatEqual (x y : RatD) (u v : Value) (w : World) (hu : RatV w u x) (hv : RatV w v y) (hx1 : x.mag.length ≤ 1048576) (hx2 : x.den.length ≤ 1048576) (hy1 : y.mag.length ≤ 1048576) (hy2 : y.den.length ≤ 1048576) :
 Calls Tryz.prog 44 #[u, v] w fun r w' => r = .returned (.bool (x.same y)) ∧ Below w.heap.size w w' := by
 obtain ⟨s, xs, xt⟩ := x
 obtain ⟨t, ys, yt⟩ := y
 obtain ⟨A, c, B, d, rfl, _, ha, ha'⟩ := hu
 obtain ⟨A2, c2, B2, d2, rfl, _, hb, hb'⟩ := hv
 simp only at hx1 hx2 hy1 hy2 ha ha' hb hb' ⊢
 have hba := below_alloc2 w (.cells #[.bool s, .slice A xs.length c, .slice B xt.length d] 57) (.cells #[.bool t, .slice A2 ys.length c2, .slice B2 yt.length d2] 57)
 have ra := ha.later hba
 have ra' := ha'.later hba
 have rb := hb.later hba
 have rb' := hb'.later hba
 have HR := Lib.hid (show RatD.same ⟨s, xs, xt⟩ ⟨t, ys, yt⟩ = (s == t && (xs == ys && xt == yt)) from rfl)
 by_cases hst : s = t
 ·subst hst
  have h1 : (s == s) = true := by simp
  cases hp : (xs == ys)
  ·have HP := Lib.hid hp
   go_enter Tryz.func44, Tryz.ntmps44
   go_wp2_with fail
   refine (slEqual xs ys _ _ c c2 rfl rfl hx1 hy1 A A2 _ ra rb).mono ?_
   rw [HP.out]
   rintro r w1 ⟨rfl, k, rfl⟩
   go_wp2
   go_ret
   exact ⟨ret_bool (by rw [HR.out, HP.out]; simp), hba.trans (below_draws _ _ _)⟩
  ·have HP := Lib.hid hp
   cases hq : (xt == yt)
   ·have HQ := Lib.hid hq
    clear hq
    go_enter Tryz.func44, Tryz.ntmps44
    go_wp2_with fail
    refine (slEqual xs ys _ _ c c2 rfl rfl hx1 hy1 A A2 _ ra rb).mono ?_
    rw [HP.out]
    rintro r w1 ⟨rfl, k, rfl⟩
    go_wp2_with fail
    refine (slEqual xt yt _ _ d d2 rfl rfl hx2 hy2 B B2 _ (ra'.drewN k) (rb'.drewN k)).mono ?_
    rw [HQ.out]
    rintro r w1 ⟨rfl, k2, rfl⟩
    go_wp2
    go_ret
    exact ⟨ret_bool (by rw [HR.out, HP.out, HQ.out]; simp), hba.trans (below_draws _ _ _)⟩
   ·have HQ := Lib.hid hq
    clear hq
    go_enter Tryz.func44, Tryz.ntmps44
    go_wp2_with fail
    refine (slEqual xs ys _ _ c c2 rfl rfl hx1 hy1 A A2 _ ra rb).mono ?_
    rw [HP.out]
    rintro r w1 ⟨rfl, k, rfl⟩
    go_wp2_with fail
    refine (slEqual xt yt _ _ d d2 rfl rfl hx2 hy2 B B2 _ (ra'.drewN k) (rb'.drewN k)).mono ?_
    rw [HQ.out]
    rintro r w1 ⟨rfl, k2, rfl⟩
    go_wp2
    go_ret
    exact ⟨ret_bool (by rw [HR.out, HP.out, HQ.out]; simp), hba.trans (below_draws _ _ _)⟩
 ·have h1 : (s == t) = false := by simp [hst]
  go_enter Tryz.func44, Tryz.ntmps44
  go_wp2
  go_ret
  exact ⟨ret_bool (by rw [HR.out]; simp [hst]), hba⟩
open Go.RowKit Go.Joins
open Go.RowKit Go.Joins
set_option maxHeartbeats 800000 in
theorem slEqualFunc (rs ss : List RatD) (n m c d : Nat) (hn : rs.length = n) (hm : ss.length = m) (hf : Few rs) (hg : Few ss) (A B : Option Addr) (w : World) (ha : VI w A rs) (hb : VI w B ss) :
 Calls Tryz.prog 191 #[.slice A n c, .slice B m d, .func (.func 44) #[] #[]] w fun r w' => r = .returned (.bool (vsame rs ss)) ∧ Below w.heap.size w w' := by
 have hn1 : n ≤ 1048576 := hn ▸ hf.1
 have hm1 : m ≤ 1048576 := hm ▸ hg.1
 have HF := Lib.hid hf.2
 have HG := Lib.hid hg.2
 clear hf hg
 by_cases hnm : n = m
 ·subst hnm
  have hh : ((n : Int) != n) = false := by simp
  have HN := Lib.hid hn; clear hn
  have HM := Lib.hid hm; clear hm
  go_enter Tryz.func191, Tryz.ntmps191
  go_wp2_with fail
  go_loopw [17] (fun u wr => ∃ k : Nat, k ≤ n ∧ u = .int .i64 k ∧ (∀ j, j < k → (rs.getD j zR).same (ss.getD j zR) = true) ∧ Below w.heap.size w wr) (fun u _ => n - (intOf u).toNat)
  case atStart => exact ⟨0, Nat.zero_le _, rfl, fun j hj => by omega, Below.refl _ _⟩
  case round =>
   obtain ⟨k, hk, rfl, ht, hbel⟩ := hrel
   have HT := Lib.hid ht; clear ht
   by_cases hkn : k = n
   ·subst hkn
    have h0 : decide ((k : Int) < (k : Int)) = false := by simp
    go_wp2
    go_ret
    exact ⟨ret_bool ((vsame_iff rs ss).2 ⟨HN.out.trans HM.out.symm, fun j hj => HT.out j (by have := HN.out; omega)⟩).symm, hbel⟩
   ·have hlt : (k : Int) < (n : Int) := by omega
    have hkl : k < rs.length := by rw [HN.out]; omega
    have hkl2 : k < ss.length := by rw [HM.out]; omega
    obtain ⟨b, off, rfl, hb1, hat⟩ := ha.cells k hkl
    obtain ⟨b2, off2, rfl, hb2, hat2⟩ := hb.cells k hkl2
    have hat1 := RatAt.stays _ _ _ _ _ hb1 hat hbel
    have hat3 := RatAt.stays _ _ _ _ _ hb2 hat2 hbel
    obtain ⟨f1, f2⟩ := HF.out k hkl
    obtain ⟨f3, f4⟩ := HG.out k hkl2
    clear hat hat2 hkl hkl2
    obtain ⟨A1, c1, B1, d1, g0, g1, g2, hcd, hr1, hr2⟩ := hat1
    obtain ⟨A2, c2, B2, d2, k0, k1, k2, hcd2, hs1, hs2⟩ := hat3
    have hE : ∀ W, Below wr.heap.size wr W → Calls Tryz.prog 44 #[.agg #[.bool (rs.getD k zR).neg, .slice A1 (rs.getD k zR).mag.length c1, .slice B1 (rs.getD k zR).den.length d1], .agg #[.bool (ss.getD k zR).neg, .slice A2 (ss.getD k zR).mag.length c2, .slice B2 (ss.getD k zR).den.length d2]] W fun r w' => r = .returned (.bool ((rs.getD k zR).same (ss.getD k zR))) ∧ Below W.heap.size W w' := fun W hW =>
     iRatEqual (rs.getD k zR) (ss.getD k zR) _ _ W ⟨_, _, _, _, rfl, hcd, hr1.later hW, hr2.later hW⟩ ⟨_, _, _, _, rfl, hcd2, hs1.later hW, hs2.later hW⟩ f1 f2 f3 f4
    have HE := Lib.hid hE
    clear hE hr1 hr2 hs1 hs2 hcd hcd2 f1 f2 f3 f4
    generalize hqe : (rs.getD k zR).same (ss.getD k zR) = q at *
    have HQ := Lib.hid hqe; clear hqe
    have HK := Lib.hid (show k < rs.length by have := HN.out; omega)
    have HV := Lib.hid (show q = false → vsame rs ss = false from fun h => vsame_no k HK.out (HQ.out.trans h))
    have HT2 := Lib.hid (show q = true → ∀ j, j < k + 1 → (rs.getD j zR).same (ss.getD j zR) = true from fun h j hj => (Nat.lt_succ_iff_lt_or_eq.1 hj).elim (HT.out j) (fun e => e ▸ HQ.out.trans h))
    clear HQ
    generalize rs.getD k zR = x at *
    generalize ss.getD k zR = y at *
    have hb2w := Nat.lt_of_lt_of_le hb2 hbel.size
    have k0a := fun o => cell_later hb2w k0 (below_alloc1 wr o)
    have k1a := fun o => cell_later hb2w k1 (below_alloc1 wr o)
    have k2a := fun o => cell_later hb2w k2 (below_alloc1 wr o)
    cases q
    ·skip
     go_wp2_with fail
     refine (HE.out _ (below_alloc2 _ _ _)).mono ?_
     rintro r w5 ⟨rfl, hb5'⟩
     have hb5 := hbel.trans (below_le (below_trans (below_alloc2 _ _ _) hb5') hbel.size)
     clear hb5' g0 g1 g2 k0 k1 k2 k0a k1a k2a
     go_wp2
     go_ret
     exact ⟨ret_bool (HV.out trivial).symm, hb5⟩
    ·skip
     go_wp2_with fail
     refine (HE.out _ (below_alloc2 _ _ _)).mono ?_
     rintro r w5 ⟨rfl, hb5'⟩
     have hb5 := hbel.trans (below_le (below_trans (below_alloc2 _ _ _) hb5') hbel.size)
     clear hb5' g0 g1 g2 k0 k1 k2 k0a k1a k2a
     go_wp2
     go_roundw
     case rel => exact ⟨k + 1, by omega, rfl, HT2.out trivial, hb5⟩
     case measure => simp [intOf]; omega
 ·have hh : ((n : Int) != m) = true := by simp; omega
  have HV := Lib.hid (show vsame rs ss = false by
   cases hv : vsame rs ss
   ·rfl
   ·exact absurd (((vsame_iff rs ss).1 hv).1) (by omega))
  clear hnm hn hm
  go_enter Tryz.func191, Tryz.ntmps191
  go_wp2
  go_ret
  exact ⟨ret_bool HV.out.symm, Below.refl _ _⟩
set_option maxHeartbeats 800000 in
theorem iSame (rs ss : List RatD) (n m c d : Nat) (hn : rs.length = n) (hm : ss.length = m) (hf : Few rs) (hg : Few ss) (A B : Option Addr) (w : World) (ha : VI w A rs) (hb : VI w B ss) :
 Calls Tryz.prog 142 #[.slice A n c, .slice B m d] w fun r w' => r = .returned (.bool (vsame rs ss)) ∧ Below w.heap.size w w' := by
 go_enter Tryz.func142, Tryz.ntmps142
 go_wp2_with fail
 refine (slEqualFunc rs ss n m c d hn hm hf hg A B w ha hb).mono ?_
 rintro r w' ⟨rfl, hb'⟩
 go_wp2
 go_ret
 exact ⟨rfl, hb'⟩
open Go.RowKit Go.Joins
theorem box_lt {w w2 : World} {o : Obj} (hb : Below (w.alloc o).heap.size (w.alloc o) w2) : w.heap.size < w2.heap.size := by
 have := hb.size
 simp only [World.size_alloc] at this
 omega
def ItV (w : World) (v : Value) (x r p : List RatD) : Prop :=
 ∃ A c B d C e, v = .agg #[.slice A x.length c, .slice B r.length d, .slice C p.length e] ∧ (x.length ≤ maxLen ∧ r.length ≤ maxLen ∧ p.length ≤ maxLen) ∧ VI w A x ∧ VI w B r ∧ VI w C p
theorem ItV.later {w w' : World} {v : Value} {x r p : List RatD} (h : ItV w v x r p) (hb : Below w.heap.size w w') : ItV w' v x r p := by
 obtain ⟨A, c, B, d, C, e, rfl, hl, h1, h2, h3⟩ := h
 exact ⟨A, c, B, d, C, e, rfl, hl, h1.later hb, h2.later hb, h3.later hb⟩
def itSame (x r p x' r' p' : List RatD) : Bool := vsame x x' && (vsame r r' && vsame p p')
end Go.Proofs.YtlpomcihkjiokaaGreat
