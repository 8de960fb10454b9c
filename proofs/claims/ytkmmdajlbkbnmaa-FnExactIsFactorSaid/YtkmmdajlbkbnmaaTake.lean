/-
  Walks: taking a multiple of b from limbs of a, in place; adding b back.
-/
import Derived.Test.YtkmmdajlbkbnmaaTrim
namespace Go.Proofs.Ytkmmdajlbkbnmaa
open Go.RowKit

/-- Only block g, and what is new, has turned. -/
def Only (g : Nat) (w w' : World) : Prop := w.grownBy w' (some g)
theorem Only.refl (g : Nat) (w : World) : Only g w w := ⟨rfl, rfl, rfl, Nat.le_refl _, fun _ _ _ => rfl⟩
theorem Only.set {g : Nat} {a w : World} (h : Only g a w) (i : Nat) (u : Value) : Only g a (w.setCell ⟨g, i, none⟩ u) :=
  ⟨h.os, h.tape, h.output, by simpa [World.setCell] using h.size, fun k hk hne => (Below.heap_setCell w _ u k (fun e => hne (by rw [e]))).trans (h.block k hk hne)⟩
theorem Only.drew {g : Nat} {a w : World} (h : Only g a w) : Only g a w.drew := ⟨h.os, h.tape, h.output, h.size, h.block⟩
theorem Only.below {g B : Nat} {a w : World} (h : Only g a w) (hg : B ≤ g) (hB : B ≤ a.heap.size) : Below B a w :=
  ⟨h.os, h.tape, h.output, h.size, fun k hk => h.block k (by omega) (fun e => by injection e with e; omega)⟩
theorem Only.reads {g : Nat} {a w : World} {A : Option Addr} {xs : List Int} (h : Only g a w) (hr : RI a A xs) (hne : ∀ b, A = some b → xs ≠ [] → b.block ≠ g) : RI w A xs := by
  intro hx
  obtain ⟨b, off, rfl, hb, hc⟩ := hr hx
  refine ⟨b, off, rfl, Nat.lt_of_lt_of_le hb h.size, fun i hi => ?_⟩
  rw [World.cell?_of_block (w := a) (w' := w) (h.block b hb (fun e => hne _ rfl hx (by injection e)))]
  exact hc i hi
theorem Only.arr {g g' cap : Nat} {a w : World} {xs : List Int} (h : Only g a w) (hr : Arr a g' cap xs) (hne : g' ≠ g) : Arr w g' cap xs :=
  hr.block (h.block g' hr.lt (fun e => hne (by injection e)))

set_option maxRecDepth 100000 in
set_option maxHeartbeats 2000000 in
theorem subtract_any (us vs : List Int) (off n c1 d cap g : Nat) (q : Int) (hm : vs.length = n) (hus : off + n + 1 ≤ us.length) (hul : us.length ≤ 1048576) (hud : FE.Dig us) (hvd : FE.Dig vs) (hq : 0 ≤ q ∧ q < 1000000000)
    (hlo : - FE.bp n ≤ FE.val ((us.drop off).take (n + 1)) - q * FE.val vs)
    (B : Option Addr) (w : World) (harr : Arr w g cap us) (hb : RI w B vs) (hne : ∀ b, B = some b → vs ≠ [] → b.block ≠ g) :
    Calls Try.prog 155 #[.slice (some ⟨g, off, none⟩) (n + 1) c1, .slice B n d, .int .i64 q] w fun e w' => ∃ (zs : List Int) (r : Int), e = .returned (.int .i64 r) ∧ (r = 0 ∨ r = 1) ∧ zs.length = n + 1 ∧ FE.Dig zs ∧
      FE.val zs = FE.val ((us.drop off).take (n + 1)) - q * FE.val vs + FE.bp (n + 1) * r ∧ Arr w' g cap (us.take off ++ zs ++ us.drop (off + n + 1)) ∧ Only g w w' := by
  go_enter Try.func155, Try.ntmps155
  go_wp2_with fail
  have HLO := Lib.hid hlo; clear hlo
  have HNE := Lib.hid hne; clear hne
  have hwd : FE.Dig (us.drop off) := hud.drop off
  go_loopw [7, 14] (fun r i wr => ∃ (k : Nat) (zs : List Int) (bo : Int), k ≤ n ∧ i = .int .i64 k ∧ r = .int .i64 bo ∧ 0 ≤ bo ∧ bo < 1000000000 ∧ zs.length = k ∧ FE.Dig zs ∧
      FE.val zs - FE.bp k * bo = FE.val ((us.drop off).take k) - q * FE.val (vs.take k) ∧ Arr wr g cap ((us.take off ++ zs) ++ us.drop (off + k)) ∧ Only g w wr) (fun _ i _ => n - (intOf i).toNat)
  case atStart => exact ⟨0, [], 0, Nat.zero_le _, rfl, rfl, by omega, by omega, rfl, FE.Dig.nil, by simp [FE.val], by simpa using harr, Only.refl _ _⟩
  case round =>
    obtain ⟨k, zs, bo, hk, rfl, rfl, hb0, hb1, hz, hzd, hv, har, honly⟩ := hrel
    have HZ := Lib.hid hz; clear hz
    have HV := Lib.hid hv; clear hv
    have hpl : (us.take off ++ zs).length = off + k := by simp [HZ.out]; omega
    have hlen : off + k < ((us.take off ++ zs) ++ us.drop (off + k)).length := by rw [List.length_append, hpl, List.length_drop]; omega
    have e2 := har.cell (off + k) hlen
    have e3 := har.frozen (off + k)
    rw [FE.getD_mid _ _ _ hpl (by omega)] at e2
    have hwk : (us.drop off).getD k 0 = us.getD (off + k) 0 := by simp
    have hfin : ∀ t (wz : World), Arr wz g cap (((us.take off ++ zs) ++ us.drop (off + k)).set (off + k) t) → Arr wz g cap ((us.take off ++ (zs ++ [t])) ++ us.drop (off + (k + 1))) := fun t wz h => by
      rw [FE.set_mid _ _ _ _ hpl (by omega)] at h
      simpa [Nat.add_assoc] using h
    have HF := Lib.hid hfin; clear hfin
    have HPL := Lib.hid hpl; clear hpl
    by_cases hkn : k < n
    · obtain ⟨b2, o2, rfl, hb2', hc2⟩ := hb (by intro h; subst h; simp at hm; omega)
      have hneq : b2 ≠ g := HNE.out _ rfl (by intro h; subst h; simp at hm; omega)
      have e4 := (World.cell?_of_block (w := w) (w' := wr) (a := ⟨b2, o2 + k, none⟩) (honly.block b2 hb2' (fun e => hneq (by injection e)))).trans (hc2 k (by omega))
      clear hc2
      have hx := hud.getD (off + k)
      have hy := hvd.getD k
      have hmm := FE.mul_bound hy ⟨hq.1, by omega⟩
      have hstep := FE.takeStep (t := us.getD (off + k) 0 - bo - vs.getD k 0 * q) HZ.out hzd hwd hvd hb0 hb1 hq HV.out (by rw [hwk]) rfl rfl
      clear hwk
      generalize hye : vs.getD k 0 = y at *
      generalize hxe : us.getD (off + k) 0 = x at *
      clear hxe hye
      by_cases ht : x - bo - y * q < 0
      · rw [if_pos ht, if_pos ht] at hstep
        have HS := Lib.hid hstep; clear hstep
        go_wp2
        go_roundw
        case rel => exact ⟨k + 1, zs ++ [_], _, by omega, by go_num, rfl, HS.out.2.2.1, HS.out.2.2.2, by simp; exact HZ.out, HS.out.1, HS.out.2.1, HF.out _ _ (har.set (off + k) hlen _), honly.set _ _⟩
        case measure => simp [intOf]; omega
      · rw [if_neg ht, if_neg ht] at hstep
        have HS := Lib.hid hstep; clear hstep
        go_wp2
        go_roundw
        case rel => exact ⟨k + 1, zs ++ [x - bo - y * q], 0, by omega, by go_num, rfl, by omega, by omega, by simp; exact HZ.out, HS.out.1, HS.out.2.1, HF.out _ _ (har.set (off + k) hlen _), honly.set _ _⟩
        case measure => simp [intOf]; omega
    · have hkn' : k = n := by omega
      subst hkn'
      have hend := FE.takeEnd (t := us.getD (off + k) 0 - bo) HZ.out hzd hwd hm hb0 HV.out HLO.out (by rw [hwk])
      clear hwk
      have hx := hud.getD (off + k)
      generalize hxe : us.getD (off + k) 0 = x at *
      clear hxe
      have h1 := hend.1
      have h2 := hend.2.1
      have hee := hend.2.2
      clear hend
      have HE := Lib.hid hee; clear hee
      by_cases ht : x - bo < 0
      · go_wp2
        go_ret
        exact ⟨zs ++ [x - bo + 1000000000], 1, rfl, .inr rfl, by simp; exact HZ.out, (HE.out.1 ht).1, (HE.out.1 ht).2, by
          have h3 := HF.out _ _ (har.set2 (off + k) hlen (x - bo) (x - bo + 1000000000))
          simpa [Nat.add_assoc] using h3, (honly.set _ _).set _ _⟩
      · go_wp2
        go_ret
        exact ⟨zs ++ [x - bo], 0, rfl, .inl rfl, by simp; exact HZ.out, (HE.out.2 (by omega)).1, (HE.out.2 (by omega)).2, by
          have h3 := HF.out _ _ (har.set (off + k) hlen (x - bo))
          simpa [Nat.add_assoc] using h3, honly.set _ _⟩

set_option maxRecDepth 100000 in
set_option maxHeartbeats 2000000 in
theorem addBack_any (us vs : List Int) (off n c1 d cap g N : Nat) (hm : vs.length = n) (hnN : n ≤ N) (hus : off + N ≤ us.length) (hul : us.length ≤ 1048576) (hud : FE.Dig us) (hvd : FE.Dig vs)
    (B : Option Addr) (w : World) (harr : Arr w g cap us) (hb : RI w B vs) (hne : ∀ b, B = some b → vs ≠ [] → b.block ≠ g) :
    Calls Try.prog 156 #[.slice (some ⟨g, off, none⟩) N c1, .slice B n d] w fun e w' => ∃ (zs : List Int) (cy : Int), e = .returned (.tuple #[]) ∧ 0 ≤ cy ∧ cy ≤ 1 ∧ zs.length = N ∧ FE.Dig zs ∧
      FE.val zs + FE.bp N * cy = FE.val ((us.drop off).take N) + FE.val vs ∧ Arr w' g cap (us.take off ++ zs ++ us.drop (off + N)) ∧ Only g w w' := by
  go_enter Try.func156, Try.ntmps156
  go_wp2_with fail
  have HNE := Lib.hid hne; clear hne
  have hwd : FE.Dig (us.drop off) := hud.drop off
  go_loopw [4, 9] (fun r i wr => ∃ (k : Nat) (zs : List Int) (cy : Int), k ≤ N ∧ i = .int .i64 k ∧ r = .int .i64 cy ∧ 0 ≤ cy ∧ cy ≤ 1 ∧ zs.length = k ∧ FE.Dig zs ∧
      FE.val zs + FE.bp k * cy = FE.val ((us.drop off).take k) + FE.val (vs.take k) ∧ Arr wr g cap ((us.take off ++ zs) ++ us.drop (off + k)) ∧ Only g w wr) (fun _ i _ => N - (intOf i).toNat)
  case atStart => exact ⟨0, [], 0, Nat.zero_le _, rfl, rfl, by omega, by omega, rfl, FE.Dig.nil, by simp [FE.val], by simpa using harr, Only.refl _ _⟩
  case round =>
    obtain ⟨k, zs, cy, hk, rfl, rfl, hb0, hb1, hz, hzd, hv, har, honly⟩ := hrel
    have HZ := Lib.hid hz; clear hz
    have HV := Lib.hid hv; clear hv
    by_cases hkN : k < N
    · have hpl : (us.take off ++ zs).length = off + k := by simp [HZ.out]; omega
      have hlen : off + k < ((us.take off ++ zs) ++ us.drop (off + k)).length := by rw [List.length_append, hpl, List.length_drop]; omega
      have e2 := har.cell (off + k) hlen
      have e3 := har.frozen (off + k)
      rw [FE.getD_mid _ _ _ hpl (by omega)] at e2
      have hwk : (us.drop off).getD k 0 = us.getD (off + k) 0 := by simp
      have hfin : ∀ t (wz : World), Arr wz g cap (((us.take off ++ zs) ++ us.drop (off + k)).set (off + k) t) → Arr wz g cap ((us.take off ++ (zs ++ [t])) ++ us.drop (off + (k + 1))) := fun t wz h => by
        rw [FE.set_mid _ _ _ _ hpl (by omega)] at h
        simpa [Nat.add_assoc] using h
      have HF := Lib.hid hfin; clear hfin hpl
      have hx := hud.getD (off + k)
      have hy := hvd.getD k
      have hstep := FE.addBackStep (t := us.getD (off + k) 0 + cy + vs.getD k 0) HZ.out hzd hwd hvd hb0 hb1 HV.out (by rw [hwk])
      clear hwk
      by_cases hkn : k < n
      · obtain ⟨b2, o2, rfl, hb2', hc2⟩ := hb (by intro h; subst h; simp at hm; omega)
        have hneq : b2 ≠ g := HNE.out _ rfl (by intro h; subst h; simp at hm; omega)
        have e4 := (World.cell?_of_block (w := w) (w' := wr) (a := ⟨b2, o2 + k, none⟩) (honly.block b2 hb2' (fun e => hneq (by injection e)))).trans (hc2 k (by omega))
        clear hc2
        generalize hye : vs.getD k 0 = y at *
        generalize hxe : us.getD (off + k) 0 = x at *
        clear hxe hye
        have HS := Lib.hid hstep; clear hstep
        go_wp2
        go_roundw
        case rel => exact ⟨k + 1, zs ++ [_], _, by omega, by go_num, rfl, HS.out.2.2.1, HS.out.2.2.2, by simp; exact HZ.out, HS.out.1, HS.out.2.1, HF.out _ _ (har.set (off + k) hlen _), honly.set _ _⟩
        case measure => simp [intOf]; omega
      · have hy0 : vs.getD k 0 = 0 := by simp [List.getElem?_eq_none (show vs.length ≤ k by omega)]
        rw [hy0] at hstep
        simp only [Int.add_zero] at hstep
        clear hy0 hy
        generalize hxe : us.getD (off + k) 0 = x at *
        clear hxe
        have HS := Lib.hid hstep; clear hstep
        go_wp2
        go_roundw
        case rel => exact ⟨k + 1, zs ++ [_], _, by omega, by go_num, rfl, HS.out.2.2.1, HS.out.2.2.2, by simp; exact HZ.out, HS.out.1, HS.out.2.1, HF.out _ _ (har.set (off + k) hlen _), honly.set _ _⟩
        case measure => simp [intOf]; omega
    · have hkN' : k = N := by omega
      subst hkN'
      go_wp2
      go_end0
      exact ⟨zs, cy, rfl, hb0, hb1, HZ.out, hzd, FE.addBackEnd (by omega) HV.out, har, honly⟩

end Go.Proofs.Ytkmmdajlbkbnmaa
