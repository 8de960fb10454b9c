/-
  The law on FnFans: its walk, and what it says.
-/
import Derived.Test.YtpaabengkidefaaGreatX7
import Derived.Test.YtpaabengkidefaaGreatX8
import Derived.Test.YtpaabengkidefaaGreatX9
import Derived.Test.YtpaabengkidefaaGreatX10
import Derived.Test.YtpaabengkidefaaGreatX11
import Derived.Test.YtpaabengkidefaaGreatX12
import Derived.Test.YtpaabengkidefaaGreatX13
import Derived.Test.YtpaabengkidefaaGreatX1
import Derived.Test.YtpaabengkidefaaGreatX14
namespace Go.Proofs.YtpaabengkidefaaGreat
open Go.RowKit Go.Joins Go.SX

theorem ok00 (val : Nat → RatD) (h1 : NumOk val (numT [0, 0, 2, 0, 2, 2, 0, 2, 1, 1])) (h2 : OkOk val (okT 10)) : OrcOk Tryz.prog (toks val (drwT 0 0 2)) o61_00 := by
  have b0 : OrcOk Tryz.prog (toks val (drwT 0 0 2)) oB00 := orcB_ok h1 h2
  have b1 := with_ok (show OrcOne Tryz.prog _ 58 (memo a00_0 mesh00 10 v00_0 r00_0) from memo_ok (evCall_ok prog_ok b0 100000 40) i00_0 t00_0) b0
  have b2 := with_ok (show OrcOne Tryz.prog _ 138 (memo a00_1 mesh00 10 v00_1 r00_1) from memo_ok (evCall_ok prog_ok b1 100000 40) i00_1 t00_1) b1
  have b3 := with_ok (alt_ok (show OrcOne Tryz.prog _ 61 (memo a00_2 mesh00 10 v00_2 r00_2) from memo_ok (evCall_ok prog_ok b2 100000 40) i00_2 t00_2) (alt_ok (show OrcOne Tryz.prog _ 61 (memo a00_3 mesh00 10 v00_3 r00_3) from memo_ok (evCall_ok prog_ok b2 100000 40) i00_3 t00_3) (alt_ok (show OrcOne Tryz.prog _ 61 (memo a00_4 mesh00 10 v00_4 r00_4) from memo_ok (evCall_ok prog_ok b2 100000 40) i00_4 t00_4) (alt_ok (show OrcOne Tryz.prog _ 61 (memo a00_5 mesh00 10 v00_5 r00_5) from memo_ok (evCall_ok prog_ok b2 100000 40) i00_5 t00_5) (show OrcOne Tryz.prog _ 61 (memo a00_6 mesh00 10 v00_6 r00_6) from memo_ok (evCall_ok prog_ok b2 100000 40) i00_6 t00_6))))) b2
  exact b3
theorem ok01 (val : Nat → RatD) (h1 : NumOk val (numT [0, 0, 2, 0, 2, 2, 0, 2, 1, 1])) (h2 : OkOk val (okT 10)) : OrcOk Tryz.prog (toks val (drwT 0 1 2)) o61_01 := by
  have b0 : OrcOk Tryz.prog (toks val (drwT 0 1 2)) oB01 := orcB_ok h1 h2
  have b1 := with_ok (show OrcOne Tryz.prog _ 58 (memo a01_0 mesh01 10 v01_0 r01_0) from memo_ok (evCall_ok prog_ok b0 100000 40) i01_0 t01_0) b0
  have b2 := with_ok (show OrcOne Tryz.prog _ 138 (memo a01_1 mesh01 10 v01_1 r01_1) from memo_ok (evCall_ok prog_ok b1 100000 40) i01_1 t01_1) b1
  have b3 := with_ok (alt_ok (show OrcOne Tryz.prog _ 61 (memo a01_2 mesh01 10 v01_2 r01_2) from memo_ok (evCall_ok prog_ok b2 100000 40) i01_2 t01_2) (alt_ok (show OrcOne Tryz.prog _ 61 (memo a01_3 mesh01 10 v01_3 r01_3) from memo_ok (evCall_ok prog_ok b2 100000 40) i01_3 t01_3) (alt_ok (show OrcOne Tryz.prog _ 61 (memo a01_4 mesh01 10 v01_4 r01_4) from memo_ok (evCall_ok prog_ok b2 100000 40) i01_4 t01_4) (alt_ok (show OrcOne Tryz.prog _ 61 (memo a01_5 mesh01 10 v01_5 r01_5) from memo_ok (evCall_ok prog_ok b2 100000 40) i01_5 t01_5) (show OrcOne Tryz.prog _ 61 (memo a01_6 mesh01 10 v01_6 r01_6) from memo_ok (evCall_ok prog_ok b2 100000 40) i01_6 t01_6))))) b2
  exact b3
theorem ok10 (val : Nat → RatD) (h1 : NumOk val (numT [0, 0, 2, 0, 2, 1, 0, 2])) (h2 : OkOk val (okT 8)) : OrcOk Tryz.prog (toks val (drwT 1 0 3)) o61_10 := by
  have b0 : OrcOk Tryz.prog (toks val (drwT 1 0 3)) oB10 := orcB_ok h1 h2
  have b1 := with_ok (show OrcOne Tryz.prog _ 58 (memo a10_0 mesh10 9 v10_0 r10_0) from memo_ok (evCall_ok prog_ok b0 100000 40) i10_0 t10_0) b0
  have b2 := with_ok (show OrcOne Tryz.prog _ 138 (memo a10_1 mesh10 9 v10_1 r10_1) from memo_ok (evCall_ok prog_ok b1 100000 40) i10_1 t10_1) b1
  have b3 := with_ok (alt_ok (show OrcOne Tryz.prog _ 61 (memo a10_2 mesh10 9 v10_2 r10_2) from memo_ok (evCall_ok prog_ok b2 100000 40) i10_2 t10_2) (alt_ok (show OrcOne Tryz.prog _ 61 (memo a10_3 mesh10 9 v10_3 r10_3) from memo_ok (evCall_ok prog_ok b2 100000 40) i10_3 t10_3) (alt_ok (show OrcOne Tryz.prog _ 61 (memo a10_4 mesh10 9 v10_4 r10_4) from memo_ok (evCall_ok prog_ok b2 100000 40) i10_4 t10_4) (show OrcOne Tryz.prog _ 61 (memo a10_5 mesh10 9 v10_5 r10_5) from memo_ok (evCall_ok prog_ok b2 100000 40) i10_5 t10_5)))) b2
  exact b3
theorem ok11 (val : Nat → RatD) (h1 : NumOk val (numT [0, 0, 2, 0, 2, 1, 0, 2])) (h2 : OkOk val (okT 8)) : OrcOk Tryz.prog (toks val (drwT 1 1 3)) o61_11 := by
  have b0 : OrcOk Tryz.prog (toks val (drwT 1 1 3)) oB11 := orcB_ok h1 h2
  have b1 := with_ok (show OrcOne Tryz.prog _ 58 (memo a11_0 mesh11 9 v11_0 r11_0) from memo_ok (evCall_ok prog_ok b0 100000 40) i11_0 t11_0) b0
  have b2 := with_ok (show OrcOne Tryz.prog _ 138 (memo a11_1 mesh11 9 v11_1 r11_1) from memo_ok (evCall_ok prog_ok b1 100000 40) i11_1 t11_1) b1
  have b3 := with_ok (alt_ok (show OrcOne Tryz.prog _ 61 (memo a11_2 mesh11 9 v11_2 r11_2) from memo_ok (evCall_ok prog_ok b2 100000 40) i11_2 t11_2) (alt_ok (show OrcOne Tryz.prog _ 61 (memo a11_3 mesh11 9 v11_3 r11_3) from memo_ok (evCall_ok prog_ok b2 100000 40) i11_3 t11_3) (alt_ok (show OrcOne Tryz.prog _ 61 (memo a11_4 mesh11 9 v11_4 r11_4) from memo_ok (evCall_ok prog_ok b2 100000 40) i11_4 t11_4) (show OrcOne Tryz.prog _ 61 (memo a11_5 mesh11 9 v11_5 r11_5) from memo_ok (evCall_ok prog_ok b2 100000 40) i11_5 t11_5)))) b2
  exact b3
theorem ok12 (val : Nat → RatD) (h1 : NumOk val (numT [0, 0, 2, 0, 2, 1, 0, 2])) (h2 : OkOk val (okT 8)) : OrcOk Tryz.prog (toks val (drwT 1 2 3)) o61_12 := by
  have b0 : OrcOk Tryz.prog (toks val (drwT 1 2 3)) oB12 := orcB_ok h1 h2
  have b1 := with_ok (show OrcOne Tryz.prog _ 58 (memo a12_0 mesh12 9 v12_0 r12_0) from memo_ok (evCall_ok prog_ok b0 100000 40) i12_0 t12_0) b0
  have b2 := with_ok (show OrcOne Tryz.prog _ 138 (memo a12_1 mesh12 9 v12_1 r12_1) from memo_ok (evCall_ok prog_ok b1 100000 40) i12_1 t12_1) b1
  have b3 := with_ok (alt_ok (show OrcOne Tryz.prog _ 61 (memo a12_2 mesh12 9 v12_2 r12_2) from memo_ok (evCall_ok prog_ok b2 100000 40) i12_2 t12_2) (alt_ok (show OrcOne Tryz.prog _ 61 (memo a12_3 mesh12 9 v12_3 r12_3) from memo_ok (evCall_ok prog_ok b2 100000 40) i12_3 t12_3) (alt_ok (show OrcOne Tryz.prog _ 61 (memo a12_4 mesh12 9 v12_4 r12_4) from memo_ok (evCall_ok prog_ok b2 100000 40) i12_4 t12_4) (show OrcOne Tryz.prog _ 61 (memo a12_5 mesh12 9 v12_5 r12_5) from memo_ok (evCall_ok prog_ok b2 100000 40) i12_5 t12_5)))) b2
  exact b3
theorem ok20 (val : Nat → RatD) (h1 : NumOk val (numT [0, 0, 1, 0, 2, 0, 2, 1, 1, 1, 1, 2, 0, 2, 0, 1])) (h2 : OkOk val (okT 16)) : OrcOk Tryz.prog (toks val (drwT 2 0 1)) o61_20 := by
  have b0 : OrcOk Tryz.prog (toks val (drwT 2 0 1)) oB20 := orcB_ok h1 h2
  have b1 := with_ok (show OrcOne Tryz.prog _ 58 (memo a20_0 mesh20 13 v20_0 r20_0) from memo_ok (evCall_ok prog_ok b0 100000 40) i20_0 t20_0) b0
  have b2 := with_ok (show OrcOne Tryz.prog _ 138 (memo a20_1 mesh20 13 v20_1 r20_1) from memo_ok (evCall_ok prog_ok b1 100000 40) i20_1 t20_1) b1
  have b3 := with_ok (alt_ok (show OrcOne Tryz.prog _ 61 (memo a20_2 mesh20 13 v20_2 r20_2) from memo_ok (evCall_ok prog_ok b2 100000 40) i20_2 t20_2) (alt_ok (show OrcOne Tryz.prog _ 61 (memo a20_3 mesh20 13 v20_3 r20_3) from memo_ok (evCall_ok prog_ok b2 100000 40) i20_3 t20_3) (alt_ok (show OrcOne Tryz.prog _ 61 (memo a20_4 mesh20 13 v20_4 r20_4) from memo_ok (evCall_ok prog_ok b2 100000 40) i20_4 t20_4) (alt_ok (show OrcOne Tryz.prog _ 61 (memo a20_5 mesh20 13 v20_5 r20_5) from memo_ok (evCall_ok prog_ok b2 100000 40) i20_5 t20_5) (alt_ok (show OrcOne Tryz.prog _ 61 (memo a20_6 mesh20 13 v20_6 r20_6) from memo_ok (evCall_ok prog_ok b2 100000 40) i20_6 t20_6) (alt_ok (show OrcOne Tryz.prog _ 61 (memo a20_7 mesh20 13 v20_7 r20_7) from memo_ok (evCall_ok prog_ok b2 100000 40) i20_7 t20_7) (alt_ok (show OrcOne Tryz.prog _ 61 (memo a20_8 mesh20 13 v20_8 r20_8) from memo_ok (evCall_ok prog_ok b2 100000 40) i20_8 t20_8) (show OrcOne Tryz.prog _ 61 (memo a20_9 mesh20 13 v20_9 r20_9) from memo_ok (evCall_ok prog_ok b2 100000 40) i20_9 t20_9)))))))) b2
  exact b3

set_option maxRecDepth 100000 in
theorem fnFans (n c : Nat) (A : Option Addr) (w : World) (hA : BI w A n) :
    Calls Tryz.prog 3 #[.slice A n c] w fun e w' => e = .returned (.bool true) ∧ Below w.heap.size w w' := by
  by_cases hn : n ≤ 1048576
  case neg =>
    have hgt : (1048576 : Int) < (n : Int) := by omega
    go_enter Tryz.func3, Tryz.ntmps3
    go_wp2
    go_ret
    exact ⟨rfl, Below.refl _ _⟩
  obtain ⟨y, hy, hb⟩ := be_of_bi hA
  obtain ⟨b0, e0⟩ : ∃ b0, (fixOf A n c y).byte 0 = b0 := ⟨_, rfl⟩
  obtain ⟨b1, e1⟩ : ∃ b1, (fixOf A n c y).byte 1 = b1 := ⟨_, rfl⟩
  have h : (b0 % 3 = 0 ∧ b1 % 2 = 0) ∨ (b0 % 3 = 0 ∧ b1 % 2 = 1) ∨ (b0 % 3 = 1 ∧ b1 % 3 = 0) ∨ (b0 % 3 = 1 ∧ b1 % 3 = 1) ∨ (b0 % 3 = 1 ∧ b1 % 3 = 2) ∨ (b0 % 3 = 2 ∧ b1 % 1 = 0) := by omega
  rw [← e0, ← e1] at h
  rcases h with ⟨g0, g1⟩ | ⟨g0, g1⟩ | ⟨g0, g1⟩ | ⟨g0, g1⟩ | ⟨g0, g1⟩ | ⟨g0, g1⟩
  · exact sx_run (by decide) ok00 run00 n c A y w hn hy hb g0 g1
  · exact sx_run (by decide) ok01 run01 n c A y w hn hy hb g0 g1
  · exact sx_run (by decide) ok10 run10 n c A y w hn hy hb g0 g1
  · exact sx_run (by decide) ok11 run11 n c A y w hn hy hb g0 g1
  · exact sx_run (by decide) ok12 run12 n c A y w hn hy hb g0 g1
  · exact sx_run (by decide) ok20 run20 n c A y w hn hy hb g0 g1
end Go.Proofs.YtpaabengkidefaaGreat

namespace Go.Proofs.YtpaabengkidefaaGreat
open Go.ChangeShapes Go.WideShapes Go.ChangeAt Go.RowKit Go.Joins Go.WideElems Go.Deep

theorem own : ownKnob Tryz.prog.godebug = none := by kernel_rfl
theorem laid : laidOutB Tryz.prog = true := by kernel_rfl

set_option maxRecDepth 100000 in
theorem fnFans_lifted (os : Os) (started : os.Started) (H : Type) (enc : TypeId × Value → H) :
    ReturnsInHanded {} Tryz.checked os 3 .any (Rows.fnFansSpec.pre6 enc Tryz.prog Tryz.f3 Rows.fnFansRow.domain false) (Rows.fnFansSpec.post enc Tryz.prog Tryz.f3 false true false false) := by
  refine returnsInHanded_of_change (C := Tryz.checked) own started (by kernel_rfl) Tryz.func3
    (ChangeSpec.witness6 (enc := enc) (C := Tryz.checked) false ⟨#[], #[.slice none 0 0], []⟩ 8 (by kernel_rfl) (by kernel_rfl) (by kernel_rfl) (by kernel_rfl)) ?_
  intro W base args ds gs before hval0 hW _ _
  have hval : ∀ (j : Nat) t v, Tryz.f3.params[j]? = some t → args[j]? = some v → Value.okWide Tryz.prog W .any base t v := hval0
  have hW' := hW
  obtain ⟨p, q, hA0, hV, _, _, _⟩ := hW
  have hA : DataW.TrodAll enc Tryz.prog W 0 (fun _ => true) true Tryz.f3.params.toList args.toList ds p := hA0
  rw [Tryz.params3] at hA hval
  obtain ⟨v0, d0, rfl, rfl, h0⟩ := trodAll_one hA
  obtain ⟨A0, n0, c0, rfl, _, k0⟩ := openBytes (okWide_slice Tryz.underlying22 (hval 0 _ v0 rfl rfl)) h0
  refine (fnFans n0 c0 A0 W k0).mono fun r W' ⟨hr, hb⟩ => ?_
  subst hr
  exact ⟨_, rfl, law_post laid rfl (by kernel_rfl) hb rfl Tryz.underlying4 rfl hW'⟩

theorem fnFans_holds : Rows.FnFansSaid :=
  OpenClaim.holds_of_wide 3 Tryz.f3 rfl rfl rfl rfl rfl rfl rfl ⟨rfl, rfl, rfl, rfl, rfl⟩ rfl rfl rfl rfl rfl (by kernel_rfl) Tryz.func3 (by kernel_rfl)
    (of_decide_eq_true (by kernel_rfl)) (by unfold Func.isWrapper; rw [if_neg (by decide +kernel)]; exact ⟨rfl, rfl⟩)
    (fun os started H enc _ => fnFans_lifted os started H enc)

#print axioms fnFans_holds
end Go.Proofs.YtpaabengkidefaaGreat
