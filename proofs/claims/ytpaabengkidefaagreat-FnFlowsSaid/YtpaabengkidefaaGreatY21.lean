/-
  Shared texts (Y21).
-/
import Derived.Test.YtpaabengkidefaaGreatY15
namespace Go.Proofs.YtpaabengkidefaaGreat
open Go.RowKit Go.Joins Go.SX
set_option maxRecDepth 1000000

noncomputable def parFnFlows20 : Par := ⟨[.k 0, .f 2, .k 3, .f 5, .k 6, .f 8], [⟨[(0, 1)], [(1, 1)], 5, true⟩, ⟨[(0, 1)], [(16777216, 1)], 6, true⟩, ⟨[(0, 1)], [(256, 1)], 5, true⟩, ⟨[(0, 1)], [(16777216, 1), (4294967296, 1)], 12, true⟩, ⟨[(0, 1)], [(65536, 1)], 5, true⟩, ⟨[(0, 1)], [(16777216, 4), (4294967296, 1), (1099511627776, 1)], 18, true⟩, ⟨[(0, 1)], [(1099511627776, 1)], 6, true⟩, ⟨[(0, 1)], [(16777216, 1), (1099511627776, 1)], 12, true⟩]⟩
theorem parFnFlows20_ok : parFnFlows20.ok = true := by kernel_rfl
noncomputable def baseFnFlows20 : Orcs := orcB parFnFlows20 [(9, 3, 2)]
noncomputable def meshFnFlows20_0 : Cells := [(0, ptsC 0 [(0, 1), (0, 1), (1, 1), (0, 1), (2, 1), (0, 1), (2, 1), (1, 1), (1, 1), (1, 1), (1, 1), (2, 1), (0, 1), (2, 1), (0, 1), (1, 1)]), (1, intsC [1, 4, 0, 0, 0, 7, 0, 4, 0, 0, 3, 4, 2, 0, 0, 1, 2, 4, 1, 0, 7, 4, 6, 0, 0, 5, 6, 4, 2, 0])]
noncomputable def kFnFlows20_0_0_0 : Mk := ⟨meshFnFlows20_0, 8, 6, [], .s (.c (.bool true)), []⟩
theorem kFnFlows20_0_0_0_ok : kFnFlows20_0_0_0.ok baseFnFlows20 58 = true := by kernel_rfl
noncomputable def o0FnFlows20 : Orcs := withM 58 (kFnFlows20_0_0_0.orc) baseFnFlows20
theorem o0FnFlows20_ok {drw : Drw} (hd : drw.tab = tabF [(9, 3, 2)]) : OrcOk Tryz.prog (toks (X.val (parFnFlows20.l drw.fx)) drw) o0FnFlows20 := by
  have ho := (orcB_ok parFnFlows20_ok) hd
  exact with_ok (mk_ok kFnFlows20_0_0_0_ok (call_ok ho)) ho
noncomputable def kFnFlows20_1_0_0 : Mk := ⟨meshFnFlows20_0, 8, 6, [], .s (.c (.sl 284 0 13 4)), [(284, intsC [0, 1, 0, -1, 0, 4, 1, 0, 0, 7, -1, 1, 1, 2, 3, -1, 1, 4, 0, 3, 2, 3, 2, -1, 2, 4, 3, 2, 3, 4, 2, -1, 4, 5, 5, -1, 4, 6, 4, 5, 4, 7, 1, 4, 5, 6, 5, -1, 6, 7, 4, -1])]⟩
theorem kFnFlows20_1_0_0_ok : kFnFlows20_1_0_0.ok o0FnFlows20 138 = true := by kernel_rfl
noncomputable def o1FnFlows20 : Orcs := withM 138 (kFnFlows20_1_0_0.orc) o0FnFlows20
theorem o1FnFlows20_ok {drw : Drw} (hd : drw.tab = tabF [(9, 3, 2)]) : OrcOk Tryz.prog (toks (X.val (parFnFlows20.l drw.fx)) drw) o1FnFlows20 := by
  have ho := o0FnFlows20_ok hd
  exact with_ok (mk_ok kFnFlows20_1_0_0_ok (call_ok ho)) ho
noncomputable def kFnFlows20_2_0_0 : Mk := ⟨meshFnFlows20_0, 8, 6, [.s (.c (.int 0))], .s (.c (.sl 294 0 1 3)), [(294, [.sl 213 0 2 1, .sl 292 0 3 1, .bool false]), (213, intsC [0, 1]), (292, intsC [0, 1, 2])]⟩
theorem kFnFlows20_2_0_0_ok : kFnFlows20_2_0_0.ok o1FnFlows20 61 = true := by kernel_rfl
noncomputable def kFnFlows20_2_0_1 : Mk := ⟨meshFnFlows20_0, 8, 6, [.s (.c (.int 1))], .s (.c (.sl 295 0 1 3)), [(295, [.sl 214 0 2 1, .sl 293 0 3 1, .bool false]), (214, intsC [3, 0]), (293, intsC [3, 4, 0])]⟩
theorem kFnFlows20_2_0_1_ok : kFnFlows20_2_0_1.ok o1FnFlows20 61 = true := by kernel_rfl
noncomputable def kFnFlows20_2_0_2 : Mk := ⟨meshFnFlows20_0, 8, 6, [.s (.c (.int 2))], .s (.c (.sl 273 0 1 3)), [(273, [.sl 198 0 2 1, .sl 271 0 3 1, .bool false]), (198, intsC [2, 3]), (271, intsC [5, 6, 3])]⟩
theorem kFnFlows20_2_0_2_ok : kFnFlows20_2_0_2.ok o1FnFlows20 61 = true := by kernel_rfl
noncomputable def kFnFlows20_2_0_3 : Mk := ⟨meshFnFlows20_0, 8, 6, [.s (.c (.int 3))], .s (.c (.sl 139 0 1 3)), [(139, [.sl 95 0 1 1, .sl 137 0 2 1, .bool false]), (95, intsC [2]), (137, intsC [7, 5])]⟩
theorem kFnFlows20_2_0_3_ok : kFnFlows20_2_0_3.ok o1FnFlows20 61 = true := by kernel_rfl
noncomputable def kFnFlows20_2_0_4 : Mk := ⟨meshFnFlows20_0, 8, 6, [.s (.c (.int 4))], .s (.c (.sl 1256 0 1 3)), [(1256, [.sl 1033 0 6 1, .sl 1254 0 7 1, .bool false]), (1033, intsC [5, 4, 1, 0, 3, 2]), (1254, intsC [8, 9, 10, 1, 4, 6, 7])]⟩
theorem kFnFlows20_2_0_4_ok : kFnFlows20_2_0_4.ok o1FnFlows20 61 = true := by kernel_rfl
noncomputable def kFnFlows20_2_0_5 : Mk := ⟨meshFnFlows20_0, 8, 6, [.s (.c (.int 5))], .s (.c (.sl 139 0 1 3)), [(139, [.sl 95 0 1 1, .sl 137 0 2 1, .bool false]), (95, intsC [5]), (137, intsC [11, 8])]⟩
theorem kFnFlows20_2_0_5_ok : kFnFlows20_2_0_5.ok o1FnFlows20 61 = true := by kernel_rfl
noncomputable def kFnFlows20_2_0_6 : Mk := ⟨meshFnFlows20_0, 8, 6, [.s (.c (.int 6))], .s (.c (.sl 294 0 1 3)), [(294, [.sl 213 0 2 1, .sl 292 0 3 1, .bool false]), (213, intsC [4, 5]), (292, intsC [12, 9, 11])]⟩
theorem kFnFlows20_2_0_6_ok : kFnFlows20_2_0_6.ok o1FnFlows20 61 = true := by kernel_rfl
noncomputable def kFnFlows20_2_0_7 : Mk := ⟨meshFnFlows20_0, 8, 6, [.s (.c (.int 7))], .s (.c (.sl 294 0 1 3)), [(294, [.sl 213 0 2 1, .sl 292 0 3 1, .bool false]), (213, intsC [1, 4]), (292, intsC [2, 10, 12])]⟩
theorem kFnFlows20_2_0_7_ok : kFnFlows20_2_0_7.ok o1FnFlows20 61 = true := by kernel_rfl
noncomputable def o2FnFlows20 : Orcs := withM 61 (altM kFnFlows20_2_0_0.orc (altM kFnFlows20_2_0_1.orc (altM kFnFlows20_2_0_2.orc (altM kFnFlows20_2_0_3.orc (altM kFnFlows20_2_0_4.orc (altM kFnFlows20_2_0_5.orc (altM kFnFlows20_2_0_6.orc (kFnFlows20_2_0_7.orc)))))))) o1FnFlows20
theorem o2FnFlows20_ok {drw : Drw} (hd : drw.tab = tabF [(9, 3, 2)]) : OrcOk Tryz.prog (toks (X.val (parFnFlows20.l drw.fx)) drw) o2FnFlows20 := by
  have ho := o1FnFlows20_ok hd
  exact with_ok (alt_ok (mk_ok kFnFlows20_2_0_0_ok (call_ok ho)) (alt_ok (mk_ok kFnFlows20_2_0_1_ok (call_ok ho)) (alt_ok (mk_ok kFnFlows20_2_0_2_ok (call_ok ho)) (alt_ok (mk_ok kFnFlows20_2_0_3_ok (call_ok ho)) (alt_ok (mk_ok kFnFlows20_2_0_4_ok (call_ok ho)) (alt_ok (mk_ok kFnFlows20_2_0_5_ok (call_ok ho)) (alt_ok (mk_ok kFnFlows20_2_0_6_ok (call_ok ho)) (mk_ok kFnFlows20_2_0_7_ok (call_ok ho))))))))) ho
theorem runFnFlows20 : isTrue (evCall Tryz.prog o2FnFlows20 100000 40 4 [.s (.c .code)] ⟨.lf, 0, 0⟩) = true := by kernel_rfl

end Go.Proofs.YtpaabengkidefaaGreat
