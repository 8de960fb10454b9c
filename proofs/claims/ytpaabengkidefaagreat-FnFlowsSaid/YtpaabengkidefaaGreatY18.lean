/-
  Shared texts (Y18).
-/
import Derived.Test.YtpaabengkidefaaGreatY15
namespace Go.Proofs.YtpaabengkidefaaGreat
open Go.RowKit Go.Joins Go.SX
set_option maxRecDepth 1000000

noncomputable def parFnFlows10 : Par := ⟨[.k 0, .f 2, .k 3, .f 5, .k 6, .f 8], [⟨[(0, 1)], [(1, 1)], 5, true⟩, ⟨[(0, 1)], [(16777216, 1)], 6, true⟩]⟩
theorem parFnFlows10_ok : parFnFlows10.ok = true := by kernel_rfl
noncomputable def baseFnFlows10 : Orcs := orcB parFnFlows10 [(9, 3, 1), (10, 3, 0)]
noncomputable def meshFnFlows10_0 : Cells := [(0, ptsC 0 [(0, 1), (0, 1), (2, 1), (0, 1), (2, 1), (1, 1), (0, 1), (2, 1)]), (1, intsC [1, 2, 0, 0, 0, 3, 0, 2, 0, 0])]
noncomputable def kFnFlows10_0_0_0 : Mk := ⟨meshFnFlows10_0, 4, 2, [], .s (.c (.bool true)), []⟩
theorem kFnFlows10_0_0_0_ok : kFnFlows10_0_0_0.ok baseFnFlows10 58 = true := by kernel_rfl
noncomputable def o0FnFlows10 : Orcs := withM 58 (kFnFlows10_0_0_0.orc) baseFnFlows10
theorem o0FnFlows10_ok {drw : Drw} (hd : drw.tab = tabF [(9, 3, 1), (10, 3, 0)]) : OrcOk Tryz.prog (toks (X.val (parFnFlows10.l drw.fx)) drw) o0FnFlows10 := by
  have ho := (orcB_ok parFnFlows10_ok) hd
  exact with_ok (mk_ok kFnFlows10_0_0_0_ok (call_ok ho)) ho
noncomputable def kFnFlows10_1_0_0 : Mk := ⟨meshFnFlows10_0, 4, 2, [], .s (.c (.sl 75 0 5 4)), [(75, intsC [0, 1, 0, -1, 0, 2, 1, 0, 0, 3, -1, 1, 1, 2, 0, -1, 2, 3, 1, -1])]⟩
theorem kFnFlows10_1_0_0_ok : kFnFlows10_1_0_0.ok o0FnFlows10 138 = true := by kernel_rfl
noncomputable def o1FnFlows10 : Orcs := withM 138 (kFnFlows10_1_0_0.orc) o0FnFlows10
theorem o1FnFlows10_ok {drw : Drw} (hd : drw.tab = tabF [(9, 3, 1), (10, 3, 0)]) : OrcOk Tryz.prog (toks (X.val (parFnFlows10.l drw.fx)) drw) o1FnFlows10 := by
  have ho := o0FnFlows10_ok hd
  exact with_ok (mk_ok kFnFlows10_1_0_0_ok (call_ok ho)) ho
noncomputable def kFnFlows10_2_0_0 : Mk := ⟨meshFnFlows10_0, 4, 2, [.s (.c (.int 0))], .s (.c (.sl 239 0 1 3)), [(239, [.sl 173 0 2 1, .sl 237 0 3 1, .bool false]), (173, intsC [0, 1]), (237, intsC [0, 1, 2])]⟩
theorem kFnFlows10_2_0_0_ok : kFnFlows10_2_0_0.ok o1FnFlows10 61 = true := by kernel_rfl
noncomputable def kFnFlows10_2_0_1 : Mk := ⟨meshFnFlows10_0, 4, 2, [.s (.c (.int 1))], .s (.c (.sl 117 0 1 3)), [(117, [.sl 79 0 1 1, .sl 115 0 2 1, .bool false]), (79, intsC [0]), (115, intsC [3, 0])]⟩
theorem kFnFlows10_2_0_1_ok : kFnFlows10_2_0_1.ok o1FnFlows10 61 = true := by kernel_rfl
noncomputable def kFnFlows10_2_0_2 : Mk := ⟨meshFnFlows10_0, 4, 2, [.s (.c (.int 2))], .s (.c (.sl 249 0 1 3)), [(249, [.sl 180 0 2 1, .sl 247 0 3 1, .bool false]), (180, intsC [1, 0]), (247, intsC [4, 1, 3])]⟩
theorem kFnFlows10_2_0_2_ok : kFnFlows10_2_0_2.ok o1FnFlows10 61 = true := by kernel_rfl
noncomputable def kFnFlows10_2_0_3 : Mk := ⟨meshFnFlows10_0, 4, 2, [.s (.c (.int 3))], .s (.c (.sl 108 0 1 3)), [(108, [.sl 73 0 1 1, .sl 106 0 2 1, .bool false]), (73, intsC [1]), (106, intsC [2, 4])]⟩
theorem kFnFlows10_2_0_3_ok : kFnFlows10_2_0_3.ok o1FnFlows10 61 = true := by kernel_rfl
noncomputable def o2FnFlows10 : Orcs := withM 61 (altM kFnFlows10_2_0_0.orc (altM kFnFlows10_2_0_1.orc (altM kFnFlows10_2_0_2.orc (kFnFlows10_2_0_3.orc)))) o1FnFlows10
theorem o2FnFlows10_ok {drw : Drw} (hd : drw.tab = tabF [(9, 3, 1), (10, 3, 0)]) : OrcOk Tryz.prog (toks (X.val (parFnFlows10.l drw.fx)) drw) o2FnFlows10 := by
  have ho := o1FnFlows10_ok hd
  exact with_ok (alt_ok (mk_ok kFnFlows10_2_0_0_ok (call_ok ho)) (alt_ok (mk_ok kFnFlows10_2_0_1_ok (call_ok ho)) (alt_ok (mk_ok kFnFlows10_2_0_2_ok (call_ok ho)) (mk_ok kFnFlows10_2_0_3_ok (call_ok ho))))) ho
theorem runFnFlows10 : isTrue (evCall Tryz.prog o2FnFlows10 100000 40 4 [.s (.c .code)] ⟨.lf, 0, 0⟩) = true := by kernel_rfl

end Go.Proofs.YtpaabengkidefaaGreat
