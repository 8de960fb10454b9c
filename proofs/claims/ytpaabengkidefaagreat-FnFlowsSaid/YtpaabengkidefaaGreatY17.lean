/-
  Shared texts (Y17).
-/
import Derived.Test.YtpaabengkidefaaGreatY15
namespace Go.Proofs.YtpaabengkidefaaGreat
open Go.RowKit Go.Joins Go.SX
set_option maxRecDepth 1000000

noncomputable def parFnFlows01 : Par := ⟨[.k 0, .f 2, .k 3, .f 5, .k 6, .f 8], [⟨[(0, 1)], [(1, 1), (256, 1)], 10, true⟩, ⟨[(0, 1)], [(1, 1)], 5, true⟩, ⟨[(0, 1)], [(256, 1)], 5, true⟩, ⟨[(0, 1)], [(268435456, 1), (4294967296, 1)], 12, true⟩, ⟨[(0, 1)], [(268435456, 1)], 6, true⟩, ⟨[(0, 1)], [(4294967296, 1)], 6, true⟩]⟩
theorem parFnFlows01_ok : parFnFlows01.ok = true := by kernel_rfl
noncomputable def baseFnFlows01 : Orcs := orcB parFnFlows01 [(9, 3, 0), (10, 2, 1)]
noncomputable def meshFnFlows01_0 : Cells := [(0, ptsC 0 [(0, 1), (0, 1), (2, 1), (0, 1), (2, 1), (2, 1), (0, 1), (2, 1), (1, 1), (1, 1)]), (1, intsC [4, 0, 1, 0, 0, 4, 1, 2, 0, 0, 4, 2, 3, 1, 0, 4, 3, 0, 1, 0])]
noncomputable def kFnFlows01_0_0_0 : Mk := ⟨meshFnFlows01_0, 5, 4, [], .s (.c (.bool true)), []⟩
theorem kFnFlows01_0_0_0_ok : kFnFlows01_0_0_0.ok baseFnFlows01 58 = true := by kernel_rfl
noncomputable def o0FnFlows01 : Orcs := withM 58 (kFnFlows01_0_0_0.orc) baseFnFlows01
theorem o0FnFlows01_ok {drw : Drw} (hd : drw.tab = tabF [(9, 3, 0), (10, 2, 1)]) : OrcOk Tryz.prog (toks (X.val (parFnFlows01.l drw.fx)) drw) o0FnFlows01 := by
  have ho := (orcB_ok parFnFlows01_ok) hd
  exact with_ok (mk_ok kFnFlows01_0_0_0_ok (call_ok ho)) ho
noncomputable def kFnFlows01_1_0_0 : Mk := ⟨meshFnFlows01_0, 5, 4, [], .s (.c (.sl 144 0 8 4)), [(144, intsC [0, 1, 0, -1, 0, 3, -1, 3, 0, 4, 3, 0, 1, 2, 1, -1, 1, 4, 0, 1, 2, 3, 2, -1, 2, 4, 1, 2, 3, 4, 2, 3])]⟩
theorem kFnFlows01_1_0_0_ok : kFnFlows01_1_0_0.ok o0FnFlows01 138 = true := by kernel_rfl
noncomputable def o1FnFlows01 : Orcs := withM 138 (kFnFlows01_1_0_0.orc) o0FnFlows01
theorem o1FnFlows01_ok {drw : Drw} (hd : drw.tab = tabF [(9, 3, 0), (10, 2, 1)]) : OrcOk Tryz.prog (toks (X.val (parFnFlows01.l drw.fx)) drw) o1FnFlows01 := by
  have ho := o0FnFlows01_ok hd
  exact with_ok (mk_ok kFnFlows01_1_0_0_ok (call_ok ho)) ho
noncomputable def kFnFlows01_2_0_0 : Mk := ⟨meshFnFlows01_0, 5, 4, [.s (.c (.int 0))], .s (.c (.sl 271 0 1 3)), [(271, [.sl 196 0 2 1, .sl 269 0 3 1, .bool false]), (196, intsC [0, 3]), (269, intsC [0, 2, 1])]⟩
theorem kFnFlows01_2_0_0_ok : kFnFlows01_2_0_0.ok o1FnFlows01 61 = true := by kernel_rfl
noncomputable def kFnFlows01_2_0_1 : Mk := ⟨meshFnFlows01_0, 5, 4, [.s (.c (.int 1))], .s (.c (.sl 263 0 1 3)), [(263, [.sl 191 0 2 1, .sl 261 0 3 1, .bool false]), (191, intsC [1, 0]), (261, intsC [3, 4, 0])]⟩
theorem kFnFlows01_2_0_1_ok : kFnFlows01_2_0_1.ok o1FnFlows01 61 = true := by kernel_rfl
noncomputable def kFnFlows01_2_0_2 : Mk := ⟨meshFnFlows01_0, 5, 4, [.s (.c (.int 2))], .s (.c (.sl 251 0 1 3)), [(251, [.sl 182 0 2 1, .sl 249 0 3 1, .bool false]), (182, intsC [2, 1]), (249, intsC [5, 6, 3])]⟩
theorem kFnFlows01_2_0_2_ok : kFnFlows01_2_0_2.ok o1FnFlows01 61 = true := by kernel_rfl
noncomputable def kFnFlows01_2_0_3 : Mk := ⟨meshFnFlows01_0, 5, 4, [.s (.c (.int 3))], .s (.c (.sl 260 0 1 3)), [(260, [.sl 188 0 2 1, .sl 258 0 3 1, .bool false]), (188, intsC [3, 2]), (258, intsC [1, 7, 5])]⟩
theorem kFnFlows01_2_0_3_ok : kFnFlows01_2_0_3.ok o1FnFlows01 61 = true := by kernel_rfl
noncomputable def kFnFlows01_2_0_4 : Mk := ⟨meshFnFlows01_0, 5, 4, [.s (.c (.int 4))], .s (.c (.sl 606 0 1 3)), [(606, [.sl 570 0 4 1, .sl 572 0 4 1, .bool true]), (570, intsC [0, 1, 2, 3]), (572, intsC [2, 4, 6, 7])]⟩
theorem kFnFlows01_2_0_4_ok : kFnFlows01_2_0_4.ok o1FnFlows01 61 = true := by kernel_rfl
noncomputable def o2FnFlows01 : Orcs := withM 61 (altM kFnFlows01_2_0_0.orc (altM kFnFlows01_2_0_1.orc (altM kFnFlows01_2_0_2.orc (altM kFnFlows01_2_0_3.orc (kFnFlows01_2_0_4.orc))))) o1FnFlows01
theorem o2FnFlows01_ok {drw : Drw} (hd : drw.tab = tabF [(9, 3, 0), (10, 2, 1)]) : OrcOk Tryz.prog (toks (X.val (parFnFlows01.l drw.fx)) drw) o2FnFlows01 := by
  have ho := o1FnFlows01_ok hd
  exact with_ok (alt_ok (mk_ok kFnFlows01_2_0_0_ok (call_ok ho)) (alt_ok (mk_ok kFnFlows01_2_0_1_ok (call_ok ho)) (alt_ok (mk_ok kFnFlows01_2_0_2_ok (call_ok ho)) (alt_ok (mk_ok kFnFlows01_2_0_3_ok (call_ok ho)) (mk_ok kFnFlows01_2_0_4_ok (call_ok ho)))))) ho
theorem runFnFlows01 : isTrue (evCall Tryz.prog o2FnFlows01 100000 40 4 [.s (.c .code)] ⟨.lf, 0, 0⟩) = true := by kernel_rfl

end Go.Proofs.YtpaabengkidefaaGreat
