/-
  Shared texts (Y20).
-/
import Derived.Test.YtpaabengkidefaaGreatY15
namespace Go.Proofs.YtpaabengkidefaaGreat
open Go.RowKit Go.Joins Go.SX
set_option maxRecDepth 1000000

noncomputable def parFnFlows12 : Par := ⟨[.k 0, .f 2, .k 3, .f 5, .k 6, .f 8], [⟨[(0, 1)], [(1, 1)], 5, true⟩, ⟨[(0, 1)], [(65536, 1)], 5, true⟩, ⟨[(0, 1)], [(16777216, 2), (268435456, 5)], 13, true⟩, ⟨[(0, 1)], [(16777216, 1)], 6, true⟩, ⟨[(0, 1)], [(16777216, 2), (268435456, 1)], 12, true⟩, ⟨[(0, 1)], [(268435456, 1)], 6, true⟩]⟩
theorem parFnFlows12_ok : parFnFlows12.ok = true := by kernel_rfl
noncomputable def baseFnFlows12 : Orcs := orcB parFnFlows12 [(9, 3, 1), (10, 3, 2)]
noncomputable def meshFnFlows12_0 : Cells := [(0, ptsC 0 [(0, 1), (0, 1), (2, 1), (0, 1), (2, 1), (1, 1), (0, 1), (2, 1)]), (1, intsC [1, 2, 0, 0, 0, 3, 0, 2, 2, 0])]
noncomputable def kFnFlows12_0_0_0 : Mk := ⟨meshFnFlows12_0, 4, 2, [], .s (.c (.bool true)), []⟩
theorem kFnFlows12_0_0_0_ok : kFnFlows12_0_0_0.ok baseFnFlows12 58 = true := by kernel_rfl
noncomputable def o0FnFlows12 : Orcs := withM 58 (kFnFlows12_0_0_0.orc) baseFnFlows12
theorem o0FnFlows12_ok {drw : Drw} (hd : drw.tab = tabF [(9, 3, 1), (10, 3, 2)]) : OrcOk Tryz.prog (toks (X.val (parFnFlows12.l drw.fx)) drw) o0FnFlows12 := by
  have ho := (orcB_ok parFnFlows12_ok) hd
  exact with_ok (mk_ok kFnFlows12_0_0_0_ok (call_ok ho)) ho
noncomputable def kFnFlows12_1_0_0 : Mk := ⟨meshFnFlows12_0, 4, 2, [], .s (.c (.sl 75 0 5 4)), [(75, intsC [0, 1, 0, -1, 0, 2, 1, 0, 0, 3, -1, 1, 1, 2, 0, -1, 2, 3, 1, -1])]⟩
theorem kFnFlows12_1_0_0_ok : kFnFlows12_1_0_0.ok o0FnFlows12 138 = true := by kernel_rfl
noncomputable def o1FnFlows12 : Orcs := withM 138 (kFnFlows12_1_0_0.orc) o0FnFlows12
theorem o1FnFlows12_ok {drw : Drw} (hd : drw.tab = tabF [(9, 3, 1), (10, 3, 2)]) : OrcOk Tryz.prog (toks (X.val (parFnFlows12.l drw.fx)) drw) o1FnFlows12 := by
  have ho := o0FnFlows12_ok hd
  exact with_ok (mk_ok kFnFlows12_1_0_0_ok (call_ok ho)) ho
noncomputable def kFnFlows12_2_0_0 : Mk := ⟨meshFnFlows12_0, 4, 2, [.s (.c (.int 0))], .s (.c (.sl 239 0 1 3)), [(239, [.sl 173 0 2 1, .sl 237 0 3 1, .bool false]), (173, intsC [0, 1]), (237, intsC [0, 1, 2])]⟩
theorem kFnFlows12_2_0_0_ok : kFnFlows12_2_0_0.ok o1FnFlows12 61 = true := by kernel_rfl
noncomputable def kFnFlows12_2_0_1 : Mk := ⟨meshFnFlows12_0, 4, 2, [.s (.c (.int 1))], .s (.c (.sl 117 0 1 3)), [(117, [.sl 79 0 1 1, .sl 115 0 2 1, .bool false]), (79, intsC [0]), (115, intsC [3, 0])]⟩
theorem kFnFlows12_2_0_1_ok : kFnFlows12_2_0_1.ok o1FnFlows12 61 = true := by kernel_rfl
noncomputable def kFnFlows12_2_0_2 : Mk := ⟨meshFnFlows12_0, 4, 2, [.s (.c (.int 2))], .s (.c (.sl 249 0 1 3)), [(249, [.sl 180 0 2 1, .sl 247 0 3 1, .bool false]), (180, intsC [1, 0]), (247, intsC [4, 1, 3])]⟩
theorem kFnFlows12_2_0_2_ok : kFnFlows12_2_0_2.ok o1FnFlows12 61 = true := by kernel_rfl
noncomputable def kFnFlows12_2_0_3 : Mk := ⟨meshFnFlows12_0, 4, 2, [.s (.c (.int 3))], .s (.c (.sl 108 0 1 3)), [(108, [.sl 73 0 1 1, .sl 106 0 2 1, .bool false]), (73, intsC [1]), (106, intsC [2, 4])]⟩
theorem kFnFlows12_2_0_3_ok : kFnFlows12_2_0_3.ok o1FnFlows12 61 = true := by kernel_rfl
noncomputable def o2FnFlows12 : Orcs := withM 61 (altM kFnFlows12_2_0_0.orc (altM kFnFlows12_2_0_1.orc (altM kFnFlows12_2_0_2.orc (kFnFlows12_2_0_3.orc)))) o1FnFlows12
theorem o2FnFlows12_ok {drw : Drw} (hd : drw.tab = tabF [(9, 3, 1), (10, 3, 2)]) : OrcOk Tryz.prog (toks (X.val (parFnFlows12.l drw.fx)) drw) o2FnFlows12 := by
  have ho := o1FnFlows12_ok hd
  exact with_ok (alt_ok (mk_ok kFnFlows12_2_0_0_ok (call_ok ho)) (alt_ok (mk_ok kFnFlows12_2_0_1_ok (call_ok ho)) (alt_ok (mk_ok kFnFlows12_2_0_2_ok (call_ok ho)) (mk_ok kFnFlows12_2_0_3_ok (call_ok ho))))) ho
theorem runFnFlows12 : isTrue (evCall Tryz.prog o2FnFlows12 100000 40 4 [.s (.c .code)] ⟨.lf, 0, 0⟩) = true := by kernel_rfl

end Go.Proofs.YtpaabengkidefaaGreat
