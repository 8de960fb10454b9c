/-
 Shared texts (X42).
-/
import Derived.Test.YtchbnlkambncnaaGreatDoorX37
import Derived.Test.YtchbnlkambncnaaGreatDoorX38
import Derived.Test.YtchbnlkambncnaaGreatDoorX39
import Derived.Test.YtchbnlkambncnaaGreatDoorX40
import Derived.Test.YtchbnlkambncnaaGreatDoorX41
namespace Go.Proofs.YtchbnlkambncnaaGreatDoor
open Go.RowKit Go.Joins Go.SX
set_option maxRecDepth 1000000
noncomputable def ogd4:Orcs:=withK 83 [kgd2_0,kgd2_1,kgd2_2,kgd2_3,kgd2_4,kgd2_5,kgd2_6,kgd2_7,kgd2_8,kgd2_9,kgd2_10,kgd2_11,kgd2_12,kgd2_13,kgd2_14,kgd2_15,kgd2_16,kgd2_17,kgd2_18,kgd2_19,kgd2_20] ogd1
theorem ogd4_ok:OkP parPd20 ogd4:=withK2_ok ogd1_ok ogd1_ok ⟨kgd2_0_ok,kgd2_1_ok,kgd2_2_ok,kgd2_3_ok,kgd2_4_ok,kgd2_5_ok,kgd2_6_ok,kgd2_7_ok,kgd2_8_ok,kgd2_9_ok,kgd2_10_ok,kgd2_11_ok,kgd2_12_ok,kgd2_13_ok,kgd2_14_ok,kgd2_15_ok,kgd2_16_ok,kgd2_17_ok,kgd2_18_ok,kgd2_19_ok,kgd2_20_ok,trivial⟩
noncomputable def ogd6:Orcs:=withK 115 [kgd0_0,kgd0_1,kgd0_2,kgd0_3] ogd4
theorem ogd6_ok:OkP parPd20 ogd6:=withK2_ok ogd4_ok (orcDG_ok parPd20_ok) ⟨kgd0_0_ok,kgd0_1_ok,kgd0_2_ok,kgd0_3_ok,trivial⟩
noncomputable def ogd7:Orcs:=withK 32 [kgd3_0,kgd3_1,kgd3_2,kgd3_3,kgd3_4,kgd3_5,kgd3_6,kgd3_7,kgd3_8,kgd3_9,kgd3_10,kgd3_11,kgd3_12,kgd3_13,kgd3_14,kgd3_15,kgd3_16,kgd3_17,kgd3_18,kgd3_19,kgd3_20,kgd3_21,kgd3_22,kgd3_23,kgd3_24,kgd3_25,kgd3_26] ogd6
theorem ogd7_ok:OkP parPd20 ogd7:=withK2_ok ogd6_ok (orcDG_ok parPd20_ok) ⟨kgd3_0_ok,kgd3_1_ok,kgd3_2_ok,kgd3_3_ok,kgd3_4_ok,kgd3_5_ok,kgd3_6_ok,kgd3_7_ok,kgd3_8_ok,kgd3_9_ok,kgd3_10_ok,kgd3_11_ok,kgd3_12_ok,kgd3_13_ok,kgd3_14_ok,kgd3_15_ok,kgd3_16_ok,kgd3_17_ok,kgd3_18_ok,kgd3_19_ok,kgd3_20_ok,kgd3_21_ok,kgd3_22_ok,kgd3_23_ok,kgd3_24_ok,kgd3_25_ok,kgd3_26_ok,trivial⟩
noncomputable def oPr20 (l:List (Nat × Nat × Nat)):Orcs:=orcDL parPd20 csPd20 ((9,3,2) :: l) ogd7
theorem oPr20_ok {l:List (Nat × Nat × Nat)} {drw:Drw} (hd:drw.tab = tabF ((9,3,2) :: l)):OrcOk Tryz.prog (toks (X.val (parPd20.l drw.fx)) drw) (oPr20 l):=orcDL_ok parPd20_ok csPd20 ogd7_ok hd
end Go.Proofs.YtchbnlkambncnaaGreatDoor
