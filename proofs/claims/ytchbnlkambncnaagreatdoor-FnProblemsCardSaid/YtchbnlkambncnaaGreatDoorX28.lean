/-
 Shared texts (X28).
-/
import Derived.Test.YtchbnlkambncnaaGreatDoorX25
import Derived.Test.YtchbnlkambncnaaGreatDoorX26
import Derived.Test.YtchbnlkambncnaaGreatDoorX27
namespace Go.Proofs.YtchbnlkambncnaaGreatDoor
open Go.RowKit Go.Joins Go.SX
set_option maxRecDepth 1000000
noncomputable def obd4:Orcs:=withK 83 [kbd2_0,kbd2_1,kbd2_2,kbd2_3,kbd2_4,kbd2_5,kbd2_6,kbd2_7,kbd2_8,kbd2_9,kbd2_10,kbd2_11,kbd2_12,kbd2_13,kbd2_14,kbd2_15,kbd2_16,kbd2_17,kbd2_18,kbd2_19,kbd2_20,kbd2_21,kbd2_22,kbd2_23] obd1
theorem obd4_ok:OkP parPd01 obd4:=withK2_ok obd1_ok obd1_ok ⟨kbd2_0_ok,kbd2_1_ok,kbd2_2_ok,kbd2_3_ok,kbd2_4_ok,kbd2_5_ok,kbd2_6_ok,kbd2_7_ok,kbd2_8_ok,kbd2_9_ok,kbd2_10_ok,kbd2_11_ok,kbd2_12_ok,kbd2_13_ok,kbd2_14_ok,kbd2_15_ok,kbd2_16_ok,kbd2_17_ok,kbd2_18_ok,kbd2_19_ok,kbd2_20_ok,kbd2_21_ok,kbd2_22_ok,kbd2_23_ok,trivial⟩
noncomputable def obd6:Orcs:=withK 115 [kbd0_0,kbd0_1,kbd0_2,kbd0_3,kbd0_4] obd4
theorem obd6_ok:OkP parPd01 obd6:=withK2_ok obd4_ok (orcDG_ok parPd01_ok) ⟨kbd0_0_ok,kbd0_1_ok,kbd0_2_ok,kbd0_3_ok,kbd0_4_ok,trivial⟩
noncomputable def obd7:Orcs:=withK 32 [kbd3_0,kbd3_1,kbd3_2,kbd3_3,kbd3_4,kbd3_5,kbd3_6,kbd3_7,kbd3_8,kbd3_9,kbd3_10,kbd3_11,kbd3_12,kbd3_13,kbd3_14,kbd3_15,kbd3_16,kbd3_17,kbd3_18,kbd3_19,kbd3_20,kbd3_21,kbd3_22,kbd3_23,kbd3_24,kbd3_25,kbd3_26,kbd3_27,kbd3_28,kbd3_29] obd6
theorem obd7_ok:OkP parPd01 obd7:=withK2_ok obd6_ok (orcDG_ok parPd01_ok) ⟨kbd3_0_ok,kbd3_1_ok,kbd3_2_ok,kbd3_3_ok,kbd3_4_ok,kbd3_5_ok,kbd3_6_ok,kbd3_7_ok,kbd3_8_ok,kbd3_9_ok,kbd3_10_ok,kbd3_11_ok,kbd3_12_ok,kbd3_13_ok,kbd3_14_ok,kbd3_15_ok,kbd3_16_ok,kbd3_17_ok,kbd3_18_ok,kbd3_19_ok,kbd3_20_ok,kbd3_21_ok,kbd3_22_ok,kbd3_23_ok,kbd3_24_ok,kbd3_25_ok,kbd3_26_ok,kbd3_27_ok,kbd3_28_ok,kbd3_29_ok,trivial⟩
noncomputable def oPr01 (l:List (Nat × Nat × Nat)):Orcs:=orcDL parPd01 csPd01 ((9,3,0) :: (10,2,1) :: l) obd7
theorem oPr01_ok {l:List (Nat × Nat × Nat)} {drw:Drw} (hd:drw.tab = tabF ((9,3,0) :: (10,2,1) :: l)):OrcOk Tryz.prog (toks (X.val (parPd01.l drw.fx)) drw) (oPr01 l):=orcDL_ok parPd01_ok csPd01 obd7_ok hd
end Go.Proofs.YtchbnlkambncnaaGreatDoor
