/-
 Shared texts (X22).
-/
import Derived.Test.YtchbnlkambncnaaGreatDoorX19
import Derived.Test.YtchbnlkambncnaaGreatDoorX20
import Derived.Test.YtchbnlkambncnaaGreatDoorX21
namespace Go.Proofs.YtchbnlkambncnaaGreatDoor
open Go.RowKit Go.Joins Go.SX
set_option maxRecDepth 1000000
noncomputable def oad4:Orcs:=withK 83 [kad2_0,kad2_1,kad2_2,kad2_3,kad2_4,kad2_5,kad2_6,kad2_7,kad2_8,kad2_9,kad2_10,kad2_11,kad2_12,kad2_13,kad2_14,kad2_15,kad2_16,kad2_17,kad2_18,kad2_19,kad2_20,kad2_21,kad2_22,kad2_23] oad1
theorem oad4_ok:OkP parPd00 oad4:=withK2_ok oad1_ok oad1_ok ⟨kad2_0_ok,kad2_1_ok,kad2_2_ok,kad2_3_ok,kad2_4_ok,kad2_5_ok,kad2_6_ok,kad2_7_ok,kad2_8_ok,kad2_9_ok,kad2_10_ok,kad2_11_ok,kad2_12_ok,kad2_13_ok,kad2_14_ok,kad2_15_ok,kad2_16_ok,kad2_17_ok,kad2_18_ok,kad2_19_ok,kad2_20_ok,kad2_21_ok,kad2_22_ok,kad2_23_ok,trivial⟩
noncomputable def oad6:Orcs:=withK 115 [kad0_0,kad0_1,kad0_2,kad0_3,kad0_4] oad4
theorem oad6_ok:OkP parPd00 oad6:=withK2_ok oad4_ok (orcDG_ok parPd00_ok) ⟨kad0_0_ok,kad0_1_ok,kad0_2_ok,kad0_3_ok,kad0_4_ok,trivial⟩
noncomputable def oad7:Orcs:=withK 32 [kad3_0,kad3_1,kad3_2,kad3_3,kad3_4,kad3_5,kad3_6,kad3_7,kad3_8,kad3_9,kad3_10,kad3_11,kad3_12,kad3_13,kad3_14,kad3_15,kad3_16,kad3_17,kad3_18,kad3_19,kad3_20,kad3_21,kad3_22,kad3_23,kad3_24,kad3_25,kad3_26,kad3_27,kad3_28,kad3_29] oad6
theorem oad7_ok:OkP parPd00 oad7:=withK2_ok oad6_ok (orcDG_ok parPd00_ok) ⟨kad3_0_ok,kad3_1_ok,kad3_2_ok,kad3_3_ok,kad3_4_ok,kad3_5_ok,kad3_6_ok,kad3_7_ok,kad3_8_ok,kad3_9_ok,kad3_10_ok,kad3_11_ok,kad3_12_ok,kad3_13_ok,kad3_14_ok,kad3_15_ok,kad3_16_ok,kad3_17_ok,kad3_18_ok,kad3_19_ok,kad3_20_ok,kad3_21_ok,kad3_22_ok,kad3_23_ok,kad3_24_ok,kad3_25_ok,kad3_26_ok,kad3_27_ok,kad3_28_ok,kad3_29_ok,trivial⟩
noncomputable def oPr00 (l:List (Nat × Nat × Nat)):Orcs:=orcDL parPd00 csPd00 ((9,3,0) :: (10,2,0) :: l) oad7
theorem oPr00_ok {l:List (Nat × Nat × Nat)} {drw:Drw} (hd:drw.tab = tabF ((9,3,0) :: (10,2,0) :: l)):OrcOk Tryz.prog (toks (X.val (parPd00.l drw.fx)) drw) (oPr00 l):=orcDL_ok parPd00_ok csPd00 oad7_ok hd
end Go.Proofs.YtchbnlkambncnaaGreatDoor
