/-
 The law on FnProblems: its walk,and what it says.
-/
import Derived.Test.YtchbnlkambncnaaGreatDoorX23
import Derived.Test.YtchbnlkambncnaaGreatDoorX24
import Derived.Test.YtchbnlkambncnaaGreatDoorX29
import Derived.Test.YtchbnlkambncnaaGreatDoorX30
import Derived.Test.YtchbnlkambncnaaGreatDoorX32
import Derived.Test.YtchbnlkambncnaaGreatDoorX34
import Derived.Test.YtchbnlkambncnaaGreatDoorX36
import Derived.Test.YtchbnlkambncnaaGreatDoorX43
import Derived.Test.YtchbnlkambncnaaGreatDoorX44
import Derived.Test.YtchbnlkambncnaaGreatDoorX45
import Derived.Test.YtchbnlkambncnaaGreatDoorX46
import Derived.Test.YtchbnlkambncnaaGreatDoorX47
import Derived.Test.YtchbnlkambncnaaGreatDoorX48
import Derived.Test.YtchbnlkambncnaaGreatDoorX1
import Derived.Test.YtchbnlkambncnaaGreatDoorX49
import Derived.Test.YtchbnlkambncnaaGreatDoorTie
import Derived.Test.YtchbnlkambncnaaGreatDoorCards
import Derived.Lay
import Derived.LaidMore
import Derived.SevenTiedAt
import Derived.Stop.Joined
set_option maxRecDepth 100000
set_option maxHeartbeats 4000000
namespace Go.Proofs.YtchbnlkambncnaaGreatDoor
open Go.RowKit Go.Joins Go.SX
theorem dm2 (x:Nat):x % 2 = 0 ∨ x % 2 = 1:=by omega
theorem dm3 (x:Nat):x % 3 = 0 ∨ x % 3 = 1 ∨ x % 3 = 2:=by omega
theorem dm4 (x:Nat):x % 4 = 0 ∨ x % 4 = 1 ∨ x % 4 = 2 ∨ x % 4 = 3:=by omega
theorem dm5 (x:Nat):x % 5 = 0 ∨ x % 5 = 1 ∨ x % 5 = 2 ∨ x % 5 = 3 ∨ x % 5 = 4:=by omega
theorem dm6 (x:Nat):x % 6 = 0 ∨ x % 6 = 1 ∨ x % 6 = 2 ∨ x % 6 = 3 ∨ x % 6 = 4 ∨ x % 6 = 5:=by omega
theorem dm8 (x:Nat):x % 8 = 0 ∨ x % 8 = 1 ∨ x % 8 = 2 ∨ x % 8 = 3 ∨ x % 8 = 4 ∨ x % 8 = 5 ∨ x % 8 = 6 ∨ x % 8 = 7:=by omega
theorem leafFnProblems00 (fx:Fix):∃ l,runC oPr00 l 3 = true∧TabOk fx l:=by
 rcases dm3 (fx.byte 11) with g0 | g0 | g0
 ·exact ⟨_,rPr00_0,g0,trivial⟩
 ·rcases dm4 (fx.byte 12) with g1 | g1 | g1 | g1
  ·exact ⟨_,rPr00_1,g0,g1,trivial⟩
  ·exact ⟨_,rPr00_2,g0,g1,trivial⟩
  ·exact ⟨_,rPr00_3,g0,g1,trivial⟩
  ·exact ⟨_,rPr00_4,g0,g1,trivial⟩
 ·rcases dm4 (fx.byte 12) with g1 | g1 | g1 | g1
  ·rcases dm5 (fx.byte 13) with g2 | g2 | g2 | g2 | g2
   ·exact ⟨_,rPr00_5,g0,g1,g2,trivial⟩
   ·exact ⟨_,rPr00_6,g0,g1,g2,trivial⟩
   ·exact ⟨_,rPr00_7,g0,g1,g2,trivial⟩
   ·exact ⟨_,rPr00_8,g0,g1,g2,trivial⟩
   ·exact ⟨_,rPr00_9,g0,g1,g2,trivial⟩
  ·rcases dm5 (fx.byte 13) with g2 | g2 | g2 | g2 | g2
   ·exact ⟨_,rPr00_10,g0,g1,g2,trivial⟩
   ·exact ⟨_,rPr00_11,g0,g1,g2,trivial⟩
   ·exact ⟨_,rPr00_12,g0,g1,g2,trivial⟩
   ·exact ⟨_,rPr00_13,g0,g1,g2,trivial⟩
   ·exact ⟨_,rPr00_14,g0,g1,g2,trivial⟩
  ·rcases dm5 (fx.byte 13) with g2 | g2 | g2 | g2 | g2
   ·exact ⟨_,rPr00_15,g0,g1,g2,trivial⟩
   ·exact ⟨_,rPr00_16,g0,g1,g2,trivial⟩
   ·exact ⟨_,rPr00_17,g0,g1,g2,trivial⟩
   ·exact ⟨_,rPr00_18,g0,g1,g2,trivial⟩
   ·exact ⟨_,rPr00_19,g0,g1,g2,trivial⟩
  ·rcases dm5 (fx.byte 13) with g2 | g2 | g2 | g2 | g2
   ·exact ⟨_,rPr00_20,g0,g1,g2,trivial⟩
   ·exact ⟨_,rPr00_21,g0,g1,g2,trivial⟩
   ·exact ⟨_,rPr00_22,g0,g1,g2,trivial⟩
   ·exact ⟨_,rPr00_23,g0,g1,g2,trivial⟩
   ·exact ⟨_,rPr00_24,g0,g1,g2,trivial⟩
theorem leafFnProblems01 (fx:Fix):∃ l,runC oPr01 l 3 = true∧TabOk fx l:=by
 rcases dm3 (fx.byte 11) with g0 | g0 | g0
 ·exact ⟨_,rPr01_0,g0,trivial⟩
 ·rcases dm4 (fx.byte 12) with g1 | g1 | g1 | g1
  ·exact ⟨_,rPr01_1,g0,g1,trivial⟩
  ·exact ⟨_,rPr01_2,g0,g1,trivial⟩
  ·exact ⟨_,rPr01_3,g0,g1,trivial⟩
  ·exact ⟨_,rPr01_4,g0,g1,trivial⟩
 ·rcases dm4 (fx.byte 12) with g1 | g1 | g1 | g1
  ·rcases dm5 (fx.byte 13) with g2 | g2 | g2 | g2 | g2
   ·exact ⟨_,rPr01_5,g0,g1,g2,trivial⟩
   ·exact ⟨_,rPr01_6,g0,g1,g2,trivial⟩
   ·exact ⟨_,rPr01_7,g0,g1,g2,trivial⟩
   ·exact ⟨_,rPr01_8,g0,g1,g2,trivial⟩
   ·exact ⟨_,rPr01_9,g0,g1,g2,trivial⟩
  ·rcases dm5 (fx.byte 13) with g2 | g2 | g2 | g2 | g2
   ·exact ⟨_,rPr01_10,g0,g1,g2,trivial⟩
   ·exact ⟨_,rPr01_11,g0,g1,g2,trivial⟩
   ·exact ⟨_,rPr01_12,g0,g1,g2,trivial⟩
   ·exact ⟨_,rPr01_13,g0,g1,g2,trivial⟩
   ·exact ⟨_,rPr01_14,g0,g1,g2,trivial⟩
  ·rcases dm5 (fx.byte 13) with g2 | g2 | g2 | g2 | g2
   ·exact ⟨_,rPr01_15,g0,g1,g2,trivial⟩
   ·exact ⟨_,rPr01_16,g0,g1,g2,trivial⟩
   ·exact ⟨_,rPr01_17,g0,g1,g2,trivial⟩
   ·exact ⟨_,rPr01_18,g0,g1,g2,trivial⟩
   ·exact ⟨_,rPr01_19,g0,g1,g2,trivial⟩
  ·rcases dm5 (fx.byte 13) with g2 | g2 | g2 | g2 | g2
   ·exact ⟨_,rPr01_20,g0,g1,g2,trivial⟩
   ·exact ⟨_,rPr01_21,g0,g1,g2,trivial⟩
   ·exact ⟨_,rPr01_22,g0,g1,g2,trivial⟩
   ·exact ⟨_,rPr01_23,g0,g1,g2,trivial⟩
   ·exact ⟨_,rPr01_24,g0,g1,g2,trivial⟩
theorem leafFnProblems10 (fx:Fix):∃ l,runC oPr10 l 3 = true∧TabOk fx l:=by
 rcases dm3 (fx.byte 11) with g0 | g0 | g0
 ·exact ⟨_,rPr10_0,g0,trivial⟩
 ·rcases dm2 (fx.byte 12) with g1 | g1
  ·exact ⟨_,rPr10_1,g0,g1,trivial⟩
  ·exact ⟨_,rPr10_2,g0,g1,trivial⟩
 ·rcases dm2 (fx.byte 12) with g1 | g1
  ·rcases dm4 (fx.byte 13) with g2 | g2 | g2 | g2
   ·exact ⟨_,rPr10_3,g0,g1,g2,trivial⟩
   ·exact ⟨_,rPr10_4,g0,g1,g2,trivial⟩
   ·exact ⟨_,rPr10_5,g0,g1,g2,trivial⟩
   ·exact ⟨_,rPr10_6,g0,g1,g2,trivial⟩
  ·rcases dm4 (fx.byte 13) with g2 | g2 | g2 | g2
   ·exact ⟨_,rPr10_7,g0,g1,g2,trivial⟩
   ·exact ⟨_,rPr10_8,g0,g1,g2,trivial⟩
   ·exact ⟨_,rPr10_9,g0,g1,g2,trivial⟩
   ·exact ⟨_,rPr10_10,g0,g1,g2,trivial⟩
theorem leafFnProblems11 (fx:Fix):∃ l,runC oPr11 l 3 = true∧TabOk fx l:=by
 rcases dm3 (fx.byte 11) with g0 | g0 | g0
 ·exact ⟨_,rPr11_0,g0,trivial⟩
 ·rcases dm2 (fx.byte 12) with g1 | g1
  ·exact ⟨_,rPr11_1,g0,g1,trivial⟩
  ·exact ⟨_,rPr11_2,g0,g1,trivial⟩
 ·rcases dm2 (fx.byte 12) with g1 | g1
  ·rcases dm4 (fx.byte 13) with g2 | g2 | g2 | g2
   ·exact ⟨_,rPr11_3,g0,g1,g2,trivial⟩
   ·exact ⟨_,rPr11_4,g0,g1,g2,trivial⟩
   ·exact ⟨_,rPr11_5,g0,g1,g2,trivial⟩
   ·exact ⟨_,rPr11_6,g0,g1,g2,trivial⟩
  ·rcases dm4 (fx.byte 13) with g2 | g2 | g2 | g2
   ·exact ⟨_,rPr11_7,g0,g1,g2,trivial⟩
   ·exact ⟨_,rPr11_8,g0,g1,g2,trivial⟩
   ·exact ⟨_,rPr11_9,g0,g1,g2,trivial⟩
   ·exact ⟨_,rPr11_10,g0,g1,g2,trivial⟩
theorem leafFnProblems12 (fx:Fix):∃ l,runC oPr12 l 3 = true∧TabOk fx l:=by
 rcases dm3 (fx.byte 11) with g0 | g0 | g0
 ·exact ⟨_,rPr12_0,g0,trivial⟩
 ·rcases dm2 (fx.byte 12) with g1 | g1
  ·exact ⟨_,rPr12_1,g0,g1,trivial⟩
  ·exact ⟨_,rPr12_2,g0,g1,trivial⟩
 ·rcases dm2 (fx.byte 12) with g1 | g1
  ·rcases dm4 (fx.byte 13) with g2 | g2 | g2 | g2
   ·exact ⟨_,rPr12_3,g0,g1,g2,trivial⟩
   ·exact ⟨_,rPr12_4,g0,g1,g2,trivial⟩
   ·exact ⟨_,rPr12_5,g0,g1,g2,trivial⟩
   ·exact ⟨_,rPr12_6,g0,g1,g2,trivial⟩
  ·rcases dm4 (fx.byte 13) with g2 | g2 | g2 | g2
   ·exact ⟨_,rPr12_7,g0,g1,g2,trivial⟩
   ·exact ⟨_,rPr12_8,g0,g1,g2,trivial⟩
   ·exact ⟨_,rPr12_9,g0,g1,g2,trivial⟩
   ·exact ⟨_,rPr12_10,g0,g1,g2,trivial⟩
theorem leafFnProblems20 (fx:Fix):∃ l,runC oPr20 l 3 = true∧TabOk fx l:=by
 rcases dm3 (fx.byte 10) with g0 | g0 | g0
 ·exact ⟨_,rPr20_0,g0,trivial⟩
 ·rcases dm6 (fx.byte 11) with g1 | g1 | g1 | g1 | g1 | g1
  ·exact ⟨_,rPr20_1,g0,g1,trivial⟩
  ·exact ⟨_,rPr20_2,g0,g1,trivial⟩
  ·exact ⟨_,rPr20_3,g0,g1,trivial⟩
  ·exact ⟨_,rPr20_4,g0,g1,trivial⟩
  ·exact ⟨_,rPr20_5,g0,g1,trivial⟩
  ·exact ⟨_,rPr20_6,g0,g1,trivial⟩
 ·rcases dm6 (fx.byte 11) with g1 | g1 | g1 | g1 | g1 | g1
  ·rcases dm8 (fx.byte 12) with g2 | g2 | g2 | g2 | g2 | g2 | g2 | g2
   ·exact ⟨_,rPr20_7,g0,g1,g2,trivial⟩
   ·exact ⟨_,rPr20_8,g0,g1,g2,trivial⟩
   ·exact ⟨_,rPr20_9,g0,g1,g2,trivial⟩
   ·exact ⟨_,rPr20_10,g0,g1,g2,trivial⟩
   ·exact ⟨_,rPr20_11,g0,g1,g2,trivial⟩
   ·exact ⟨_,rPr20_12,g0,g1,g2,trivial⟩
   ·exact ⟨_,rPr20_13,g0,g1,g2,trivial⟩
   ·exact ⟨_,rPr20_14,g0,g1,g2,trivial⟩
  ·rcases dm8 (fx.byte 12) with g2 | g2 | g2 | g2 | g2 | g2 | g2 | g2
   ·exact ⟨_,rPr20_15,g0,g1,g2,trivial⟩
   ·exact ⟨_,rPr20_16,g0,g1,g2,trivial⟩
   ·exact ⟨_,rPr20_17,g0,g1,g2,trivial⟩
   ·exact ⟨_,rPr20_18,g0,g1,g2,trivial⟩
   ·exact ⟨_,rPr20_19,g0,g1,g2,trivial⟩
   ·exact ⟨_,rPr20_20,g0,g1,g2,trivial⟩
   ·exact ⟨_,rPr20_21,g0,g1,g2,trivial⟩
   ·exact ⟨_,rPr20_22,g0,g1,g2,trivial⟩
  ·rcases dm8 (fx.byte 12) with g2 | g2 | g2 | g2 | g2 | g2 | g2 | g2
   ·exact ⟨_,rPr20_23,g0,g1,g2,trivial⟩
   ·exact ⟨_,rPr20_24,g0,g1,g2,trivial⟩
   ·exact ⟨_,rPr20_25,g0,g1,g2,trivial⟩
   ·exact ⟨_,rPr20_26,g0,g1,g2,trivial⟩
   ·exact ⟨_,rPr20_27,g0,g1,g2,trivial⟩
   ·exact ⟨_,rPr20_28,g0,g1,g2,trivial⟩
   ·exact ⟨_,rPr20_29,g0,g1,g2,trivial⟩
   ·exact ⟨_,rPr20_30,g0,g1,g2,trivial⟩
  ·rcases dm8 (fx.byte 12) with g2 | g2 | g2 | g2 | g2 | g2 | g2 | g2
   ·exact ⟨_,rPr20_31,g0,g1,g2,trivial⟩
   ·exact ⟨_,rPr20_32,g0,g1,g2,trivial⟩
   ·exact ⟨_,rPr20_33,g0,g1,g2,trivial⟩
   ·exact ⟨_,rPr20_34,g0,g1,g2,trivial⟩
   ·exact ⟨_,rPr20_35,g0,g1,g2,trivial⟩
   ·exact ⟨_,rPr20_36,g0,g1,g2,trivial⟩
   ·exact ⟨_,rPr20_37,g0,g1,g2,trivial⟩
   ·exact ⟨_,rPr20_38,g0,g1,g2,trivial⟩
  ·rcases dm8 (fx.byte 12) with g2 | g2 | g2 | g2 | g2 | g2 | g2 | g2
   ·exact ⟨_,rPr20_39,g0,g1,g2,trivial⟩
   ·exact ⟨_,rPr20_40,g0,g1,g2,trivial⟩
   ·exact ⟨_,rPr20_41,g0,g1,g2,trivial⟩
   ·exact ⟨_,rPr20_42,g0,g1,g2,trivial⟩
   ·exact ⟨_,rPr20_43,g0,g1,g2,trivial⟩
   ·exact ⟨_,rPr20_44,g0,g1,g2,trivial⟩
   ·exact ⟨_,rPr20_45,g0,g1,g2,trivial⟩
   ·exact ⟨_,rPr20_46,g0,g1,g2,trivial⟩
  ·rcases dm8 (fx.byte 12) with g2 | g2 | g2 | g2 | g2 | g2 | g2 | g2
   ·exact ⟨_,rPr20_47,g0,g1,g2,trivial⟩
   ·exact ⟨_,rPr20_48,g0,g1,g2,trivial⟩
   ·exact ⟨_,rPr20_49,g0,g1,g2,trivial⟩
   ·exact ⟨_,rPr20_50,g0,g1,g2,trivial⟩
   ·exact ⟨_,rPr20_51,g0,g1,g2,trivial⟩
   ·exact ⟨_,rPr20_52,g0,g1,g2,trivial⟩
   ·exact ⟨_,rPr20_53,g0,g1,g2,trivial⟩
   ·exact ⟨_,rPr20_54,g0,g1,g2,trivial⟩
theorem fnProblems (n c:Nat) (A:Option Addr) (w:World) (hA:BI w A n) :
 Calls Tryz.prog 3 #[.slice A n c] w fun e w'=>e = .returned (.bool true)∧Below w.heap.size w w':=by
 by_cases hn:n ≤ 1048576
 case neg =>
  have hgt:(1048576:Int) < (n:Int):=by omega
  go_enter Tryz.func3,Tryz.ntmps3
  go_wp2
  go_ret
  exact ⟨rfl,Below.refl _ _⟩
 obtain ⟨y,hy,hb⟩:=be_of_bi hA
 obtain ⟨b0,e0⟩:∃ b0,(fixOf A n c y).byte 9 = b0:=⟨_,rfl⟩
 obtain ⟨b1,e1⟩:∃ b1,(fixOf A n c y).byte 10 = b1:=⟨_,rfl⟩
 have h:(b0 % 3 = 0∧b1 % 2 = 0) ∨ (b0 % 3 = 0∧b1 % 2 = 1) ∨ (b0 % 3 = 1∧b1 % 3 = 0) ∨ (b0 % 3 = 1∧b1 % 3 = 1) ∨ (b0 % 3 = 1∧b1 % 3 = 2) ∨ (b0 % 3 = 2∧b1 % 1 = 0):=by omega
 rw [← e0,← e1] at h
 rcases h with ⟨g0,g1⟩ | ⟨g0,g1⟩ | ⟨g0,g1⟩ | ⟨g0,g1⟩ | ⟨g0,g1⟩ | ⟨g0,_⟩
 ·obtain ⟨l0,hr0,ht0⟩:=leafFnProblems00 (fixOf A n c y)
  obtain ⟨l,hr,ht⟩:=runC_ex hr0 _ ht0
  exact sx_run2 (p:=parPd00) n c A y w (oPr00_ok (drw:=⟨tabF ((9,3,0) :: (10,2,0) :: l),fixOf A n c y⟩) rfl) hr hn hy hb (tabOk_all (l:=(9,3,0) :: (10,2,0) :: l) ⟨g0,g1,ht⟩)
 ·obtain ⟨l0,hr0,ht0⟩:=leafFnProblems01 (fixOf A n c y)
  obtain ⟨l,hr,ht⟩:=runC_ex hr0 _ ht0
  exact sx_run2 (p:=parPd01) n c A y w (oPr01_ok (drw:=⟨tabF ((9,3,0) :: (10,2,1) :: l),fixOf A n c y⟩) rfl) hr hn hy hb (tabOk_all (l:=(9,3,0) :: (10,2,1) :: l) ⟨g0,g1,ht⟩)
 ·obtain ⟨l0,hr0,ht0⟩:=leafFnProblems10 (fixOf A n c y)
  obtain ⟨l,hr,ht⟩:=runC_ex hr0 _ ht0
  exact sx_run2 (p:=parPd10) n c A y w (oPr10_ok (drw:=⟨tabF ((9,3,1) :: (10,3,0) :: l),fixOf A n c y⟩) rfl) hr hn hy hb (tabOk_all (l:=(9,3,1) :: (10,3,0) :: l) ⟨g0,g1,ht⟩)
 ·obtain ⟨l0,hr0,ht0⟩:=leafFnProblems11 (fixOf A n c y)
  obtain ⟨l,hr,ht⟩:=runC_ex hr0 _ ht0
  exact sx_run2 (p:=parPd11) n c A y w (oPr11_ok (drw:=⟨tabF ((9,3,1) :: (10,3,1) :: l),fixOf A n c y⟩) rfl) hr hn hy hb (tabOk_all (l:=(9,3,1) :: (10,3,1) :: l) ⟨g0,g1,ht⟩)
 ·obtain ⟨l0,hr0,ht0⟩:=leafFnProblems12 (fixOf A n c y)
  obtain ⟨l,hr,ht⟩:=runC_ex hr0 _ ht0
  exact sx_run2 (p:=parPd12) n c A y w (oPr12_ok (drw:=⟨tabF ((9,3,1) :: (10,3,2) :: l),fixOf A n c y⟩) rfl) hr hn hy hb (tabOk_all (l:=(9,3,1) :: (10,3,2) :: l) ⟨g0,g1,ht⟩)
 ·obtain ⟨l0,hr0,ht0⟩:=leafFnProblems20 (fixOf A n c y)
  obtain ⟨l,hr,ht⟩:=runC_ex hr0 _ ht0
  exact sx_run2 (p:=parPd20) n c A y w (oPr20_ok (drw:=⟨tabF ((9,3,2) :: l),fixOf A n c y⟩) rfl) hr hn hy hb (tabOk_all (l:=(9,3,2) :: l) ⟨g0,ht⟩)
open Go.ChangeShapes Go.WideShapes Go.ChangeAt Go.WideElems Go.Deep
theorem own:ownKnob Tryz.prog.godebug = none:=by kernel_rfl
theorem laid:laidOutB Tryz.prog = true:=by kernel_rfl
theorem fnProblems_met (os:Os) (args:Array Value):laidMetH Tryz.prog Rows.fnProblemsRow.laid ((World.laidAll Tryz.prog os Rows.fnProblemsRow.laid).forCall (fun _ _=>0) ⟨#[],args,[]⟩).memory:=by
 rw [MakeChecks.laidMetH_plain _ _ _ (by kernel_rfl)]
 exact laidMet_laidAll _ (by kernel_rfl) (by kernel_rfl)
theorem fnProblems_lifted (os:Os) (started:os.Started) (H:Type) (enc:TypeId × Value → H) :
 ReturnsInHanded {} Tryz.checked os 3 .any (fun w args=>(Rows.fnProblemsSpec.pre enc Tryz.prog Tryz.f3 Rows.fnProblemsRow.domain false w args∧laidMetH Tryz.prog Rows.fnProblemsRow.laid w)∧sizedMet enc Tryz.prog Tryz.f3 (OpenSpec.ofChange Rows.fnProblemsSpec) false w args)
  (Rows.fnProblemsSpec.post enc Tryz.prog Tryz.f3 false true false false):=by
 refine returnsInHanded_of_change_and (C:=Tryz.checked) (X:=fun w _=>laidMetH Tryz.prog Rows.fnProblemsRow.laid w) (fun _ _ _ hh h=>h.of_heap hh) own started (by kernel_rfl) Tryz.func3
  (ChangeSpec.witness_shaped (enc:=enc) (C:=Tryz.checked) (os:=os) (X:=fun w _=>laidMetH Tryz.prog Rows.fnProblemsRow.laid w) false (World.laidAll Tryz.prog os Rows.fnProblemsRow.laid) #[.slice none 0 0] 8 (World.laidAll_os _ _ _)
   (World.shaped_of_ZipB (by kernel_rfl) (by kernel_rfl)) (by kernel_rfl) (by kernel_rfl) (by kernel_rfl)
   (fnProblems_met os _)) ?_
 intro W base args ds gs before hval0 hW _ _ _ _
 have hval:∀ (j:Nat) t v,Tryz.f3.params[j]? = some t → args[j]? = some v → Value.okWide Tryz.prog W .any base t v:=hval0
 have hW':=hW
 obtain ⟨p,q,hA0,hV,_,_,_⟩:=hW
 have hA:DataW.TrodAll enc Tryz.prog W 0 (fun _=>true) true Tryz.f3.params.toList args.toList ds p:=hA0
 rw [Tryz.params3] at hA hval
 obtain ⟨v0,d0,rfl,rfl,h0⟩:=trodAll_one hA
 obtain ⟨A0,n0,c0,rfl,_,k0⟩:=openBytes (okWide_slice Tryz.underlying22 (hval 0 _ v0 rfl rfl)) h0
 refine (fnProblems n0 c0 A0 W k0).mono fun r W' ⟨hr,hb⟩=>?_
 subst hr
 exact ⟨_,rfl,law_post laid rfl (by kernel_rfl) hb rfl Tryz.underlying4 rfl hW'⟩
theorem fac1:(Rows.fnProblemsRow.inPlace == Tryz.prog.inPlace 3) = true:=by kernel_rfl
theorem fac2:(Rows.fnProblemsRow.unfollowed == Tryz.prog.unfollowed 3) = true:=by kernel_rfl
theorem fac3:(Rows.fnProblemsRow.recurses == Tryz.prog.recurses 3) = true:=by kernel_rfl
theorem fac4:(Rows.fnProblemsRow.named == Tryz.prog.varsNamed 3) = true:=by kernel_rfl
theorem facts:joinedFacts Tryz.prog 3 Tryz.f3 Rows.fnProblemsSpec Rows.fnProblemsRow = true:=by
 unfold joinedFacts
 rw [fac1,fac2,fac3,fac4]
 kernel_rfl
theorem fnProblems_row:Rows.FnProblemsSaid :=
 OpenClaim.holds_of_wide 3 Tryz.f3 rfl rfl rfl rfl rfl rfl rfl ⟨rfl,rfl,rfl,rfl,rfl⟩ rfl rfl rfl rfl rfl (by kernel_rfl) Tryz.func3 facts
  (of_decide_eq_true (by kernel_rfl)) (by unfold Func.isWrapper;rw [if_neg (by decide +kernel)];exact ⟨rfl,rfl⟩)
  (fun os started H enc _=>fnProblems_lifted os started H enc)
theorem fnProblems_holds:Rows.FnProblemsCardSaid :=
 Claim7.holds_tied_plain_at .later [] [.data,.data,.data,.data,.sentinel,.sentinel,.pinned] true (true,"27c03a92dd5a47e8b797d5e9db459990ab11a1774ed7638d11359cbcb4d71da5") true
  fnProblems_row (fun _ h=>by cases h) (by kernel_rfl) (fun _ h=>by cases h) fnProblems_row_tie rfl ⟨rfl,rfl⟩ (by kernel_rfl) rfl
  (fun f fn hf hfn=>by
   obtain rfl:f = 3:=Option.some.inj ((show Tryz.prog.funcNamed "loop.example/g00812/laws.FnProblems" = some 3 by kernel_rfl).symm.trans hf) |>.symm
   obtain rfl:fn = Tryz.f3:=(Option.some.inj (Tryz.func3.symm.trans hfn)).symm
   exact ⟨by kernel_rfl,fun j t ht=>by
    rw [Tryz.params3] at ht
    have hm:t ∈ [22]:=by simpa using Array.mem_of_getElem? ht
    have hall:([22].all fun u=>!Tryz.prog.wantsStandIn u) = true:=by kernel_rfl
    exact (show Tryz.prog.wantsStandIn t = false by simpa using List.all_eq_true.1 hall t hm)⟩)
  (by kernel_rfl)
#print axioms fnProblems_holds
end Go.Proofs.YtchbnlkambncnaaGreatDoor
