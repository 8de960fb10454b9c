/-
 The law on FnSolutions: its walk,and what it says.
-/
import Derived.Test.YtcblajhfehadaaaGreatV40
import Derived.Test.YtcblajhfehadaaaGreatV41
import Derived.Test.YtcblajhfehadaaaGreatV43
import Derived.Test.YtcblajhfehadaaaGreatV44
import Derived.Test.YtcblajhfehadaaaGreatV45
import Derived.Test.YtcblajhfehadaaaGreatV46
import Derived.Test.YtcblajhfehadaaaGreatV47
import Derived.Test.YtcblajhfehadaaaGreatV49
import Derived.Test.YtcblajhfehadaaaGreatV50
import Derived.Test.YtcblajhfehadaaaGreatV51
import Derived.Test.YtcblajhfehadaaaGreatV52
import Derived.Test.YtcblajhfehadaaaGreatQ1
import Derived.Test.YtcblajhfehadaaaGreatV53
set_option maxRecDepth 100000
set_option maxHeartbeats 4000000
namespace Go.Proofs.YtcblajhfehadaaaGreat
open Go.RowKit Go.Joins Go.SX
theorem dm2 (x:Nat):x % 2 = 0 ∨ x % 2 = 1:=by omega
theorem dm3 (x:Nat):x % 3 = 0 ∨ x % 3 = 1 ∨ x % 3 = 2:=by omega
theorem dm4 (x:Nat):x % 4 = 0 ∨ x % 4 = 1 ∨ x % 4 = 2 ∨ x % 4 = 3:=by omega
theorem dm5 (x:Nat):x % 5 = 0 ∨ x % 5 = 1 ∨ x % 5 = 2 ∨ x % 5 = 3 ∨ x % 5 = 4:=by omega
theorem dm6 (x:Nat):x % 6 = 0 ∨ x % 6 = 1 ∨ x % 6 = 2 ∨ x % 6 = 3 ∨ x % 6 = 4 ∨ x % 6 = 5:=by omega
theorem dm8 (x:Nat):x % 8 = 0 ∨ x % 8 = 1 ∨ x % 8 = 2 ∨ x % 8 = 3 ∨ x % 8 = 4 ∨ x % 8 = 5 ∨ x % 8 = 6 ∨ x % 8 = 7:=by omega
theorem leafFnSolutions00 (fx:Fix) (h0:fx.byte 9 % 3 = 0) (h1:fx.byte 10 % 2 = 0):∃ l,runB (oSo00 l) 10 = true∧TabOk fx ((9,3,0) :: (10,2,0) :: l):=by
 rcases dm3 (fx.byte 11) with g0 | g0 | g0
 ·exact ⟨_,rSo00_0,h0,h1,g0,trivial⟩
 ·rcases dm4 (fx.byte 12) with g1 | g1 | g1 | g1
  ·exact ⟨_,rSo00_1,h0,h1,g0,g1,trivial⟩
  ·exact ⟨_,rSo00_2,h0,h1,g0,g1,trivial⟩
  ·exact ⟨_,rSo00_3,h0,h1,g0,g1,trivial⟩
  ·exact ⟨_,rSo00_4,h0,h1,g0,g1,trivial⟩
 ·rcases dm4 (fx.byte 12) with g1 | g1 | g1 | g1
  ·rcases dm5 (fx.byte 13) with g2 | g2 | g2 | g2 | g2
   ·exact ⟨_,rSo00_5,h0,h1,g0,g1,g2,trivial⟩
   ·exact ⟨_,rSo00_6,h0,h1,g0,g1,g2,trivial⟩
   ·exact ⟨_,rSo00_7,h0,h1,g0,g1,g2,trivial⟩
   ·exact ⟨_,rSo00_8,h0,h1,g0,g1,g2,trivial⟩
   ·exact ⟨_,rSo00_9,h0,h1,g0,g1,g2,trivial⟩
  ·rcases dm5 (fx.byte 13) with g2 | g2 | g2 | g2 | g2
   ·exact ⟨_,rSo00_10,h0,h1,g0,g1,g2,trivial⟩
   ·exact ⟨_,rSo00_11,h0,h1,g0,g1,g2,trivial⟩
   ·exact ⟨_,rSo00_12,h0,h1,g0,g1,g2,trivial⟩
   ·exact ⟨_,rSo00_13,h0,h1,g0,g1,g2,trivial⟩
   ·exact ⟨_,rSo00_14,h0,h1,g0,g1,g2,trivial⟩
  ·rcases dm5 (fx.byte 13) with g2 | g2 | g2 | g2 | g2
   ·exact ⟨_,rSo00_15,h0,h1,g0,g1,g2,trivial⟩
   ·exact ⟨_,rSo00_16,h0,h1,g0,g1,g2,trivial⟩
   ·exact ⟨_,rSo00_17,h0,h1,g0,g1,g2,trivial⟩
   ·exact ⟨_,rSo00_18,h0,h1,g0,g1,g2,trivial⟩
   ·exact ⟨_,rSo00_19,h0,h1,g0,g1,g2,trivial⟩
  ·rcases dm5 (fx.byte 13) with g2 | g2 | g2 | g2 | g2
   ·exact ⟨_,rSo00_20,h0,h1,g0,g1,g2,trivial⟩
   ·exact ⟨_,rSo00_21,h0,h1,g0,g1,g2,trivial⟩
   ·exact ⟨_,rSo00_22,h0,h1,g0,g1,g2,trivial⟩
   ·exact ⟨_,rSo00_23,h0,h1,g0,g1,g2,trivial⟩
   ·exact ⟨_,rSo00_24,h0,h1,g0,g1,g2,trivial⟩
theorem leafFnSolutions01 (fx:Fix) (h0:fx.byte 9 % 3 = 0) (h1:fx.byte 10 % 2 = 1):∃ l,runB (oSo01 l) 10 = true∧TabOk fx ((9,3,0) :: (10,2,1) :: l):=by
 rcases dm3 (fx.byte 11) with g0 | g0 | g0
 ·exact ⟨_,rSo01_0,h0,h1,g0,trivial⟩
 ·rcases dm4 (fx.byte 12) with g1 | g1 | g1 | g1
  ·exact ⟨_,rSo01_1,h0,h1,g0,g1,trivial⟩
  ·exact ⟨_,rSo01_2,h0,h1,g0,g1,trivial⟩
  ·exact ⟨_,rSo01_3,h0,h1,g0,g1,trivial⟩
  ·exact ⟨_,rSo01_4,h0,h1,g0,g1,trivial⟩
 ·rcases dm4 (fx.byte 12) with g1 | g1 | g1 | g1
  ·rcases dm5 (fx.byte 13) with g2 | g2 | g2 | g2 | g2
   ·exact ⟨_,rSo01_5,h0,h1,g0,g1,g2,trivial⟩
   ·exact ⟨_,rSo01_6,h0,h1,g0,g1,g2,trivial⟩
   ·exact ⟨_,rSo01_7,h0,h1,g0,g1,g2,trivial⟩
   ·exact ⟨_,rSo01_8,h0,h1,g0,g1,g2,trivial⟩
   ·exact ⟨_,rSo01_9,h0,h1,g0,g1,g2,trivial⟩
  ·rcases dm5 (fx.byte 13) with g2 | g2 | g2 | g2 | g2
   ·exact ⟨_,rSo01_10,h0,h1,g0,g1,g2,trivial⟩
   ·exact ⟨_,rSo01_11,h0,h1,g0,g1,g2,trivial⟩
   ·exact ⟨_,rSo01_12,h0,h1,g0,g1,g2,trivial⟩
   ·exact ⟨_,rSo01_13,h0,h1,g0,g1,g2,trivial⟩
   ·exact ⟨_,rSo01_14,h0,h1,g0,g1,g2,trivial⟩
  ·rcases dm5 (fx.byte 13) with g2 | g2 | g2 | g2 | g2
   ·exact ⟨_,rSo01_15,h0,h1,g0,g1,g2,trivial⟩
   ·exact ⟨_,rSo01_16,h0,h1,g0,g1,g2,trivial⟩
   ·exact ⟨_,rSo01_17,h0,h1,g0,g1,g2,trivial⟩
   ·exact ⟨_,rSo01_18,h0,h1,g0,g1,g2,trivial⟩
   ·exact ⟨_,rSo01_19,h0,h1,g0,g1,g2,trivial⟩
  ·rcases dm5 (fx.byte 13) with g2 | g2 | g2 | g2 | g2
   ·exact ⟨_,rSo01_20,h0,h1,g0,g1,g2,trivial⟩
   ·exact ⟨_,rSo01_21,h0,h1,g0,g1,g2,trivial⟩
   ·exact ⟨_,rSo01_22,h0,h1,g0,g1,g2,trivial⟩
   ·exact ⟨_,rSo01_23,h0,h1,g0,g1,g2,trivial⟩
   ·exact ⟨_,rSo01_24,h0,h1,g0,g1,g2,trivial⟩
theorem leafFnSolutions10 (fx:Fix) (h0:fx.byte 9 % 3 = 1) (h1:fx.byte 10 % 3 = 0):∃ l,runB (oSo10 l) 10 = true∧TabOk fx ((9,3,1) :: (10,3,0) :: l):=by
 rcases dm3 (fx.byte 11) with g0 | g0 | g0
 ·exact ⟨_,rSo10_0,h0,h1,g0,trivial⟩
 ·rcases dm2 (fx.byte 12) with g1 | g1
  ·exact ⟨_,rSo10_1,h0,h1,g0,g1,trivial⟩
  ·exact ⟨_,rSo10_2,h0,h1,g0,g1,trivial⟩
 ·rcases dm2 (fx.byte 12) with g1 | g1
  ·rcases dm4 (fx.byte 13) with g2 | g2 | g2 | g2
   ·exact ⟨_,rSo10_3,h0,h1,g0,g1,g2,trivial⟩
   ·exact ⟨_,rSo10_4,h0,h1,g0,g1,g2,trivial⟩
   ·exact ⟨_,rSo10_5,h0,h1,g0,g1,g2,trivial⟩
   ·exact ⟨_,rSo10_6,h0,h1,g0,g1,g2,trivial⟩
  ·rcases dm4 (fx.byte 13) with g2 | g2 | g2 | g2
   ·exact ⟨_,rSo10_7,h0,h1,g0,g1,g2,trivial⟩
   ·exact ⟨_,rSo10_8,h0,h1,g0,g1,g2,trivial⟩
   ·exact ⟨_,rSo10_9,h0,h1,g0,g1,g2,trivial⟩
   ·exact ⟨_,rSo10_10,h0,h1,g0,g1,g2,trivial⟩
theorem leafFnSolutions11 (fx:Fix) (h0:fx.byte 9 % 3 = 1) (h1:fx.byte 10 % 3 = 1):∃ l,runB (oSo11 l) 10 = true∧TabOk fx ((9,3,1) :: (10,3,1) :: l):=by
 rcases dm3 (fx.byte 11) with g0 | g0 | g0
 ·exact ⟨_,rSo11_0,h0,h1,g0,trivial⟩
 ·rcases dm2 (fx.byte 12) with g1 | g1
  ·exact ⟨_,rSo11_1,h0,h1,g0,g1,trivial⟩
  ·exact ⟨_,rSo11_2,h0,h1,g0,g1,trivial⟩
 ·rcases dm2 (fx.byte 12) with g1 | g1
  ·rcases dm4 (fx.byte 13) with g2 | g2 | g2 | g2
   ·exact ⟨_,rSo11_3,h0,h1,g0,g1,g2,trivial⟩
   ·exact ⟨_,rSo11_4,h0,h1,g0,g1,g2,trivial⟩
   ·exact ⟨_,rSo11_5,h0,h1,g0,g1,g2,trivial⟩
   ·exact ⟨_,rSo11_6,h0,h1,g0,g1,g2,trivial⟩
  ·rcases dm4 (fx.byte 13) with g2 | g2 | g2 | g2
   ·exact ⟨_,rSo11_7,h0,h1,g0,g1,g2,trivial⟩
   ·exact ⟨_,rSo11_8,h0,h1,g0,g1,g2,trivial⟩
   ·exact ⟨_,rSo11_9,h0,h1,g0,g1,g2,trivial⟩
   ·exact ⟨_,rSo11_10,h0,h1,g0,g1,g2,trivial⟩
theorem leafFnSolutions12 (fx:Fix) (h0:fx.byte 9 % 3 = 1) (h1:fx.byte 10 % 3 = 2):∃ l,runB (oSo12 l) 10 = true∧TabOk fx ((9,3,1) :: (10,3,2) :: l):=by
 rcases dm3 (fx.byte 11) with g0 | g0 | g0
 ·exact ⟨_,rSo12_0,h0,h1,g0,trivial⟩
 ·rcases dm2 (fx.byte 12) with g1 | g1
  ·exact ⟨_,rSo12_1,h0,h1,g0,g1,trivial⟩
  ·exact ⟨_,rSo12_2,h0,h1,g0,g1,trivial⟩
 ·rcases dm2 (fx.byte 12) with g1 | g1
  ·rcases dm4 (fx.byte 13) with g2 | g2 | g2 | g2
   ·exact ⟨_,rSo12_3,h0,h1,g0,g1,g2,trivial⟩
   ·exact ⟨_,rSo12_4,h0,h1,g0,g1,g2,trivial⟩
   ·exact ⟨_,rSo12_5,h0,h1,g0,g1,g2,trivial⟩
   ·exact ⟨_,rSo12_6,h0,h1,g0,g1,g2,trivial⟩
  ·rcases dm4 (fx.byte 13) with g2 | g2 | g2 | g2
   ·exact ⟨_,rSo12_7,h0,h1,g0,g1,g2,trivial⟩
   ·exact ⟨_,rSo12_8,h0,h1,g0,g1,g2,trivial⟩
   ·exact ⟨_,rSo12_9,h0,h1,g0,g1,g2,trivial⟩
   ·exact ⟨_,rSo12_10,h0,h1,g0,g1,g2,trivial⟩
theorem leafFnSolutions20 (fx:Fix) (h0:fx.byte 9 % 3 = 2):∃ l,runB (oSo20 l) 10 = true∧TabOk fx ((9,3,2) :: l):=by
 rcases dm3 (fx.byte 10) with g0 | g0 | g0
 ·exact ⟨_,rSo20_0,h0,g0,trivial⟩
 ·rcases dm6 (fx.byte 11) with g1 | g1 | g1 | g1 | g1 | g1
  ·exact ⟨_,rSo20_1,h0,g0,g1,trivial⟩
  ·exact ⟨_,rSo20_2,h0,g0,g1,trivial⟩
  ·exact ⟨_,rSo20_3,h0,g0,g1,trivial⟩
  ·exact ⟨_,rSo20_4,h0,g0,g1,trivial⟩
  ·exact ⟨_,rSo20_5,h0,g0,g1,trivial⟩
  ·exact ⟨_,rSo20_6,h0,g0,g1,trivial⟩
 ·rcases dm6 (fx.byte 11) with g1 | g1 | g1 | g1 | g1 | g1
  ·rcases dm8 (fx.byte 12) with g2 | g2 | g2 | g2 | g2 | g2 | g2 | g2
   ·exact ⟨_,rSo20_7,h0,g0,g1,g2,trivial⟩
   ·exact ⟨_,rSo20_8,h0,g0,g1,g2,trivial⟩
   ·exact ⟨_,rSo20_9,h0,g0,g1,g2,trivial⟩
   ·exact ⟨_,rSo20_10,h0,g0,g1,g2,trivial⟩
   ·exact ⟨_,rSo20_11,h0,g0,g1,g2,trivial⟩
   ·exact ⟨_,rSo20_12,h0,g0,g1,g2,trivial⟩
   ·exact ⟨_,rSo20_13,h0,g0,g1,g2,trivial⟩
   ·exact ⟨_,rSo20_14,h0,g0,g1,g2,trivial⟩
  ·rcases dm8 (fx.byte 12) with g2 | g2 | g2 | g2 | g2 | g2 | g2 | g2
   ·exact ⟨_,rSo20_15,h0,g0,g1,g2,trivial⟩
   ·exact ⟨_,rSo20_16,h0,g0,g1,g2,trivial⟩
   ·exact ⟨_,rSo20_17,h0,g0,g1,g2,trivial⟩
   ·exact ⟨_,rSo20_18,h0,g0,g1,g2,trivial⟩
   ·exact ⟨_,rSo20_19,h0,g0,g1,g2,trivial⟩
   ·exact ⟨_,rSo20_20,h0,g0,g1,g2,trivial⟩
   ·exact ⟨_,rSo20_21,h0,g0,g1,g2,trivial⟩
   ·exact ⟨_,rSo20_22,h0,g0,g1,g2,trivial⟩
  ·rcases dm8 (fx.byte 12) with g2 | g2 | g2 | g2 | g2 | g2 | g2 | g2
   ·exact ⟨_,rSo20_23,h0,g0,g1,g2,trivial⟩
   ·exact ⟨_,rSo20_24,h0,g0,g1,g2,trivial⟩
   ·exact ⟨_,rSo20_25,h0,g0,g1,g2,trivial⟩
   ·exact ⟨_,rSo20_26,h0,g0,g1,g2,trivial⟩
   ·exact ⟨_,rSo20_27,h0,g0,g1,g2,trivial⟩
   ·exact ⟨_,rSo20_28,h0,g0,g1,g2,trivial⟩
   ·exact ⟨_,rSo20_29,h0,g0,g1,g2,trivial⟩
   ·exact ⟨_,rSo20_30,h0,g0,g1,g2,trivial⟩
  ·rcases dm8 (fx.byte 12) with g2 | g2 | g2 | g2 | g2 | g2 | g2 | g2
   ·exact ⟨_,rSo20_31,h0,g0,g1,g2,trivial⟩
   ·exact ⟨_,rSo20_32,h0,g0,g1,g2,trivial⟩
   ·exact ⟨_,rSo20_33,h0,g0,g1,g2,trivial⟩
   ·exact ⟨_,rSo20_34,h0,g0,g1,g2,trivial⟩
   ·exact ⟨_,rSo20_35,h0,g0,g1,g2,trivial⟩
   ·exact ⟨_,rSo20_36,h0,g0,g1,g2,trivial⟩
   ·exact ⟨_,rSo20_37,h0,g0,g1,g2,trivial⟩
   ·exact ⟨_,rSo20_38,h0,g0,g1,g2,trivial⟩
  ·rcases dm8 (fx.byte 12) with g2 | g2 | g2 | g2 | g2 | g2 | g2 | g2
   ·exact ⟨_,rSo20_39,h0,g0,g1,g2,trivial⟩
   ·exact ⟨_,rSo20_40,h0,g0,g1,g2,trivial⟩
   ·exact ⟨_,rSo20_41,h0,g0,g1,g2,trivial⟩
   ·exact ⟨_,rSo20_42,h0,g0,g1,g2,trivial⟩
   ·exact ⟨_,rSo20_43,h0,g0,g1,g2,trivial⟩
   ·exact ⟨_,rSo20_44,h0,g0,g1,g2,trivial⟩
   ·exact ⟨_,rSo20_45,h0,g0,g1,g2,trivial⟩
   ·exact ⟨_,rSo20_46,h0,g0,g1,g2,trivial⟩
  ·rcases dm8 (fx.byte 12) with g2 | g2 | g2 | g2 | g2 | g2 | g2 | g2
   ·exact ⟨_,rSo20_47,h0,g0,g1,g2,trivial⟩
   ·exact ⟨_,rSo20_48,h0,g0,g1,g2,trivial⟩
   ·exact ⟨_,rSo20_49,h0,g0,g1,g2,trivial⟩
   ·exact ⟨_,rSo20_50,h0,g0,g1,g2,trivial⟩
   ·exact ⟨_,rSo20_51,h0,g0,g1,g2,trivial⟩
   ·exact ⟨_,rSo20_52,h0,g0,g1,g2,trivial⟩
   ·exact ⟨_,rSo20_53,h0,g0,g1,g2,trivial⟩
   ·exact ⟨_,rSo20_54,h0,g0,g1,g2,trivial⟩
theorem fnSolutions (n c:Nat) (A:Option Addr) (w:World) (hA:BI w A n) :
 Calls Tryz.prog 10 #[.slice A n c] w fun e w'=>e = .returned (.bool true)∧Below w.heap.size w w':=by
 by_cases hn:n ≤ 1048576
 case neg =>
  have hgt:(1048576:Int) < (n:Int):=by omega
  go_enter Tryz.func10,Tryz.ntmps10
  go_wp2
  go_ret
  exact ⟨rfl,Below.refl _ _⟩
 obtain ⟨y,hy,hb⟩:=be_of_bi hA
 obtain ⟨b0,e0⟩:∃ b0,(fixOf A n c y).byte 9 = b0:=⟨_,rfl⟩
 obtain ⟨b1,e1⟩:∃ b1,(fixOf A n c y).byte 10 = b1:=⟨_,rfl⟩
 have h:(b0 % 3 = 0∧b1 % 2 = 0) ∨ (b0 % 3 = 0∧b1 % 2 = 1) ∨ (b0 % 3 = 1∧b1 % 3 = 0) ∨ (b0 % 3 = 1∧b1 % 3 = 1) ∨ (b0 % 3 = 1∧b1 % 3 = 2) ∨ (b0 % 3 = 2∧b1 % 1 = 0):=by omega
 rw [← e0,← e1] at h
 rcases h with ⟨g0,g1⟩ | ⟨g0,g1⟩ | ⟨g0,g1⟩ | ⟨g0,g1⟩ | ⟨g0,g1⟩ | ⟨g0,_⟩
 ·obtain ⟨l,hr,ht⟩:=leafFnSolutions00 (fixOf A n c y) g0 g1
  exact sx_run2 (p:=parPc00) n c A y w (oSo00_ok (drw:=⟨tabF ((9,3,0) :: (10,2,0) :: l),fixOf A n c y⟩) rfl) hr hn hy hb (tabOk_all ht)
 ·obtain ⟨l,hr,ht⟩:=leafFnSolutions01 (fixOf A n c y) g0 g1
  exact sx_run2 (p:=parPc01) n c A y w (oSo01_ok (drw:=⟨tabF ((9,3,0) :: (10,2,1) :: l),fixOf A n c y⟩) rfl) hr hn hy hb (tabOk_all ht)
 ·obtain ⟨l,hr,ht⟩:=leafFnSolutions10 (fixOf A n c y) g0 g1
  exact sx_run2 (p:=parPc10) n c A y w (oSo10_ok (drw:=⟨tabF ((9,3,1) :: (10,3,0) :: l),fixOf A n c y⟩) rfl) hr hn hy hb (tabOk_all ht)
 ·obtain ⟨l,hr,ht⟩:=leafFnSolutions11 (fixOf A n c y) g0 g1
  exact sx_run2 (p:=parPc11) n c A y w (oSo11_ok (drw:=⟨tabF ((9,3,1) :: (10,3,1) :: l),fixOf A n c y⟩) rfl) hr hn hy hb (tabOk_all ht)
 ·obtain ⟨l,hr,ht⟩:=leafFnSolutions12 (fixOf A n c y) g0 g1
  exact sx_run2 (p:=parPc12) n c A y w (oSo12_ok (drw:=⟨tabF ((9,3,1) :: (10,3,2) :: l),fixOf A n c y⟩) rfl) hr hn hy hb (tabOk_all ht)
 ·obtain ⟨l,hr,ht⟩:=leafFnSolutions20 (fixOf A n c y) g0
  exact sx_run2 (p:=parPc20) n c A y w (oSo20_ok (drw:=⟨tabF ((9,3,2) :: l),fixOf A n c y⟩) rfl) hr hn hy hb (tabOk_all ht)
open Go.ChangeShapes Go.WideShapes Go.ChangeAt Go.WideElems Go.Deep
theorem own:ownKnob Tryz.prog.godebug = none:=by kernel_rfl
theorem laid:laidOutB Tryz.prog = true:=by kernel_rfl
theorem fnSolutions_lifted (os:Os) (started:os.Started) (H:Type) (enc:TypeId × Value → H) :
 ReturnsInHanded {} Tryz.checked os 10 .any (Rows.fnSolutionsSpec.pre6 enc Tryz.prog Tryz.f10 Rows.fnSolutionsRow.domain false) (Rows.fnSolutionsSpec.post enc Tryz.prog Tryz.f10 false true false false):=by
 refine returnsInHanded_of_change (C:=Tryz.checked) own started (by kernel_rfl) Tryz.func10
  (ChangeSpec.witness6 (enc:=enc) (C:=Tryz.checked) false ⟨#[],#[.slice none 0 0],[]⟩ 8 (by kernel_rfl) (by kernel_rfl) (by kernel_rfl) (by kernel_rfl)) ?_
 intro W base args ds gs before hval0 hW _ _
 have hval:∀ (j:Nat) t v,Tryz.f10.params[j]? = some t → args[j]? = some v → Value.okWide Tryz.prog W .any base t v:=hval0
 have hW':=hW
 obtain ⟨p,q,hA0,hV,_,_,_⟩:=hW
 have hA:DataW.TrodAll enc Tryz.prog W 0 (fun _=>true) true Tryz.f10.params.toList args.toList ds p:=hA0
 rw [Tryz.params10] at hA hval
 obtain ⟨v0,d0,rfl,rfl,h0⟩:=trodAll_one hA
 obtain ⟨A0,n0,c0,rfl,_,k0⟩:=openBytes (okWide_slice Tryz.underlying22 (hval 0 _ v0 rfl rfl)) h0
 refine (fnSolutions n0 c0 A0 W k0).mono fun r W' ⟨hr,hb⟩=>?_
 subst hr
 exact ⟨_,rfl,law_post laid rfl (by kernel_rfl) hb rfl Tryz.underlying4 rfl hW'⟩
theorem fac1:(Rows.fnSolutionsRow.inPlace == Tryz.prog.inPlace 10) = true:=by kernel_rfl
theorem fac2:(Rows.fnSolutionsRow.unfollowed == Tryz.prog.unfollowed 10) = true:=by kernel_rfl
theorem fac3:(Rows.fnSolutionsRow.recurses == Tryz.prog.recurses 10) = true:=by kernel_rfl
theorem fac4:(Rows.fnSolutionsRow.named == Tryz.prog.varsNamed 10) = true:=by kernel_rfl
theorem facts:joinedFacts Tryz.prog 10 Tryz.f10 Rows.fnSolutionsSpec Rows.fnSolutionsRow = true:=by
 unfold joinedFacts
 rw [fac1,fac2,fac3,fac4]
 kernel_rfl
theorem fnSolutions_holds:Rows.FnSolutionsSaid :=
 OpenClaim.holds_of_wide 10 Tryz.f10 rfl rfl rfl rfl rfl rfl rfl ⟨rfl,rfl,rfl,rfl,rfl⟩ rfl rfl rfl rfl rfl (by kernel_rfl) Tryz.func10 facts
  (of_decide_eq_true (by kernel_rfl)) (by unfold Func.isWrapper;rw [if_neg (by decide +kernel)];exact ⟨rfl,rfl⟩)
  (fun os started H enc _=>fnSolutions_lifted os started H enc)
#print axioms fnSolutions_holds
end Go.Proofs.YtcblajhfehadaaaGreat
