/-
 The law on FnMinimum: its walk,and what it says.
-/
import Derived.Test.YtcblajhfehadaaaGreatV9
import Derived.Test.YtcblajhfehadaaaGreatV10
import Derived.Test.YtcblajhfehadaaaGreatV18
import Derived.Test.YtcblajhfehadaaaGreatV19
import Derived.Test.YtcblajhfehadaaaGreatV21
import Derived.Test.YtcblajhfehadaaaGreatV23
import Derived.Test.YtcblajhfehadaaaGreatV25
import Derived.Test.YtcblajhfehadaaaGreatV34
import Derived.Test.YtcblajhfehadaaaGreatV35
import Derived.Test.YtcblajhfehadaaaGreatV36
import Derived.Test.YtcblajhfehadaaaGreatV37
import Derived.Test.YtcblajhfehadaaaGreatV38
import Derived.Test.YtcblajhfehadaaaGreatQ1
import Derived.Test.YtcblajhfehadaaaGreatV53
set_option maxRecDepth 100000
set_option maxHeartbeats 4000000
namespace Go.Proofs.YtcblajhfehadaaaGreat
open Go.RowKit Go.Joins Go.SX
theorem dm2 (x:Nat):x % 2 = 0 ∨ x % 2 = 1:=by omega
theorem dm3 (x:Nat):x % 3 = 0 ∨ x % 3 = 1 ∨ x % 3 = 2:=by omega
theorem dm4 (x:Nat):x % 4 = 0 ∨ x % 4 = 1 ∨ x % 4 = 2 ∨ x % 4 = 3:=by omega
theorem dm5 (x:Nat):x % 5 = 0 ∨ x % 5 = 1 ∨ x % 5 = 2 ∨ x % 5 = 3 ∨ x % 5 = 4:=by omega
theorem dm6 (x:Nat):x % 6 = 0 ∨ x % 6 = 1 ∨ x % 6 = 2 ∨ x % 6 = 3 ∨ x % 6 = 4 ∨ x % 6 = 5:=by omega
theorem dm8 (x:Nat):x % 8 = 0 ∨ x % 8 = 1 ∨ x % 8 = 2 ∨ x % 8 = 3 ∨ x % 8 = 4 ∨ x % 8 = 5 ∨ x % 8 = 6 ∨ x % 8 = 7:=by omega
theorem leafFnMinimum00 (fx:Fix) (h0:fx.byte 9 % 3 = 0) (h1:fx.byte 10 % 2 = 0):∃ l,runB (oMi00 l) 9 = true∧TabOk fx ((9,3,0) :: (10,2,0) :: l):=by
 rcases dm3 (fx.byte 11) with g0 | g0 | g0
 ·exact ⟨_,rMi00_0,h0,h1,g0,trivial⟩
 ·rcases dm4 (fx.byte 12) with g1 | g1 | g1 | g1
  ·exact ⟨_,rMi00_1,h0,h1,g0,g1,trivial⟩
  ·exact ⟨_,rMi00_2,h0,h1,g0,g1,trivial⟩
  ·exact ⟨_,rMi00_3,h0,h1,g0,g1,trivial⟩
  ·exact ⟨_,rMi00_4,h0,h1,g0,g1,trivial⟩
 ·rcases dm4 (fx.byte 12) with g1 | g1 | g1 | g1
  ·rcases dm5 (fx.byte 13) with g2 | g2 | g2 | g2 | g2
   ·exact ⟨_,rMi00_5,h0,h1,g0,g1,g2,trivial⟩
   ·exact ⟨_,rMi00_6,h0,h1,g0,g1,g2,trivial⟩
   ·exact ⟨_,rMi00_7,h0,h1,g0,g1,g2,trivial⟩
   ·exact ⟨_,rMi00_8,h0,h1,g0,g1,g2,trivial⟩
   ·exact ⟨_,rMi00_9,h0,h1,g0,g1,g2,trivial⟩
  ·rcases dm5 (fx.byte 13) with g2 | g2 | g2 | g2 | g2
   ·exact ⟨_,rMi00_10,h0,h1,g0,g1,g2,trivial⟩
   ·exact ⟨_,rMi00_11,h0,h1,g0,g1,g2,trivial⟩
   ·exact ⟨_,rMi00_12,h0,h1,g0,g1,g2,trivial⟩
   ·exact ⟨_,rMi00_13,h0,h1,g0,g1,g2,trivial⟩
   ·exact ⟨_,rMi00_14,h0,h1,g0,g1,g2,trivial⟩
  ·rcases dm5 (fx.byte 13) with g2 | g2 | g2 | g2 | g2
   ·exact ⟨_,rMi00_15,h0,h1,g0,g1,g2,trivial⟩
   ·exact ⟨_,rMi00_16,h0,h1,g0,g1,g2,trivial⟩
   ·exact ⟨_,rMi00_17,h0,h1,g0,g1,g2,trivial⟩
   ·exact ⟨_,rMi00_18,h0,h1,g0,g1,g2,trivial⟩
   ·exact ⟨_,rMi00_19,h0,h1,g0,g1,g2,trivial⟩
  ·rcases dm5 (fx.byte 13) with g2 | g2 | g2 | g2 | g2
   ·exact ⟨_,rMi00_20,h0,h1,g0,g1,g2,trivial⟩
   ·exact ⟨_,rMi00_21,h0,h1,g0,g1,g2,trivial⟩
   ·exact ⟨_,rMi00_22,h0,h1,g0,g1,g2,trivial⟩
   ·exact ⟨_,rMi00_23,h0,h1,g0,g1,g2,trivial⟩
   ·exact ⟨_,rMi00_24,h0,h1,g0,g1,g2,trivial⟩
theorem leafFnMinimum01 (fx:Fix) (h0:fx.byte 9 % 3 = 0) (h1:fx.byte 10 % 2 = 1):∃ l,runB (oMi01 l) 9 = true∧TabOk fx ((9,3,0) :: (10,2,1) :: l):=by
 rcases dm3 (fx.byte 11) with g0 | g0 | g0
 ·exact ⟨_,rMi01_0,h0,h1,g0,trivial⟩
 ·rcases dm4 (fx.byte 12) with g1 | g1 | g1 | g1
  ·exact ⟨_,rMi01_1,h0,h1,g0,g1,trivial⟩
  ·exact ⟨_,rMi01_2,h0,h1,g0,g1,trivial⟩
  ·exact ⟨_,rMi01_3,h0,h1,g0,g1,trivial⟩
  ·exact ⟨_,rMi01_4,h0,h1,g0,g1,trivial⟩
 ·rcases dm4 (fx.byte 12) with g1 | g1 | g1 | g1
  ·rcases dm5 (fx.byte 13) with g2 | g2 | g2 | g2 | g2
   ·exact ⟨_,rMi01_5,h0,h1,g0,g1,g2,trivial⟩
   ·exact ⟨_,rMi01_6,h0,h1,g0,g1,g2,trivial⟩
   ·exact ⟨_,rMi01_7,h0,h1,g0,g1,g2,trivial⟩
   ·exact ⟨_,rMi01_8,h0,h1,g0,g1,g2,trivial⟩
   ·exact ⟨_,rMi01_9,h0,h1,g0,g1,g2,trivial⟩
  ·rcases dm5 (fx.byte 13) with g2 | g2 | g2 | g2 | g2
   ·exact ⟨_,rMi01_10,h0,h1,g0,g1,g2,trivial⟩
   ·exact ⟨_,rMi01_11,h0,h1,g0,g1,g2,trivial⟩
   ·exact ⟨_,rMi01_12,h0,h1,g0,g1,g2,trivial⟩
   ·exact ⟨_,rMi01_13,h0,h1,g0,g1,g2,trivial⟩
   ·exact ⟨_,rMi01_14,h0,h1,g0,g1,g2,trivial⟩
  ·rcases dm5 (fx.byte 13) with g2 | g2 | g2 | g2 | g2
   ·exact ⟨_,rMi01_15,h0,h1,g0,g1,g2,trivial⟩
   ·exact ⟨_,rMi01_16,h0,h1,g0,g1,g2,trivial⟩
   ·exact ⟨_,rMi01_17,h0,h1,g0,g1,g2,trivial⟩
   ·exact ⟨_,rMi01_18,h0,h1,g0,g1,g2,trivial⟩
   ·exact ⟨_,rMi01_19,h0,h1,g0,g1,g2,trivial⟩
  ·rcases dm5 (fx.byte 13) with g2 | g2 | g2 | g2 | g2
   ·exact ⟨_,rMi01_20,h0,h1,g0,g1,g2,trivial⟩
   ·exact ⟨_,rMi01_21,h0,h1,g0,g1,g2,trivial⟩
   ·exact ⟨_,rMi01_22,h0,h1,g0,g1,g2,trivial⟩
   ·exact ⟨_,rMi01_23,h0,h1,g0,g1,g2,trivial⟩
   ·exact ⟨_,rMi01_24,h0,h1,g0,g1,g2,trivial⟩
theorem leafFnMinimum10 (fx:Fix) (h0:fx.byte 9 % 3 = 1) (h1:fx.byte 10 % 3 = 0):∃ l,runB (oMi10 l) 9 = true∧TabOk fx ((9,3,1) :: (10,3,0) :: l):=by
 rcases dm3 (fx.byte 11) with g0 | g0 | g0
 ·exact ⟨_,rMi10_0,h0,h1,g0,trivial⟩
 ·rcases dm2 (fx.byte 12) with g1 | g1
  ·exact ⟨_,rMi10_1,h0,h1,g0,g1,trivial⟩
  ·exact ⟨_,rMi10_2,h0,h1,g0,g1,trivial⟩
 ·rcases dm2 (fx.byte 12) with g1 | g1
  ·rcases dm4 (fx.byte 13) with g2 | g2 | g2 | g2
   ·exact ⟨_,rMi10_3,h0,h1,g0,g1,g2,trivial⟩
   ·exact ⟨_,rMi10_4,h0,h1,g0,g1,g2,trivial⟩
   ·exact ⟨_,rMi10_5,h0,h1,g0,g1,g2,trivial⟩
   ·exact ⟨_,rMi10_6,h0,h1,g0,g1,g2,trivial⟩
  ·rcases dm4 (fx.byte 13) with g2 | g2 | g2 | g2
   ·exact ⟨_,rMi10_7,h0,h1,g0,g1,g2,trivial⟩
   ·exact ⟨_,rMi10_8,h0,h1,g0,g1,g2,trivial⟩
   ·exact ⟨_,rMi10_9,h0,h1,g0,g1,g2,trivial⟩
   ·exact ⟨_,rMi10_10,h0,h1,g0,g1,g2,trivial⟩
theorem leafFnMinimum11 (fx:Fix) (h0:fx.byte 9 % 3 = 1) (h1:fx.byte 10 % 3 = 1):∃ l,runB (oMi11 l) 9 = true∧TabOk fx ((9,3,1) :: (10,3,1) :: l):=by
 rcases dm3 (fx.byte 11) with g0 | g0 | g0
 ·exact ⟨_,rMi11_0,h0,h1,g0,trivial⟩
 ·rcases dm2 (fx.byte 12) with g1 | g1
  ·exact ⟨_,rMi11_1,h0,h1,g0,g1,trivial⟩
  ·exact ⟨_,rMi11_2,h0,h1,g0,g1,trivial⟩
 ·rcases dm2 (fx.byte 12) with g1 | g1
  ·rcases dm4 (fx.byte 13) with g2 | g2 | g2 | g2
   ·exact ⟨_,rMi11_3,h0,h1,g0,g1,g2,trivial⟩
   ·exact ⟨_,rMi11_4,h0,h1,g0,g1,g2,trivial⟩
   ·exact ⟨_,rMi11_5,h0,h1,g0,g1,g2,trivial⟩
   ·exact ⟨_,rMi11_6,h0,h1,g0,g1,g2,trivial⟩
  ·rcases dm4 (fx.byte 13) with g2 | g2 | g2 | g2
   ·exact ⟨_,rMi11_7,h0,h1,g0,g1,g2,trivial⟩
   ·exact ⟨_,rMi11_8,h0,h1,g0,g1,g2,trivial⟩
   ·exact ⟨_,rMi11_9,h0,h1,g0,g1,g2,trivial⟩
   ·exact ⟨_,rMi11_10,h0,h1,g0,g1,g2,trivial⟩
theorem leafFnMinimum12 (fx:Fix) (h0:fx.byte 9 % 3 = 1) (h1:fx.byte 10 % 3 = 2):∃ l,runB (oMi12 l) 9 = true∧TabOk fx ((9,3,1) :: (10,3,2) :: l):=by
 rcases dm3 (fx.byte 11) with g0 | g0 | g0
 ·exact ⟨_,rMi12_0,h0,h1,g0,trivial⟩
 ·rcases dm2 (fx.byte 12) with g1 | g1
  ·exact ⟨_,rMi12_1,h0,h1,g0,g1,trivial⟩
  ·exact ⟨_,rMi12_2,h0,h1,g0,g1,trivial⟩
 ·rcases dm2 (fx.byte 12) with g1 | g1
  ·rcases dm4 (fx.byte 13) with g2 | g2 | g2 | g2
   ·exact ⟨_,rMi12_3,h0,h1,g0,g1,g2,trivial⟩
   ·exact ⟨_,rMi12_4,h0,h1,g0,g1,g2,trivial⟩
   ·exact ⟨_,rMi12_5,h0,h1,g0,g1,g2,trivial⟩
   ·exact ⟨_,rMi12_6,h0,h1,g0,g1,g2,trivial⟩
  ·rcases dm4 (fx.byte 13) with g2 | g2 | g2 | g2
   ·exact ⟨_,rMi12_7,h0,h1,g0,g1,g2,trivial⟩
   ·exact ⟨_,rMi12_8,h0,h1,g0,g1,g2,trivial⟩
   ·exact ⟨_,rMi12_9,h0,h1,g0,g1,g2,trivial⟩
   ·exact ⟨_,rMi12_10,h0,h1,g0,g1,g2,trivial⟩
theorem leafFnMinimum20 (fx:Fix) (h0:fx.byte 9 % 3 = 2):∃ l,runB (oMi20 l) 9 = true∧TabOk fx ((9,3,2) :: l):=by
 rcases dm3 (fx.byte 10) with g0 | g0 | g0
 ·exact ⟨_,rMi20_0,h0,g0,trivial⟩
 ·rcases dm6 (fx.byte 11) with g1 | g1 | g1 | g1 | g1 | g1
  ·exact ⟨_,rMi20_1,h0,g0,g1,trivial⟩
  ·exact ⟨_,rMi20_2,h0,g0,g1,trivial⟩
  ·exact ⟨_,rMi20_3,h0,g0,g1,trivial⟩
  ·exact ⟨_,rMi20_4,h0,g0,g1,trivial⟩
  ·exact ⟨_,rMi20_5,h0,g0,g1,trivial⟩
  ·exact ⟨_,rMi20_6,h0,g0,g1,trivial⟩
 ·rcases dm6 (fx.byte 11) with g1 | g1 | g1 | g1 | g1 | g1
  ·rcases dm8 (fx.byte 12) with g2 | g2 | g2 | g2 | g2 | g2 | g2 | g2
   ·exact ⟨_,rMi20_7,h0,g0,g1,g2,trivial⟩
   ·exact ⟨_,rMi20_8,h0,g0,g1,g2,trivial⟩
   ·exact ⟨_,rMi20_9,h0,g0,g1,g2,trivial⟩
   ·exact ⟨_,rMi20_10,h0,g0,g1,g2,trivial⟩
   ·exact ⟨_,rMi20_11,h0,g0,g1,g2,trivial⟩
   ·exact ⟨_,rMi20_12,h0,g0,g1,g2,trivial⟩
   ·exact ⟨_,rMi20_13,h0,g0,g1,g2,trivial⟩
   ·exact ⟨_,rMi20_14,h0,g0,g1,g2,trivial⟩
  ·rcases dm8 (fx.byte 12) with g2 | g2 | g2 | g2 | g2 | g2 | g2 | g2
   ·exact ⟨_,rMi20_15,h0,g0,g1,g2,trivial⟩
   ·exact ⟨_,rMi20_16,h0,g0,g1,g2,trivial⟩
   ·exact ⟨_,rMi20_17,h0,g0,g1,g2,trivial⟩
   ·exact ⟨_,rMi20_18,h0,g0,g1,g2,trivial⟩
   ·exact ⟨_,rMi20_19,h0,g0,g1,g2,trivial⟩
   ·exact ⟨_,rMi20_20,h0,g0,g1,g2,trivial⟩
   ·exact ⟨_,rMi20_21,h0,g0,g1,g2,trivial⟩
   ·exact ⟨_,rMi20_22,h0,g0,g1,g2,trivial⟩
  ·rcases dm8 (fx.byte 12) with g2 | g2 | g2 | g2 | g2 | g2 | g2 | g2
   ·exact ⟨_,rMi20_23,h0,g0,g1,g2,trivial⟩
   ·exact ⟨_,rMi20_24,h0,g0,g1,g2,trivial⟩
   ·exact ⟨_,rMi20_25,h0,g0,g1,g2,trivial⟩
   ·exact ⟨_,rMi20_26,h0,g0,g1,g2,trivial⟩
   ·exact ⟨_,rMi20_27,h0,g0,g1,g2,trivial⟩
   ·exact ⟨_,rMi20_28,h0,g0,g1,g2,trivial⟩
   ·exact ⟨_,rMi20_29,h0,g0,g1,g2,trivial⟩
   ·exact ⟨_,rMi20_30,h0,g0,g1,g2,trivial⟩
  ·rcases dm8 (fx.byte 12) with g2 | g2 | g2 | g2 | g2 | g2 | g2 | g2
   ·exact ⟨_,rMi20_31,h0,g0,g1,g2,trivial⟩
   ·exact ⟨_,rMi20_32,h0,g0,g1,g2,trivial⟩
   ·exact ⟨_,rMi20_33,h0,g0,g1,g2,trivial⟩
   ·exact ⟨_,rMi20_34,h0,g0,g1,g2,trivial⟩
   ·exact ⟨_,rMi20_35,h0,g0,g1,g2,trivial⟩
   ·exact ⟨_,rMi20_36,h0,g0,g1,g2,trivial⟩
   ·exact ⟨_,rMi20_37,h0,g0,g1,g2,trivial⟩
   ·exact ⟨_,rMi20_38,h0,g0,g1,g2,trivial⟩
  ·rcases dm8 (fx.byte 12) with g2 | g2 | g2 | g2 | g2 | g2 | g2 | g2
   ·exact ⟨_,rMi20_39,h0,g0,g1,g2,trivial⟩
   ·exact ⟨_,rMi20_40,h0,g0,g1,g2,trivial⟩
   ·exact ⟨_,rMi20_41,h0,g0,g1,g2,trivial⟩
   ·exact ⟨_,rMi20_42,h0,g0,g1,g2,trivial⟩
   ·exact ⟨_,rMi20_43,h0,g0,g1,g2,trivial⟩
   ·exact ⟨_,rMi20_44,h0,g0,g1,g2,trivial⟩
   ·exact ⟨_,rMi20_45,h0,g0,g1,g2,trivial⟩
   ·exact ⟨_,rMi20_46,h0,g0,g1,g2,trivial⟩
  ·rcases dm8 (fx.byte 12) with g2 | g2 | g2 | g2 | g2 | g2 | g2 | g2
   ·exact ⟨_,rMi20_47,h0,g0,g1,g2,trivial⟩
   ·exact ⟨_,rMi20_48,h0,g0,g1,g2,trivial⟩
   ·exact ⟨_,rMi20_49,h0,g0,g1,g2,trivial⟩
   ·exact ⟨_,rMi20_50,h0,g0,g1,g2,trivial⟩
   ·exact ⟨_,rMi20_51,h0,g0,g1,g2,trivial⟩
   ·exact ⟨_,rMi20_52,h0,g0,g1,g2,trivial⟩
   ·exact ⟨_,rMi20_53,h0,g0,g1,g2,trivial⟩
   ·exact ⟨_,rMi20_54,h0,g0,g1,g2,trivial⟩
theorem fnMinimum (n c:Nat) (A:Option Addr) (w:World) (hA:BI w A n) :
 Calls Tryz.prog 9 #[.slice A n c] w fun e w'=>e = .returned (.bool true)∧Below w.heap.size w w':=by
 by_cases hn:n ≤ 1048576
 case neg =>
  have hgt:(1048576:Int) < (n:Int):=by omega
  go_enter Tryz.func9,Tryz.ntmps9
  go_wp2
  go_ret
  exact ⟨rfl,Below.refl _ _⟩
 obtain ⟨y,hy,hb⟩:=be_of_bi hA
 obtain ⟨b0,e0⟩:∃ b0,(fixOf A n c y).byte 9 = b0:=⟨_,rfl⟩
 obtain ⟨b1,e1⟩:∃ b1,(fixOf A n c y).byte 10 = b1:=⟨_,rfl⟩
 have h:(b0 % 3 = 0∧b1 % 2 = 0) ∨ (b0 % 3 = 0∧b1 % 2 = 1) ∨ (b0 % 3 = 1∧b1 % 3 = 0) ∨ (b0 % 3 = 1∧b1 % 3 = 1) ∨ (b0 % 3 = 1∧b1 % 3 = 2) ∨ (b0 % 3 = 2∧b1 % 1 = 0):=by omega
 rw [← e0,← e1] at h
 rcases h with ⟨g0,g1⟩ | ⟨g0,g1⟩ | ⟨g0,g1⟩ | ⟨g0,g1⟩ | ⟨g0,g1⟩ | ⟨g0,_⟩
 ·obtain ⟨l,hr,ht⟩:=leafFnMinimum00 (fixOf A n c y) g0 g1
  exact sx_run2 (p:=parPc00) n c A y w (oMi00_ok (drw:=⟨tabF ((9,3,0) :: (10,2,0) :: l),fixOf A n c y⟩) rfl) hr hn hy hb (tabOk_all ht)
 ·obtain ⟨l,hr,ht⟩:=leafFnMinimum01 (fixOf A n c y) g0 g1
  exact sx_run2 (p:=parPc01) n c A y w (oMi01_ok (drw:=⟨tabF ((9,3,0) :: (10,2,1) :: l),fixOf A n c y⟩) rfl) hr hn hy hb (tabOk_all ht)
 ·obtain ⟨l,hr,ht⟩:=leafFnMinimum10 (fixOf A n c y) g0 g1
  exact sx_run2 (p:=parPc10) n c A y w (oMi10_ok (drw:=⟨tabF ((9,3,1) :: (10,3,0) :: l),fixOf A n c y⟩) rfl) hr hn hy hb (tabOk_all ht)
 ·obtain ⟨l,hr,ht⟩:=leafFnMinimum11 (fixOf A n c y) g0 g1
  exact sx_run2 (p:=parPc11) n c A y w (oMi11_ok (drw:=⟨tabF ((9,3,1) :: (10,3,1) :: l),fixOf A n c y⟩) rfl) hr hn hy hb (tabOk_all ht)
 ·obtain ⟨l,hr,ht⟩:=leafFnMinimum12 (fixOf A n c y) g0 g1
  exact sx_run2 (p:=parPc12) n c A y w (oMi12_ok (drw:=⟨tabF ((9,3,1) :: (10,3,2) :: l),fixOf A n c y⟩) rfl) hr hn hy hb (tabOk_all ht)
 ·obtain ⟨l,hr,ht⟩:=leafFnMinimum20 (fixOf A n c y) g0
  exact sx_run2 (p:=parPc20) n c A y w (oMi20_ok (drw:=⟨tabF ((9,3,2) :: l),fixOf A n c y⟩) rfl) hr hn hy hb (tabOk_all ht)
open Go.ChangeShapes Go.WideShapes Go.ChangeAt Go.WideElems Go.Deep
theorem own:ownKnob Tryz.prog.godebug = none:=by kernel_rfl
theorem laid:laidOutB Tryz.prog = true:=by kernel_rfl
theorem fnMinimum_lifted (os:Os) (started:os.Started) (H:Type) (enc:TypeId × Value → H) :
 ReturnsInHanded {} Tryz.checked os 9 .any (Rows.fnMinimumSpec.pre6 enc Tryz.prog Tryz.f9 Rows.fnMinimumRow.domain false) (Rows.fnMinimumSpec.post enc Tryz.prog Tryz.f9 false true false false):=by
 refine returnsInHanded_of_change (C:=Tryz.checked) own started (by kernel_rfl) Tryz.func9
  (ChangeSpec.witness6 (enc:=enc) (C:=Tryz.checked) false ⟨#[],#[.slice none 0 0],[]⟩ 8 (by kernel_rfl) (by kernel_rfl) (by kernel_rfl) (by kernel_rfl)) ?_
 intro W base args ds gs before hval0 hW _ _
 have hval:∀ (j:Nat) t v,Tryz.f9.params[j]? = some t → args[j]? = some v → Value.okWide Tryz.prog W .any base t v:=hval0
 have hW':=hW
 obtain ⟨p,q,hA0,hV,_,_,_⟩:=hW
 have hA:DataW.TrodAll enc Tryz.prog W 0 (fun _=>true) true Tryz.f9.params.toList args.toList ds p:=hA0
 rw [Tryz.params9] at hA hval
 obtain ⟨v0,d0,rfl,rfl,h0⟩:=trodAll_one hA
 obtain ⟨A0,n0,c0,rfl,_,k0⟩:=openBytes (okWide_slice Tryz.underlying22 (hval 0 _ v0 rfl rfl)) h0
 refine (fnMinimum n0 c0 A0 W k0).mono fun r W' ⟨hr,hb⟩=>?_
 subst hr
 exact ⟨_,rfl,law_post laid rfl (by kernel_rfl) hb rfl Tryz.underlying4 rfl hW'⟩
theorem fac1:(Rows.fnMinimumRow.inPlace == Tryz.prog.inPlace 9) = true:=by kernel_rfl
theorem fac2:(Rows.fnMinimumRow.unfollowed == Tryz.prog.unfollowed 9) = true:=by kernel_rfl
theorem fac3:(Rows.fnMinimumRow.recurses == Tryz.prog.recurses 9) = true:=by kernel_rfl
theorem fac4:(Rows.fnMinimumRow.named == Tryz.prog.varsNamed 9) = true:=by kernel_rfl
theorem facts:joinedFacts Tryz.prog 9 Tryz.f9 Rows.fnMinimumSpec Rows.fnMinimumRow = true:=by
 unfold joinedFacts
 rw [fac1,fac2,fac3,fac4]
 kernel_rfl
theorem fnMinimum_holds:Rows.FnMinimumSaid :=
 OpenClaim.holds_of_wide 9 Tryz.f9 rfl rfl rfl rfl rfl rfl rfl ⟨rfl,rfl,rfl,rfl,rfl⟩ rfl rfl rfl rfl rfl (by kernel_rfl) Tryz.func9 facts
  (of_decide_eq_true (by kernel_rfl)) (by unfold Func.isWrapper;rw [if_neg (by decide +kernel)];exact ⟨rfl,rfl⟩)
  (fun os started H enc _=>fnMinimum_lifted os started H enc)
#print axioms fnMinimum_holds
end Go.Proofs.YtcblajhfehadaaaGreat
