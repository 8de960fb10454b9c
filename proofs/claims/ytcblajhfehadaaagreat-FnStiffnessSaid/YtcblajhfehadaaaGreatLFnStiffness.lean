/-
 The law on FnStiffness: its walk,and what it says.
-/
import Derived.Test.YtcblajhfehadaaaGreatQ25
import Derived.Test.YtcblajhfehadaaaGreatQ33
import Derived.Test.YtcblajhfehadaaaGreatQ35
import Derived.Test.YtcblajhfehadaaaGreatQ37
import Derived.Test.YtcblajhfehadaaaGreatQ39
import Derived.Test.YtcblajhfehadaaaGreatQ48
import Derived.Test.YtcblajhfehadaaaGreatQ49
import Derived.Test.YtcblajhfehadaaaGreatQ50
import Derived.Test.YtcblajhfehadaaaGreatQ1
import Derived.Test.YtcblajhfehadaaaGreatQ51
set_option maxRecDepth 100000
set_option maxHeartbeats 4000000
namespace Go.Proofs.YtcblajhfehadaaaGreat
open Go.RowKit Go.Joins Go.SX
theorem leafFnStiffness00 (fx:Fix) (h0:fx.byte 9 % 3 = 0) (h1:fx.byte 10 % 2 = 0):∃ l,runB (oSt00 l) 8 = true∧TabOk fx ((9,3,0) :: (10,2,0) :: l):=by
 have g0:fx.byte 11 % 3 = 0 ∨ fx.byte 11 % 3 = 1 ∨ fx.byte 11 % 3 = 2:=by omega
 rcases g0 with g0 | g0 | g0
 ·exact ⟨_,rSt00_0,h0,h1,g0,trivial⟩
 ·have g1:fx.byte 12 % 4 = 0 ∨ fx.byte 12 % 4 = 1 ∨ fx.byte 12 % 4 = 2 ∨ fx.byte 12 % 4 = 3:=by omega
  rcases g1 with g1 | g1 | g1 | g1
  ·exact ⟨_,rSt00_1,h0,h1,g0,g1,trivial⟩
  ·exact ⟨_,rSt00_2,h0,h1,g0,g1,trivial⟩
  ·exact ⟨_,rSt00_3,h0,h1,g0,g1,trivial⟩
  ·exact ⟨_,rSt00_4,h0,h1,g0,g1,trivial⟩
 ·have g1:fx.byte 12 % 4 = 0 ∨ fx.byte 12 % 4 = 1 ∨ fx.byte 12 % 4 = 2 ∨ fx.byte 12 % 4 = 3:=by omega
  rcases g1 with g1 | g1 | g1 | g1
  ·have g2:fx.byte 13 % 5 = 0 ∨ fx.byte 13 % 5 = 1 ∨ fx.byte 13 % 5 = 2 ∨ fx.byte 13 % 5 = 3 ∨ fx.byte 13 % 5 = 4:=by omega
   rcases g2 with g2 | g2 | g2 | g2 | g2
   ·exact ⟨_,rSt00_5,h0,h1,g0,g1,g2,trivial⟩
   ·exact ⟨_,rSt00_6,h0,h1,g0,g1,g2,trivial⟩
   ·exact ⟨_,rSt00_7,h0,h1,g0,g1,g2,trivial⟩
   ·exact ⟨_,rSt00_8,h0,h1,g0,g1,g2,trivial⟩
   ·exact ⟨_,rSt00_9,h0,h1,g0,g1,g2,trivial⟩
  ·have g2:fx.byte 13 % 5 = 0 ∨ fx.byte 13 % 5 = 1 ∨ fx.byte 13 % 5 = 2 ∨ fx.byte 13 % 5 = 3 ∨ fx.byte 13 % 5 = 4:=by omega
   rcases g2 with g2 | g2 | g2 | g2 | g2
   ·exact ⟨_,rSt00_10,h0,h1,g0,g1,g2,trivial⟩
   ·exact ⟨_,rSt00_11,h0,h1,g0,g1,g2,trivial⟩
   ·exact ⟨_,rSt00_12,h0,h1,g0,g1,g2,trivial⟩
   ·exact ⟨_,rSt00_13,h0,h1,g0,g1,g2,trivial⟩
   ·exact ⟨_,rSt00_14,h0,h1,g0,g1,g2,trivial⟩
  ·have g2:fx.byte 13 % 5 = 0 ∨ fx.byte 13 % 5 = 1 ∨ fx.byte 13 % 5 = 2 ∨ fx.byte 13 % 5 = 3 ∨ fx.byte 13 % 5 = 4:=by omega
   rcases g2 with g2 | g2 | g2 | g2 | g2
   ·exact ⟨_,rSt00_15,h0,h1,g0,g1,g2,trivial⟩
   ·exact ⟨_,rSt00_16,h0,h1,g0,g1,g2,trivial⟩
   ·exact ⟨_,rSt00_17,h0,h1,g0,g1,g2,trivial⟩
   ·exact ⟨_,rSt00_18,h0,h1,g0,g1,g2,trivial⟩
   ·exact ⟨_,rSt00_19,h0,h1,g0,g1,g2,trivial⟩
  ·have g2:fx.byte 13 % 5 = 0 ∨ fx.byte 13 % 5 = 1 ∨ fx.byte 13 % 5 = 2 ∨ fx.byte 13 % 5 = 3 ∨ fx.byte 13 % 5 = 4:=by omega
   rcases g2 with g2 | g2 | g2 | g2 | g2
   ·exact ⟨_,rSt00_20,h0,h1,g0,g1,g2,trivial⟩
   ·exact ⟨_,rSt00_21,h0,h1,g0,g1,g2,trivial⟩
   ·exact ⟨_,rSt00_22,h0,h1,g0,g1,g2,trivial⟩
   ·exact ⟨_,rSt00_23,h0,h1,g0,g1,g2,trivial⟩
   ·exact ⟨_,rSt00_24,h0,h1,g0,g1,g2,trivial⟩
theorem leafFnStiffness01 (fx:Fix) (h0:fx.byte 9 % 3 = 0) (h1:fx.byte 10 % 2 = 1):∃ l,runB (oSt01 l) 8 = true∧TabOk fx ((9,3,0) :: (10,2,1) :: l):=by
 have g0:fx.byte 11 % 3 = 0 ∨ fx.byte 11 % 3 = 1 ∨ fx.byte 11 % 3 = 2:=by omega
 rcases g0 with g0 | g0 | g0
 ·exact ⟨_,rSt01_0,h0,h1,g0,trivial⟩
 ·have g1:fx.byte 12 % 4 = 0 ∨ fx.byte 12 % 4 = 1 ∨ fx.byte 12 % 4 = 2 ∨ fx.byte 12 % 4 = 3:=by omega
  rcases g1 with g1 | g1 | g1 | g1
  ·exact ⟨_,rSt01_1,h0,h1,g0,g1,trivial⟩
  ·exact ⟨_,rSt01_2,h0,h1,g0,g1,trivial⟩
  ·exact ⟨_,rSt01_3,h0,h1,g0,g1,trivial⟩
  ·exact ⟨_,rSt01_4,h0,h1,g0,g1,trivial⟩
 ·have g1:fx.byte 12 % 4 = 0 ∨ fx.byte 12 % 4 = 1 ∨ fx.byte 12 % 4 = 2 ∨ fx.byte 12 % 4 = 3:=by omega
  rcases g1 with g1 | g1 | g1 | g1
  ·have g2:fx.byte 13 % 5 = 0 ∨ fx.byte 13 % 5 = 1 ∨ fx.byte 13 % 5 = 2 ∨ fx.byte 13 % 5 = 3 ∨ fx.byte 13 % 5 = 4:=by omega
   rcases g2 with g2 | g2 | g2 | g2 | g2
   ·exact ⟨_,rSt01_5,h0,h1,g0,g1,g2,trivial⟩
   ·exact ⟨_,rSt01_6,h0,h1,g0,g1,g2,trivial⟩
   ·exact ⟨_,rSt01_7,h0,h1,g0,g1,g2,trivial⟩
   ·exact ⟨_,rSt01_8,h0,h1,g0,g1,g2,trivial⟩
   ·exact ⟨_,rSt01_9,h0,h1,g0,g1,g2,trivial⟩
  ·have g2:fx.byte 13 % 5 = 0 ∨ fx.byte 13 % 5 = 1 ∨ fx.byte 13 % 5 = 2 ∨ fx.byte 13 % 5 = 3 ∨ fx.byte 13 % 5 = 4:=by omega
   rcases g2 with g2 | g2 | g2 | g2 | g2
   ·exact ⟨_,rSt01_10,h0,h1,g0,g1,g2,trivial⟩
   ·exact ⟨_,rSt01_11,h0,h1,g0,g1,g2,trivial⟩
   ·exact ⟨_,rSt01_12,h0,h1,g0,g1,g2,trivial⟩
   ·exact ⟨_,rSt01_13,h0,h1,g0,g1,g2,trivial⟩
   ·exact ⟨_,rSt01_14,h0,h1,g0,g1,g2,trivial⟩
  ·have g2:fx.byte 13 % 5 = 0 ∨ fx.byte 13 % 5 = 1 ∨ fx.byte 13 % 5 = 2 ∨ fx.byte 13 % 5 = 3 ∨ fx.byte 13 % 5 = 4:=by omega
   rcases g2 with g2 | g2 | g2 | g2 | g2
   ·exact ⟨_,rSt01_15,h0,h1,g0,g1,g2,trivial⟩
   ·exact ⟨_,rSt01_16,h0,h1,g0,g1,g2,trivial⟩
   ·exact ⟨_,rSt01_17,h0,h1,g0,g1,g2,trivial⟩
   ·exact ⟨_,rSt01_18,h0,h1,g0,g1,g2,trivial⟩
   ·exact ⟨_,rSt01_19,h0,h1,g0,g1,g2,trivial⟩
  ·have g2:fx.byte 13 % 5 = 0 ∨ fx.byte 13 % 5 = 1 ∨ fx.byte 13 % 5 = 2 ∨ fx.byte 13 % 5 = 3 ∨ fx.byte 13 % 5 = 4:=by omega
   rcases g2 with g2 | g2 | g2 | g2 | g2
   ·exact ⟨_,rSt01_20,h0,h1,g0,g1,g2,trivial⟩
   ·exact ⟨_,rSt01_21,h0,h1,g0,g1,g2,trivial⟩
   ·exact ⟨_,rSt01_22,h0,h1,g0,g1,g2,trivial⟩
   ·exact ⟨_,rSt01_23,h0,h1,g0,g1,g2,trivial⟩
   ·exact ⟨_,rSt01_24,h0,h1,g0,g1,g2,trivial⟩
theorem leafFnStiffness10 (fx:Fix) (h0:fx.byte 9 % 3 = 1) (h1:fx.byte 10 % 3 = 0):∃ l,runB (oSt10 l) 8 = true∧TabOk fx ((9,3,1) :: (10,3,0) :: l):=by
 have g0:fx.byte 11 % 3 = 0 ∨ fx.byte 11 % 3 = 1 ∨ fx.byte 11 % 3 = 2:=by omega
 rcases g0 with g0 | g0 | g0
 ·exact ⟨_,rSt10_0,h0,h1,g0,trivial⟩
 ·have g1:fx.byte 12 % 2 = 0 ∨ fx.byte 12 % 2 = 1:=by omega
  rcases g1 with g1 | g1
  ·exact ⟨_,rSt10_1,h0,h1,g0,g1,trivial⟩
  ·exact ⟨_,rSt10_2,h0,h1,g0,g1,trivial⟩
 ·have g1:fx.byte 12 % 2 = 0 ∨ fx.byte 12 % 2 = 1:=by omega
  rcases g1 with g1 | g1
  ·have g2:fx.byte 13 % 4 = 0 ∨ fx.byte 13 % 4 = 1 ∨ fx.byte 13 % 4 = 2 ∨ fx.byte 13 % 4 = 3:=by omega
   rcases g2 with g2 | g2 | g2 | g2
   ·exact ⟨_,rSt10_3,h0,h1,g0,g1,g2,trivial⟩
   ·exact ⟨_,rSt10_4,h0,h1,g0,g1,g2,trivial⟩
   ·exact ⟨_,rSt10_5,h0,h1,g0,g1,g2,trivial⟩
   ·exact ⟨_,rSt10_6,h0,h1,g0,g1,g2,trivial⟩
  ·have g2:fx.byte 13 % 4 = 0 ∨ fx.byte 13 % 4 = 1 ∨ fx.byte 13 % 4 = 2 ∨ fx.byte 13 % 4 = 3:=by omega
   rcases g2 with g2 | g2 | g2 | g2
   ·exact ⟨_,rSt10_7,h0,h1,g0,g1,g2,trivial⟩
   ·exact ⟨_,rSt10_8,h0,h1,g0,g1,g2,trivial⟩
   ·exact ⟨_,rSt10_9,h0,h1,g0,g1,g2,trivial⟩
   ·exact ⟨_,rSt10_10,h0,h1,g0,g1,g2,trivial⟩
theorem leafFnStiffness11 (fx:Fix) (h0:fx.byte 9 % 3 = 1) (h1:fx.byte 10 % 3 = 1):∃ l,runB (oSt11 l) 8 = true∧TabOk fx ((9,3,1) :: (10,3,1) :: l):=by
 have g0:fx.byte 11 % 3 = 0 ∨ fx.byte 11 % 3 = 1 ∨ fx.byte 11 % 3 = 2:=by omega
 rcases g0 with g0 | g0 | g0
 ·exact ⟨_,rSt11_0,h0,h1,g0,trivial⟩
 ·have g1:fx.byte 12 % 2 = 0 ∨ fx.byte 12 % 2 = 1:=by omega
  rcases g1 with g1 | g1
  ·exact ⟨_,rSt11_1,h0,h1,g0,g1,trivial⟩
  ·exact ⟨_,rSt11_2,h0,h1,g0,g1,trivial⟩
 ·have g1:fx.byte 12 % 2 = 0 ∨ fx.byte 12 % 2 = 1:=by omega
  rcases g1 with g1 | g1
  ·have g2:fx.byte 13 % 4 = 0 ∨ fx.byte 13 % 4 = 1 ∨ fx.byte 13 % 4 = 2 ∨ fx.byte 13 % 4 = 3:=by omega
   rcases g2 with g2 | g2 | g2 | g2
   ·exact ⟨_,rSt11_3,h0,h1,g0,g1,g2,trivial⟩
   ·exact ⟨_,rSt11_4,h0,h1,g0,g1,g2,trivial⟩
   ·exact ⟨_,rSt11_5,h0,h1,g0,g1,g2,trivial⟩
   ·exact ⟨_,rSt11_6,h0,h1,g0,g1,g2,trivial⟩
  ·have g2:fx.byte 13 % 4 = 0 ∨ fx.byte 13 % 4 = 1 ∨ fx.byte 13 % 4 = 2 ∨ fx.byte 13 % 4 = 3:=by omega
   rcases g2 with g2 | g2 | g2 | g2
   ·exact ⟨_,rSt11_7,h0,h1,g0,g1,g2,trivial⟩
   ·exact ⟨_,rSt11_8,h0,h1,g0,g1,g2,trivial⟩
   ·exact ⟨_,rSt11_9,h0,h1,g0,g1,g2,trivial⟩
   ·exact ⟨_,rSt11_10,h0,h1,g0,g1,g2,trivial⟩
theorem leafFnStiffness12 (fx:Fix) (h0:fx.byte 9 % 3 = 1) (h1:fx.byte 10 % 3 = 2):∃ l,runB (oSt12 l) 8 = true∧TabOk fx ((9,3,1) :: (10,3,2) :: l):=by
 have g0:fx.byte 11 % 3 = 0 ∨ fx.byte 11 % 3 = 1 ∨ fx.byte 11 % 3 = 2:=by omega
 rcases g0 with g0 | g0 | g0
 ·exact ⟨_,rSt12_0,h0,h1,g0,trivial⟩
 ·have g1:fx.byte 12 % 2 = 0 ∨ fx.byte 12 % 2 = 1:=by omega
  rcases g1 with g1 | g1
  ·exact ⟨_,rSt12_1,h0,h1,g0,g1,trivial⟩
  ·exact ⟨_,rSt12_2,h0,h1,g0,g1,trivial⟩
 ·have g1:fx.byte 12 % 2 = 0 ∨ fx.byte 12 % 2 = 1:=by omega
  rcases g1 with g1 | g1
  ·have g2:fx.byte 13 % 4 = 0 ∨ fx.byte 13 % 4 = 1 ∨ fx.byte 13 % 4 = 2 ∨ fx.byte 13 % 4 = 3:=by omega
   rcases g2 with g2 | g2 | g2 | g2
   ·exact ⟨_,rSt12_3,h0,h1,g0,g1,g2,trivial⟩
   ·exact ⟨_,rSt12_4,h0,h1,g0,g1,g2,trivial⟩
   ·exact ⟨_,rSt12_5,h0,h1,g0,g1,g2,trivial⟩
   ·exact ⟨_,rSt12_6,h0,h1,g0,g1,g2,trivial⟩
  ·have g2:fx.byte 13 % 4 = 0 ∨ fx.byte 13 % 4 = 1 ∨ fx.byte 13 % 4 = 2 ∨ fx.byte 13 % 4 = 3:=by omega
   rcases g2 with g2 | g2 | g2 | g2
   ·exact ⟨_,rSt12_7,h0,h1,g0,g1,g2,trivial⟩
   ·exact ⟨_,rSt12_8,h0,h1,g0,g1,g2,trivial⟩
   ·exact ⟨_,rSt12_9,h0,h1,g0,g1,g2,trivial⟩
   ·exact ⟨_,rSt12_10,h0,h1,g0,g1,g2,trivial⟩
theorem leafFnStiffness20 (fx:Fix) (h0:fx.byte 9 % 3 = 2):∃ l,runB (oSt20 l) 8 = true∧TabOk fx ((9,3,2) :: l):=by
 have g0:fx.byte 10 % 3 = 0 ∨ fx.byte 10 % 3 = 1 ∨ fx.byte 10 % 3 = 2:=by omega
 rcases g0 with g0 | g0 | g0
 ·exact ⟨_,rSt20_0,h0,g0,trivial⟩
 ·have g1:fx.byte 11 % 6 = 0 ∨ fx.byte 11 % 6 = 1 ∨ fx.byte 11 % 6 = 2 ∨ fx.byte 11 % 6 = 3 ∨ fx.byte 11 % 6 = 4 ∨ fx.byte 11 % 6 = 5:=by omega
  rcases g1 with g1 | g1 | g1 | g1 | g1 | g1
  ·exact ⟨_,rSt20_1,h0,g0,g1,trivial⟩
  ·exact ⟨_,rSt20_2,h0,g0,g1,trivial⟩
  ·exact ⟨_,rSt20_3,h0,g0,g1,trivial⟩
  ·exact ⟨_,rSt20_4,h0,g0,g1,trivial⟩
  ·exact ⟨_,rSt20_5,h0,g0,g1,trivial⟩
  ·exact ⟨_,rSt20_6,h0,g0,g1,trivial⟩
 ·have g1:fx.byte 11 % 6 = 0 ∨ fx.byte 11 % 6 = 1 ∨ fx.byte 11 % 6 = 2 ∨ fx.byte 11 % 6 = 3 ∨ fx.byte 11 % 6 = 4 ∨ fx.byte 11 % 6 = 5:=by omega
  rcases g1 with g1 | g1 | g1 | g1 | g1 | g1
  ·have g2:fx.byte 12 % 8 = 0 ∨ fx.byte 12 % 8 = 1 ∨ fx.byte 12 % 8 = 2 ∨ fx.byte 12 % 8 = 3 ∨ fx.byte 12 % 8 = 4 ∨ fx.byte 12 % 8 = 5 ∨ fx.byte 12 % 8 = 6 ∨ fx.byte 12 % 8 = 7:=by omega
   rcases g2 with g2 | g2 | g2 | g2 | g2 | g2 | g2 | g2
   ·exact ⟨_,rSt20_7,h0,g0,g1,g2,trivial⟩
   ·exact ⟨_,rSt20_8,h0,g0,g1,g2,trivial⟩
   ·exact ⟨_,rSt20_9,h0,g0,g1,g2,trivial⟩
   ·exact ⟨_,rSt20_10,h0,g0,g1,g2,trivial⟩
   ·exact ⟨_,rSt20_11,h0,g0,g1,g2,trivial⟩
   ·exact ⟨_,rSt20_12,h0,g0,g1,g2,trivial⟩
   ·exact ⟨_,rSt20_13,h0,g0,g1,g2,trivial⟩
   ·exact ⟨_,rSt20_14,h0,g0,g1,g2,trivial⟩
  ·have g2:fx.byte 12 % 8 = 0 ∨ fx.byte 12 % 8 = 1 ∨ fx.byte 12 % 8 = 2 ∨ fx.byte 12 % 8 = 3 ∨ fx.byte 12 % 8 = 4 ∨ fx.byte 12 % 8 = 5 ∨ fx.byte 12 % 8 = 6 ∨ fx.byte 12 % 8 = 7:=by omega
   rcases g2 with g2 | g2 | g2 | g2 | g2 | g2 | g2 | g2
   ·exact ⟨_,rSt20_15,h0,g0,g1,g2,trivial⟩
   ·exact ⟨_,rSt20_16,h0,g0,g1,g2,trivial⟩
   ·exact ⟨_,rSt20_17,h0,g0,g1,g2,trivial⟩
   ·exact ⟨_,rSt20_18,h0,g0,g1,g2,trivial⟩
   ·exact ⟨_,rSt20_19,h0,g0,g1,g2,trivial⟩
   ·exact ⟨_,rSt20_20,h0,g0,g1,g2,trivial⟩
   ·exact ⟨_,rSt20_21,h0,g0,g1,g2,trivial⟩
   ·exact ⟨_,rSt20_22,h0,g0,g1,g2,trivial⟩
  ·have g2:fx.byte 12 % 8 = 0 ∨ fx.byte 12 % 8 = 1 ∨ fx.byte 12 % 8 = 2 ∨ fx.byte 12 % 8 = 3 ∨ fx.byte 12 % 8 = 4 ∨ fx.byte 12 % 8 = 5 ∨ fx.byte 12 % 8 = 6 ∨ fx.byte 12 % 8 = 7:=by omega
   rcases g2 with g2 | g2 | g2 | g2 | g2 | g2 | g2 | g2
   ·exact ⟨_,rSt20_23,h0,g0,g1,g2,trivial⟩
   ·exact ⟨_,rSt20_24,h0,g0,g1,g2,trivial⟩
   ·exact ⟨_,rSt20_25,h0,g0,g1,g2,trivial⟩
   ·exact ⟨_,rSt20_26,h0,g0,g1,g2,trivial⟩
   ·exact ⟨_,rSt20_27,h0,g0,g1,g2,trivial⟩
   ·exact ⟨_,rSt20_28,h0,g0,g1,g2,trivial⟩
   ·exact ⟨_,rSt20_29,h0,g0,g1,g2,trivial⟩
   ·exact ⟨_,rSt20_30,h0,g0,g1,g2,trivial⟩
  ·have g2:fx.byte 12 % 8 = 0 ∨ fx.byte 12 % 8 = 1 ∨ fx.byte 12 % 8 = 2 ∨ fx.byte 12 % 8 = 3 ∨ fx.byte 12 % 8 = 4 ∨ fx.byte 12 % 8 = 5 ∨ fx.byte 12 % 8 = 6 ∨ fx.byte 12 % 8 = 7:=by omega
   rcases g2 with g2 | g2 | g2 | g2 | g2 | g2 | g2 | g2
   ·exact ⟨_,rSt20_31,h0,g0,g1,g2,trivial⟩
   ·exact ⟨_,rSt20_32,h0,g0,g1,g2,trivial⟩
   ·exact ⟨_,rSt20_33,h0,g0,g1,g2,trivial⟩
   ·exact ⟨_,rSt20_34,h0,g0,g1,g2,trivial⟩
   ·exact ⟨_,rSt20_35,h0,g0,g1,g2,trivial⟩
   ·exact ⟨_,rSt20_36,h0,g0,g1,g2,trivial⟩
   ·exact ⟨_,rSt20_37,h0,g0,g1,g2,trivial⟩
   ·exact ⟨_,rSt20_38,h0,g0,g1,g2,trivial⟩
  ·have g2:fx.byte 12 % 8 = 0 ∨ fx.byte 12 % 8 = 1 ∨ fx.byte 12 % 8 = 2 ∨ fx.byte 12 % 8 = 3 ∨ fx.byte 12 % 8 = 4 ∨ fx.byte 12 % 8 = 5 ∨ fx.byte 12 % 8 = 6 ∨ fx.byte 12 % 8 = 7:=by omega
   rcases g2 with g2 | g2 | g2 | g2 | g2 | g2 | g2 | g2
   ·exact ⟨_,rSt20_39,h0,g0,g1,g2,trivial⟩
   ·exact ⟨_,rSt20_40,h0,g0,g1,g2,trivial⟩
   ·exact ⟨_,rSt20_41,h0,g0,g1,g2,trivial⟩
   ·exact ⟨_,rSt20_42,h0,g0,g1,g2,trivial⟩
   ·exact ⟨_,rSt20_43,h0,g0,g1,g2,trivial⟩
   ·exact ⟨_,rSt20_44,h0,g0,g1,g2,trivial⟩
   ·exact ⟨_,rSt20_45,h0,g0,g1,g2,trivial⟩
   ·exact ⟨_,rSt20_46,h0,g0,g1,g2,trivial⟩
  ·have g2:fx.byte 12 % 8 = 0 ∨ fx.byte 12 % 8 = 1 ∨ fx.byte 12 % 8 = 2 ∨ fx.byte 12 % 8 = 3 ∨ fx.byte 12 % 8 = 4 ∨ fx.byte 12 % 8 = 5 ∨ fx.byte 12 % 8 = 6 ∨ fx.byte 12 % 8 = 7:=by omega
   rcases g2 with g2 | g2 | g2 | g2 | g2 | g2 | g2 | g2
   ·exact ⟨_,rSt20_47,h0,g0,g1,g2,trivial⟩
   ·exact ⟨_,rSt20_48,h0,g0,g1,g2,trivial⟩
   ·exact ⟨_,rSt20_49,h0,g0,g1,g2,trivial⟩
   ·exact ⟨_,rSt20_50,h0,g0,g1,g2,trivial⟩
   ·exact ⟨_,rSt20_51,h0,g0,g1,g2,trivial⟩
   ·exact ⟨_,rSt20_52,h0,g0,g1,g2,trivial⟩
   ·exact ⟨_,rSt20_53,h0,g0,g1,g2,trivial⟩
   ·exact ⟨_,rSt20_54,h0,g0,g1,g2,trivial⟩
theorem fnStiffness (n c:Nat) (A:Option Addr) (w:World) (hA:BI w A n) :
 Calls Tryz.prog 8 #[.slice A n c] w fun e w'=>e = .returned (.bool true)∧Below w.heap.size w w':=by
 by_cases hn:n ≤ 1048576
 case neg =>
  have hgt:(1048576:Int) < (n:Int):=by omega
  go_enter Tryz.func8,Tryz.ntmps8
  go_wp2
  go_ret
  exact ⟨rfl,Below.refl _ _⟩
 obtain ⟨y,hy,hb⟩:=be_of_bi hA
 obtain ⟨b0,e0⟩:∃ b0,(fixOf A n c y).byte 9 = b0:=⟨_,rfl⟩
 obtain ⟨b1,e1⟩:∃ b1,(fixOf A n c y).byte 10 = b1:=⟨_,rfl⟩
 have h:(b0 % 3 = 0∧b1 % 2 = 0) ∨ (b0 % 3 = 0∧b1 % 2 = 1) ∨ (b0 % 3 = 1∧b1 % 3 = 0) ∨ (b0 % 3 = 1∧b1 % 3 = 1) ∨ (b0 % 3 = 1∧b1 % 3 = 2) ∨ (b0 % 3 = 2∧b1 % 1 = 0):=by omega
 rw [← e0,← e1] at h
 rcases h with ⟨g0,g1⟩ | ⟨g0,g1⟩ | ⟨g0,g1⟩ | ⟨g0,g1⟩ | ⟨g0,g1⟩ | ⟨g0,_⟩
 ·obtain ⟨l,hr,ht⟩:=leafFnStiffness00 (fixOf A n c y) g0 g1
  exact sx_run2 (p:=parPb00) n c A y w (oSt00_ok (drw:=⟨tabF ((9,3,0) :: (10,2,0) :: l),fixOf A n c y⟩) rfl) hr hn hy hb (tabOk_all ht)
 ·obtain ⟨l,hr,ht⟩:=leafFnStiffness01 (fixOf A n c y) g0 g1
  exact sx_run2 (p:=parPb01) n c A y w (oSt01_ok (drw:=⟨tabF ((9,3,0) :: (10,2,1) :: l),fixOf A n c y⟩) rfl) hr hn hy hb (tabOk_all ht)
 ·obtain ⟨l,hr,ht⟩:=leafFnStiffness10 (fixOf A n c y) g0 g1
  exact sx_run2 (p:=parPb10) n c A y w (oSt10_ok (drw:=⟨tabF ((9,3,1) :: (10,3,0) :: l),fixOf A n c y⟩) rfl) hr hn hy hb (tabOk_all ht)
 ·obtain ⟨l,hr,ht⟩:=leafFnStiffness11 (fixOf A n c y) g0 g1
  exact sx_run2 (p:=parPb11) n c A y w (oSt11_ok (drw:=⟨tabF ((9,3,1) :: (10,3,1) :: l),fixOf A n c y⟩) rfl) hr hn hy hb (tabOk_all ht)
 ·obtain ⟨l,hr,ht⟩:=leafFnStiffness12 (fixOf A n c y) g0 g1
  exact sx_run2 (p:=parPb12) n c A y w (oSt12_ok (drw:=⟨tabF ((9,3,1) :: (10,3,2) :: l),fixOf A n c y⟩) rfl) hr hn hy hb (tabOk_all ht)
 ·obtain ⟨l,hr,ht⟩:=leafFnStiffness20 (fixOf A n c y) g0
  exact sx_run2 (p:=parPb20) n c A y w (oSt20_ok (drw:=⟨tabF ((9,3,2) :: l),fixOf A n c y⟩) rfl) hr hn hy hb (tabOk_all ht)
open Go.ChangeShapes Go.WideShapes Go.ChangeAt Go.WideElems Go.Deep
theorem own:ownKnob Tryz.prog.godebug = none:=by kernel_rfl
theorem laid:laidOutB Tryz.prog = true:=by kernel_rfl
theorem fnStiffness_lifted (os:Os) (started:os.Started) (H:Type) (enc:TypeId × Value → H) :
 ReturnsInHanded {} Tryz.checked os 8 .any (Rows.fnStiffnessSpec.pre6 enc Tryz.prog Tryz.f8 Rows.fnStiffnessRow.domain false) (Rows.fnStiffnessSpec.post enc Tryz.prog Tryz.f8 false true false false):=by
 refine returnsInHanded_of_change (C:=Tryz.checked) own started (by kernel_rfl) Tryz.func8
  (ChangeSpec.witness6 (enc:=enc) (C:=Tryz.checked) false ⟨#[],#[.slice none 0 0],[]⟩ 8 (by kernel_rfl) (by kernel_rfl) (by kernel_rfl) (by kernel_rfl)) ?_
 intro W base args ds gs before hval0 hW _ _
 have hval:∀ (j:Nat) t v,Tryz.f8.params[j]? = some t → args[j]? = some v → Value.okWide Tryz.prog W .any base t v:=hval0
 have hW':=hW
 obtain ⟨p,q,hA0,hV,_,_,_⟩:=hW
 have hA:DataW.TrodAll enc Tryz.prog W 0 (fun _=>true) true Tryz.f8.params.toList args.toList ds p:=hA0
 rw [Tryz.params8] at hA hval
 obtain ⟨v0,d0,rfl,rfl,h0⟩:=trodAll_one hA
 obtain ⟨A0,n0,c0,rfl,_,k0⟩:=openBytes (okWide_slice Tryz.underlying22 (hval 0 _ v0 rfl rfl)) h0
 refine (fnStiffness n0 c0 A0 W k0).mono fun r W' ⟨hr,hb⟩=>?_
 subst hr
 exact ⟨_,rfl,law_post laid rfl (by kernel_rfl) hb rfl Tryz.underlying4 rfl hW'⟩
theorem fac1:(Rows.fnStiffnessRow.inPlace == Tryz.prog.inPlace 8) = true:=by kernel_rfl
theorem fac2:(Rows.fnStiffnessRow.unfollowed == Tryz.prog.unfollowed 8) = true:=by kernel_rfl
theorem fac3:(Rows.fnStiffnessRow.recurses == Tryz.prog.recurses 8) = true:=by kernel_rfl
theorem fac4:(Rows.fnStiffnessRow.named == Tryz.prog.varsNamed 8) = true:=by kernel_rfl
theorem facts:joinedFacts Tryz.prog 8 Tryz.f8 Rows.fnStiffnessSpec Rows.fnStiffnessRow = true:=by
 unfold joinedFacts
 rw [fac1,fac2,fac3,fac4]
 kernel_rfl
theorem fnStiffness_holds:Rows.FnStiffnessSaid :=
 OpenClaim.holds_of_wide 8 Tryz.f8 rfl rfl rfl rfl rfl rfl rfl ⟨rfl,rfl,rfl,rfl,rfl⟩ rfl rfl rfl rfl rfl (by kernel_rfl) Tryz.func8 facts
  (of_decide_eq_true (by kernel_rfl)) (by unfold Func.isWrapper;rw [if_neg (by decide +kernel)];exact ⟨rfl,rfl⟩)
  (fun os started H enc _=>fnStiffness_lifted os started H enc)
#print axioms fnStiffness_holds
end Go.Proofs.YtcblajhfehadaaaGreat
