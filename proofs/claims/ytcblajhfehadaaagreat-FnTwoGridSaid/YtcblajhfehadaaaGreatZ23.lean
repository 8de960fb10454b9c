/-
 Shared texts (Z23).
-/
import Derived.Test.YtcblajhfehadaaaGreatZ16
namespace Go.Proofs.YtcblajhfehadaaaGreat
open Go.RowKit Go.Joins Go.SX
set_option maxRecDepth 1000000
noncomputable def parCs01 : Par := ⟨[.k 0, .f 2, .k 3, .f 5, .k 6, .f 8, .u 14, .u 16, .u 18, .u 20, .u 22, .u 24, .u 26, .u 28, .u 35, .u 37, .u 39, .u 41], [⟨[(0, 1)], [(1, 1), (256, 1)], 10, true⟩]⟩
theorem parCs01_ok : parCs01.ok = true := by kernel_rfl
def ctsCs01 : List (List (M × M)) := [[([(1, 1), (256, 1)], [(72057594037927936, (-1)), (4722366482869645213712, 4), (4722366482869645217792, 4)])]]
noncomputable def bb : Orcs := orcG parCs01 ctsCs01
noncomputable def pb0 : List (Int × Nat) := [(0, 1), (0, 1), (2, 1), (0, 1), (2, 1), (2, 1), (0, 1), (2, 1), (1, 1), (1, 1)]
noncomputable def tb0 : List C := intsC [4, 0, 1, 0, 0, 4, 1, 2, 0, 0, 4, 2, 3, 1, 0, 4, 3, 0, 1, 0]
noncomputable def kb0_0 : Kp := ⟨[maA 0 5 4], mmC 0 0 pb0 tb0, 2, 10, .s (.c (.bool true)), [], xisF []⟩
theorem kb0_0_ok : kb0_0.ok bb 58 = true := by kernel_rfl
noncomputable def pb1 : List (Int × Nat) := [(0, 1), (0, 1), (2, 1), (0, 1), (2, 1), (2, 1), (0, 1), (2, 1), (1, 1), (1, 1), (1, 1), (0, 1)]
noncomputable def tb1 : List C := intsC [5, 4, 0, 0, 1, 5, 1, 4, 0, 1, 4, 1, 2, 0, 0, 4, 2, 3, 1, 0, 4, 3, 0, 1, 0]
noncomputable def kb0_1 : Kp := ⟨[maA 0 6 5], mmC 0 0 pb1 tb1, 2, 12, .s (.c (.bool true)), [], xisF []⟩
theorem kb0_1_ok : kb0_1.ok bb 58 = true := by kernel_rfl
noncomputable def pb2 : List (Int × Nat) := [(0, 1), (0, 1), (2, 1), (0, 1), (2, 1), (2, 1), (0, 1), (2, 1), (1, 1), (1, 1), (2, 1), (1, 1)]
noncomputable def tb2 : List C := intsC [4, 0, 1, 0, 0, 5, 4, 1, 0, 1, 5, 2, 4, 0, 1, 4, 2, 3, 1, 0, 4, 3, 0, 1, 0]
noncomputable def kb0_2 : Kp := ⟨[maA 0 6 5], mmC 0 0 pb2 tb2, 2, 12, .s (.c (.bool true)), [], xisF []⟩
theorem kb0_2_ok : kb0_2.ok bb 58 = true := by kernel_rfl
noncomputable def pb3 : List (Int × Nat) := [(0, 1), (0, 1), (2, 1), (0, 1), (2, 1), (2, 1), (0, 1), (2, 1), (1, 1), (1, 1), (1, 1), (2, 1)]
noncomputable def tb3 : List C := intsC [4, 0, 1, 0, 0, 4, 1, 2, 0, 0, 5, 4, 2, 1, 1, 5, 3, 4, 1, 1, 4, 3, 0, 1, 0]
noncomputable def kb0_3 : Kp := ⟨[maA 0 6 5], mmC 0 0 pb3 tb3, 2, 12, .s (.c (.bool true)), [], xisF []⟩
theorem kb0_3_ok : kb0_3.ok bb 58 = true := by kernel_rfl
noncomputable def pb4 : List (Int × Nat) := [(0, 1), (0, 1), (2, 1), (0, 1), (2, 1), (2, 1), (0, 1), (2, 1), (1, 1), (1, 1), (0, 1), (1, 1)]
noncomputable def tb4 : List C := intsC [4, 0, 1, 0, 0, 4, 1, 2, 0, 0, 4, 2, 3, 1, 0, 5, 4, 3, 1, 1, 5, 0, 4, 1, 1]
noncomputable def kb0_4 : Kp := ⟨[maA 0 6 5], mmC 0 0 pb4 tb4, 2, 12, .s (.c (.bool true)), [], xisF []⟩
theorem kb0_4_ok : kb0_4.ok bb 58 = true := by kernel_rfl
noncomputable def pb5 : List (Int × Nat) := [(0, 1), (0, 1), (2, 1), (0, 1), (2, 1), (2, 1), (0, 1), (2, 1), (1, 1), (1, 1), (1, 1), (0, 1), (2, 1), (1, 1)]
noncomputable def tb5 : List C := intsC [5, 4, 0, 0, 1, 5, 1, 4, 0, 1, 6, 4, 1, 0, 1, 6, 2, 4, 0, 1, 4, 2, 3, 1, 0, 4, 3, 0, 1, 0]
noncomputable def kb0_5 : Kp := ⟨[maA 0 7 6], mmC 0 0 pb5 tb5, 2, 14, .s (.c (.bool true)), [], xisF []⟩
theorem kb0_5_ok : kb0_5.ok bb 58 = true := by kernel_rfl
noncomputable def pb6 : List (Int × Nat) := [(0, 1), (0, 1), (2, 1), (0, 1), (2, 1), (2, 1), (0, 1), (2, 1), (1, 1), (1, 1), (1, 1), (0, 1), (1, 1), (2, 1)]
noncomputable def tb6 : List C := intsC [5, 4, 0, 0, 1, 5, 1, 4, 0, 1, 4, 1, 2, 0, 0, 6, 4, 2, 1, 1, 6, 3, 4, 1, 1, 4, 3, 0, 1, 0]
noncomputable def kb0_6 : Kp := ⟨[maA 0 7 6], mmC 0 0 pb6 tb6, 2, 14, .s (.c (.bool true)), [], xisF []⟩
theorem kb0_6_ok : kb0_6.ok bb 58 = true := by kernel_rfl
noncomputable def pb7 : List (Int × Nat) := [(0, 1), (0, 1), (2, 1), (0, 1), (2, 1), (2, 1), (0, 1), (2, 1), (1, 1), (1, 1), (1, 1), (0, 1), (0, 1), (1, 1)]
noncomputable def tb7 : List C := intsC [5, 4, 0, 0, 1, 5, 1, 4, 0, 1, 4, 1, 2, 0, 0, 4, 2, 3, 1, 0, 6, 4, 3, 1, 1, 6, 0, 4, 1, 1]
noncomputable def kb0_7 : Kp := ⟨[maA 0 7 6], mmC 0 0 pb7 tb7, 2, 14, .s (.c (.bool true)), [], xisF []⟩
theorem kb0_7_ok : kb0_7.ok bb 58 = true := by kernel_rfl
noncomputable def pb8 : List (Int × Nat) := [(0, 1), (0, 1), (2, 1), (0, 1), (2, 1), (2, 1), (0, 1), (2, 1), (1, 1), (1, 1), (2, 1), (1, 1), (1, 1), (2, 1)]
noncomputable def tb8 : List C := intsC [4, 0, 1, 0, 0, 5, 4, 1, 0, 1, 5, 2, 4, 0, 1, 6, 4, 2, 1, 1, 6, 3, 4, 1, 1, 4, 3, 0, 1, 0]
noncomputable def kb0_8 : Kp := ⟨[maA 0 7 6], mmC 0 0 pb8 tb8, 2, 14, .s (.c (.bool true)), [], xisF []⟩
theorem kb0_8_ok : kb0_8.ok bb 58 = true := by kernel_rfl
noncomputable def pb9 : List (Int × Nat) := [(0, 1), (0, 1), (2, 1), (0, 1), (2, 1), (2, 1), (0, 1), (2, 1), (1, 1), (1, 1), (0, 1), (1, 1), (2, 1), (1, 1)]
noncomputable def tb9 : List C := intsC [4, 0, 1, 0, 0, 6, 4, 1, 0, 1, 6, 2, 4, 0, 1, 4, 2, 3, 1, 0, 5, 4, 3, 1, 1, 5, 0, 4, 1, 1]
noncomputable def kb0_9 : Kp := ⟨[maA 0 7 6], mmC 0 0 pb9 tb9, 2, 14, .s (.c (.bool true)), [], xisF []⟩
theorem kb0_9_ok : kb0_9.ok bb 58 = true := by kernel_rfl
noncomputable def pb10 : List (Int × Nat) := [(0, 1), (0, 1), (2, 1), (0, 1), (2, 1), (2, 1), (0, 1), (2, 1), (1, 1), (1, 1), (0, 1), (1, 1), (1, 1), (2, 1)]
noncomputable def tb10 : List C := intsC [4, 0, 1, 0, 0, 4, 1, 2, 0, 0, 6, 4, 2, 1, 1, 6, 3, 4, 1, 1, 5, 4, 3, 1, 1, 5, 0, 4, 1, 1]
noncomputable def kb0_10 : Kp := ⟨[maA 0 7 6], mmC 0 0 pb10 tb10, 2, 14, .s (.c (.bool true)), [], xisF []⟩
theorem kb0_10_ok : kb0_10.ok bb 58 = true := by kernel_rfl
end Go.Proofs.YtcblajhfehadaaaGreat
