/-
 Shared texts (Z17).
-/
import Derived.Test.YtcblajhfehadaaaGreatZ16
namespace Go.Proofs.YtcblajhfehadaaaGreat
open Go.RowKit Go.Joins Go.SX
set_option maxRecDepth 1000000
noncomputable def parCs00 : Par := ⟨[.k 0, .f 2, .k 3, .f 5, .k 6, .f 8, .u 14, .u 16, .u 18, .u 20, .u 22, .u 24, .u 26, .u 28, .u 35, .u 37, .u 39, .u 41], [⟨[(0, 1)], [(1, 3), (256, 1)], 11, true⟩]⟩
theorem parCs00_ok : parCs00.ok = true := by kernel_rfl
def ctsCs00 : List (List (M × M)) := [[([(1, 3), (256, 1)], [(72057594037927936, (-1)), (4722366482869645213712, 12), (4722366482869645217792, 4)])]]
noncomputable def ba : Orcs := orcG parCs00 ctsCs00
noncomputable def pa0 : List (Int × Nat) := [(0, 1), (0, 1), (2, 1), (0, 1), (2, 1), (2, 1), (0, 1), (2, 1), (1, 1), (1, 1)]
noncomputable def ta0 : List C := intsC [4, 0, 1, 0, 0, 4, 1, 2, 0, 0, 4, 2, 3, 1, 0, 4, 3, 0, 0, 0]
noncomputable def ka0_0 : Kp := ⟨[maA 0 5 4], mmC 0 0 pa0 ta0, 2, 10, .s (.c (.bool true)), [], xisF []⟩
theorem ka0_0_ok : ka0_0.ok ba 58 = true := by kernel_rfl
noncomputable def pa1 : List (Int × Nat) := [(0, 1), (0, 1), (2, 1), (0, 1), (2, 1), (2, 1), (0, 1), (2, 1), (1, 1), (1, 1), (1, 1), (0, 1)]
noncomputable def ta1 : List C := intsC [5, 4, 0, 0, 1, 5, 1, 4, 0, 1, 4, 1, 2, 0, 0, 4, 2, 3, 1, 0, 4, 3, 0, 0, 0]
noncomputable def ka0_1 : Kp := ⟨[maA 0 6 5], mmC 0 0 pa1 ta1, 2, 12, .s (.c (.bool true)), [], xisF []⟩
theorem ka0_1_ok : ka0_1.ok ba 58 = true := by kernel_rfl
noncomputable def pa2 : List (Int × Nat) := [(0, 1), (0, 1), (2, 1), (0, 1), (2, 1), (2, 1), (0, 1), (2, 1), (1, 1), (1, 1), (2, 1), (1, 1)]
noncomputable def ta2 : List C := intsC [4, 0, 1, 0, 0, 5, 4, 1, 0, 1, 5, 2, 4, 0, 1, 4, 2, 3, 1, 0, 4, 3, 0, 0, 0]
noncomputable def ka0_2 : Kp := ⟨[maA 0 6 5], mmC 0 0 pa2 ta2, 2, 12, .s (.c (.bool true)), [], xisF []⟩
theorem ka0_2_ok : ka0_2.ok ba 58 = true := by kernel_rfl
noncomputable def pa3 : List (Int × Nat) := [(0, 1), (0, 1), (2, 1), (0, 1), (2, 1), (2, 1), (0, 1), (2, 1), (1, 1), (1, 1), (1, 1), (2, 1)]
noncomputable def ta3 : List C := intsC [4, 0, 1, 0, 0, 4, 1, 2, 0, 0, 5, 4, 2, 1, 1, 5, 3, 4, 1, 1, 4, 3, 0, 0, 0]
noncomputable def ka0_3 : Kp := ⟨[maA 0 6 5], mmC 0 0 pa3 ta3, 2, 12, .s (.c (.bool true)), [], xisF []⟩
theorem ka0_3_ok : ka0_3.ok ba 58 = true := by kernel_rfl
noncomputable def pa4 : List (Int × Nat) := [(0, 1), (0, 1), (2, 1), (0, 1), (2, 1), (2, 1), (0, 1), (2, 1), (1, 1), (1, 1), (0, 1), (1, 1)]
noncomputable def ta4 : List C := intsC [4, 0, 1, 0, 0, 4, 1, 2, 0, 0, 4, 2, 3, 1, 0, 5, 4, 3, 0, 1, 5, 0, 4, 0, 1]
noncomputable def ka0_4 : Kp := ⟨[maA 0 6 5], mmC 0 0 pa4 ta4, 2, 12, .s (.c (.bool true)), [], xisF []⟩
theorem ka0_4_ok : ka0_4.ok ba 58 = true := by kernel_rfl
noncomputable def pa5 : List (Int × Nat) := [(0, 1), (0, 1), (2, 1), (0, 1), (2, 1), (2, 1), (0, 1), (2, 1), (1, 1), (1, 1), (1, 1), (0, 1), (2, 1), (1, 1)]
noncomputable def ta5 : List C := intsC [5, 4, 0, 0, 1, 5, 1, 4, 0, 1, 6, 4, 1, 0, 1, 6, 2, 4, 0, 1, 4, 2, 3, 1, 0, 4, 3, 0, 0, 0]
noncomputable def ka0_5 : Kp := ⟨[maA 0 7 6], mmC 0 0 pa5 ta5, 2, 14, .s (.c (.bool true)), [], xisF []⟩
theorem ka0_5_ok : ka0_5.ok ba 58 = true := by kernel_rfl
noncomputable def pa6 : List (Int × Nat) := [(0, 1), (0, 1), (2, 1), (0, 1), (2, 1), (2, 1), (0, 1), (2, 1), (1, 1), (1, 1), (1, 1), (0, 1), (1, 1), (2, 1)]
noncomputable def ta6 : List C := intsC [5, 4, 0, 0, 1, 5, 1, 4, 0, 1, 4, 1, 2, 0, 0, 6, 4, 2, 1, 1, 6, 3, 4, 1, 1, 4, 3, 0, 0, 0]
noncomputable def ka0_6 : Kp := ⟨[maA 0 7 6], mmC 0 0 pa6 ta6, 2, 14, .s (.c (.bool true)), [], xisF []⟩
theorem ka0_6_ok : ka0_6.ok ba 58 = true := by kernel_rfl
noncomputable def pa7 : List (Int × Nat) := [(0, 1), (0, 1), (2, 1), (0, 1), (2, 1), (2, 1), (0, 1), (2, 1), (1, 1), (1, 1), (1, 1), (0, 1), (0, 1), (1, 1)]
noncomputable def ta7 : List C := intsC [5, 4, 0, 0, 1, 5, 1, 4, 0, 1, 4, 1, 2, 0, 0, 4, 2, 3, 1, 0, 6, 4, 3, 0, 1, 6, 0, 4, 0, 1]
noncomputable def ka0_7 : Kp := ⟨[maA 0 7 6], mmC 0 0 pa7 ta7, 2, 14, .s (.c (.bool true)), [], xisF []⟩
theorem ka0_7_ok : ka0_7.ok ba 58 = true := by kernel_rfl
noncomputable def pa8 : List (Int × Nat) := [(0, 1), (0, 1), (2, 1), (0, 1), (2, 1), (2, 1), (0, 1), (2, 1), (1, 1), (1, 1), (2, 1), (1, 1), (1, 1), (2, 1)]
noncomputable def ta8 : List C := intsC [4, 0, 1, 0, 0, 5, 4, 1, 0, 1, 5, 2, 4, 0, 1, 6, 4, 2, 1, 1, 6, 3, 4, 1, 1, 4, 3, 0, 0, 0]
noncomputable def ka0_8 : Kp := ⟨[maA 0 7 6], mmC 0 0 pa8 ta8, 2, 14, .s (.c (.bool true)), [], xisF []⟩
theorem ka0_8_ok : ka0_8.ok ba 58 = true := by kernel_rfl
noncomputable def pa9 : List (Int × Nat) := [(0, 1), (0, 1), (2, 1), (0, 1), (2, 1), (2, 1), (0, 1), (2, 1), (1, 1), (1, 1), (0, 1), (1, 1), (2, 1), (1, 1)]
noncomputable def ta9 : List C := intsC [4, 0, 1, 0, 0, 6, 4, 1, 0, 1, 6, 2, 4, 0, 1, 4, 2, 3, 1, 0, 5, 4, 3, 0, 1, 5, 0, 4, 0, 1]
noncomputable def ka0_9 : Kp := ⟨[maA 0 7 6], mmC 0 0 pa9 ta9, 2, 14, .s (.c (.bool true)), [], xisF []⟩
theorem ka0_9_ok : ka0_9.ok ba 58 = true := by kernel_rfl
noncomputable def pa10 : List (Int × Nat) := [(0, 1), (0, 1), (2, 1), (0, 1), (2, 1), (2, 1), (0, 1), (2, 1), (1, 1), (1, 1), (0, 1), (1, 1), (1, 1), (2, 1)]
noncomputable def ta10 : List C := intsC [4, 0, 1, 0, 0, 4, 1, 2, 0, 0, 6, 4, 2, 1, 1, 6, 3, 4, 1, 1, 5, 4, 3, 0, 1, 5, 0, 4, 0, 1]
noncomputable def ka0_10 : Kp := ⟨[maA 0 7 6], mmC 0 0 pa10 ta10, 2, 14, .s (.c (.bool true)), [], xisF []⟩
theorem ka0_10_ok : ka0_10.ok ba 58 = true := by kernel_rfl
end Go.Proofs.YtcblajhfehadaaaGreat
