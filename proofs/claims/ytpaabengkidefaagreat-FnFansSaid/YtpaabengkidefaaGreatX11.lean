/-
  Shared texts (X11).
-/
import Derived.Test.YtpaabengkidefaaGreatX7
namespace Go.Proofs.YtpaabengkidefaaGreat
open Go.RowKit Go.Joins Go.SX
set_option maxRecDepth 1000000

noncomputable def oB11 : Orcs := orcB (numT [0, 0, 2, 0, 2, 1, 0, 2]) (okT 8) (drwT 1 1 3)
noncomputable def mesh11 : Cells := [(7, [.cell 0 0, .cell 0 1, .cell 0 2, .cell 1 0, .cell 1 1, .cell 1 2, .cell 2 0, .cell 2 1, .cell 2 2, .cell 3 0, .cell 3 1, .cell 3 2, .cell 4 0, .cell 4 1, .cell 4 2, .cell 5 0, .cell 5 1, .cell 5 2, .cell 6 0, .cell 6 1, .cell 6 2, .cell 7 0, .cell 7 1, .cell 7 2]), (8, [.int 1, .int 2, .int 0, .int 0, .int 0, .int 3, .int 0, .int 2, .int 1, .int 0])]
noncomputable def a11_0 : List V := [.s (.agg [.sl 7 0 4 6, .sl 8 0 2 5])]
noncomputable def v11_0 : V := .s (.c (.bool true))
noncomputable def r11_0 : Cells := []
theorem i11_0 : memoIn a11_0 mesh11 9 = true := by kernel_rfl
theorem t11_0 : memoR 9 8 v11_0 r11_0 (evCall Tryz.prog oB11 100000 40 58 a11_0 ⟨memT mesh11, 9, 8⟩) = true := by kernel_rfl
noncomputable def o58_11 : Orcs := withM 58 (memo a11_0 mesh11 9 v11_0 r11_0) oB11
noncomputable def a11_1 : List V := [.s (.agg [.sl 7 0 4 6, .sl 8 0 2 5])]
noncomputable def v11_1 : V := .s (.c (.sl 82 0 5 4))
noncomputable def r11_1 : Cells := [(82, [.int 0, .int 1, .int 0, .int (-1), .int 0, .int 2, .int 1, .int 0, .int 0, .int 3, .int (-1), .int 1, .int 1, .int 2, .int 0, .int (-1), .int 2, .int 3, .int 1, .int (-1)])]
theorem i11_1 : memoIn a11_1 mesh11 9 = true := by kernel_rfl
theorem t11_1 : memoR 9 8 v11_1 r11_1 (evCall Tryz.prog o58_11 100000 40 138 a11_1 ⟨memT mesh11, 9, 8⟩) = true := by kernel_rfl
noncomputable def o138_11 : Orcs := withM 138 (memo a11_1 mesh11 9 v11_1 r11_1) o58_11
noncomputable def a11_2 : List V := [.s (.agg [.sl 7 0 4 6, .sl 8 0 2 5]), .s (.c (.int 0))]
noncomputable def v11_2 : V := .s (.c (.sl 246 0 1 3))
noncomputable def r11_2 : Cells := [(246, [.sl 180 0 2 1, .sl 244 0 3 1, .bool false]), (180, [.int 0, .int 1]), (244, [.int 0, .int 1, .int 2])]
theorem i11_2 : memoIn a11_2 mesh11 9 = true := by kernel_rfl
theorem t11_2 : memoR 9 8 v11_2 r11_2 (evCall Tryz.prog o138_11 100000 40 61 a11_2 ⟨memT mesh11, 9, 8⟩) = true := by kernel_rfl
noncomputable def a11_3 : List V := [.s (.agg [.sl 7 0 4 6, .sl 8 0 2 5]), .s (.c (.int 1))]
noncomputable def v11_3 : V := .s (.c (.sl 124 0 1 3))
noncomputable def r11_3 : Cells := [(124, [.sl 86 0 1 1, .sl 122 0 2 1, .bool false]), (86, [.int 0]), (122, [.int 3, .int 0])]
theorem i11_3 : memoIn a11_3 mesh11 9 = true := by kernel_rfl
theorem t11_3 : memoR 9 8 v11_3 r11_3 (evCall Tryz.prog o138_11 100000 40 61 a11_3 ⟨memT mesh11, 9, 8⟩) = true := by kernel_rfl
noncomputable def a11_4 : List V := [.s (.agg [.sl 7 0 4 6, .sl 8 0 2 5]), .s (.c (.int 2))]
noncomputable def v11_4 : V := .s (.c (.sl 256 0 1 3))
noncomputable def r11_4 : Cells := [(256, [.sl 187 0 2 1, .sl 254 0 3 1, .bool false]), (187, [.int 1, .int 0]), (254, [.int 4, .int 1, .int 3])]
theorem i11_4 : memoIn a11_4 mesh11 9 = true := by kernel_rfl
theorem t11_4 : memoR 9 8 v11_4 r11_4 (evCall Tryz.prog o138_11 100000 40 61 a11_4 ⟨memT mesh11, 9, 8⟩) = true := by kernel_rfl
noncomputable def a11_5 : List V := [.s (.agg [.sl 7 0 4 6, .sl 8 0 2 5]), .s (.c (.int 3))]
noncomputable def v11_5 : V := .s (.c (.sl 115 0 1 3))
noncomputable def r11_5 : Cells := [(115, [.sl 80 0 1 1, .sl 113 0 2 1, .bool false]), (80, [.int 1]), (113, [.int 2, .int 4])]
theorem i11_5 : memoIn a11_5 mesh11 9 = true := by kernel_rfl
theorem t11_5 : memoR 9 8 v11_5 r11_5 (evCall Tryz.prog o138_11 100000 40 61 a11_5 ⟨memT mesh11, 9, 8⟩) = true := by kernel_rfl
noncomputable def o61_11 : Orcs := withM 61 (altM (memo a11_2 mesh11 9 v11_2 r11_2) (altM (memo a11_3 mesh11 9 v11_3 r11_3) (altM (memo a11_4 mesh11 9 v11_4 r11_4) (memo a11_5 mesh11 9 v11_5 r11_5)))) o138_11
theorem run11 : isTrue (evCall Tryz.prog o61_11 100000 40 3 [.s (.c .code)] ⟨.lf, 0, 0⟩) = true := by kernel_rfl
end Go.Proofs.YtpaabengkidefaaGreat
