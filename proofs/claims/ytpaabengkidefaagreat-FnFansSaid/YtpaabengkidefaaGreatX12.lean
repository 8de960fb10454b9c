/-
  Shared texts (X12).
-/
import Derived.Test.YtpaabengkidefaaGreatX7
namespace Go.Proofs.YtpaabengkidefaaGreat
open Go.RowKit Go.Joins Go.SX
set_option maxRecDepth 1000000

noncomputable def oB12 : Orcs := orcB (numT [0, 0, 2, 0, 2, 1, 0, 2]) (okT 8) (drwT 1 2 3)
noncomputable def mesh12 : Cells := [(7, [.cell 0 0, .cell 0 1, .cell 0 2, .cell 1 0, .cell 1 1, .cell 1 2, .cell 2 0, .cell 2 1, .cell 2 2, .cell 3 0, .cell 3 1, .cell 3 2, .cell 4 0, .cell 4 1, .cell 4 2, .cell 5 0, .cell 5 1, .cell 5 2, .cell 6 0, .cell 6 1, .cell 6 2, .cell 7 0, .cell 7 1, .cell 7 2]), (8, [.int 1, .int 2, .int 0, .int 0, .int 0, .int 3, .int 0, .int 2, .int 2, .int 0])]
noncomputable def a12_0 : List V := [.s (.agg [.sl 7 0 4 6, .sl 8 0 2 5])]
noncomputable def v12_0 : V := .s (.c (.bool true))
noncomputable def r12_0 : Cells := []
theorem i12_0 : memoIn a12_0 mesh12 9 = true := by kernel_rfl
theorem t12_0 : memoR 9 8 v12_0 r12_0 (evCall Tryz.prog oB12 100000 40 58 a12_0 ⟨memT mesh12, 9, 8⟩) = true := by kernel_rfl
noncomputable def o58_12 : Orcs := withM 58 (memo a12_0 mesh12 9 v12_0 r12_0) oB12
noncomputable def a12_1 : List V := [.s (.agg [.sl 7 0 4 6, .sl 8 0 2 5])]
noncomputable def v12_1 : V := .s (.c (.sl 82 0 5 4))
noncomputable def r12_1 : Cells := [(82, [.int 0, .int 1, .int 0, .int (-1), .int 0, .int 2, .int 1, .int 0, .int 0, .int 3, .int (-1), .int 1, .int 1, .int 2, .int 0, .int (-1), .int 2, .int 3, .int 1, .int (-1)])]
theorem i12_1 : memoIn a12_1 mesh12 9 = true := by kernel_rfl
theorem t12_1 : memoR 9 8 v12_1 r12_1 (evCall Tryz.prog o58_12 100000 40 138 a12_1 ⟨memT mesh12, 9, 8⟩) = true := by kernel_rfl
noncomputable def o138_12 : Orcs := withM 138 (memo a12_1 mesh12 9 v12_1 r12_1) o58_12
noncomputable def a12_2 : List V := [.s (.agg [.sl 7 0 4 6, .sl 8 0 2 5]), .s (.c (.int 0))]
noncomputable def v12_2 : V := .s (.c (.sl 246 0 1 3))
noncomputable def r12_2 : Cells := [(246, [.sl 180 0 2 1, .sl 244 0 3 1, .bool false]), (180, [.int 0, .int 1]), (244, [.int 0, .int 1, .int 2])]
theorem i12_2 : memoIn a12_2 mesh12 9 = true := by kernel_rfl
theorem t12_2 : memoR 9 8 v12_2 r12_2 (evCall Tryz.prog o138_12 100000 40 61 a12_2 ⟨memT mesh12, 9, 8⟩) = true := by kernel_rfl
noncomputable def a12_3 : List V := [.s (.agg [.sl 7 0 4 6, .sl 8 0 2 5]), .s (.c (.int 1))]
noncomputable def v12_3 : V := .s (.c (.sl 124 0 1 3))
noncomputable def r12_3 : Cells := [(124, [.sl 86 0 1 1, .sl 122 0 2 1, .bool false]), (86, [.int 0]), (122, [.int 3, .int 0])]
theorem i12_3 : memoIn a12_3 mesh12 9 = true := by kernel_rfl
theorem t12_3 : memoR 9 8 v12_3 r12_3 (evCall Tryz.prog o138_12 100000 40 61 a12_3 ⟨memT mesh12, 9, 8⟩) = true := by kernel_rfl
noncomputable def a12_4 : List V := [.s (.agg [.sl 7 0 4 6, .sl 8 0 2 5]), .s (.c (.int 2))]
noncomputable def v12_4 : V := .s (.c (.sl 256 0 1 3))
noncomputable def r12_4 : Cells := [(256, [.sl 187 0 2 1, .sl 254 0 3 1, .bool false]), (187, [.int 1, .int 0]), (254, [.int 4, .int 1, .int 3])]
theorem i12_4 : memoIn a12_4 mesh12 9 = true := by kernel_rfl
theorem t12_4 : memoR 9 8 v12_4 r12_4 (evCall Tryz.prog o138_12 100000 40 61 a12_4 ⟨memT mesh12, 9, 8⟩) = true := by kernel_rfl
noncomputable def a12_5 : List V := [.s (.agg [.sl 7 0 4 6, .sl 8 0 2 5]), .s (.c (.int 3))]
noncomputable def v12_5 : V := .s (.c (.sl 115 0 1 3))
noncomputable def r12_5 : Cells := [(115, [.sl 80 0 1 1, .sl 113 0 2 1, .bool false]), (80, [.int 1]), (113, [.int 2, .int 4])]
theorem i12_5 : memoIn a12_5 mesh12 9 = true := by kernel_rfl
theorem t12_5 : memoR 9 8 v12_5 r12_5 (evCall Tryz.prog o138_12 100000 40 61 a12_5 ⟨memT mesh12, 9, 8⟩) = true := by kernel_rfl
noncomputable def o61_12 : Orcs := withM 61 (altM (memo a12_2 mesh12 9 v12_2 r12_2) (altM (memo a12_3 mesh12 9 v12_3 r12_3) (altM (memo a12_4 mesh12 9 v12_4 r12_4) (memo a12_5 mesh12 9 v12_5 r12_5)))) o138_12
theorem run12 : isTrue (evCall Tryz.prog o61_12 100000 40 3 [.s (.c .code)] ⟨.lf, 0, 0⟩) = true := by kernel_rfl
end Go.Proofs.YtpaabengkidefaaGreat
