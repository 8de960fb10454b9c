/-
  Shared texts (X10).
-/
import Derived.Test.YtpaabengkidefaaGreatX7
namespace Go.Proofs.YtpaabengkidefaaGreat
open Go.RowKit Go.Joins Go.SX
set_option maxRecDepth 1000000

noncomputable def oB10 : Orcs := orcB (numT [0, 0, 2, 0, 2, 1, 0, 2]) (okT 8) (drwT 1 0 3)
noncomputable def mesh10 : Cells := [(7, [.cell 0 0, .cell 0 1, .cell 0 2, .cell 1 0, .cell 1 1, .cell 1 2, .cell 2 0, .cell 2 1, .cell 2 2, .cell 3 0, .cell 3 1, .cell 3 2, .cell 4 0, .cell 4 1, .cell 4 2, .cell 5 0, .cell 5 1, .cell 5 2, .cell 6 0, .cell 6 1, .cell 6 2, .cell 7 0, .cell 7 1, .cell 7 2]), (8, [.int 1, .int 2, .int 0, .int 0, .int 0, .int 3, .int 0, .int 2, .int 0, .int 0])]
noncomputable def a10_0 : List V := [.s (.agg [.sl 7 0 4 6, .sl 8 0 2 5])]
noncomputable def v10_0 : V := .s (.c (.bool true))
noncomputable def r10_0 : Cells := []
theorem i10_0 : memoIn a10_0 mesh10 9 = true := by kernel_rfl
theorem t10_0 : memoR 9 8 v10_0 r10_0 (evCall Tryz.prog oB10 100000 40 58 a10_0 ⟨memT mesh10, 9, 8⟩) = true := by kernel_rfl
noncomputable def o58_10 : Orcs := withM 58 (memo a10_0 mesh10 9 v10_0 r10_0) oB10
noncomputable def a10_1 : List V := [.s (.agg [.sl 7 0 4 6, .sl 8 0 2 5])]
noncomputable def v10_1 : V := .s (.c (.sl 82 0 5 4))
noncomputable def r10_1 : Cells := [(82, [.int 0, .int 1, .int 0, .int (-1), .int 0, .int 2, .int 1, .int 0, .int 0, .int 3, .int (-1), .int 1, .int 1, .int 2, .int 0, .int (-1), .int 2, .int 3, .int 1, .int (-1)])]
theorem i10_1 : memoIn a10_1 mesh10 9 = true := by kernel_rfl
theorem t10_1 : memoR 9 8 v10_1 r10_1 (evCall Tryz.prog o58_10 100000 40 138 a10_1 ⟨memT mesh10, 9, 8⟩) = true := by kernel_rfl
noncomputable def o138_10 : Orcs := withM 138 (memo a10_1 mesh10 9 v10_1 r10_1) o58_10
noncomputable def a10_2 : List V := [.s (.agg [.sl 7 0 4 6, .sl 8 0 2 5]), .s (.c (.int 0))]
noncomputable def v10_2 : V := .s (.c (.sl 246 0 1 3))
noncomputable def r10_2 : Cells := [(246, [.sl 180 0 2 1, .sl 244 0 3 1, .bool false]), (180, [.int 0, .int 1]), (244, [.int 0, .int 1, .int 2])]
theorem i10_2 : memoIn a10_2 mesh10 9 = true := by kernel_rfl
theorem t10_2 : memoR 9 8 v10_2 r10_2 (evCall Tryz.prog o138_10 100000 40 61 a10_2 ⟨memT mesh10, 9, 8⟩) = true := by kernel_rfl
noncomputable def a10_3 : List V := [.s (.agg [.sl 7 0 4 6, .sl 8 0 2 5]), .s (.c (.int 1))]
noncomputable def v10_3 : V := .s (.c (.sl 124 0 1 3))
noncomputable def r10_3 : Cells := [(124, [.sl 86 0 1 1, .sl 122 0 2 1, .bool false]), (86, [.int 0]), (122, [.int 3, .int 0])]
theorem i10_3 : memoIn a10_3 mesh10 9 = true := by kernel_rfl
theorem t10_3 : memoR 9 8 v10_3 r10_3 (evCall Tryz.prog o138_10 100000 40 61 a10_3 ⟨memT mesh10, 9, 8⟩) = true := by kernel_rfl
noncomputable def a10_4 : List V := [.s (.agg [.sl 7 0 4 6, .sl 8 0 2 5]), .s (.c (.int 2))]
noncomputable def v10_4 : V := .s (.c (.sl 256 0 1 3))
noncomputable def r10_4 : Cells := [(256, [.sl 187 0 2 1, .sl 254 0 3 1, .bool false]), (187, [.int 1, .int 0]), (254, [.int 4, .int 1, .int 3])]
theorem i10_4 : memoIn a10_4 mesh10 9 = true := by kernel_rfl
theorem t10_4 : memoR 9 8 v10_4 r10_4 (evCall Tryz.prog o138_10 100000 40 61 a10_4 ⟨memT mesh10, 9, 8⟩) = true := by kernel_rfl
noncomputable def a10_5 : List V := [.s (.agg [.sl 7 0 4 6, .sl 8 0 2 5]), .s (.c (.int 3))]
noncomputable def v10_5 : V := .s (.c (.sl 115 0 1 3))
noncomputable def r10_5 : Cells := [(115, [.sl 80 0 1 1, .sl 113 0 2 1, .bool false]), (80, [.int 1]), (113, [.int 2, .int 4])]
theorem i10_5 : memoIn a10_5 mesh10 9 = true := by kernel_rfl
theorem t10_5 : memoR 9 8 v10_5 r10_5 (evCall Tryz.prog o138_10 100000 40 61 a10_5 ⟨memT mesh10, 9, 8⟩) = true := by kernel_rfl
noncomputable def o61_10 : Orcs := withM 61 (altM (memo a10_2 mesh10 9 v10_2 r10_2) (altM (memo a10_3 mesh10 9 v10_3 r10_3) (altM (memo a10_4 mesh10 9 v10_4 r10_4) (memo a10_5 mesh10 9 v10_5 r10_5)))) o138_10
theorem run10 : isTrue (evCall Tryz.prog o61_10 100000 40 3 [.s (.c .code)] ⟨.lf, 0, 0⟩) = true := by kernel_rfl
end Go.Proofs.YtpaabengkidefaaGreat
