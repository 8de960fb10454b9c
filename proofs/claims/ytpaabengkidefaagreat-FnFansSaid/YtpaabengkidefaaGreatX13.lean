/-
  Shared texts (X13).
-/
import Derived.Test.YtpaabengkidefaaGreatX7
namespace Go.Proofs.YtpaabengkidefaaGreat
open Go.RowKit Go.Joins Go.SX
set_option maxRecDepth 1000000

noncomputable def oB20 : Orcs := orcB (numT [0, 0, 1, 0, 2, 0, 2, 1, 1, 1, 1, 2, 0, 2, 0, 1]) (okT 16) (drwT 2 0 1)
noncomputable def mesh20 : Cells := [(11, [.cell 0 0, .cell 0 1, .cell 0 2, .cell 1 0, .cell 1 1, .cell 1 2, .cell 2 0, .cell 2 1, .cell 2 2, .cell 3 0, .cell 3 1, .cell 3 2, .cell 4 0, .cell 4 1, .cell 4 2, .cell 5 0, .cell 5 1, .cell 5 2, .cell 6 0, .cell 6 1, .cell 6 2, .cell 7 0, .cell 7 1, .cell 7 2, .cell 8 0, .cell 8 1, .cell 8 2, .cell 9 0, .cell 9 1, .cell 9 2, .cell 10 0, .cell 10 1, .cell 10 2, .cell 11 0, .cell 11 1, .cell 11 2, .cell 12 0, .cell 12 1, .cell 12 2, .cell 13 0, .cell 13 1, .cell 13 2, .cell 14 0, .cell 14 1, .cell 14 2, .cell 15 0, .cell 15 1, .cell 15 2]), (12, [.int 1, .int 4, .int 0, .int 0, .int 0, .int 7, .int 0, .int 4, .int 0, .int 0, .int 3, .int 4, .int 2, .int 0, .int 0, .int 1, .int 2, .int 4, .int 1, .int 0, .int 7, .int 4, .int 6, .int 0, .int 0, .int 5, .int 6, .int 4, .int 2, .int 0])]
noncomputable def a20_0 : List V := [.s (.agg [.sl 11 0 8 6, .sl 12 0 6 5])]
noncomputable def v20_0 : V := .s (.c (.bool true))
noncomputable def r20_0 : Cells := []
theorem i20_0 : memoIn a20_0 mesh20 13 = true := by kernel_rfl
theorem t20_0 : memoR 13 16 v20_0 r20_0 (evCall Tryz.prog oB20 100000 40 58 a20_0 ⟨memT mesh20, 13, 16⟩) = true := by kernel_rfl
noncomputable def o58_20 : Orcs := withM 58 (memo a20_0 mesh20 13 v20_0 r20_0) oB20
noncomputable def a20_1 : List V := [.s (.agg [.sl 11 0 8 6, .sl 12 0 6 5])]
noncomputable def v20_1 : V := .s (.c (.sl 295 0 13 4))
noncomputable def r20_1 : Cells := [(295, [.int 0, .int 1, .int 0, .int (-1), .int 0, .int 4, .int 1, .int 0, .int 0, .int 7, .int (-1), .int 1, .int 1, .int 2, .int 3, .int (-1), .int 1, .int 4, .int 0, .int 3, .int 2, .int 3, .int 2, .int (-1), .int 2, .int 4, .int 3, .int 2, .int 3, .int 4, .int 2, .int (-1), .int 4, .int 5, .int 5, .int (-1), .int 4, .int 6, .int 4, .int 5, .int 4, .int 7, .int 1, .int 4, .int 5, .int 6, .int 5, .int (-1), .int 6, .int 7, .int 4, .int (-1)])]
theorem i20_1 : memoIn a20_1 mesh20 13 = true := by kernel_rfl
theorem t20_1 : memoR 13 16 v20_1 r20_1 (evCall Tryz.prog o58_20 100000 40 138 a20_1 ⟨memT mesh20, 13, 16⟩) = true := by kernel_rfl
noncomputable def o138_20 : Orcs := withM 138 (memo a20_1 mesh20 13 v20_1 r20_1) o58_20
noncomputable def a20_2 : List V := [.s (.agg [.sl 11 0 8 6, .sl 12 0 6 5]), .s (.c (.int 0))]
noncomputable def v20_2 : V := .s (.c (.sl 305 0 1 3))
noncomputable def r20_2 : Cells := [(305, [.sl 224 0 2 1, .sl 303 0 3 1, .bool false]), (224, [.int 0, .int 1]), (303, [.int 0, .int 1, .int 2])]
theorem i20_2 : memoIn a20_2 mesh20 13 = true := by kernel_rfl
theorem t20_2 : memoR 13 16 v20_2 r20_2 (evCall Tryz.prog o138_20 100000 40 61 a20_2 ⟨memT mesh20, 13, 16⟩) = true := by kernel_rfl
noncomputable def a20_3 : List V := [.s (.agg [.sl 11 0 8 6, .sl 12 0 6 5]), .s (.c (.int 1))]
noncomputable def v20_3 : V := .s (.c (.sl 306 0 1 3))
noncomputable def r20_3 : Cells := [(306, [.sl 225 0 2 1, .sl 304 0 3 1, .bool false]), (225, [.int 3, .int 0]), (304, [.int 3, .int 4, .int 0])]
theorem i20_3 : memoIn a20_3 mesh20 13 = true := by kernel_rfl
theorem t20_3 : memoR 13 16 v20_3 r20_3 (evCall Tryz.prog o138_20 100000 40 61 a20_3 ⟨memT mesh20, 13, 16⟩) = true := by kernel_rfl
noncomputable def a20_4 : List V := [.s (.agg [.sl 11 0 8 6, .sl 12 0 6 5]), .s (.c (.int 2))]
noncomputable def v20_4 : V := .s (.c (.sl 284 0 1 3))
noncomputable def r20_4 : Cells := [(284, [.sl 209 0 2 1, .sl 282 0 3 1, .bool false]), (209, [.int 2, .int 3]), (282, [.int 5, .int 6, .int 3])]
theorem i20_4 : memoIn a20_4 mesh20 13 = true := by kernel_rfl
theorem t20_4 : memoR 13 16 v20_4 r20_4 (evCall Tryz.prog o138_20 100000 40 61 a20_4 ⟨memT mesh20, 13, 16⟩) = true := by kernel_rfl
noncomputable def a20_5 : List V := [.s (.agg [.sl 11 0 8 6, .sl 12 0 6 5]), .s (.c (.int 3))]
noncomputable def v20_5 : V := .s (.c (.sl 150 0 1 3))
noncomputable def r20_5 : Cells := [(150, [.sl 106 0 1 1, .sl 148 0 2 1, .bool false]), (106, [.int 2]), (148, [.int 7, .int 5])]
theorem i20_5 : memoIn a20_5 mesh20 13 = true := by kernel_rfl
theorem t20_5 : memoR 13 16 v20_5 r20_5 (evCall Tryz.prog o138_20 100000 40 61 a20_5 ⟨memT mesh20, 13, 16⟩) = true := by kernel_rfl
noncomputable def a20_6 : List V := [.s (.agg [.sl 11 0 8 6, .sl 12 0 6 5]), .s (.c (.int 4))]
noncomputable def v20_6 : V := .s (.c (.sl 1267 0 1 3))
noncomputable def r20_6 : Cells := [(1267, [.sl 1044 0 6 1, .sl 1265 0 7 1, .bool false]), (1044, [.int 5, .int 4, .int 1, .int 0, .int 3, .int 2]), (1265, [.int 8, .int 9, .int 10, .int 1, .int 4, .int 6, .int 7])]
theorem i20_6 : memoIn a20_6 mesh20 13 = true := by kernel_rfl
theorem t20_6 : memoR 13 16 v20_6 r20_6 (evCall Tryz.prog o138_20 100000 40 61 a20_6 ⟨memT mesh20, 13, 16⟩) = true := by kernel_rfl
noncomputable def a20_7 : List V := [.s (.agg [.sl 11 0 8 6, .sl 12 0 6 5]), .s (.c (.int 5))]
noncomputable def v20_7 : V := .s (.c (.sl 150 0 1 3))
noncomputable def r20_7 : Cells := [(150, [.sl 106 0 1 1, .sl 148 0 2 1, .bool false]), (106, [.int 5]), (148, [.int 11, .int 8])]
theorem i20_7 : memoIn a20_7 mesh20 13 = true := by kernel_rfl
theorem t20_7 : memoR 13 16 v20_7 r20_7 (evCall Tryz.prog o138_20 100000 40 61 a20_7 ⟨memT mesh20, 13, 16⟩) = true := by kernel_rfl
noncomputable def a20_8 : List V := [.s (.agg [.sl 11 0 8 6, .sl 12 0 6 5]), .s (.c (.int 6))]
noncomputable def v20_8 : V := .s (.c (.sl 305 0 1 3))
noncomputable def r20_8 : Cells := [(305, [.sl 224 0 2 1, .sl 303 0 3 1, .bool false]), (224, [.int 4, .int 5]), (303, [.int 12, .int 9, .int 11])]
theorem i20_8 : memoIn a20_8 mesh20 13 = true := by kernel_rfl
theorem t20_8 : memoR 13 16 v20_8 r20_8 (evCall Tryz.prog o138_20 100000 40 61 a20_8 ⟨memT mesh20, 13, 16⟩) = true := by kernel_rfl
noncomputable def a20_9 : List V := [.s (.agg [.sl 11 0 8 6, .sl 12 0 6 5]), .s (.c (.int 7))]
noncomputable def v20_9 : V := .s (.c (.sl 305 0 1 3))
noncomputable def r20_9 : Cells := [(305, [.sl 224 0 2 1, .sl 303 0 3 1, .bool false]), (224, [.int 1, .int 4]), (303, [.int 2, .int 10, .int 12])]
theorem i20_9 : memoIn a20_9 mesh20 13 = true := by kernel_rfl
theorem t20_9 : memoR 13 16 v20_9 r20_9 (evCall Tryz.prog o138_20 100000 40 61 a20_9 ⟨memT mesh20, 13, 16⟩) = true := by kernel_rfl
noncomputable def o61_20 : Orcs := withM 61 (altM (memo a20_2 mesh20 13 v20_2 r20_2) (altM (memo a20_3 mesh20 13 v20_3 r20_3) (altM (memo a20_4 mesh20 13 v20_4 r20_4) (altM (memo a20_5 mesh20 13 v20_5 r20_5) (altM (memo a20_6 mesh20 13 v20_6 r20_6) (altM (memo a20_7 mesh20 13 v20_7 r20_7) (altM (memo a20_8 mesh20 13 v20_8 r20_8) (memo a20_9 mesh20 13 v20_9 r20_9)))))))) o138_20
theorem run20 : isTrue (evCall Tryz.prog o61_20 100000 40 3 [.s (.c .code)] ⟨.lf, 0, 0⟩) = true := by kernel_rfl
end Go.Proofs.YtpaabengkidefaaGreat
