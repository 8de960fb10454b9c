/-
  Shared texts (X8).
-/
import Derived.Test.YtpaabengkidefaaGreatX7
namespace Go.Proofs.YtpaabengkidefaaGreat
open Go.RowKit Go.Joins Go.SX
set_option maxRecDepth 1000000

noncomputable def oB00 : Orcs := orcB (numT [0, 0, 2, 0, 2, 2, 0, 2, 1, 1]) (okT 10) (drwT 0 0 2)
noncomputable def mesh00 : Cells := [(8, [.cell 0 0, .cell 0 1, .cell 0 2, .cell 1 0, .cell 1 1, .cell 1 2, .cell 2 0, .cell 2 1, .cell 2 2, .cell 3 0, .cell 3 1, .cell 3 2, .cell 4 0, .cell 4 1, .cell 4 2, .cell 5 0, .cell 5 1, .cell 5 2, .cell 6 0, .cell 6 1, .cell 6 2, .cell 7 0, .cell 7 1, .cell 7 2, .cell 8 0, .cell 8 1, .cell 8 2, .cell 9 0, .cell 9 1, .cell 9 2]), (9, [.int 4, .int 0, .int 1, .int 0, .int 0, .int 4, .int 1, .int 2, .int 0, .int 0, .int 4, .int 2, .int 3, .int 1, .int 0, .int 4, .int 3, .int 0, .int 0, .int 0])]
noncomputable def a00_0 : List V := [.s (.agg [.sl 8 0 5 6, .sl 9 0 4 5])]
noncomputable def v00_0 : V := .s (.c (.bool true))
noncomputable def r00_0 : Cells := []
theorem i00_0 : memoIn a00_0 mesh00 10 = true := by kernel_rfl
theorem t00_0 : memoR 10 10 v00_0 r00_0 (evCall Tryz.prog oB00 100000 40 58 a00_0 ⟨memT mesh00, 10, 10⟩) = true := by kernel_rfl
noncomputable def o58_00 : Orcs := withM 58 (memo a00_0 mesh00 10 v00_0 r00_0) oB00
noncomputable def a00_1 : List V := [.s (.agg [.sl 8 0 5 6, .sl 9 0 4 5])]
noncomputable def v00_1 : V := .s (.c (.sl 152 0 8 4))
noncomputable def r00_1 : Cells := [(152, [.int 0, .int 1, .int 0, .int (-1), .int 0, .int 3, .int (-1), .int 3, .int 0, .int 4, .int 3, .int 0, .int 1, .int 2, .int 1, .int (-1), .int 1, .int 4, .int 0, .int 1, .int 2, .int 3, .int 2, .int (-1), .int 2, .int 4, .int 1, .int 2, .int 3, .int 4, .int 2, .int 3])]
theorem i00_1 : memoIn a00_1 mesh00 10 = true := by kernel_rfl
theorem t00_1 : memoR 10 10 v00_1 r00_1 (evCall Tryz.prog o58_00 100000 40 138 a00_1 ⟨memT mesh00, 10, 10⟩) = true := by kernel_rfl
noncomputable def o138_00 : Orcs := withM 138 (memo a00_1 mesh00 10 v00_1 r00_1) o58_00
noncomputable def a00_2 : List V := [.s (.agg [.sl 8 0 5 6, .sl 9 0 4 5]), .s (.c (.int 0))]
noncomputable def v00_2 : V := .s (.c (.sl 279 0 1 3))
noncomputable def r00_2 : Cells := [(279, [.sl 204 0 2 1, .sl 277 0 3 1, .bool false]), (204, [.int 0, .int 3]), (277, [.int 0, .int 2, .int 1])]
theorem i00_2 : memoIn a00_2 mesh00 10 = true := by kernel_rfl
theorem t00_2 : memoR 10 10 v00_2 r00_2 (evCall Tryz.prog o138_00 100000 40 61 a00_2 ⟨memT mesh00, 10, 10⟩) = true := by kernel_rfl
noncomputable def a00_3 : List V := [.s (.agg [.sl 8 0 5 6, .sl 9 0 4 5]), .s (.c (.int 1))]
noncomputable def v00_3 : V := .s (.c (.sl 271 0 1 3))
noncomputable def r00_3 : Cells := [(271, [.sl 199 0 2 1, .sl 269 0 3 1, .bool false]), (199, [.int 1, .int 0]), (269, [.int 3, .int 4, .int 0])]
theorem i00_3 : memoIn a00_3 mesh00 10 = true := by kernel_rfl
theorem t00_3 : memoR 10 10 v00_3 r00_3 (evCall Tryz.prog o138_00 100000 40 61 a00_3 ⟨memT mesh00, 10, 10⟩) = true := by kernel_rfl
noncomputable def a00_4 : List V := [.s (.agg [.sl 8 0 5 6, .sl 9 0 4 5]), .s (.c (.int 2))]
noncomputable def v00_4 : V := .s (.c (.sl 259 0 1 3))
noncomputable def r00_4 : Cells := [(259, [.sl 190 0 2 1, .sl 257 0 3 1, .bool false]), (190, [.int 2, .int 1]), (257, [.int 5, .int 6, .int 3])]
theorem i00_4 : memoIn a00_4 mesh00 10 = true := by kernel_rfl
theorem t00_4 : memoR 10 10 v00_4 r00_4 (evCall Tryz.prog o138_00 100000 40 61 a00_4 ⟨memT mesh00, 10, 10⟩) = true := by kernel_rfl
noncomputable def a00_5 : List V := [.s (.agg [.sl 8 0 5 6, .sl 9 0 4 5]), .s (.c (.int 3))]
noncomputable def v00_5 : V := .s (.c (.sl 268 0 1 3))
noncomputable def r00_5 : Cells := [(268, [.sl 196 0 2 1, .sl 266 0 3 1, .bool false]), (196, [.int 3, .int 2]), (266, [.int 1, .int 7, .int 5])]
theorem i00_5 : memoIn a00_5 mesh00 10 = true := by kernel_rfl
theorem t00_5 : memoR 10 10 v00_5 r00_5 (evCall Tryz.prog o138_00 100000 40 61 a00_5 ⟨memT mesh00, 10, 10⟩) = true := by kernel_rfl
noncomputable def a00_6 : List V := [.s (.agg [.sl 8 0 5 6, .sl 9 0 4 5]), .s (.c (.int 4))]
noncomputable def v00_6 : V := .s (.c (.sl 614 0 1 3))
noncomputable def r00_6 : Cells := [(614, [.sl 578 0 4 1, .sl 580 0 4 1, .bool true]), (578, [.int 0, .int 1, .int 2, .int 3]), (580, [.int 2, .int 4, .int 6, .int 7])]
theorem i00_6 : memoIn a00_6 mesh00 10 = true := by kernel_rfl
theorem t00_6 : memoR 10 10 v00_6 r00_6 (evCall Tryz.prog o138_00 100000 40 61 a00_6 ⟨memT mesh00, 10, 10⟩) = true := by kernel_rfl
noncomputable def o61_00 : Orcs := withM 61 (altM (memo a00_2 mesh00 10 v00_2 r00_2) (altM (memo a00_3 mesh00 10 v00_3 r00_3) (altM (memo a00_4 mesh00 10 v00_4 r00_4) (altM (memo a00_5 mesh00 10 v00_5 r00_5) (memo a00_6 mesh00 10 v00_6 r00_6))))) o138_00
theorem run00 : isTrue (evCall Tryz.prog o61_00 100000 40 3 [.s (.c .code)] ⟨.lf, 0, 0⟩) = true := by kernel_rfl
end Go.Proofs.YtpaabengkidefaaGreat
