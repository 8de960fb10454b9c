/-
  No cell of these rows narrows 'for every input' (looked for: loops, veiled, ifaces, maps, wideKeys, modest, calm, conditions, laid).
  DERIVED. THE GIVEN ROWS OF THIS SEAT. 8 by the template 'for every input the law returns true; each argument reads behind the call as it read before'; 0 by the template 'total and deterministic' (their statements: YtcblajhfehadaaaGreatTotals.lean).
  GIVEN WITH THE SEED: the statements are not yours to turn. If you find one false, say at which input.
  Laid BY PROGRAM, IN A SANDBOX (cutbox-rows.mjs): the forced cells as the released guide's own fill.sh prints them over the translation b1fea238598a83ea… (all of the seat's roots in one cut). By AI agents, Wed Nov 11 2026. No macro, syntax, notation, axiom, sorry.
-/
import Derived.Test.YtcblajhfehadaaaGreatChecked
import GoSem.Claim
import GoSem.ClaimJoined
import GoSem.ClaimMapViews
import Derived.JoinedTies
import Derived.KernelRfl
namespace Go.Proofs.YtcblajhfehadaaaGreat
/- THE CELL 'sum', in the pinned program and in every row, IS THE sha256 OF THE DUMP (.gsa) THAT YtcblajhfehadaaaGreatProg.lean LOADS. Nothing in Lean hashes anything: it is a label: what it is worth is what the hold of that sum in a sandbox is worth. -/
noncomputable def Tryz.pinned : Pinned := { name := "ytcblajhfehadaaagreat", sum := "b1fea238598a83ea5981d1201636ab13b0b80c64569e0501950258132395d952", checked := Tryz.checked }
namespace Rows
def none {H : Type} : Left H := { results := [], args := [] }

/-- 'laws.FnFans': WHATEVER THE INPUT: true; the input reads as it did. -/
def fnFansSpec : ChangeSpec := { name := "fnFans", fn := fun _ => fun
  | [d] => { results := [.lit (.bool true)], args := [d] }
  | _ => none }
def fnFansRow : OpenClaim := { program := "ytcblajhfehadaaagreat", sum := "b1fea238598a83ea5981d1201636ab13b0b80c64569e0501950258132395d952", func := "loop.example/g00812/laws.FnFans", spec := "fnFans", inPlace := ["slices.overlaps[loop.example/g00812/impl.Edge]"], unfollowed := true, recurses := true, apart := false }
def FnFansSaid : Prop := fnFansRow.holds Tryz.pinned (OpenSpec.ofChange fnFansSpec)

/-- ITS FALSE NEIGHBOUR: 'it returns false'. Refute it at one input. -/
def fnFansWrong : ChangeSpec := { name := "fnFans", fn := fun _ => fun
  | [d] => { results := [.lit (.bool false)], args := [d] }
  | _ => none }
def FnFansWrongFalsely : Prop := fnFansRow.holds Tryz.pinned (OpenSpec.ofChange fnFansWrong)

/-- 'laws.FnFlows': WHATEVER THE INPUT: true; the input reads as it did. -/
def fnFlowsSpec : ChangeSpec := { name := "fnFlows", fn := fun _ => fun
  | [d] => { results := [.lit (.bool true)], args := [d] }
  | _ => none }
def fnFlowsRow : OpenClaim := { program := "ytcblajhfehadaaagreat", sum := "b1fea238598a83ea5981d1201636ab13b0b80c64569e0501950258132395d952", func := "loop.example/g00812/laws.FnFlows", spec := "fnFlows", inPlace := ["slices.overlaps[loop.example/g00812/impl.Edge]"], unfollowed := true, recurses := true, apart := false }
def FnFlowsSaid : Prop := fnFlowsRow.holds Tryz.pinned (OpenSpec.ofChange fnFlowsSpec)

/-- ITS FALSE NEIGHBOUR: 'it returns false'. Refute it at one input. -/
def fnFlowsWrong : ChangeSpec := { name := "fnFlows", fn := fun _ => fun
  | [d] => { results := [.lit (.bool false)], args := [d] }
  | _ => none }
def FnFlowsWrongFalsely : Prop := fnFlowsRow.holds Tryz.pinned (OpenSpec.ofChange fnFlowsWrong)

/-- 'laws.FnNested': WHATEVER THE INPUT: true; the input reads as it did. -/
def fnNestedSpec : ChangeSpec := { name := "fnNested", fn := fun _ => fun
  | [d] => { results := [.lit (.bool true)], args := [d] }
  | _ => none }
def fnNestedRow : OpenClaim := { program := "ytcblajhfehadaaagreat", sum := "b1fea238598a83ea5981d1201636ab13b0b80c64569e0501950258132395d952", func := "loop.example/g00812/laws.FnNested", spec := "fnNested", inPlace := ["slices.overlaps[loop.example/g00812/impl.Edge]"], unfollowed := true, recurses := true, apart := false }
def FnNestedSaid : Prop := fnNestedRow.holds Tryz.pinned (OpenSpec.ofChange fnNestedSpec)

/-- ITS FALSE NEIGHBOUR: 'it returns false'. Refute it at one input. -/
def fnNestedWrong : ChangeSpec := { name := "fnNested", fn := fun _ => fun
  | [d] => { results := [.lit (.bool false)], args := [d] }
  | _ => none }
def FnNestedWrongFalsely : Prop := fnNestedRow.holds Tryz.pinned (OpenSpec.ofChange fnNestedWrong)

/-- 'laws.FnPythagoras': WHATEVER THE INPUT: true; the input reads as it did. -/
def fnPythagorasSpec : ChangeSpec := { name := "fnPythagoras", fn := fun _ => fun
  | [d] => { results := [.lit (.bool true)], args := [d] }
  | _ => none }
def fnPythagorasRow : OpenClaim := { program := "ytcblajhfehadaaagreat", sum := "b1fea238598a83ea5981d1201636ab13b0b80c64569e0501950258132395d952", func := "loop.example/g00812/laws.FnPythagoras", spec := "fnPythagoras", inPlace := ["slices.overlaps[loop.example/g00812/impl.Edge]"], unfollowed := true, recurses := true, apart := false }
def FnPythagorasSaid : Prop := fnPythagorasRow.holds Tryz.pinned (OpenSpec.ofChange fnPythagorasSpec)

/-- ITS FALSE NEIGHBOUR: 'it returns false'. Refute it at one input. -/
def fnPythagorasWrong : ChangeSpec := { name := "fnPythagoras", fn := fun _ => fun
  | [d] => { results := [.lit (.bool false)], args := [d] }
  | _ => none }
def FnPythagorasWrongFalsely : Prop := fnPythagorasRow.holds Tryz.pinned (OpenSpec.ofChange fnPythagorasWrong)

/-- 'laws.FnTwoGrid': WHATEVER THE INPUT: true; the input reads as it did. -/
def fnTwoGridSpec : ChangeSpec := { name := "fnTwoGrid", fn := fun _ => fun
  | [d] => { results := [.lit (.bool true)], args := [d] }
  | _ => none }
def fnTwoGridRow : OpenClaim := { program := "ytcblajhfehadaaagreat", sum := "b1fea238598a83ea5981d1201636ab13b0b80c64569e0501950258132395d952", func := "loop.example/g00812/laws.FnTwoGrid", spec := "fnTwoGrid", inPlace := ["slices.overlaps[loop.example/g00812/impl.Edge]"], unfollowed := true, recurses := true, apart := false }
def FnTwoGridSaid : Prop := fnTwoGridRow.holds Tryz.pinned (OpenSpec.ofChange fnTwoGridSpec)

/-- ITS FALSE NEIGHBOUR: 'it returns false'. Refute it at one input. -/
def fnTwoGridWrong : ChangeSpec := { name := "fnTwoGrid", fn := fun _ => fun
  | [d] => { results := [.lit (.bool false)], args := [d] }
  | _ => none }
def FnTwoGridWrongFalsely : Prop := fnTwoGridRow.holds Tryz.pinned (OpenSpec.ofChange fnTwoGridWrong)

/-- 'laws.FnStiffness': WHATEVER THE INPUT: true; the input reads as it did. -/
def fnStiffnessSpec : ChangeSpec := { name := "fnStiffness", fn := fun _ => fun
  | [d] => { results := [.lit (.bool true)], args := [d] }
  | _ => none }
def fnStiffnessRow : OpenClaim := { program := "ytcblajhfehadaaagreat", sum := "b1fea238598a83ea5981d1201636ab13b0b80c64569e0501950258132395d952", func := "loop.example/g00812/laws.FnStiffness", spec := "fnStiffness", inPlace := ["slices.overlaps[loop.example/g00812/impl.Edge]"], unfollowed := true, recurses := true, apart := false }
def FnStiffnessSaid : Prop := fnStiffnessRow.holds Tryz.pinned (OpenSpec.ofChange fnStiffnessSpec)

/-- ITS FALSE NEIGHBOUR: 'it returns false'. Refute it at one input. -/
def fnStiffnessWrong : ChangeSpec := { name := "fnStiffness", fn := fun _ => fun
  | [d] => { results := [.lit (.bool false)], args := [d] }
  | _ => none }
def FnStiffnessWrongFalsely : Prop := fnStiffnessRow.holds Tryz.pinned (OpenSpec.ofChange fnStiffnessWrong)

/-- 'laws.FnMinimum': WHATEVER THE INPUT: true; the input reads as it did. -/
def fnMinimumSpec : ChangeSpec := { name := "fnMinimum", fn := fun _ => fun
  | [d] => { results := [.lit (.bool true)], args := [d] }
  | _ => none }
def fnMinimumRow : OpenClaim := { program := "ytcblajhfehadaaagreat", sum := "b1fea238598a83ea5981d1201636ab13b0b80c64569e0501950258132395d952", func := "loop.example/g00812/laws.FnMinimum", spec := "fnMinimum", inPlace := ["slices.overlaps[loop.example/g00812/impl.Edge]"], unfollowed := true, recurses := true, apart := false }
def FnMinimumSaid : Prop := fnMinimumRow.holds Tryz.pinned (OpenSpec.ofChange fnMinimumSpec)

/-- ITS FALSE NEIGHBOUR: 'it returns false'. Refute it at one input. -/
def fnMinimumWrong : ChangeSpec := { name := "fnMinimum", fn := fun _ => fun
  | [d] => { results := [.lit (.bool false)], args := [d] }
  | _ => none }
def FnMinimumWrongFalsely : Prop := fnMinimumRow.holds Tryz.pinned (OpenSpec.ofChange fnMinimumWrong)

/-- 'laws.FnSolutions': WHATEVER THE INPUT: true; the input reads as it did. -/
def fnSolutionsSpec : ChangeSpec := { name := "fnSolutions", fn := fun _ => fun
  | [d] => { results := [.lit (.bool true)], args := [d] }
  | _ => none }
def fnSolutionsRow : OpenClaim := { program := "ytcblajhfehadaaagreat", sum := "b1fea238598a83ea5981d1201636ab13b0b80c64569e0501950258132395d952", func := "loop.example/g00812/laws.FnSolutions", spec := "fnSolutions", inPlace := ["slices.overlaps[loop.example/g00812/impl.Edge]"], unfollowed := true, recurses := true, apart := false }
def FnSolutionsSaid : Prop := fnSolutionsRow.holds Tryz.pinned (OpenSpec.ofChange fnSolutionsSpec)

/-- ITS FALSE NEIGHBOUR: 'it returns false'. Refute it at one input. -/
def fnSolutionsWrong : ChangeSpec := { name := "fnSolutions", fn := fun _ => fun
  | [d] => { results := [.lit (.bool false)], args := [d] }
  | _ => none }
def FnSolutionsWrongFalsely : Prop := fnSolutionsRow.holds Tryz.pinned (OpenSpec.ofChange fnSolutionsWrong)

/- THE SECOND FORM. 'bulk': how many values and letters a reading holds, each counted each time it is reached (what is shared counts as often as it is met; a slice's spare places count too). A statement '..UptoSaid' is the law's where the arguments, and the package variables that the reading takes, are together of bulk at most 1048576: NARROWER than '..Said'. Prove '..Said' where nothing that the law and all that it calls make is longer than what came in: it says more and counts as full. Else prove '..UptoSaid'. A law counts once. -/
mutual
def uptoBulk {H : Type} : DataW H → Nat
  | .lit (.string bytes) => bytes.length + 1
  | .lit _ => 1
  | .nil => 1
  | .ptr d => uptoBulk d + 1
  | .slice elems spare => uptoBulkAll elems + uptoBulkAll spare + 1
  | .agg parts => uptoBulkAll parts + 1
  | .iface _ d => uptoBulk d + 1
  | .map entries => uptoBulkEntries entries + 1
  | .held _ => 1
def uptoBulkAll {H : Type} : List (DataW H) → Nat
  | [] => 0
  | d :: r => uptoBulk d + uptoBulkAll r
def uptoBulkEntries {H : Type} : List (Lit × DataW H) → Nat
  | [] => 0
  | x :: r => uptoBulkEntry x + uptoBulkEntries r
def uptoBulkEntry {H : Type} : Lit × DataW H → Nat
  | (.string bytes, d) => bytes.length + uptoBulk d + 1
  | (_, d) => uptoBulk d + 1
 end
def uptoSmall : (H : Type) → List (DataW H) → Bool := fun _ ds => decide (uptoBulkAll ds ≤ 1048576)
def OpenSpec.upto (s : _root_.Go.ChangeSpec) : _root_.Go.OpenSpec := { _root_.Go.OpenSpec.ofChange s with cond := some uptoSmall }

/-- 'laws.FnFans', WHERE WHAT IT READS IS OF BULK AT MOST 1048576: true; the input reads as it did. -/
def fnFansUptoRow : OpenClaim := { program := "ytcblajhfehadaaagreat", sum := "b1fea238598a83ea5981d1201636ab13b0b80c64569e0501950258132395d952", func := "loop.example/g00812/laws.FnFans", spec := "fnFans", inPlace := ["slices.overlaps[loop.example/g00812/impl.Edge]"], unfollowed := true, recurses := true, apart := false, narrowed := true }
def FnFansUptoSaid : Prop := fnFansUptoRow.holds Tryz.pinned (OpenSpec.upto fnFansSpec)

/-- 'laws.FnFlows', WHERE WHAT IT READS IS OF BULK AT MOST 1048576: true; the input reads as it did. -/
def fnFlowsUptoRow : OpenClaim := { program := "ytcblajhfehadaaagreat", sum := "b1fea238598a83ea5981d1201636ab13b0b80c64569e0501950258132395d952", func := "loop.example/g00812/laws.FnFlows", spec := "fnFlows", inPlace := ["slices.overlaps[loop.example/g00812/impl.Edge]"], unfollowed := true, recurses := true, apart := false, narrowed := true }
def FnFlowsUptoSaid : Prop := fnFlowsUptoRow.holds Tryz.pinned (OpenSpec.upto fnFlowsSpec)

/-- 'laws.FnNested', WHERE WHAT IT READS IS OF BULK AT MOST 1048576: true; the input reads as it did. -/
def fnNestedUptoRow : OpenClaim := { program := "ytcblajhfehadaaagreat", sum := "b1fea238598a83ea5981d1201636ab13b0b80c64569e0501950258132395d952", func := "loop.example/g00812/laws.FnNested", spec := "fnNested", inPlace := ["slices.overlaps[loop.example/g00812/impl.Edge]"], unfollowed := true, recurses := true, apart := false, narrowed := true }
def FnNestedUptoSaid : Prop := fnNestedUptoRow.holds Tryz.pinned (OpenSpec.upto fnNestedSpec)

/-- 'laws.FnPythagoras', WHERE WHAT IT READS IS OF BULK AT MOST 1048576: true; the input reads as it did. -/
def fnPythagorasUptoRow : OpenClaim := { program := "ytcblajhfehadaaagreat", sum := "b1fea238598a83ea5981d1201636ab13b0b80c64569e0501950258132395d952", func := "loop.example/g00812/laws.FnPythagoras", spec := "fnPythagoras", inPlace := ["slices.overlaps[loop.example/g00812/impl.Edge]"], unfollowed := true, recurses := true, apart := false, narrowed := true }
def FnPythagorasUptoSaid : Prop := fnPythagorasUptoRow.holds Tryz.pinned (OpenSpec.upto fnPythagorasSpec)

/-- 'laws.FnTwoGrid', WHERE WHAT IT READS IS OF BULK AT MOST 1048576: true; the input reads as it did. -/
def fnTwoGridUptoRow : OpenClaim := { program := "ytcblajhfehadaaagreat", sum := "b1fea238598a83ea5981d1201636ab13b0b80c64569e0501950258132395d952", func := "loop.example/g00812/laws.FnTwoGrid", spec := "fnTwoGrid", inPlace := ["slices.overlaps[loop.example/g00812/impl.Edge]"], unfollowed := true, recurses := true, apart := false, narrowed := true }
def FnTwoGridUptoSaid : Prop := fnTwoGridUptoRow.holds Tryz.pinned (OpenSpec.upto fnTwoGridSpec)

/-- 'laws.FnStiffness', WHERE WHAT IT READS IS OF BULK AT MOST 1048576: true; the input reads as it did. -/
def fnStiffnessUptoRow : OpenClaim := { program := "ytcblajhfehadaaagreat", sum := "b1fea238598a83ea5981d1201636ab13b0b80c64569e0501950258132395d952", func := "loop.example/g00812/laws.FnStiffness", spec := "fnStiffness", inPlace := ["slices.overlaps[loop.example/g00812/impl.Edge]"], unfollowed := true, recurses := true, apart := false, narrowed := true }
def FnStiffnessUptoSaid : Prop := fnStiffnessUptoRow.holds Tryz.pinned (OpenSpec.upto fnStiffnessSpec)

/-- 'laws.FnMinimum', WHERE WHAT IT READS IS OF BULK AT MOST 1048576: true; the input reads as it did. -/
def fnMinimumUptoRow : OpenClaim := { program := "ytcblajhfehadaaagreat", sum := "b1fea238598a83ea5981d1201636ab13b0b80c64569e0501950258132395d952", func := "loop.example/g00812/laws.FnMinimum", spec := "fnMinimum", inPlace := ["slices.overlaps[loop.example/g00812/impl.Edge]"], unfollowed := true, recurses := true, apart := false, narrowed := true }
def FnMinimumUptoSaid : Prop := fnMinimumUptoRow.holds Tryz.pinned (OpenSpec.upto fnMinimumSpec)

/-- 'laws.FnSolutions', WHERE WHAT IT READS IS OF BULK AT MOST 1048576: true; the input reads as it did. -/
def fnSolutionsUptoRow : OpenClaim := { program := "ytcblajhfehadaaagreat", sum := "b1fea238598a83ea5981d1201636ab13b0b80c64569e0501950258132395d952", func := "loop.example/g00812/laws.FnSolutions", spec := "fnSolutions", inPlace := ["slices.overlaps[loop.example/g00812/impl.Edge]"], unfollowed := true, recurses := true, apart := false, narrowed := true }
def FnSolutionsUptoSaid : Prop := fnSolutionsUptoRow.holds Tryz.pinned (OpenSpec.upto fnSolutionsSpec)

end Rows
end Go.Proofs.YtcblajhfehadaaaGreat
