/-
  No cell of these rows narrows 'for every input' (looked for: loops, veiled, ifaces, maps, wideKeys, modest, calm, conditions, laid).
  DERIVED. THE GIVEN ROWS OF THIS SEAT. 9 by the template 'for every input the law returns true; each argument reads behind the call as it read before'; 0 by the template 'total and deterministic' (their statements: YtkmmdajlbkbnmaaGreatTotals.lean).
  GIVEN WITH THE SEED: the statements are not yours to turn. If you find one false, say at which input.
  Laid BY PROGRAM, IN A SANDBOX (cutbox-rows.mjs): the forced cells as the released guide's own fill.sh prints them over the translation cb7ec86920a0a2d9… (all of the seat's roots in one cut). By AI agents, Wed Nov 11 2026. No macro, syntax, notation, axiom, sorry.
-/
import Derived.Test.YtkmmdajlbkbnmaaGreatChecked
import GoSem.Claim
import GoSem.ClaimJoined
import GoSem.ClaimMapViews
import Derived.JoinedTies
import Derived.KernelRfl
namespace Go.Proofs.YtkmmdajlbkbnmaaGreat
/- THE CELL 'sum', in the pinned program and in every row, IS THE sha256 OF THE DUMP (.gsa) THAT YtkmmdajlbkbnmaaGreatProg.lean LOADS. Nothing in Lean hashes anything: it is a label: what it is worth is what the hold of that sum in a sandbox is worth. -/
noncomputable def Tryz.pinned : Pinned := { name := "ytkmmdajlbkbnmaagreat", sum := "cb7ec86920a0a2d99a1e06ca6c6a18fafc37d262810b2227ee54195df2f006aa", checked := Tryz.checked }
namespace Rows
def none {H : Type} : Left H := { results := [], args := [] }

/-- 'laws.FnExactSolveFactor': WHATEVER THE INPUT: true; the input reads as it did. -/
def fnExactSolveFactorSpec : ChangeSpec := { name := "fnExactSolveFactor", fn := fun _ => fun
  | [d1, d2] => { results := [.lit (.bool true)], args := [d1, d2] }
  | _ => none }
def fnExactSolveFactorRow : OpenClaim := { program := "ytkmmdajlbkbnmaagreat", sum := "cb7ec86920a0a2d99a1e06ca6c6a18fafc37d262810b2227ee54195df2f006aa", func := "loop.example/g00812/laws.FnExactSolveFactor", spec := "fnExactSolveFactor", unfollowed := true, recurses := true, apart := false }
def FnExactSolveFactorSaid : Prop := fnExactSolveFactorRow.holds Tryz.pinned (OpenSpec.ofChange fnExactSolveFactorSpec)

/-- ITS FALSE NEIGHBOUR: 'it returns false'. Refute it at one input. -/
def fnExactSolveFactorWrong : ChangeSpec := { name := "fnExactSolveFactor", fn := fun _ => fun
  | [d1, d2] => { results := [.lit (.bool false)], args := [d1, d2] }
  | _ => none }
def FnExactSolveFactorWrongFalsely : Prop := fnExactSolveFactorRow.holds Tryz.pinned (OpenSpec.ofChange fnExactSolveFactorWrong)

/-- 'laws.FnExactApplyMatrix': WHATEVER THE INPUT: true; the input reads as it did. -/
def fnExactApplyMatrixSpec : ChangeSpec := { name := "fnExactApplyMatrix", fn := fun _ => fun
  | [d1, d2] => { results := [.lit (.bool true)], args := [d1, d2] }
  | _ => none }
def fnExactApplyMatrixRow : OpenClaim := { program := "ytkmmdajlbkbnmaagreat", sum := "cb7ec86920a0a2d99a1e06ca6c6a18fafc37d262810b2227ee54195df2f006aa", func := "loop.example/g00812/laws.FnExactApplyMatrix", spec := "fnExactApplyMatrix", unfollowed := true, recurses := true, apart := false }
def FnExactApplyMatrixSaid : Prop := fnExactApplyMatrixRow.holds Tryz.pinned (OpenSpec.ofChange fnExactApplyMatrixSpec)

/-- ITS FALSE NEIGHBOUR: 'it returns false'. Refute it at one input. -/
def fnExactApplyMatrixWrong : ChangeSpec := { name := "fnExactApplyMatrix", fn := fun _ => fun
  | [d1, d2] => { results := [.lit (.bool false)], args := [d1, d2] }
  | _ => none }
def FnExactApplyMatrixWrongFalsely : Prop := fnExactApplyMatrixRow.holds Tryz.pinned (OpenSpec.ofChange fnExactApplyMatrixWrong)

/-- 'laws.FnExactEnergyProduct': WHATEVER THE INPUT: true; the input reads as it did. -/
def fnExactEnergyProductSpec : ChangeSpec := { name := "fnExactEnergyProduct", fn := fun _ => fun
  | [d1, d2, d3] => { results := [.lit (.bool true)], args := [d1, d2, d3] }
  | _ => none }
def fnExactEnergyProductRow : OpenClaim := { program := "ytkmmdajlbkbnmaagreat", sum := "cb7ec86920a0a2d99a1e06ca6c6a18fafc37d262810b2227ee54195df2f006aa", func := "loop.example/g00812/laws.FnExactEnergyProduct", spec := "fnExactEnergyProduct", unfollowed := true, recurses := true, apart := false }
def FnExactEnergyProductSaid : Prop := fnExactEnergyProductRow.holds Tryz.pinned (OpenSpec.ofChange fnExactEnergyProductSpec)

/-- ITS FALSE NEIGHBOUR: 'it returns false'. Refute it at one input. -/
def fnExactEnergyProductWrong : ChangeSpec := { name := "fnExactEnergyProduct", fn := fun _ => fun
  | [d1, d2, d3] => { results := [.lit (.bool false)], args := [d1, d2, d3] }
  | _ => none }
def FnExactEnergyProductWrongFalsely : Prop := fnExactEnergyProductRow.holds Tryz.pinned (OpenSpec.ofChange fnExactEnergyProductWrong)

/-- 'laws.FnExactResidualOf': WHATEVER THE INPUT: true; the input reads as it did. -/
def fnExactResidualOfSpec : ChangeSpec := { name := "fnExactResidualOf", fn := fun _ => fun
  | [d1, d2, d3] => { results := [.lit (.bool true)], args := [d1, d2, d3] }
  | _ => none }
def fnExactResidualOfRow : OpenClaim := { program := "ytkmmdajlbkbnmaagreat", sum := "cb7ec86920a0a2d99a1e06ca6c6a18fafc37d262810b2227ee54195df2f006aa", func := "loop.example/g00812/laws.FnExactResidualOf", spec := "fnExactResidualOf", unfollowed := true, recurses := true, apart := false }
def FnExactResidualOfSaid : Prop := fnExactResidualOfRow.holds Tryz.pinned (OpenSpec.ofChange fnExactResidualOfSpec)

/-- ITS FALSE NEIGHBOUR: 'it returns false'. Refute it at one input. -/
def fnExactResidualOfWrong : ChangeSpec := { name := "fnExactResidualOf", fn := fun _ => fun
  | [d1, d2, d3] => { results := [.lit (.bool false)], args := [d1, d2, d3] }
  | _ => none }
def FnExactResidualOfWrongFalsely : Prop := fnExactResidualOfRow.holds Tryz.pinned (OpenSpec.ofChange fnExactResidualOfWrong)

/-- 'laws.FnExactErrorSquare': WHATEVER THE INPUT: true; the input reads as it did. -/
def fnExactErrorSquareSpec : ChangeSpec := { name := "fnExactErrorSquare", fn := fun _ => fun
  | [d1, d2, d3] => { results := [.lit (.bool true)], args := [d1, d2, d3] }
  | _ => none }
def fnExactErrorSquareRow : OpenClaim := { program := "ytkmmdajlbkbnmaagreat", sum := "cb7ec86920a0a2d99a1e06ca6c6a18fafc37d262810b2227ee54195df2f006aa", func := "loop.example/g00812/laws.FnExactErrorSquare", spec := "fnExactErrorSquare", unfollowed := true, recurses := true, apart := false }
def FnExactErrorSquareSaid : Prop := fnExactErrorSquareRow.holds Tryz.pinned (OpenSpec.ofChange fnExactErrorSquareSpec)

/-- ITS FALSE NEIGHBOUR: 'it returns false'. Refute it at one input. -/
def fnExactErrorSquareWrong : ChangeSpec := { name := "fnExactErrorSquare", fn := fun _ => fun
  | [d1, d2, d3] => { results := [.lit (.bool false)], args := [d1, d2, d3] }
  | _ => none }
def FnExactErrorSquareWrongFalsely : Prop := fnExactErrorSquareRow.holds Tryz.pinned (OpenSpec.ofChange fnExactErrorSquareWrong)

/-- 'laws.FnExactStartCg': WHATEVER THE INPUT: true; the input reads as it did. -/
def fnExactStartCgSpec : ChangeSpec := { name := "fnExactStartCg", fn := fun _ => fun
  | [d1, d2, d3] => { results := [.lit (.bool true)], args := [d1, d2, d3] }
  | _ => none }
def fnExactStartCgRow : OpenClaim := { program := "ytkmmdajlbkbnmaagreat", sum := "cb7ec86920a0a2d99a1e06ca6c6a18fafc37d262810b2227ee54195df2f006aa", func := "loop.example/g00812/laws.FnExactStartCg", spec := "fnExactStartCg", unfollowed := true, recurses := true, apart := false }
def FnExactStartCgSaid : Prop := fnExactStartCgRow.holds Tryz.pinned (OpenSpec.ofChange fnExactStartCgSpec)

/-- ITS FALSE NEIGHBOUR: 'it returns false'. Refute it at one input. -/
def fnExactStartCgWrong : ChangeSpec := { name := "fnExactStartCg", fn := fun _ => fun
  | [d1, d2, d3] => { results := [.lit (.bool false)], args := [d1, d2, d3] }
  | _ => none }
def FnExactStartCgWrongFalsely : Prop := fnExactStartCgRow.holds Tryz.pinned (OpenSpec.ofChange fnExactStartCgWrong)

/-- 'laws.FnExactCombineMatrices': WHATEVER THE INPUT: true; the input reads as it did. -/
def fnExactCombineMatricesSpec : ChangeSpec := { name := "fnExactCombineMatrices", fn := fun _ => fun
  | [d1, d2, d3, d4] => { results := [.lit (.bool true)], args := [d1, d2, d3, d4] }
  | _ => none }
def fnExactCombineMatricesRow : OpenClaim := { program := "ytkmmdajlbkbnmaagreat", sum := "cb7ec86920a0a2d99a1e06ca6c6a18fafc37d262810b2227ee54195df2f006aa", func := "loop.example/g00812/laws.FnExactCombineMatrices", spec := "fnExactCombineMatrices", unfollowed := true, recurses := true, apart := false }
def FnExactCombineMatricesSaid : Prop := fnExactCombineMatricesRow.holds Tryz.pinned (OpenSpec.ofChange fnExactCombineMatricesSpec)

/-- ITS FALSE NEIGHBOUR: 'it returns false'. Refute it at one input. -/
def fnExactCombineMatricesWrong : ChangeSpec := { name := "fnExactCombineMatrices", fn := fun _ => fun
  | [d1, d2, d3, d4] => { results := [.lit (.bool false)], args := [d1, d2, d3, d4] }
  | _ => none }
def FnExactCombineMatricesWrongFalsely : Prop := fnExactCombineMatricesRow.holds Tryz.pinned (OpenSpec.ofChange fnExactCombineMatricesWrong)

/-- 'laws.FnExactStepCg': WHATEVER THE INPUT: true; the input reads as it did. -/
def fnExactStepCgSpec : ChangeSpec := { name := "fnExactStepCg", fn := fun _ => fun
  | [d1, d2] => { results := [.lit (.bool true)], args := [d1, d2] }
  | _ => none }
def fnExactStepCgRow : OpenClaim := { program := "ytkmmdajlbkbnmaagreat", sum := "cb7ec86920a0a2d99a1e06ca6c6a18fafc37d262810b2227ee54195df2f006aa", func := "loop.example/g00812/laws.FnExactStepCg", spec := "fnExactStepCg", unfollowed := true, recurses := true, apart := false }
def FnExactStepCgSaid : Prop := fnExactStepCgRow.holds Tryz.pinned (OpenSpec.ofChange fnExactStepCgSpec)

/-- ITS FALSE NEIGHBOUR: 'it returns false'. Refute it at one input. -/
def fnExactStepCgWrong : ChangeSpec := { name := "fnExactStepCg", fn := fun _ => fun
  | [d1, d2] => { results := [.lit (.bool false)], args := [d1, d2] }
  | _ => none }
def FnExactStepCgWrongFalsely : Prop := fnExactStepCgRow.holds Tryz.pinned (OpenSpec.ofChange fnExactStepCgWrong)

/-- 'laws.FnExactRunCg': WHATEVER THE INPUT: true; the input reads as it did. -/
def fnExactRunCgSpec : ChangeSpec := { name := "fnExactRunCg", fn := fun _ => fun
  | [d1, d2, d3, d4] => { results := [.lit (.bool true)], args := [d1, d2, d3, d4] }
  | _ => none }
def fnExactRunCgRow : OpenClaim := { program := "ytkmmdajlbkbnmaagreat", sum := "cb7ec86920a0a2d99a1e06ca6c6a18fafc37d262810b2227ee54195df2f006aa", func := "loop.example/g00812/laws.FnExactRunCg", spec := "fnExactRunCg", unfollowed := true, recurses := true, apart := false }
def FnExactRunCgSaid : Prop := fnExactRunCgRow.holds Tryz.pinned (OpenSpec.ofChange fnExactRunCgSpec)

/-- ITS FALSE NEIGHBOUR: 'it returns false'. Refute it at one input. -/
def fnExactRunCgWrong : ChangeSpec := { name := "fnExactRunCg", fn := fun _ => fun
  | [d1, d2, d3, d4] => { results := [.lit (.bool false)], args := [d1, d2, d3, d4] }
  | _ => none }
def FnExactRunCgWrongFalsely : Prop := fnExactRunCgRow.holds Tryz.pinned (OpenSpec.ofChange fnExactRunCgWrong)

/- THE SECOND FORM. 'bulk': how many values and letters a reading holds, each counted each time it is reached (what is shared counts as often as it is met; a slice's spare places count too). A statement '..UptoSaid' is the law's where the arguments, and the package variables that the reading takes, are together of bulk at most 1048576: NARROWER than '..Said'. Prove '..Said' where nothing that the law and all that it calls make is longer than what came in: it says more and counts as full. Else prove '..UptoSaid'. A law counts once. -/
mutual
def uptoBulk {H : Type} : DataW H → Nat
  | .lit (.string bytes) => bytes.length + 1
  | .lit _ => 1
  | .nil => 1
  | .ptr d => uptoBulk d + 1
  | .slice elems spare => uptoBulkAll elems + uptoBulkAll spare + 1
  | .agg parts => uptoBulkAll parts + 1
  | .iface _ d => uptoBulk d + 1
  | .map entries => uptoBulkEntries entries + 1
  | .held _ => 1
def uptoBulkAll {H : Type} : List (DataW H) → Nat
  | [] => 0
  | d :: r => uptoBulk d + uptoBulkAll r
def uptoBulkEntries {H : Type} : List (Lit × DataW H) → Nat
  | [] => 0
  | x :: r => uptoBulkEntry x + uptoBulkEntries r
def uptoBulkEntry {H : Type} : Lit × DataW H → Nat
  | (.string bytes, d) => bytes.length + uptoBulk d + 1
  | (_, d) => uptoBulk d + 1
 end
def uptoSmall : (H : Type) → List (DataW H) → Bool := fun _ ds => decide (uptoBulkAll ds ≤ 1048576)
def OpenSpec.upto (s : _root_.Go.ChangeSpec) : _root_.Go.OpenSpec := { _root_.Go.OpenSpec.ofChange s with cond := some uptoSmall }

/-- 'laws.FnExactSolveFactor', WHERE WHAT IT READS IS OF BULK AT MOST 1048576: true; the input reads as it did. -/
def fnExactSolveFactorUptoRow : OpenClaim := { program := "ytkmmdajlbkbnmaagreat", sum := "cb7ec86920a0a2d99a1e06ca6c6a18fafc37d262810b2227ee54195df2f006aa", func := "loop.example/g00812/laws.FnExactSolveFactor", spec := "fnExactSolveFactor", unfollowed := true, recurses := true, apart := false, narrowed := true }
def FnExactSolveFactorUptoSaid : Prop := fnExactSolveFactorUptoRow.holds Tryz.pinned (OpenSpec.upto fnExactSolveFactorSpec)

/-- 'laws.FnExactApplyMatrix', WHERE WHAT IT READS IS OF BULK AT MOST 1048576: true; the input reads as it did. -/
def fnExactApplyMatrixUptoRow : OpenClaim := { program := "ytkmmdajlbkbnmaagreat", sum := "cb7ec86920a0a2d99a1e06ca6c6a18fafc37d262810b2227ee54195df2f006aa", func := "loop.example/g00812/laws.FnExactApplyMatrix", spec := "fnExactApplyMatrix", unfollowed := true, recurses := true, apart := false, narrowed := true }
def FnExactApplyMatrixUptoSaid : Prop := fnExactApplyMatrixUptoRow.holds Tryz.pinned (OpenSpec.upto fnExactApplyMatrixSpec)

/-- 'laws.FnExactEnergyProduct', WHERE WHAT IT READS IS OF BULK AT MOST 1048576: true; the input reads as it did. -/
def fnExactEnergyProductUptoRow : OpenClaim := { program := "ytkmmdajlbkbnmaagreat", sum := "cb7ec86920a0a2d99a1e06ca6c6a18fafc37d262810b2227ee54195df2f006aa", func := "loop.example/g00812/laws.FnExactEnergyProduct", spec := "fnExactEnergyProduct", unfollowed := true, recurses := true, apart := false, narrowed := true }
def FnExactEnergyProductUptoSaid : Prop := fnExactEnergyProductUptoRow.holds Tryz.pinned (OpenSpec.upto fnExactEnergyProductSpec)

/-- 'laws.FnExactResidualOf', WHERE WHAT IT READS IS OF BULK AT MOST 1048576: true; the input reads as it did. -/
def fnExactResidualOfUptoRow : OpenClaim := { program := "ytkmmdajlbkbnmaagreat", sum := "cb7ec86920a0a2d99a1e06ca6c6a18fafc37d262810b2227ee54195df2f006aa", func := "loop.example/g00812/laws.FnExactResidualOf", spec := "fnExactResidualOf", unfollowed := true, recurses := true, apart := false, narrowed := true }
def FnExactResidualOfUptoSaid : Prop := fnExactResidualOfUptoRow.holds Tryz.pinned (OpenSpec.upto fnExactResidualOfSpec)

/-- 'laws.FnExactErrorSquare', WHERE WHAT IT READS IS OF BULK AT MOST 1048576: true; the input reads as it did. -/
def fnExactErrorSquareUptoRow : OpenClaim := { program := "ytkmmdajlbkbnmaagreat", sum := "cb7ec86920a0a2d99a1e06ca6c6a18fafc37d262810b2227ee54195df2f006aa", func := "loop.example/g00812/laws.FnExactErrorSquare", spec := "fnExactErrorSquare", unfollowed := true, recurses := true, apart := false, narrowed := true }
def FnExactErrorSquareUptoSaid : Prop := fnExactErrorSquareUptoRow.holds Tryz.pinned (OpenSpec.upto fnExactErrorSquareSpec)

/-- 'laws.FnExactStartCg', WHERE WHAT IT READS IS OF BULK AT MOST 1048576: true; the input reads as it did. -/
def fnExactStartCgUptoRow : OpenClaim := { program := "ytkmmdajlbkbnmaagreat", sum := "cb7ec86920a0a2d99a1e06ca6c6a18fafc37d262810b2227ee54195df2f006aa", func := "loop.example/g00812/laws.FnExactStartCg", spec := "fnExactStartCg", unfollowed := true, recurses := true, apart := false, narrowed := true }
def FnExactStartCgUptoSaid : Prop := fnExactStartCgUptoRow.holds Tryz.pinned (OpenSpec.upto fnExactStartCgSpec)

/-- 'laws.FnExactCombineMatrices', WHERE WHAT IT READS IS OF BULK AT MOST 1048576: true; the input reads as it did. -/
def fnExactCombineMatricesUptoRow : OpenClaim := { program := "ytkmmdajlbkbnmaagreat", sum := "cb7ec86920a0a2d99a1e06ca6c6a18fafc37d262810b2227ee54195df2f006aa", func := "loop.example/g00812/laws.FnExactCombineMatrices", spec := "fnExactCombineMatrices", unfollowed := true, recurses := true, apart := false, narrowed := true }
def FnExactCombineMatricesUptoSaid : Prop := fnExactCombineMatricesUptoRow.holds Tryz.pinned (OpenSpec.upto fnExactCombineMatricesSpec)

/-- 'laws.FnExactStepCg', WHERE WHAT IT READS IS OF BULK AT MOST 1048576: true; the input reads as it did. -/
def fnExactStepCgUptoRow : OpenClaim := { program := "ytkmmdajlbkbnmaagreat", sum := "cb7ec86920a0a2d99a1e06ca6c6a18fafc37d262810b2227ee54195df2f006aa", func := "loop.example/g00812/laws.FnExactStepCg", spec := "fnExactStepCg", unfollowed := true, recurses := true, apart := false, narrowed := true }
def FnExactStepCgUptoSaid : Prop := fnExactStepCgUptoRow.holds Tryz.pinned (OpenSpec.upto fnExactStepCgSpec)

/-- 'laws.FnExactRunCg', WHERE WHAT IT READS IS OF BULK AT MOST 1048576: true; the input reads as it did. -/
def fnExactRunCgUptoRow : OpenClaim := { program := "ytkmmdajlbkbnmaagreat", sum := "cb7ec86920a0a2d99a1e06ca6c6a18fafc37d262810b2227ee54195df2f006aa", func := "loop.example/g00812/laws.FnExactRunCg", spec := "fnExactRunCg", unfollowed := true, recurses := true, apart := false, narrowed := true }
def FnExactRunCgUptoSaid : Prop := fnExactRunCgUptoRow.holds Tryz.pinned (OpenSpec.upto fnExactRunCgSpec)

end Rows
end Go.Proofs.YtkmmdajlbkbnmaaGreat
