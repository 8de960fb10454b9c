/-
  No cell of these rows narrows 'for every input' (looked for: loops, veiled, ifaces, maps, wideKeys, modest, calm, conditions, laid).
  DERIVED. THE GIVEN ROWS OF THIS SEAT. 8 by the template 'for every input the law returns true; each argument reads behind the call as it read before'; 0 by the template 'total and deterministic' (their statements: YtkmmdajlbkbnmaaTotals.lean).
  GIVEN WITH THE SEED: the statements are not yours to turn. If you find one false, say at which input.
  Laid BY PROGRAM, IN A SANDBOX (cutbox-rows.mjs): the forced cells as the released guide's own fill.sh prints them over the translation ab23d7b343d00503… (all of the seat's roots in one cut). By AI agents, Wed Nov 11 2026. No macro, syntax, notation, axiom, sorry.
-/
import Derived.Test.YtkmmdajlbkbnmaaChecked
import GoSem.Claim
import GoSem.ClaimJoined
import GoSem.ClaimMapViews
import Derived.JoinedTies
import Derived.KernelRfl
namespace Go.Proofs.Ytkmmdajlbkbnmaa
/- THE CELL 'sum', in the pinned program and in every row, IS THE sha256 OF THE DUMP (.gsa) THAT YtkmmdajlbkbnmaaProg.lean LOADS. Nothing in Lean hashes anything: it is a label: what it is worth is what the hold of that sum in a sandbox is worth. -/
noncomputable def Try.pinned : Pinned := { name := "ytkmmdajlbkbnmaa", sum := "ab23d7b343d00503cdc4071fab6cddee1d0b2eb65993b6a4f129583323eb80f5", checked := Try.checked }
namespace Rows
def none {H : Type} : Left H := { results := [], args := [] }

/-- 'laws.FnExactTurnTo': WHATEVER THE INPUT: true; the input reads as it did. -/
def fnExactTurnToSpec : ChangeSpec := { name := "fnExactTurnTo", fn := fun _ => fun
  | [d1, d2] => { results := [.lit (.bool true)], args := [d1, d2] }
  | _ => none }
def fnExactTurnToRow : OpenClaim := { program := "ytkmmdajlbkbnmaa", sum := "ab23d7b343d00503cdc4071fab6cddee1d0b2eb65993b6a4f129583323eb80f5", func := "loop.example/g00812/laws.FnExactTurnTo", spec := "fnExactTurnTo", apart := false }
def FnExactTurnToSaid : Prop := fnExactTurnToRow.holds Try.pinned (OpenSpec.ofChange fnExactTurnToSpec)

/-- ITS FALSE NEIGHBOUR: 'it returns false'. Refute it at one input. -/
def fnExactTurnToWrong : ChangeSpec := { name := "fnExactTurnTo", fn := fun _ => fun
  | [d1, d2] => { results := [.lit (.bool false)], args := [d1, d2] }
  | _ => none }
def FnExactTurnToWrongFalsely : Prop := fnExactTurnToRow.holds Try.pinned (OpenSpec.ofChange fnExactTurnToWrong)

/-- 'laws.FnExactSameIterate': WHATEVER THE INPUT: true; the input reads as it did. -/
def fnExactSameIterateSpec : ChangeSpec := { name := "fnExactSameIterate", fn := fun _ => fun
  | [d1, d2] => { results := [.lit (.bool true)], args := [d1, d2] }
  | _ => none }
def fnExactSameIterateRow : OpenClaim := { program := "ytkmmdajlbkbnmaa", sum := "ab23d7b343d00503cdc4071fab6cddee1d0b2eb65993b6a4f129583323eb80f5", func := "loop.example/g00812/laws.FnExactSameIterate", spec := "fnExactSameIterate", unfollowed := true, recurses := true, apart := false }
def FnExactSameIterateSaid : Prop := fnExactSameIterateRow.holds Try.pinned (OpenSpec.ofChange fnExactSameIterateSpec)

/-- ITS FALSE NEIGHBOUR: 'it returns false'. Refute it at one input. -/
def fnExactSameIterateWrong : ChangeSpec := { name := "fnExactSameIterate", fn := fun _ => fun
  | [d1, d2] => { results := [.lit (.bool false)], args := [d1, d2] }
  | _ => none }
def FnExactSameIterateWrongFalsely : Prop := fnExactSameIterateRow.holds Try.pinned (OpenSpec.ofChange fnExactSameIterateWrong)

/-- 'laws.FnExactSameMatrix': WHATEVER THE INPUT: true; the input reads as it did. -/
def fnExactSameMatrixSpec : ChangeSpec := { name := "fnExactSameMatrix", fn := fun _ => fun
  | [d1, d2] => { results := [.lit (.bool true)], args := [d1, d2] }
  | _ => none }
def fnExactSameMatrixRow : OpenClaim := { program := "ytkmmdajlbkbnmaa", sum := "ab23d7b343d00503cdc4071fab6cddee1d0b2eb65993b6a4f129583323eb80f5", func := "loop.example/g00812/laws.FnExactSameMatrix", spec := "fnExactSameMatrix", unfollowed := true, recurses := true, apart := false }
def FnExactSameMatrixSaid : Prop := fnExactSameMatrixRow.holds Try.pinned (OpenSpec.ofChange fnExactSameMatrixSpec)

/-- ITS FALSE NEIGHBOUR: 'it returns false'. Refute it at one input. -/
def fnExactSameMatrixWrong : ChangeSpec := { name := "fnExactSameMatrix", fn := fun _ => fun
  | [d1, d2] => { results := [.lit (.bool false)], args := [d1, d2] }
  | _ => none }
def FnExactSameMatrixWrongFalsely : Prop := fnExactSameMatrixRow.holds Try.pinned (OpenSpec.ofChange fnExactSameMatrixWrong)

/-- 'laws.FnExactCornerValues': WHATEVER THE INPUT: true; the input reads as it did. -/
def fnExactCornerValuesSpec : ChangeSpec := { name := "fnExactCornerValues", fn := fun _ => fun
  | [d1, d2, d3] => { results := [.lit (.bool true)], args := [d1, d2, d3] }
  | _ => none }
def fnExactCornerValuesRow : OpenClaim := { program := "ytkmmdajlbkbnmaa", sum := "ab23d7b343d00503cdc4071fab6cddee1d0b2eb65993b6a4f129583323eb80f5", func := "loop.example/g00812/laws.FnExactCornerValues", spec := "fnExactCornerValues", apart := false }
def FnExactCornerValuesSaid : Prop := fnExactCornerValuesRow.holds Try.pinned (OpenSpec.ofChange fnExactCornerValuesSpec)

/-- ITS FALSE NEIGHBOUR: 'it returns false'. Refute it at one input. -/
def fnExactCornerValuesWrong : ChangeSpec := { name := "fnExactCornerValues", fn := fun _ => fun
  | [d1, d2, d3] => { results := [.lit (.bool false)], args := [d1, d2, d3] }
  | _ => none }
def FnExactCornerValuesWrongFalsely : Prop := fnExactCornerValuesRow.holds Try.pinned (OpenSpec.ofChange fnExactCornerValuesWrong)

/-- 'laws.FnExactIsFactor': WHATEVER THE INPUT: true; the input reads as it did. -/
def fnExactIsFactorSpec : ChangeSpec := { name := "fnExactIsFactor", fn := fun _ => fun
  | [d] => { results := [.lit (.bool true)], args := [d] }
  | _ => none }
def fnExactIsFactorRow : OpenClaim := { program := "ytkmmdajlbkbnmaa", sum := "ab23d7b343d00503cdc4071fab6cddee1d0b2eb65993b6a4f129583323eb80f5", func := "loop.example/g00812/laws.FnExactIsFactor", spec := "fnExactIsFactor", unfollowed := true, recurses := true, apart := false }
def FnExactIsFactorSaid : Prop := fnExactIsFactorRow.holds Try.pinned (OpenSpec.ofChange fnExactIsFactorSpec)

/-- ITS FALSE NEIGHBOUR: 'it returns false'. Refute it at one input. -/
def fnExactIsFactorWrong : ChangeSpec := { name := "fnExactIsFactor", fn := fun _ => fun
  | [d] => { results := [.lit (.bool false)], args := [d] }
  | _ => none }
def FnExactIsFactorWrongFalsely : Prop := fnExactIsFactorRow.holds Try.pinned (OpenSpec.ofChange fnExactIsFactorWrong)

/-- 'laws.FnExactIsMatrix': WHATEVER THE INPUT: true; the input reads as it did. -/
def fnExactIsMatrixSpec : ChangeSpec := { name := "fnExactIsMatrix", fn := fun _ => fun
  | [d] => { results := [.lit (.bool true)], args := [d] }
  | _ => none }
def fnExactIsMatrixRow : OpenClaim := { program := "ytkmmdajlbkbnmaa", sum := "ab23d7b343d00503cdc4071fab6cddee1d0b2eb65993b6a4f129583323eb80f5", func := "loop.example/g00812/laws.FnExactIsMatrix", spec := "fnExactIsMatrix", unfollowed := true, recurses := true, apart := false }
def FnExactIsMatrixSaid : Prop := fnExactIsMatrixRow.holds Try.pinned (OpenSpec.ofChange fnExactIsMatrixSpec)

/-- ITS FALSE NEIGHBOUR: 'it returns false'. Refute it at one input. -/
def fnExactIsMatrixWrong : ChangeSpec := { name := "fnExactIsMatrix", fn := fun _ => fun
  | [d] => { results := [.lit (.bool false)], args := [d] }
  | _ => none }
def FnExactIsMatrixWrongFalsely : Prop := fnExactIsMatrixRow.holds Try.pinned (OpenSpec.ofChange fnExactIsMatrixWrong)

/-- 'laws.FnExactIsSymmetric': WHATEVER THE INPUT: true; the input reads as it did. -/
def fnExactIsSymmetricSpec : ChangeSpec := { name := "fnExactIsSymmetric", fn := fun _ => fun
  | [d] => { results := [.lit (.bool true)], args := [d] }
  | _ => none }
def fnExactIsSymmetricRow : OpenClaim := { program := "ytkmmdajlbkbnmaa", sum := "ab23d7b343d00503cdc4071fab6cddee1d0b2eb65993b6a4f129583323eb80f5", func := "loop.example/g00812/laws.FnExactIsSymmetric", spec := "fnExactIsSymmetric", unfollowed := true, recurses := true, apart := false }
def FnExactIsSymmetricSaid : Prop := fnExactIsSymmetricRow.holds Try.pinned (OpenSpec.ofChange fnExactIsSymmetricSpec)

/-- ITS FALSE NEIGHBOUR: 'it returns false'. Refute it at one input. -/
def fnExactIsSymmetricWrong : ChangeSpec := { name := "fnExactIsSymmetric", fn := fun _ => fun
  | [d] => { results := [.lit (.bool false)], args := [d] }
  | _ => none }
def FnExactIsSymmetricWrongFalsely : Prop := fnExactIsSymmetricRow.holds Try.pinned (OpenSpec.ofChange fnExactIsSymmetricWrong)

/-- 'laws.FnExactEntryOf': WHATEVER THE INPUT: true; the input reads as it did. -/
def fnExactEntryOfSpec : ChangeSpec := { name := "fnExactEntryOf", fn := fun _ => fun
  | [d1, d2, d3] => { results := [.lit (.bool true)], args := [d1, d2, d3] }
  | _ => none }
def fnExactEntryOfRow : OpenClaim := { program := "ytkmmdajlbkbnmaa", sum := "ab23d7b343d00503cdc4071fab6cddee1d0b2eb65993b6a4f129583323eb80f5", func := "loop.example/g00812/laws.FnExactEntryOf", spec := "fnExactEntryOf", unfollowed := true, recurses := true, apart := false }
def FnExactEntryOfSaid : Prop := fnExactEntryOfRow.holds Try.pinned (OpenSpec.ofChange fnExactEntryOfSpec)

/-- ITS FALSE NEIGHBOUR: 'it returns false'. Refute it at one input. -/
def fnExactEntryOfWrong : ChangeSpec := { name := "fnExactEntryOf", fn := fun _ => fun
  | [d1, d2, d3] => { results := [.lit (.bool false)], args := [d1, d2, d3] }
  | _ => none }
def FnExactEntryOfWrongFalsely : Prop := fnExactEntryOfRow.holds Try.pinned (OpenSpec.ofChange fnExactEntryOfWrong)

/- THE SECOND FORM. 'bulk': how many values and letters a reading holds, each counted each time it is reached (what is shared counts as often as it is met; a slice's spare places count too). A statement '..UptoSaid' is the law's where the arguments, and the package variables that the reading takes, are together of bulk at most 1048576: NARROWER than '..Said'. Prove '..Said' where nothing that the law and all that it calls make is longer than what came in: it says more and counts as full. Else prove '..UptoSaid'. A law counts once. -/
mutual
def uptoBulk {H : Type} : DataW H → Nat
  | .lit (.string bytes) => bytes.length + 1
  | .lit _ => 1
  | .nil => 1
  | .ptr d => uptoBulk d + 1
  | .slice elems spare => uptoBulkAll elems + uptoBulkAll spare + 1
  | .agg parts => uptoBulkAll parts + 1
  | .iface _ d => uptoBulk d + 1
  | .map entries => uptoBulkEntries entries + 1
  | .held _ => 1
def uptoBulkAll {H : Type} : List (DataW H) → Nat
  | [] => 0
  | d :: r => uptoBulk d + uptoBulkAll r
def uptoBulkEntries {H : Type} : List (Lit × DataW H) → Nat
  | [] => 0
  | x :: r => uptoBulkEntry x + uptoBulkEntries r
def uptoBulkEntry {H : Type} : Lit × DataW H → Nat
  | (.string bytes, d) => bytes.length + uptoBulk d + 1
  | (_, d) => uptoBulk d + 1
 end
def uptoSmall : (H : Type) → List (DataW H) → Bool := fun _ ds => decide (uptoBulkAll ds ≤ 1048576)
def OpenSpec.upto (s : _root_.Go.ChangeSpec) : _root_.Go.OpenSpec := { _root_.Go.OpenSpec.ofChange s with cond := some uptoSmall }

/-- 'laws.FnExactTurnTo', WHERE WHAT IT READS IS OF BULK AT MOST 1048576: true; the input reads as it did. -/
def fnExactTurnToUptoRow : OpenClaim := { program := "ytkmmdajlbkbnmaa", sum := "ab23d7b343d00503cdc4071fab6cddee1d0b2eb65993b6a4f129583323eb80f5", func := "loop.example/g00812/laws.FnExactTurnTo", spec := "fnExactTurnTo", apart := false, narrowed := true }
def FnExactTurnToUptoSaid : Prop := fnExactTurnToUptoRow.holds Try.pinned (OpenSpec.upto fnExactTurnToSpec)

/-- 'laws.FnExactSameIterate', WHERE WHAT IT READS IS OF BULK AT MOST 1048576: true; the input reads as it did. -/
def fnExactSameIterateUptoRow : OpenClaim := { program := "ytkmmdajlbkbnmaa", sum := "ab23d7b343d00503cdc4071fab6cddee1d0b2eb65993b6a4f129583323eb80f5", func := "loop.example/g00812/laws.FnExactSameIterate", spec := "fnExactSameIterate", unfollowed := true, recurses := true, apart := false, narrowed := true }
def FnExactSameIterateUptoSaid : Prop := fnExactSameIterateUptoRow.holds Try.pinned (OpenSpec.upto fnExactSameIterateSpec)

/-- 'laws.FnExactSameMatrix', WHERE WHAT IT READS IS OF BULK AT MOST 1048576: true; the input reads as it did. -/
def fnExactSameMatrixUptoRow : OpenClaim := { program := "ytkmmdajlbkbnmaa", sum := "ab23d7b343d00503cdc4071fab6cddee1d0b2eb65993b6a4f129583323eb80f5", func := "loop.example/g00812/laws.FnExactSameMatrix", spec := "fnExactSameMatrix", unfollowed := true, recurses := true, apart := false, narrowed := true }
def FnExactSameMatrixUptoSaid : Prop := fnExactSameMatrixUptoRow.holds Try.pinned (OpenSpec.upto fnExactSameMatrixSpec)

/-- 'laws.FnExactCornerValues', WHERE WHAT IT READS IS OF BULK AT MOST 1048576: true; the input reads as it did. -/
def fnExactCornerValuesUptoRow : OpenClaim := { program := "ytkmmdajlbkbnmaa", sum := "ab23d7b343d00503cdc4071fab6cddee1d0b2eb65993b6a4f129583323eb80f5", func := "loop.example/g00812/laws.FnExactCornerValues", spec := "fnExactCornerValues", apart := false, narrowed := true }
def FnExactCornerValuesUptoSaid : Prop := fnExactCornerValuesUptoRow.holds Try.pinned (OpenSpec.upto fnExactCornerValuesSpec)

/-- 'laws.FnExactIsFactor', WHERE WHAT IT READS IS OF BULK AT MOST 1048576: true; the input reads as it did. -/
def fnExactIsFactorUptoRow : OpenClaim := { program := "ytkmmdajlbkbnmaa", sum := "ab23d7b343d00503cdc4071fab6cddee1d0b2eb65993b6a4f129583323eb80f5", func := "loop.example/g00812/laws.FnExactIsFactor", spec := "fnExactIsFactor", unfollowed := true, recurses := true, apart := false, narrowed := true }
def FnExactIsFactorUptoSaid : Prop := fnExactIsFactorUptoRow.holds Try.pinned (OpenSpec.upto fnExactIsFactorSpec)

/-- 'laws.FnExactIsMatrix', WHERE WHAT IT READS IS OF BULK AT MOST 1048576: true; the input reads as it did. -/
def fnExactIsMatrixUptoRow : OpenClaim := { program := "ytkmmdajlbkbnmaa", sum := "ab23d7b343d00503cdc4071fab6cddee1d0b2eb65993b6a4f129583323eb80f5", func := "loop.example/g00812/laws.FnExactIsMatrix", spec := "fnExactIsMatrix", unfollowed := true, recurses := true, apart := false, narrowed := true }
def FnExactIsMatrixUptoSaid : Prop := fnExactIsMatrixUptoRow.holds Try.pinned (OpenSpec.upto fnExactIsMatrixSpec)

/-- 'laws.FnExactIsSymmetric', WHERE WHAT IT READS IS OF BULK AT MOST 1048576: true; the input reads as it did. -/
def fnExactIsSymmetricUptoRow : OpenClaim := { program := "ytkmmdajlbkbnmaa", sum := "ab23d7b343d00503cdc4071fab6cddee1d0b2eb65993b6a4f129583323eb80f5", func := "loop.example/g00812/laws.FnExactIsSymmetric", spec := "fnExactIsSymmetric", unfollowed := true, recurses := true, apart := false, narrowed := true }
def FnExactIsSymmetricUptoSaid : Prop := fnExactIsSymmetricUptoRow.holds Try.pinned (OpenSpec.upto fnExactIsSymmetricSpec)

/-- 'laws.FnExactEntryOf', WHERE WHAT IT READS IS OF BULK AT MOST 1048576: true; the input reads as it did. -/
def fnExactEntryOfUptoRow : OpenClaim := { program := "ytkmmdajlbkbnmaa", sum := "ab23d7b343d00503cdc4071fab6cddee1d0b2eb65993b6a4f129583323eb80f5", func := "loop.example/g00812/laws.FnExactEntryOf", spec := "fnExactEntryOf", unfollowed := true, recurses := true, apart := false, narrowed := true }
def FnExactEntryOfUptoSaid : Prop := fnExactEntryOfUptoRow.holds Try.pinned (OpenSpec.upto fnExactEntryOfSpec)

end Rows
end Go.Proofs.Ytkmmdajlbkbnmaa
