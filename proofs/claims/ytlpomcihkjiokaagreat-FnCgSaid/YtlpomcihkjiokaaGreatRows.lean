/-
  No cell of these rows narrows 'for every input' (looked for: loops, veiled, ifaces, maps, wideKeys, modest, calm, conditions, laid).
  DERIVED. THE GIVEN ROWS OF THIS SEAT. 7 by the template 'for every input the law returns true; each argument reads behind the call as it read before'; 0 by the template 'total and deterministic' (their statements: YtlpomcihkjiokaaGreatTotals.lean).
  GIVEN WITH THE SEED: the statements are not yours to turn. If you find one false, say at which input.
  Laid BY PROGRAM, IN A SANDBOX (cutbox-rows.mjs): the forced cells as the released guide's own fill.sh prints them over the translation 43edb8e1dc7e9194… (all of the seat's roots in one cut). By AI agents, Wed Nov 11 2026. No macro, syntax, notation, axiom, sorry.
-/
import Derived.Test.YtlpomcihkjiokaaGreatChecked
import GoSem.Claim
import GoSem.ClaimJoined
import GoSem.ClaimMapViews
import Derived.JoinedTies
import Derived.KernelRfl
namespace Go.Proofs.YtlpomcihkjiokaaGreat
/- THE CELL 'sum', in the pinned program and in every row, IS THE sha256 OF THE DUMP (.gsa) THAT YtlpomcihkjiokaaGreatProg.lean LOADS. Nothing in Lean hashes anything: it is a label: what it is worth is what the hold of that sum in a sandbox is worth. -/
noncomputable def Tryz.pinned : Pinned := { name := "ytlpomcihkjiokaagreat", sum := "43edb8e1dc7e91949857c862258e7ed43b5bcf91f177332e8e284c2641be5739", checked := Tryz.checked }
namespace Rows
def none {H : Type} : Left H := { results := [], args := [] }

/-- 'laws.FnExactSolveFactor': WHATEVER THE INPUT: true; the input reads as it did. -/
def fnExactSolveFactorSpec : ChangeSpec := { name := "fnExactSolveFactor", fn := fun _ => fun
  | [d1, d2] => { results := [.lit (.bool true)], args := [d1, d2] }
  | _ => none }
def fnExactSolveFactorRow : OpenClaim := { program := "ytlpomcihkjiokaagreat", sum := "43edb8e1dc7e91949857c862258e7ed43b5bcf91f177332e8e284c2641be5739", func := "loop.example/g00812/laws.FnExactSolveFactor", spec := "fnExactSolveFactor", unfollowed := true, recurses := true, apart := false }
def FnExactSolveFactorSaid : Prop := fnExactSolveFactorRow.holds Tryz.pinned (OpenSpec.ofChange fnExactSolveFactorSpec)

/-- ITS FALSE NEIGHBOUR: 'it returns false'. Refute it at one input. -/
def fnExactSolveFactorWrong : ChangeSpec := { name := "fnExactSolveFactor", fn := fun _ => fun
  | [d1, d2] => { results := [.lit (.bool false)], args := [d1, d2] }
  | _ => none }
def FnExactSolveFactorWrongFalsely : Prop := fnExactSolveFactorRow.holds Tryz.pinned (OpenSpec.ofChange fnExactSolveFactorWrong)

/-- 'laws.FnExactCombineMatrices': WHATEVER THE INPUT: true; the input reads as it did. -/
def fnExactCombineMatricesSpec : ChangeSpec := { name := "fnExactCombineMatrices", fn := fun _ => fun
  | [d1, d2, d3, d4] => { results := [.lit (.bool true)], args := [d1, d2, d3, d4] }
  | _ => none }
def fnExactCombineMatricesRow : OpenClaim := { program := "ytlpomcihkjiokaagreat", sum := "43edb8e1dc7e91949857c862258e7ed43b5bcf91f177332e8e284c2641be5739", func := "loop.example/g00812/laws.FnExactCombineMatrices", spec := "fnExactCombineMatrices", unfollowed := true, recurses := true, apart := false }
def FnExactCombineMatricesSaid : Prop := fnExactCombineMatricesRow.holds Tryz.pinned (OpenSpec.ofChange fnExactCombineMatricesSpec)

/-- ITS FALSE NEIGHBOUR: 'it returns false'. Refute it at one input. -/
def fnExactCombineMatricesWrong : ChangeSpec := { name := "fnExactCombineMatrices", fn := fun _ => fun
  | [d1, d2, d3, d4] => { results := [.lit (.bool false)], args := [d1, d2, d3, d4] }
  | _ => none }
def FnExactCombineMatricesWrongFalsely : Prop := fnExactCombineMatricesRow.holds Tryz.pinned (OpenSpec.ofChange fnExactCombineMatricesWrong)

/-- 'laws.FnExactRunCg': WHATEVER THE INPUT: true; the input reads as it did. -/
def fnExactRunCgSpec : ChangeSpec := { name := "fnExactRunCg", fn := fun _ => fun
  | [d1, d2, d3, d4] => { results := [.lit (.bool true)], args := [d1, d2, d3, d4] }
  | _ => none }
def fnExactRunCgRow : OpenClaim := { program := "ytlpomcihkjiokaagreat", sum := "43edb8e1dc7e91949857c862258e7ed43b5bcf91f177332e8e284c2641be5739", func := "loop.example/g00812/laws.FnExactRunCg", spec := "fnExactRunCg", unfollowed := true, recurses := true, apart := false }
def FnExactRunCgSaid : Prop := fnExactRunCgRow.holds Tryz.pinned (OpenSpec.ofChange fnExactRunCgSpec)

/-- ITS FALSE NEIGHBOUR: 'it returns false'. Refute it at one input. -/
def fnExactRunCgWrong : ChangeSpec := { name := "fnExactRunCg", fn := fun _ => fun
  | [d1, d2, d3, d4] => { results := [.lit (.bool false)], args := [d1, d2, d3, d4] }
  | _ => none }
def FnExactRunCgWrongFalsely : Prop := fnExactRunCgRow.holds Tryz.pinned (OpenSpec.ofChange fnExactRunCgWrong)

/-- 'laws.FnMatrices': WHATEVER THE INPUT: true; the input reads as it did. -/
def fnMatricesSpec : ChangeSpec := { name := "fnMatrices", fn := fun _ => fun
  | [d] => { results := [.lit (.bool true)], args := [d] }
  | _ => none }
def fnMatricesRow : OpenClaim := { program := "ytlpomcihkjiokaagreat", sum := "43edb8e1dc7e91949857c862258e7ed43b5bcf91f177332e8e284c2641be5739", func := "loop.example/g00812/laws.FnMatrices", spec := "fnMatrices", unfollowed := true, recurses := true, apart := false }
def FnMatricesSaid : Prop := fnMatricesRow.holds Tryz.pinned (OpenSpec.ofChange fnMatricesSpec)

/-- ITS FALSE NEIGHBOUR: 'it returns false'. Refute it at one input. -/
def fnMatricesWrong : ChangeSpec := { name := "fnMatrices", fn := fun _ => fun
  | [d] => { results := [.lit (.bool false)], args := [d] }
  | _ => none }
def FnMatricesWrongFalsely : Prop := fnMatricesRow.holds Tryz.pinned (OpenSpec.ofChange fnMatricesWrong)

/-- 'laws.FnFactor': WHATEVER THE INPUT: true; the input reads as it did. -/
def fnFactorSpec : ChangeSpec := { name := "fnFactor", fn := fun _ => fun
  | [d] => { results := [.lit (.bool true)], args := [d] }
  | _ => none }
def fnFactorRow : OpenClaim := { program := "ytlpomcihkjiokaagreat", sum := "43edb8e1dc7e91949857c862258e7ed43b5bcf91f177332e8e284c2641be5739", func := "loop.example/g00812/laws.FnFactor", spec := "fnFactor", unfollowed := true, recurses := true, apart := false }
def FnFactorSaid : Prop := fnFactorRow.holds Tryz.pinned (OpenSpec.ofChange fnFactorSpec)

/-- ITS FALSE NEIGHBOUR: 'it returns false'. Refute it at one input. -/
def fnFactorWrong : ChangeSpec := { name := "fnFactor", fn := fun _ => fun
  | [d] => { results := [.lit (.bool false)], args := [d] }
  | _ => none }
def FnFactorWrongFalsely : Prop := fnFactorRow.holds Tryz.pinned (OpenSpec.ofChange fnFactorWrong)

/-- 'laws.FnSweeps': WHATEVER THE INPUT: true; the input reads as it did. -/
def fnSweepsSpec : ChangeSpec := { name := "fnSweeps", fn := fun _ => fun
  | [d] => { results := [.lit (.bool true)], args := [d] }
  | _ => none }
def fnSweepsRow : OpenClaim := { program := "ytlpomcihkjiokaagreat", sum := "43edb8e1dc7e91949857c862258e7ed43b5bcf91f177332e8e284c2641be5739", func := "loop.example/g00812/laws.FnSweeps", spec := "fnSweeps", unfollowed := true, recurses := true, apart := false }
def FnSweepsSaid : Prop := fnSweepsRow.holds Tryz.pinned (OpenSpec.ofChange fnSweepsSpec)

/-- ITS FALSE NEIGHBOUR: 'it returns false'. Refute it at one input. -/
def fnSweepsWrong : ChangeSpec := { name := "fnSweeps", fn := fun _ => fun
  | [d] => { results := [.lit (.bool false)], args := [d] }
  | _ => none }
def FnSweepsWrongFalsely : Prop := fnSweepsRow.holds Tryz.pinned (OpenSpec.ofChange fnSweepsWrong)

/-- 'laws.FnCg': WHATEVER THE INPUT: true; the input reads as it did. -/
def fnCgSpec : ChangeSpec := { name := "fnCg", fn := fun _ => fun
  | [d] => { results := [.lit (.bool true)], args := [d] }
  | _ => none }
def fnCgRow : OpenClaim := { program := "ytlpomcihkjiokaagreat", sum := "43edb8e1dc7e91949857c862258e7ed43b5bcf91f177332e8e284c2641be5739", func := "loop.example/g00812/laws.FnCg", spec := "fnCg", unfollowed := true, recurses := true, apart := false }
def FnCgSaid : Prop := fnCgRow.holds Tryz.pinned (OpenSpec.ofChange fnCgSpec)

/-- ITS FALSE NEIGHBOUR: 'it returns false'. Refute it at one input. -/
def fnCgWrong : ChangeSpec := { name := "fnCg", fn := fun _ => fun
  | [d] => { results := [.lit (.bool false)], args := [d] }
  | _ => none }
def FnCgWrongFalsely : Prop := fnCgRow.holds Tryz.pinned (OpenSpec.ofChange fnCgWrong)

/- THE SECOND FORM. 'bulk': how many values and letters a reading holds, each counted each time it is reached (what is shared counts as often as it is met; a slice's spare places count too). A statement '..UptoSaid' is the law's where the arguments, and the package variables that the reading takes, are together of bulk at most 1048576: NARROWER than '..Said'. Prove '..Said' where nothing that the law and all that it calls make is longer than what came in: it says more and counts as full. Else prove '..UptoSaid'. A law counts once. -/
mutual
def uptoBulk {H : Type} : DataW H → Nat
  | .lit (.string bytes) => bytes.length + 1
  | .lit _ => 1
  | .nil => 1
  | .ptr d => uptoBulk d + 1
  | .slice elems spare => uptoBulkAll elems + uptoBulkAll spare + 1
  | .agg parts => uptoBulkAll parts + 1
  | .iface _ d => uptoBulk d + 1
  | .map entries => uptoBulkEntries entries + 1
  | .held _ => 1
def uptoBulkAll {H : Type} : List (DataW H) → Nat
  | [] => 0
  | d :: r => uptoBulk d + uptoBulkAll r
def uptoBulkEntries {H : Type} : List (Lit × DataW H) → Nat
  | [] => 0
  | x :: r => uptoBulkEntry x + uptoBulkEntries r
def uptoBulkEntry {H : Type} : Lit × DataW H → Nat
  | (.string bytes, d) => bytes.length + uptoBulk d + 1
  | (_, d) => uptoBulk d + 1
 end
def uptoSmall : (H : Type) → List (DataW H) → Bool := fun _ ds => decide (uptoBulkAll ds ≤ 1048576)
def OpenSpec.upto (s : _root_.Go.ChangeSpec) : _root_.Go.OpenSpec := { _root_.Go.OpenSpec.ofChange s with cond := some uptoSmall }

/-- 'laws.FnExactSolveFactor', WHERE WHAT IT READS IS OF BULK AT MOST 1048576: true; the input reads as it did. -/
def fnExactSolveFactorUptoRow : OpenClaim := { program := "ytlpomcihkjiokaagreat", sum := "43edb8e1dc7e91949857c862258e7ed43b5bcf91f177332e8e284c2641be5739", func := "loop.example/g00812/laws.FnExactSolveFactor", spec := "fnExactSolveFactor", unfollowed := true, recurses := true, apart := false, narrowed := true }
def FnExactSolveFactorUptoSaid : Prop := fnExactSolveFactorUptoRow.holds Tryz.pinned (OpenSpec.upto fnExactSolveFactorSpec)

/-- 'laws.FnExactCombineMatrices', WHERE WHAT IT READS IS OF BULK AT MOST 1048576: true; the input reads as it did. -/
def fnExactCombineMatricesUptoRow : OpenClaim := { program := "ytlpomcihkjiokaagreat", sum := "43edb8e1dc7e91949857c862258e7ed43b5bcf91f177332e8e284c2641be5739", func := "loop.example/g00812/laws.FnExactCombineMatrices", spec := "fnExactCombineMatrices", unfollowed := true, recurses := true, apart := false, narrowed := true }
def FnExactCombineMatricesUptoSaid : Prop := fnExactCombineMatricesUptoRow.holds Tryz.pinned (OpenSpec.upto fnExactCombineMatricesSpec)

/-- 'laws.FnExactRunCg', WHERE WHAT IT READS IS OF BULK AT MOST 1048576: true; the input reads as it did. -/
def fnExactRunCgUptoRow : OpenClaim := { program := "ytlpomcihkjiokaagreat", sum := "43edb8e1dc7e91949857c862258e7ed43b5bcf91f177332e8e284c2641be5739", func := "loop.example/g00812/laws.FnExactRunCg", spec := "fnExactRunCg", unfollowed := true, recurses := true, apart := false, narrowed := true }
def FnExactRunCgUptoSaid : Prop := fnExactRunCgUptoRow.holds Tryz.pinned (OpenSpec.upto fnExactRunCgSpec)

/-- 'laws.FnMatrices', WHERE WHAT IT READS IS OF BULK AT MOST 1048576: true; the input reads as it did. -/
def fnMatricesUptoRow : OpenClaim := { program := "ytlpomcihkjiokaagreat", sum := "43edb8e1dc7e91949857c862258e7ed43b5bcf91f177332e8e284c2641be5739", func := "loop.example/g00812/laws.FnMatrices", spec := "fnMatrices", unfollowed := true, recurses := true, apart := false, narrowed := true }
def FnMatricesUptoSaid : Prop := fnMatricesUptoRow.holds Tryz.pinned (OpenSpec.upto fnMatricesSpec)

/-- 'laws.FnFactor', WHERE WHAT IT READS IS OF BULK AT MOST 1048576: true; the input reads as it did. -/
def fnFactorUptoRow : OpenClaim := { program := "ytlpomcihkjiokaagreat", sum := "43edb8e1dc7e91949857c862258e7ed43b5bcf91f177332e8e284c2641be5739", func := "loop.example/g00812/laws.FnFactor", spec := "fnFactor", unfollowed := true, recurses := true, apart := false, narrowed := true }
def FnFactorUptoSaid : Prop := fnFactorUptoRow.holds Tryz.pinned (OpenSpec.upto fnFactorSpec)

/-- 'laws.FnSweeps', WHERE WHAT IT READS IS OF BULK AT MOST 1048576: true; the input reads as it did. -/
def fnSweepsUptoRow : OpenClaim := { program := "ytlpomcihkjiokaagreat", sum := "43edb8e1dc7e91949857c862258e7ed43b5bcf91f177332e8e284c2641be5739", func := "loop.example/g00812/laws.FnSweeps", spec := "fnSweeps", unfollowed := true, recurses := true, apart := false, narrowed := true }
def FnSweepsUptoSaid : Prop := fnSweepsUptoRow.holds Tryz.pinned (OpenSpec.upto fnSweepsSpec)

/-- 'laws.FnCg', WHERE WHAT IT READS IS OF BULK AT MOST 1048576: true; the input reads as it did. -/
def fnCgUptoRow : OpenClaim := { program := "ytlpomcihkjiokaagreat", sum := "43edb8e1dc7e91949857c862258e7ed43b5bcf91f177332e8e284c2641be5739", func := "loop.example/g00812/laws.FnCg", spec := "fnCg", unfollowed := true, recurses := true, apart := false, narrowed := true }
def FnCgUptoSaid : Prop := fnCgUptoRow.holds Tryz.pinned (OpenSpec.upto fnCgSpec)

end Rows
end Go.Proofs.YtlpomcihkjiokaaGreat
