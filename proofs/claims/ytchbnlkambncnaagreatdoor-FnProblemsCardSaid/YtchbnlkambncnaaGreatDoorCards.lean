/-
  DERIVED. GIVEN WITH THE SEED: THE CARDS: each row of YtchbnlkambncnaaGreatDoorRows.lean that lists a variable, with what it lists TIED to the program's text (the seventh form; the later family's looks); each row that meets fmt, with fmt's text TOLD by the authors' own Lean function (tested against real Go, not proved from fmt's source: count such statements apart). THE CARD IS WHAT COUNTS. Prove the row's statement (the work); the ties are given (YtchbnlkambncnaaGreatDoorTie.lean); close each card by the builder's one call (the guide's Derived/Test/ToyasCard.lean, 'card_holds'). Laid BY PROGRAM, IN A SANDBOX (cutbox-door.mjs). By AI agents, Wed Nov 11 2026. No macro, syntax, notation, axiom, sorry.
-/
import Derived.Test.YtchbnlkambncnaaGreatDoorRows
import GoSem.ClaimSeven
namespace Go.Proofs.YtchbnlkambncnaaGreatDoor
namespace Rows

/-- THE TIED CARD OF 'laws.FnProblems'. -/
def fnProblemsCard : Claim7 := { stood := { row := fnProblemsRow, standIns := [], harness := (true, "27c03a92dd5a47e8b797d5e9db459990ab11a1774ed7638d11359cbcb4d71da5"), looks := true }, kinds := [], alts := [], laidByText := true, laidKinds := [.data, .data, .data, .data, .sentinel, .sentinel, .pinned], laidTests := true, laidLooks := .later }
def FnProblemsCardSaid : Prop := Claim7.holds Tryz.pinned (.plain (OpenSpec.ofChange fnProblemsSpec)) fnProblemsCard

/-- THE SECOND FORM's CARD OF 'laws.FnProblems'. -/
def fnProblemsUptoCard : Claim7 := { stood := { row := fnProblemsUptoRow, standIns := [], harness := (true, "27c03a92dd5a47e8b797d5e9db459990ab11a1774ed7638d11359cbcb4d71da5"), looks := true }, kinds := [], alts := [], laidByText := true, laidKinds := [.data, .data, .data, .data, .sentinel, .sentinel, .pinned], laidTests := true, laidLooks := .later }
def FnProblemsUptoCardSaid : Prop := Claim7.holds Tryz.pinned (.plain (OpenSpec.upto fnProblemsSpec)) fnProblemsUptoCard
end Rows
end Go.Proofs.YtchbnlkambncnaaGreatDoor
