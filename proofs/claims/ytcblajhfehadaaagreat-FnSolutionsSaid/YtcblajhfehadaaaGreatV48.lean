/-
 Shared texts (V48).
-/
import Derived.Test.YtcblajhfehadaaaGreatV32
namespace Go.Proofs.YtcblajhfehadaaaGreat
open Go.RowKit Go.Joins Go.SX
set_option maxRecDepth 1000000
noncomputable def oSo20 (l:List (Nat × Nat × Nat)):Orcs:=orcLZ parPc20 exPc20 ((9,3,2) :: l) ogi7
theorem oSo20_ok {l:List (Nat × Nat × Nat)} {drw:Drw} (hd:drw.tab = tabF ((9,3,2) :: l)):OrcOk Tryz.prog (toks (X.val (parPc20.l drw.fx)) drw) (oSo20 l):=orcLZ_ok parPc20_ok exPc20_ok ogi7_ok hd
end Go.Proofs.YtcblajhfehadaaaGreat
