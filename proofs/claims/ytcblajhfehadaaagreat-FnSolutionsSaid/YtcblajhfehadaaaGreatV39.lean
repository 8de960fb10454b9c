/-
 Shared texts (V39).
-/
import Derived.Test.YtcblajhfehadaaaGreatV7
namespace Go.Proofs.YtcblajhfehadaaaGreat
open Go.RowKit Go.Joins Go.SX
set_option maxRecDepth 1000000
noncomputable def oSo00 (l:List (Nat × Nat × Nat)):Orcs:=orcLZ parPc00 exPc00 ((9,3,0) :: (10,2,0) :: l) oai7
theorem oSo00_ok {l:List (Nat × Nat × Nat)} {drw:Drw} (hd:drw.tab = tabF ((9,3,0) :: (10,2,0) :: l)):OrcOk Tryz.prog (toks (X.val (parPc00.l drw.fx)) drw) (oSo00 l):=orcLZ_ok parPc00_ok exPc00_ok oai7_ok hd
end Go.Proofs.YtcblajhfehadaaaGreat
