/-
 Shared texts (Q24).
-/
import Derived.Test.YtcblajhfehadaaaGreatQ23
namespace Go.Proofs.YtcblajhfehadaaaGreat
open Go.RowKit Go.Joins Go.SX
set_option maxRecDepth 1000000
noncomputable def oSt00 (l:List (Nat × Nat × Nat)):Orcs:=orcLS parPb00 exPb00 ((9,3,0) :: (10,2,0) :: l) oah7
theorem oSt00_ok {l:List (Nat × Nat × Nat)} {drw:Drw} (hd:drw.tab = tabF ((9,3,0) :: (10,2,0) :: l)):OrcOk Tryz.prog (toks (X.val (parPb00.l drw.fx)) drw) (oSt00 l):=orcLS_ok parPb00_ok exPb00_ok oah7_ok hd
end Go.Proofs.YtcblajhfehadaaaGreat
