/-
 Shared texts (Q47).
-/
import Derived.Test.YtcblajhfehadaaaGreatQ46
namespace Go.Proofs.YtcblajhfehadaaaGreat
open Go.RowKit Go.Joins Go.SX
set_option maxRecDepth 1000000
noncomputable def oSt20 (l:List (Nat × Nat × Nat)):Orcs:=orcLS parPb20 exPb20 ((9,3,2) :: l) ogh7
theorem oSt20_ok {l:List (Nat × Nat × Nat)} {drw:Drw} (hd:drw.tab = tabF ((9,3,2) :: l)):OrcOk Tryz.prog (toks (X.val (parPb20.l drw.fx)) drw) (oSt20 l):=orcLS_ok parPb20_ok exPb20_ok ogh7_ok hd
end Go.Proofs.YtcblajhfehadaaaGreat
