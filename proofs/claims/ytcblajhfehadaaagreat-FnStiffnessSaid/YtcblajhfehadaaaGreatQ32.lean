/-
 Shared texts (Q32).
-/
import Derived.Test.YtcblajhfehadaaaGreatQ31
namespace Go.Proofs.YtcblajhfehadaaaGreat
open Go.RowKit Go.Joins Go.SX
set_option maxRecDepth 1000000
noncomputable def oSt01 (l:List (Nat × Nat × Nat)):Orcs:=orcLS parPb01 exPb01 ((9,3,0) :: (10,2,1) :: l) obh7
theorem oSt01_ok {l:List (Nat × Nat × Nat)} {drw:Drw} (hd:drw.tab = tabF ((9,3,0) :: (10,2,1) :: l)):OrcOk Tryz.prog (toks (X.val (parPb01.l drw.fx)) drw) (oSt01 l):=orcLS_ok parPb01_ok exPb01_ok obh7_ok hd
end Go.Proofs.YtcblajhfehadaaaGreat
