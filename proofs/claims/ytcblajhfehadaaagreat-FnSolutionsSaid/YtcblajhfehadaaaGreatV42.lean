/-
 Shared texts (V42).
-/
import Derived.Test.YtcblajhfehadaaaGreatV16
namespace Go.Proofs.YtcblajhfehadaaaGreat
open Go.RowKit Go.Joins Go.SX
set_option maxRecDepth 1000000
noncomputable def oSo01 (l:List (Nat × Nat × Nat)):Orcs:=orcLZ parPc01 exPc01 ((9,3,0) :: (10,2,1) :: l) obi7
theorem oSo01_ok {l:List (Nat × Nat × Nat)} {drw:Drw} (hd:drw.tab = tabF ((9,3,0) :: (10,2,1) :: l)):OrcOk Tryz.prog (toks (X.val (parPc01.l drw.fx)) drw) (oSo01 l):=orcLZ_ok parPc01_ok exPc01_ok obi7_ok hd
end Go.Proofs.YtcblajhfehadaaaGreat
