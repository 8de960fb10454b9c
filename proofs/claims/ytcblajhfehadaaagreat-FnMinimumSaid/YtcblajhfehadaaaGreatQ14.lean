/-
 Shared texts (Q14).
-/
import Derived.Test.YtcblajhfehadaaaGreatQ13
import Derived.Deep.RegionHeld
import Derived.Test.YtcblajhfehadaaaGreatQ12
import Derived.Laws.Bits64b
import Derived.Laws.CopyOwn
import Derived.Test.YtcblajhfehadaaaGreatQ6
import Derived.Deep.RegionHeld3
import Derived.Test.YtcblajhfehadaaaGreatQ10
import Derived.Test.YtcblajhfehadaaaGreatQ11
import Derived.Test.YtcblajhfehadaaaGreatQ9
import Derived.Test.YtcblajhfehadaaaGreatQ8
set_option maxRecDepth 100000
set_option maxHeartbeats 4000000
namespace Go.Proofs.YtcblajhfehadaaaGreat
section
variable {P:Program} {ops:Array Oper} {Q:Exit → Act → World → Prop} {md:Region.Mode} {S:World → Prop}
theorem qL {i:Nat} {oi:Oper} {v:Value} {fuel:Nat} {listed:Array Bool} {a:Act} {w:World} (hi:ops[i]? = some oi)
 (hb:(Region.noSelect ops && (Region.free md ops listed i && (Region.ready md ops listed).contains i)) = true) (hQ:∀ c a w,Q (.panic c) (a.put oi.dst v) w → Q (.panic c) a w) (hS:S w)
 (hw:Region.wanted oi (yielded ops a.tmps) = true) (hv:∀ w,S w → (execOp a.eval oi).run P w = .ok (.value v) w)
 (h:wpAnyH P md ops Q S fuel (listed.setIfInBounds i true) (a.put oi.dst v) w):wpAnyH P md ops Q S (fuel + 1) listed a w:=by
 simp only [Bool.and_eq_true] at hb
 exact wpAnyH_take hi hb.1 hb.2.1 hb.2.2 hQ (Or.inl ⟨hw,hv⟩) hS h
theorem qR {i:Nat} {o:Oper} {fuel:Nat} {listed:Array Bool} {a:Act} {w:World} (hr:Region.ready md ops listed = [i]) (ho:ops[i]? = some o)
 (h:∀ K':Act → World → Prop,Shut (∀ a w,S w → (S w → wpAnyH P md ops Q S fuel (listed.setIfInBounds i true) a w) → K' a w) → if Region.wanted o (yielded ops a.tmps) = true then Oper.wp P o a w K' Q else K' (a.put o.dst undef) w) :
 wpAnyH P md ops Q S (fuel + 1) listed a w:=wpAnyH_ready hr (by simp) (AllReadyH.cons ho h AllReadyH.nil)
end
open Go.RowKit Go.Joins
def lowB (x:List RatD) (i:Nat):Bool:=decide (x.length = i) && vok x
def FacD.ok (x:FacD):Bool:=(decide (x.lower.length = x.pivots.length) && decide (x.pivots.length ≤ 40)) && ((vok x.pivots && !(x.pivots.any fun y=>decide (rsgn y ≤ 0))) && (List.range x.lower.length).all fun i=>lowB (x.lower.getD i []) i)
def R3 (w:World) (g o:Nat) (a b c:Value):Prop:=w.cell? ⟨g,o,none⟩ = some a∧w.cell? ⟨g,o + 1,none⟩ = some b∧w.cell? ⟨g,o + 2,none⟩ = some c
theorem R3.below {w w':World} {g o B:Nat} {a b c:Value} (h:R3 w g o a b c) (hb:Below B w w') (hg:g < B):R3 w' g o a b c :=
 ⟨(hb.cell (p:=⟨g,o,none⟩) hg).trans h.1,(hb.cell (p:=⟨g,o + 1,none⟩) hg).trans h.2.1,(hb.cell (p:=⟨g,o + 2,none⟩) hg).trans h.2.2⟩
theorem R3.lt {w:World} {g o:Nat} {a b c:Value} (h:R3 w g o a b c):g < w.heap.size:=(lt_of_cell' h.1).1
theorem R3.later {w w':World} {g o:Nat} {a b c:Value} (h:R3 w g o a b c) (hb:Below w.heap.size w w'):R3 w' g o a b c:=h.below hb h.lt
theorem R3.off {w:World} {g o g' q:Nat} {a b c x y z:Value} (h:R3 w g o a b c) (hne:g ≠ g' ∨ o + 2 < q ∨ q + 2 < o):R3 (set3 w g' q x y z) g o a b c:=by
 unfold R3 set3
 refine ⟨?_,?_,?_⟩
 all_goals
  rw [World.cell?_setCell_other _ _ _ _ (by intro e;injection e with e1 e2;omega),World.cell?_setCell_other _ _ _ _ (by intro e;injection e with e1 e2;omega),World.cell?_setCell_other _ _ _ _ (by intro e;injection e with e1 e2;omega)]
 ·exact h.1
 ·exact h.2.1
 ·exact h.2.2
theorem Slots.r3 {w:World} {g:Nat} {a b c:Value} (h:Slots w g [a,b,c]):R3 w g 0 a b c:=h.v3
theorem FI.row {w:World} {A:Option Addr} {xs:List (List RatD)} (h:FI w A xs) (k:Nat) (hk:k < xs.length):∃ b off C e,A = some ⟨b,off,none⟩∧b < w.heap.size∧w.cell? ⟨b,off + k,none⟩ = some (.slice C (xs.getD k []).length e)∧VI w C (xs.getD k []):=by
 obtain ⟨b,off,e,hb,C,d,h0,_,h1⟩:=h.cells k hk
 exact ⟨b,off,C,d,e,hb,h0,h1⟩
theorem PO.not_bool {w:World} {lo hi:Nat} {v:Value} {xs:List Int} (h:PO w lo hi v xs) {g:Nat} {s:Bool} (hg:w.cell? ⟨g,0,none⟩ = some (.bool s)):blk v ≠ some g:=by
 intro hb
 obtain ⟨hx,_,_,_,ha⟩:=h.1.at_blk hb
 have:=ha.cell 0 (List.length_pos_iff.2 hx)
 rw [hg] at this;cases this
theorem VS.other {w w':World} {lo hi:Nat} {v:Value} {ps:List (Value × Value)} {rs:List RatD} (h:VS w lo hi v ps rs) {g:Nat} {s:Bool} (hg:w.cell? ⟨g,0,none⟩ = some (.bool s)) (hb:blk v ≠ some g) (hf:Frame (fun b=>b = g) w w'):VS w' lo hi v ps rs:=by
 refine h.frame hf (fun b hb' e=>?_)
 subst e
 rcases hb' with hb' | ⟨j,hj,hb'⟩
 ·exact hb hb'
 ·obtain ⟨hp,A',c',rfl,_,_,h3⟩:=h
  obtain ⟨g',rfl,_,_,_,_,he⟩:=h3 (by rintro rfl;simp at hp;subst hp;simp at hj)
  have:=he j (by omega)
  rcases hb' with hb' | hb'
  ·exact this.2.2.2.1.not_bool hg hb'
  ·exact this.2.2.2.2.not_bool hg hb'
theorem ls_getl {α:Type} {d:α} {vs:List α} {x:α} {j:Nat} (hj:j < vs.length):(vs ++ [x]).getD j d = vs.getD j d:=by simp [List.getElem?_append_left,hj]
theorem ls_getr {α:Type} {d:α} {vs:List α} {x:α}:(vs ++ [x]).getD vs.length d = x:=by simp
def Rp (w:World) (g n k:Nat) (a b c:Value):Prop :=
 ∃ cur:List Value,w.heap[g]? = some (.cells cur.toArray 50 (0,0))∧cur.length = n * 3∧∀ j,j < k → cur[j * 3]? = some a∧cur[j * 3 + 1]? = some b∧cur[j * 3 + 2]? = some c
theorem Rp.src {w:World} {g n k m:Nat} {a b c:Value} (h:Rp w g n k a b c) (hm:m ≤ k) (hk:k ≤ n) (h1:a.oneCell' = true∧b.oneCell' = true∧c.oneCell' = true) :
 ∃ cs:List Value,cs.length = m * 3∧(∀ j,j < m → cs[j * 3]? = some a∧cs[j * 3 + 1]? = some b∧cs[j * 3 + 2]? = some c)∧(∀ j v,cs[j]? = some v → w.cell? ((⟨g,0,none⟩:Addr).add j) = some v)∧∀ v ∈ cs,v.oneCell' = true:=by
 obtain ⟨cur,hg,hl,hh⟩:=h
 have hlen:(cur.take (m * 3)).length = m * 3:=by rw [List.length_take];omega
 refine ⟨cur.take (m * 3),hlen,fun j hj=>?_,fun j v hv=>?_,fun v hv=>?_⟩
 ·rw [List.getElem?_take_of_lt (by omega),List.getElem?_take_of_lt (by omega),List.getElem?_take_of_lt (by omega)]
  exact hh j (by omega)
 ·have hj:j < m * 3:=by rw [← hlen];exact (List.getElem?_eq_some_iff.1 hv).1
  rw [List.getElem?_take_of_lt hj] at hv
  have ha:(⟨g,0,none⟩:Addr).add j = ⟨g,j,none⟩:=by unfold Addr.add;split <;> simp_all
  rw [ha,cell_of_row w g j _ _ (0,0) hg]
  simpa using hv
 ·obtain ⟨i,hi,rfl⟩:=List.mem_iff_getElem.1 hv
  rw [hlen] at hi
  have hj:i / 3 < k:=by omega
  obtain ⟨q0,q1,q2⟩:=hh (i / 3) hj
  have hit:(cur.take (m * 3))[i]? = cur[i]?:=List.getElem?_take_of_lt hi
  have he:(cur.take (m * 3))[i]? = some ((cur.take (m * 3))[i]'(by omega)):=List.getElem?_eq_getElem (by omega)
  rw [hit] at he
  rcases (show i = i / 3 * 3 ∨ i = i / 3 * 3 + 1 ∨ i = i / 3 * 3 + 2 by omega) with h' | h' | h'
  ·rw [← h',he] at q0;injection q0 with q0;rw [q0];exact h1.1
  ·rw [← h',he] at q1;injection q1 with q1;rw [q1];exact h1.2.1
  ·rw [← h',he] at q2;injection q2 with q2;rw [q2];exact h1.2.2
theorem Rp.frame {S:Nat → Prop} {w w':World} {g n k:Nat} {a b c:Value} (h:Rp w g n k a b c) (hf:Frame S w w') (hs:¬ S g):Rp w' g n k a b c:=by
 obtain ⟨cur,hg,hl,hh⟩:=h
 exact ⟨cur,(hf.block g (Array.getElem?_eq_some_iff.1 hg).1 hs).trans hg,hl,hh⟩
theorem Rp.made {w:World} {C:Array Value} {n:Nat} {a b c:Value} (hC:C.size = n * 3):Rp (w.alloc (.cells C 50)) w.heap.size n 0 a b c :=
 ⟨C.toList,by rw [heap_alloc_new],by simpa using hC,fun j hj=>by omega⟩
theorem Rp.cells {w:World} {g n k:Nat} {a b c:Value} (h:Rp w g n k a b c) (j:Nat) (hj:j < k):R3 w g (j * 3) a b c:=by
 obtain ⟨cur,hg,hl,hh⟩:=h
 obtain ⟨q0,q1,q2⟩:=hh j hj
 refine ⟨?_,?_,?_⟩ <;> rw [cell_of_row w g _ _ _ (0,0) hg] <;> simpa
theorem Rp.frozen {w:World} {g n k:Nat} {a b c:Value} (h:Rp w g n k a b c) (i:Nat):w.frozen? ⟨g,i,none⟩ = false:=by
 obtain ⟨cur,hg,_⟩:=h
 simp [World.frozen?,hg]
theorem Rp.lt {w:World} {g n k:Nat} {a b c:Value} (h:Rp w g n k a b c):g < w.heap.size:=by
 obtain ⟨cur,hg,_⟩:=h
 exact (Array.getElem?_eq_some_iff.1 hg).1
theorem R3.src {w:World} {g:Nat} {a b c:Value} (h:R3 w g 0 a b c):∀ j v,([a,b,c]:List Value)[j]? = some v → w.cell? ((⟨g,0,none⟩:Addr).add j) = some v:=by
 intro j v hj
 match j,hj with
 | 0,hj=>simp at hj;subst hj;simpa [Addr.add] using h.1
 | 1,hj=>simp at hj;subst hj;simpa [Addr.add] using h.2.1
 | 2,hj=>simp at hj;subst hj;simpa [Addr.add] using h.2.2
def lenV:Value → Nat
 | .slice _ n _=>n
 | _=>0
theorem own_kept {S:Nat → Prop} {w w':World} {base size n:Nat} {e:TypeId} {v:Value} {xs:List Value} (h:w.ownsRow base e size v n xs) (hf:Frame S w w') (hs:∀ b,v.ownBlock = some b → ¬ S b):w'.ownsRow base e size v n xs:=by
 refine ⟨h.1,?_⟩
 rcases h.2 with hn | ⟨g,cap,cur,rfl,hbs,hgg,rest⟩
 ·exact .inl hn
 ·exact .inr ⟨g,cap,cur,rfl,hbs,(hf.block g (Array.getElem?_eq_some_iff.1 hgg).1 (hs g rfl)).trans hgg,rest⟩
theorem own_ne {w:World} {b1 b2 s1 s2 n1 n2:Nat} {e1 e2:TypeId} {u v:Value} {xs ys:List Value} (h:w.ownsRow b1 e1 s1 u n1 xs) (k:w.ownsRow b2 e2 s2 v n2 ys) (he:e1 ≠ e2) {b:Nat} (hb:u.ownBlock = some b):v.ownBlock ≠ some b:=by
 intro h'
 rcases h.2 with ⟨rfl,_⟩ | ⟨g,cap,cur,rfl,_,hg,_⟩
 ·cases hb
 ·rcases k.2 with ⟨rfl,_⟩ | ⟨g',cap',cur',rfl,_,hg',_⟩
  ·cases h'
  ·injection hb with hb
   injection h' with h'
   simp only at hb h'
   subst hb h'
   rw [hg] at hg'
   injection hg' with hg'
   injection hg' with _ e
   exact he e
theorem blk_own {w:World} {base size n:Nat} {e:TypeId} {v:Value} {xs:List Value} (h:w.ownsRow base e size v n xs) {b:Nat} (hb:blk v = some b):v.ownBlock = some b:=by
 rcases h.2 with ⟨rfl,_⟩ | ⟨g,cap,cur,rfl,_,hg,_⟩
 ·cases hb
 ·by_cases hn:n = 0
  ·subst hn
   rw [blk_nil] at hb
   cases hb
  ·rw [blk_slice hn] at hb
   injection hb with hb
   simp only at hb
   subst hb
   rfl
def CV (w:World) (lo:Nat) (vc vv:Value) (ps:List (Value × Value)) (cols:List Int) (vals:List RatD):Prop :=
 OI w lo vc cols∧VW w lo w.heap.size vv ps vals∧∀ b,vc.ownBlock = some b → ∀ j,j < ps.length → blk (ps.getD j zP).1 ≠ some b∧blk (ps.getD j zP).2 ≠ some b
theorem CV.nil (w:World) (lo:Nat):CV w lo (.slice none 0 0) (.slice none 0 0) [] [] [] :=
 ⟨OI.nil w lo,VW.nil _ _ _ (World.ownsRow_nil w lo 50 3),(fun b hb=>by cases hb)⟩
theorem CV.later {w w':World} {lo:Nat} {vc vv:Value} {ps:List (Value × Value)} {cols:List Int} {vals:List RatD} (h:CV w lo vc vv ps cols vals) (hb:Below w.heap.size w w'):CV w' lo vc vv ps cols vals :=
 ⟨h.1.later hb,(h.2.1.later hb).wide hb.size,h.2.2⟩
theorem CV.frame {S:Nat → Prop} {w w':World} {lo:Nat} {vc vv:Value} {ps:List (Value × Value)} {cols:List Int} {vals:List RatD} (h:CV w lo vc vv ps cols vals) (hf:Frame S w w') (hs:∀ b,lo ≤ b → b < w.heap.size → ¬ S b):CV w' lo vc vv ps cols vals:=by
 obtain ⟨h1,⟨k0,k1,k2,k3⟩,h3⟩:=h
 refine ⟨own_kept h1 hf (fun b hb=>hs b (own_lt h1 hb).1 (own_lt h1 hb).2),⟨k0,own_kept k1 hf (fun b hb=>hs b (own_lt k1 hb).1 (own_lt k1 hb).2),fun j hj=>?_,k3⟩,h3⟩
 have:=k2 j hj
 exact ⟨(this.1.frame hf (fun b hb=>hs b (this.1.2 b hb).1 (this.1.2 b hb).2)).wide (Nat.le_refl _) hf.size,(this.2.frame hf (fun b hb=>hs b (this.2.2 b hb).1 (this.2.2 b hb).2)).wide (Nat.le_refl _) hf.size⟩
theorem CV.val {w w':World} {lo hi2:Nat} {vc vv vv':Value} {ps:List (Value × Value)} {cols:List Int} {vals:List RatD} {va vb:Value} {r:RatD} {k:Nat} (h:CV w lo vc vv ps cols vals)
 (hk:∀ b,vc.ownBlock = some b → b < k) (ha:∀ b,blk va = some b → k ≤ b) (hb':∀ b,blk vb = some b → k ≤ b)
 (hv:VW w' lo hi2 vv' (ps ++ [(va,vb)]) (vals ++ [r])) (hh:hi2 ≤ w'.heap.size) (hf:Frame (fun b=>vv.ownBlock = some b) w w'):CV w' lo vc vv' (ps ++ [(va,vb)]) cols (vals ++ [r]):=by
 obtain ⟨h1,⟨k0,k1,k2,k3⟩,h3⟩:=h
 refine ⟨own_kept h1 hf (fun b hb hc=>own_ne k1 h1 (by decide) hc hb),hv.wide hh,fun b hb j hj=>?_⟩
 rw [List.length_append,List.length_cons,List.length_nil] at hj
 by_cases e:j < ps.length
 ·rw [ls_getl e]
  exact h3 b hb j e
 ·rw [show j = ps.length by omega,ls_getr]
  have:=hk b hb
  exact ⟨fun hc=>by have:=ha b hc;omega,fun hc=>by have:=hb' b hc;omega⟩
def cellsM (qs:List RowP):List Value:=qs.flatMap fun q=>[q.ca,q.va]
theorem cellsM_snoc (qs:List RowP) (q:RowP):cellsM (qs ++ [q]) = cellsM qs ++ [q.ca,q.va]:=by simp [cellsM]
theorem cellsM_get:∀ (qs:List RowP) (j:Nat),j < qs.length → (cellsM qs)[j * 2]? = some (qs.getD j zRP).ca∧(cellsM qs)[j * 2 + 1]? = some (qs.getD j zRP).va
 | q :: qs,0,_=>by simp [cellsM]
 | q :: qs,j + 1,h=>by
  have:=cellsM_get qs j (by simpa using h)
  have e:cellsM (q :: qs) = q.ca :: q.va :: cellsM qs:=rfl
  rw [e,show (j + 1) * 2 = j * 2 + 1 + 1 by omega,show j * 2 + 1 + 1 + 1 = (j * 2 + 1) + 1 + 1 by omega]
  simpa using this
def MW (w:World) (base hi:Nat) (v:Value) (qs:List RowP) (rs:List RowD):Prop :=
 qs.length = rs.length∧ApM qs∧w.ownsRow base 141 2 v rs.length (cellsM qs)∧(∀ b,v.ownBlock = some b → b < hi)∧hi ≤ w.heap.size ∧
  ∀ j,j < rs.length → PO w base hi (qs.getD j zRP).ca (rs.getD j zRow).cols∧VS w base hi (qs.getD j zRP).va (qs.getD j zRP).ps (rs.getD j zRow).vals
theorem MW.nil (w:World) (base hi:Nat) (h:hi ≤ w.heap.size):MW w base hi (.slice none 0 0) [] [] :=
 ⟨rfl,⟨fun j hj=>by simp at hj,fun i j hi=>by simp at hi⟩,World.ownsRow_nil w base 141 2,(fun b hb=>by cases hb),h,fun j hj=>by simp at hj⟩
theorem MW.form {w:World} {base hi:Nat} {v:Value} {qs:List RowP} {rs:List RowD} (h:MW w base hi v qs rs):∃ A c,v = .slice A rs.length c:=by
 obtain ⟨A,c,e,_⟩:=own_slice h.2.2.1
 exact ⟨A,c,e⟩
theorem MW.far {w w':World} {base hi g:Nat} {v:Value} {qs:List RowP} {rs:List RowD} (h:MW w base hi v qs rs) (hf:Frame (fun b=>b = g) w w') (hg:g < base):MW w' base hi v qs rs:=by
 obtain ⟨h0,ha,ho,hob,hsz,hr⟩:=h
 refine ⟨h0,ha,own_kept ho hf (fun b hb' h'=>by have:=(own_lt ho hb').1;omega),hob,Nat.le_trans hsz hf.size,fun j hj=>?_⟩
 obtain ⟨k1,k2⟩:=hr j hj
 exact ⟨k1.frame hf (fun b hb' h'=>by have:=(k1.2 b hb').1;omega),k2.frame hf (fun b hb' h'=>by have:=(k2.foot hb').1;omega)⟩
theorem MW.snoc {w w':World} {base lo hi:Nat} {v v' vc vv:Value} {qs:List RowP} {rs:List RowD} {ps:List (Value × Value)} {x:RowD} (h:MW w base hi v qs rs) (hx:CV w lo vc vv ps x.cols x.vals) (hh:hi ≤ lo) (hbase:base ≤ hi)
 (hown:w'.ownsRow base 141 2 v' (rs.length + 1) (cellsM qs ++ [vc,vv])) (hf:Frame (fun b=>v.ownBlock = some b) w w'):MW w' base w'.heap.size v' (qs ++ [⟨vc,vv,ps⟩]) (rs ++ [x]):=by
 obtain ⟨h0,ha,ho,hob,hsz,hr⟩:=h
 obtain ⟨c1,c2,c3⟩:=hx
 have hs:=hf.size
 have po:PO w lo w.heap.size vc x.cols:=(RO.of_own c1).io
 have vs:VS w lo w.heap.size vv ps x.vals:=by have:=c2.parts;rwa [Nat.max_self] at this
 have footR:∀ j,j < rs.length → ∀ b,FootR (qs.getD j zRP) b → b < hi:=fun j hj b hb=>by
  rcases hb with hb | hb
  ·exact ((hr j hj).1.2 b hb).2
  ·exact ((hr j hj).2.foot hb).2
 have footN:∀ b,FootR ⟨vc,vv,ps⟩ b → lo ≤ b:=fun b hb=>by
  rcases hb with hb | hb
  ·exact (po.2 b hb).1
  ·exact (vs.foot hb).1
 refine ⟨by simp [h0],⟨fun j hj=>?_,fun i j hi' hj hij b hb hb'=>?_⟩,?_,fun b hb=>(own_lt hown hb).2,Nat.le_refl _,fun j hj=>?_⟩
 ·rw [List.length_append,List.length_cons,List.length_nil] at hj
  by_cases e:j < qs.length
  ·rw [ls_getl e];exact ha.1 j e
  ·rw [show j = qs.length by omega,ls_getr]
   refine ⟨c2.2.2.2,fun b hb hb'=>?_⟩
   have hbo:=blk_own c1 hb
   rcases hb' with hb' | ⟨p,hp,hb'⟩
   ·exact own_ne c1 c2.2.1 (by decide) hbo (blk_own c2.2.1 hb')
   ·rcases hb' with hb' | hb'
    ·exact (c3 b hbo p hp).1 hb'
    ·exact (c3 b hbo p hp).2 hb'
 ·rw [List.length_append,List.length_cons,List.length_nil] at hi' hj
  by_cases e1:i < qs.length <;> by_cases e2:j < qs.length
  ·rw [ls_getl e1] at hb
   rw [ls_getl e2] at hb'
   exact ha.2 i j e1 e2 hij b hb hb'
  ·rw [ls_getl e1] at hb
   rw [show j = qs.length by omega,ls_getr] at hb'
   have:=footR i (by omega) b hb
   have:=footN b hb'
   omega
  ·rw [ls_getl e2] at hb'
   rw [show i = qs.length by omega,ls_getr] at hb
   have:=footR j (by omega) b hb'
   have:=footN b hb
   omega
  ·omega
 ·rw [cellsM_snoc,List.length_append,List.length_cons,List.length_nil]
  exact hown
 ·rw [List.length_append,List.length_cons,List.length_nil] at hj
  by_cases e:j < rs.length
  ·rw [ls_getl (h0 ▸ e),ls_getl e]
   obtain ⟨k1,k2⟩:=hr j e
   refine ⟨(k1.frame hf (fun b hb hs'=>ne_row k1 ho (by decide) hb hs')).wide (Nat.le_refl _) (by omega),(k2.frame hf (fun b hb hs'=>?_)).wide (Nat.le_refl _) (by omega)⟩
   obtain ⟨u,hu,hc⟩:=own_cell0 ho (by rw [ho.1];omega) hs'
   have h00:=(cellsM_get qs 0 (by omega)).1
   rw [Nat.zero_mul,hu] at h00
   injection h00 with h00
   obtain ⟨A0,c0,e0,_⟩:=(hr 0 (by omega)).1.form
   rw [h00,e0] at hc
   exact k2.not_slice hc hb
  ·rw [show j = rs.length by omega,ls_getr,← h0,ls_getr]
   exact ⟨(po.frame hf (fun b hb hs'=>by have:=(po.2 b hb).1;have:=hob b hs';omega)).wide (by omega) hs,(vs.frame hf (fun b hb hs'=>by have:=(vs.foot hb).1;have:=hob b hs';omega)).wide (by omega) hs⟩
theorem MW.ms {w:World} {base hi:Nat} {v:Value} {qs:List RowP} {rs:List RowD} (h:MW w base hi v qs rs):MS w base w.heap.size v qs rs:=by
 obtain ⟨h0,ha,ho,hob,hsz,hr⟩:=h
 obtain ⟨A,c,e,h1,h2,h3⟩:=own_slice ho
 refine ⟨h0,A,c,e,h1,h2,fun hx=>?_⟩
 obtain ⟨g,eA,hg⟩:=h3 (List.length_pos_iff.2 hx)
 have hl:=own_lt ho hg
 refine ⟨g,eA,hl.1,hl.2,hl.2,fun j hj=>?_⟩
 subst e eA
 obtain ⟨k1,k2⟩:=hr j hj
 obtain ⟨c0,c1⟩:=cellsM_get qs j (by omega)
 exact ⟨(ho.cellAt (g:=g) (j * 2) (by omega)).trans c0,(ho.cellAt (g:=g) (j * 2 + 1) (by omega)).trans c1,k1.wide (Nat.le_refl _) hsz,k2.wide (Nat.le_refl _) hsz⟩
def MZ (w:World) (lo hi:Nat) (v:Value) (rs:List RowD):Prop:=∃ u qs,v = .agg #[u]∧MS w lo hi u qs rs∧ApM qs
theorem MZ.form {w:World} {lo hi:Nat} {v:Value} {rs:List RowD} (h:MZ w lo hi v rs):∃ A c,v = .agg #[.slice A rs.length c]:=by
 obtain ⟨u,qs,rfl,h,_⟩:=h
 obtain ⟨A,c,rfl,_⟩:=h.form
 exact ⟨A,c,rfl⟩
theorem MS.frame {S:Nat → Prop} {w w':World} {lo hi:Nat} {v:Value} {qs:List RowP} {rs:List RowD} (h:MS w lo hi v qs rs) (hf:Frame S w w') (hs:∀ b,lo ≤ b → b < hi → ¬ S b):MS w' lo hi v qs rs:=by
 obtain ⟨hp,A,c,rfl,h1,h2,h3⟩:=id h
 refine ⟨hp,A,c,rfl,h1,h2,fun hx=>?_⟩
 obtain ⟨g,rfl,k1,k2,k3,ke⟩:=h3 hx
 exact ⟨g,rfl,k1,k2,Nat.lt_of_lt_of_le k3 hf.size,fun j hj=>(ke j hj).frame hf k3 (hs g k1 k2) (fun b hb=>by
  have:=h.foot ⟨j,by omega,hb⟩
  exact hs b this.1 this.2)⟩
theorem MZ.frame {S:Nat → Prop} {w w':World} {lo hi:Nat} {v:Value} {rs:List RowD} (h:MZ w lo hi v rs) (hf:Frame S w w') (hs:∀ b,lo ≤ b → b < hi → ¬ S b):MZ w' lo hi v rs:=by
 obtain ⟨u,qs,rfl,h,ha⟩:=h
 exact ⟨u,qs,rfl,h.frame hf hs,ha⟩
theorem MZ.later {w w':World} {lo hi:Nat} {v:Value} {rs:List RowD} (h:MZ w lo hi v rs) (hb:Below w.heap.size w w'):MZ w' lo hi v rs:=h.frame (Frame.of_below (S:=fun _=>False) hb) (fun _ _ _ h=>h)
theorem MZ.reads {w:World} {lo hi:Nat} {v:Value} {rs:List RowD} (h:MZ w lo hi v rs):MatV w v rs:=by
 obtain ⟨u,qs,rfl,h,_⟩:=h
 obtain ⟨A,c,rfl,h1,h2⟩:=h.form
 exact ⟨A,c,rfl,⟨h1,h2⟩,h.reads⟩
theorem MZ.nil (w:World) (lo hi:Nat):MZ w lo hi (.agg #[.slice none 0 0]) [] :=
 ⟨_,[],rfl,⟨rfl,none,0,rfl,Nat.le_refl _,Nat.zero_le _,fun h=>absurd rfl h⟩,fun j hj=>by simp at hj,fun i j hi=>by simp at hi⟩
theorem MS.wide {w:World} {lo hi lo' hi':Nat} {v:Value} {qs:List RowP} {rs:List RowD} (h:MS w lo hi v qs rs) (j1:lo' ≤ lo) (j2:hi ≤ hi'):MS w lo' hi' v qs rs:=by
 obtain ⟨hp,A,c,rfl,h1,h2,h3⟩:=h
 refine ⟨hp,A,c,rfl,h1,h2,fun hx=>?_⟩
 obtain ⟨g,rfl,k1,k2,k3,ke⟩:=h3 hx
 exact ⟨g,rfl,by omega,by omega,k3,fun j hj=>⟨(ke j hj).1,(ke j hj).2.1,(ke j hj).2.2.1.wide j1 j2,(ke j hj).2.2.2.wide j1 j2⟩⟩
theorem Slots.set2 {w:World} {g:Nat} {a b:Value} (h:Slots w g [a,b]) (x:Value):Slots (w.setCell ⟨g,0,none⟩ x) g [x,b]:=h.set 0 (by show 0 < 2;decide) x
theorem R3.frame {S:Nat → Prop} {w w':World} {g o:Nat} {a b c:Value} (h:R3 w g o a b c) (hf:Frame S w w') (hg:g < w.heap.size) (hs:¬ S g):R3 w' g o a b c :=
 ⟨(hf.cell hg hs).trans h.1,(hf.cell hg hs).trans h.2.1,(hf.cell hg hs).trans h.2.2⟩
theorem two_rats {w:World} {r s:RatD} {A0 B0 A2 B2:Option Addr} {c0 b0 c2 b2:Nat} (h0:RatV w (.agg #[.bool r.neg,.slice A0 r.mag.length c0,.slice B0 r.den.length b0]) r) (h2:RatV w (.agg #[.bool s.neg,.slice A2 s.mag.length c2,.slice B2 s.den.length b2]) s) :
 VI (w.alloc (.cells #[.bool r.neg,.slice A0 r.mag.length c0,.slice B0 r.den.length b0,.bool s.neg,.slice A2 s.mag.length c2,.slice B2 s.den.length b2] 50)) (some ⟨w.heap.size,0,none⟩) [r,s]:=by
 have al:=below_alloc1 w (.cells #[.bool r.neg,.slice A0 r.mag.length c0,.slice B0 r.den.length b0,.bool s.neg,.slice A2 s.mag.length c2,.slice B2 s.den.length b2] 50)
 replace h0:=h0.later al
 replace h2:=h2.later al
 obtain ⟨A,c,B,d,e,hl,k1,k2⟩:=h0
 obtain ⟨A',c',B',d',e',hl',k1',k2'⟩:=h2
 injection e with e
 injection e with e
 injection e with _ e
 injection e with ea e
 injection e with eb _
 injection ea with ea1 _ ea3
 injection eb with eb1 _ eb3
 injection e' with e'
 injection e' with e'
 injection e' with _ e'
 injection e' with ea' e'
 injection e' with eb' _
 injection ea' with ea1' _ ea3'
 injection eb' with eb1' _ eb3'
 subst ea1 ea3 eb1 eb3 ea1' ea3' eb1' eb3'
 intro _
 refine ⟨w.heap.size,0,rfl,by simp,fun j hj=>?_⟩
 match j,hj with
 | 0,_=>exact ⟨_,_,_,_,by simp,by simp,by simp,hl,k1,k2⟩
 | 1,_=>exact ⟨_,_,_,_,by simp,by simp,by simp,hl',k1',k2'⟩
theorem MZ.wide {w:World} {lo hi lo' hi':Nat} {v:Value} {rs:List RowD} (h:MZ w lo hi v rs) (j1:lo' ≤ lo) (j2:hi ≤ hi'):MZ w lo' hi' v rs:=by
 obtain ⟨u,qs,rfl,h,ha⟩:=h
 exact ⟨u,qs,rfl,h.wide j1 j2,ha⟩
theorem cmpI_neg {p q:Nat}:cmpI q p = cmpI (-(p:Int)) (-(q:Int)):=by
 unfold cmpI
 repeat' split
 all_goals first | rfl | omega
theorem cmpI_sub (a b:Int):cmpI (a - b) 0 = cmpI a b:=by
 unfold cmpI
 repeat' split
 all_goals first | rfl | omega
theorem iSignOf (n:Int) (w:World):Calls Tryz.prog 178 #[.int .i64 n] w fun e w'=>e = .returned (.int .i64 (cmpI n 0))∧Below w.heap.size w w':=by
 unfold cmpI
 by_cases h1:n < 0
 ·rw [if_pos h1]
  go_enter Tryz.func178,Tryz.ntmps178
  go_wp2
  go_ret
  exact ⟨rfl,Below.refl _ _⟩
 ·rw [if_neg h1]
  by_cases h2:0 < n
  ·rw [if_pos h2]
   go_enter Tryz.func178,Tryz.ntmps178
   go_wp2
   go_ret
   exact ⟨rfl,Below.refl _ _⟩
  ·rw [if_neg h2]
   go_enter Tryz.func178,Tryz.ntmps178
   go_wp2
   go_ret
   exact ⟨rfl,Below.refl _ _⟩
theorem iBigCmp (s t:Bool) (p q:Nat) (hs:s = true → p ≠ 0) (ht:t = true → q ≠ 0) (u v:Value) (w:World) (hu:BigV w u s (FE.toL p)) (hv:BigV w v t (FE.toL q)) (l1:(FE.toL p).length ≤ 65536) (l2:(FE.toL q).length ≤ 65536) :
 Calls Tryz.prog 179 #[u,v] w fun e w'=>e = .returned (.int .i64 (cmpI (sgnI s p) (sgnI t q)))∧Below w.heap.size w w':=by
 obtain ⟨A,c,rfl,_,_,ra⟩:=hu
 obtain ⟨B,d,rfl,_,_,rb⟩:=hv
 have hS:=below_alloc2 w (.cells #[.bool s,.slice A (FE.toL p).length c] 48) (.cells #[.bool t,.slice B (FE.toL q).length d] 48)
 have H1:=Lib.hid (fun W (hW:Below w.heap.size w W)=>natCmp_s p q _ rfl _ _ c d rfl rfl l1 l2 A B W (ra.later hW) (rb.later hW))
 have H2:=Lib.hid (fun W (hW:Below w.heap.size w W)=>natCmp_s q p _ rfl _ _ d c rfl rfl l2 l1 B A W (rb.later hW) (ra.later hW))
 have S0:=Slots.new (below_step (Below.refl _ ((w.alloc (.cells #[.bool s,.slice A (FE.toL p).length c] 48)).alloc (.cells #[.bool t,.slice B (FE.toL q).length d] 48)))) (g:=w.heap.size) rfl
 have S1:=Slots.new (Below.refl _ ((w.alloc (.cells #[.bool s,.slice A (FE.toL p).length c] 48)).alloc (.cells #[.bool t,.slice B (FE.toL q).length d] 48))) (g:=w.heap.size + 1) (by simp)
 obtain ⟨a0_0,a0_1,_,_⟩:=S0.k2
 obtain ⟨a1_0,a1_1,_,_⟩:=S1.k2
 clear S0 S1 ra rb l1 l2
 generalize (FE.toL p).length = n at *
 generalize (FE.toL q).length = m at *
 cases s
 ·cases t
  ·obtain ⟨R,hR⟩:∃ R,cmpI (sgnI false p) (sgnI false q) = R:=⟨_,rfl⟩
   rw [show cmpI (p:Int) (q:Int) = R from hR] at H1
   rw [hR]
   clear hR H2 hs ht
   go_enter Tryz.func179,Tryz.ntmps179
   go_wp2_with fail
   refine (H1.out _ hS).mono ?_
   rintro e w1 ⟨rfl,k,hw⟩
   have hb:=below_drewN hS k
   rw [← hw] at hb
   clear hw a0_0 a0_1 a1_0 a1_1 hS
   go_wp2
   go_ret
   exact ⟨rfl,hb⟩
  ·have hR:cmpI (sgnI false p) (sgnI true q) = 1:=by
    have:=ht rfl
    unfold cmpI sgnI
    simp only [Bool.false_eq_true,if_false,if_true]
    rw [if_neg (by omega),if_pos (by omega)]
   rw [hR]
   clear hR H1 H2 hs ht
   go_enter Tryz.func179,Tryz.ntmps179
   go_wp2
   go_ret
   exact ⟨rfl,hS⟩
 ·cases t
  ·have hR:cmpI (sgnI true p) (sgnI false q) = -1:=by
    have:=hs rfl
    unfold cmpI sgnI
    simp only [Bool.false_eq_true,if_false,if_true]
    rw [if_pos (by omega)]
   rw [hR]
   clear hR H1 H2 hs ht
   go_enter Tryz.func179,Tryz.ntmps179
   go_wp2
   go_ret
   exact ⟨rfl,hS⟩
  ·obtain ⟨R,hR⟩:∃ R,cmpI (sgnI true p) (sgnI true q) = R:=⟨_,rfl⟩
   rw [show cmpI (q:Int) (p:Int) = R from cmpI_neg.trans hR] at H2
   rw [hR]
   clear hR H1 hs ht
   go_enter Tryz.func179,Tryz.ntmps179
   go_wp2_with fail
   refine (H2.out _ hS).mono ?_
   rintro e w1 ⟨rfl,k,hw⟩
   have hb:=below_drewN hS k
   rw [← hw] at hb
   clear hw a0_0 a0_1 a1_0 a1_1 hS
   go_wp2
   go_ret
   exact ⟨rfl,hb⟩
def cmpV (x y:RatD) (p q p' q':Nat):Int:=cmpI (sgnI x.neg p * q') (sgnI y.neg p' * q)
theorem iCompare_small (x y:RatD) (p q p' q':Nat) (hx:FE.OkR x p q) (hy:FE.OkR y p' q') (u v:Value) (w:World) (hu:RatV w u x) (hv:RatV w v y) (h1:smallB x = true) (h2:smallB y = true) :
 Calls Tryz.prog 109 #[u,v] w fun e w'=>e = .returned (.int .i64 (cmpV x y p q p' q'))∧Below w.heap.size w w':=by
 obtain ⟨A,c,B,d,rfl,hcd,ra,rb⟩:=hu
 obtain ⟨A',c',B',d',rfl,hcd',ra',rb'⟩:=hv
 have k1:=FE.natOk_of_toL (n:=p) (by have:=hx.pl;omega)
 have k2:=FE.natOk_of_toL (n:=q) (by have:=hx.ql;omega)
 have k3:=FE.natOk_of_toL (n:=p') (by have:=hy.pl;omega)
 have k4:=FE.natOk_of_toL (n:=q') (by have:=hy.ql;omega)
 have sx:=smallR_of (x:=x) (by rw [hx.mag];exact k1) (by rw [hx.den];exact k2) h1
 have sy:=smallR_of (x:=y) (by rw [hy.mag];exact k3) (by rw [hy.den];exact k4) h2
 rw [hx.nmag,hx.nden] at sx
 rw [hy.nmag,hy.nden] at sy
 clear k1 k2 k3 k4 hx hy
 have C1:=Lib.hid (fun W (hW:Below w.heap.size w W)=>iIsSmall x _ W ⟨A,c,B,d,rfl,hcd,ra.later hW,rb.later hW⟩)
 have C2:=Lib.hid (fun W (hW:Below w.heap.size w W)=>iIsSmall y _ W ⟨A',c',B',d',rfl,hcd',ra'.later hW,rb'.later hW⟩)
 rw [h1] at C1
 rw [h2] at C2
 have C3:=Lib.hid (fun W (hW:Below w.heap.size w W)=>iSmall x p q sx _ W ⟨A,c,B,d,rfl,hcd,ra.later hW,rb.later hW⟩)
 have C4:=Lib.hid (fun W (hW:Below w.heap.size w W)=>iSmall y p' q' sy _ W ⟨A',c',B',d',rfl,hcd',ra'.later hW,rb'.later hW⟩)
 have ba:-999999999 ≤ sgnI x.neg p∧sgnI x.neg p ≤ 999999999:=by have:=sx.p1;rcases sgnI_or x.neg p with h | h <;> rw [h] <;> omega
 have bc:-999999999 ≤ sgnI y.neg p'∧sgnI y.neg p' ≤ 999999999:=by have:=sy.p1;rcases sgnI_or y.neg p' with h | h <;> rw [h] <;> omega
 have bd:=sx.q1
 have be:=sy.q1
 obtain ⟨e1,e2⟩:=small_mul ba be
 obtain ⟨e3,e4⟩:=small_mul bc bd
 have C5:=fun W=>iSignOf (sgnI x.neg p * (q':Int) - sgnI y.neg p' * (q:Int)) W
 rw [cmpI_sub] at C5
 rw [show cmpI (sgnI x.neg p * (q':Int)) (sgnI y.neg p' * (q:Int)) = cmpV x y p q p' q' from rfl] at C5
 replace C5:=Lib.hid C5
 clear sx sy h1 h2 hcd hcd' ra rb ra' rb'
 generalize cmpV x y p q p' q' = R at *
 generalize sgnI x.neg p = a at *
 generalize sgnI y.neg p' = b at *
 clear ba bc bd be
 generalize x.mag.length = n at *
 generalize x.den.length = m at *
 generalize y.mag.length = n' at *
 generalize y.den.length = m' at *
 generalize x.neg = s at *
 generalize y.neg = t at *
 go_enter Tryz.func109,Tryz.ntmps109
 go_wp2_with fail
 refine (C1.out _ (below_alloc2 _ _ _)).mono ?_
 rintro e w1 ⟨rfl,hb1⟩
 have S1:=Slots.new hb1 (g:=w.heap.size + 1) (by simp)
 have S0:=Slots.new (below_step hb1) (g:=w.heap.size) rfl
 replace hb1:=below_trans (below_alloc2 _ _ _) hb1
 obtain ⟨a0,a1,a2,_,_,_⟩:=S0.c3
 obtain ⟨b0,b1,b2,_,_,_⟩:=S1.c3
 go_wp2_with fail
 refine (C2.out _ hb1).mono ?_
 rintro e w2 ⟨rfl,hb2⟩
 clear a0 a1 a2 b0 b1 b2
 replace S1:=S1.later hb2
 replace S0:=S0.later hb2
 replace hb1:=below_trans hb1 hb2
 clear hb2
 obtain ⟨a0,a1,a2,_,_,_⟩:=S0.c3
 obtain ⟨b0,b1,b2,_,_,_⟩:=S1.c3
 go_wp2_with fail
 refine (C3.out _ hb1).mono ?_
 rintro e w3 ⟨rfl,hb2⟩
 clear a0 a1 a2 b0 b1 b2
 replace S1:=S1.later hb2
 replace hb1:=below_trans hb1 hb2
 clear hb2
 obtain ⟨b0,b1,b2,_,_,_⟩:=S1.c3
 go_wp2_with fail
 refine (C4.out _ hb1).mono ?_
 rintro e w4 ⟨rfl,hb2⟩
 clear b0 b1 b2
 replace hb1:=below_trans hb1 hb2
 clear hb2 S0 S1
 go_wp2_with fail
 refine (C5.out _).mono ?_
 rintro e w5 ⟨rfl,hb2⟩
 replace hb1:=below_trans hb1 hb2
 clear hb2 e1 e2 e3 e4
 go_wp2
 go_ret
 exact ⟨rfl,hb1⟩
theorem iCompare_a (x y:RatD) (p q p' q':Nat) (hx:FE.OkR x p q) (hy:FE.OkR y p' q') (u v:Value) (w:World) (hu:RatV w u x) (hv:RatV w v y) (h1:smallB x = false) :
 Calls Tryz.prog 109 #[u,v] w fun e w'=>e = .returned (.int .i64 (cmpV x y p q p' q'))∧Below w.heap.size w w':=by
 obtain ⟨A,c,B,d,rfl,hcd,ra,rb⟩:=hu
 obtain ⟨A',c',B',d',rfl,hcd',ra',rb'⟩:=hv
 have C1:=Lib.hid (fun W (hW:Below w.heap.size w W)=>iIsSmall x _ W ⟨A,c,B,d,rfl,hcd,ra.later hW,rb.later hW⟩)
 have C2:=Lib.hid (fun W (hW:Below w.heap.size w W)=>iIsSmall y _ W ⟨A',c',B',d',rfl,hcd',ra'.later hW,rb'.later hW⟩)
 rw [h1] at C1
 have mx:=hx.mag
 have my:=hy.mag
 have dx:=hx.den
 have dy:=hy.den
 rw [mx] at ra
 rw [dx] at rb
 rw [my] at ra'
 rw [dy] at rb'
 have hcm:=hcd.2.1
 have hcm':=hcd'.2.1
 have hdm:=hcd.2.2.2
 have hdm':=hcd'.2.2.2
 have hca:(FE.toL p).length ≤ c:=by rw [← mx];exact hcd.1
 have hca':(FE.toL p').length ≤ c':=by rw [← my];exact hcd'.1
 have hda:(FE.toL q).length ≤ d:=by rw [← dx];exact hcd.2.2.1
 have hda':(FE.toL q').length ≤ d':=by rw [← dy];exact hcd'.2.2.1
 have lp:=hx.pl
 have lq:=hx.ql
 have lp':=hy.pl
 have lq':=hy.ql
 have H1:=Lib.hid (fun W (hW:Below w.heap.size w W)=>iBigMul x.neg false p q' (.agg #[.bool x.neg,.slice A (FE.toL p).length c]) (.agg #[.bool false,.slice B' (FE.toL q').length d']) W ⟨A,c,rfl,hca,hcm,ra.later hW⟩ ⟨B',d',rfl,hda',hdm',rb'.later hW⟩ (by omega) (by omega))
 have H2:=Lib.hid (fun W (hW:Below w.heap.size w W)=>iBigMul y.neg false p' q (.agg #[.bool y.neg,.slice A' (FE.toL p').length c']) (.agg #[.bool false,.slice B (FE.toL q).length d]) W ⟨A',c',rfl,hca',hcm',ra'.later hW⟩ ⟨B,d,rfl,hda,hdm,rb.later hW⟩ (by omega) (by omega))
 rw [bne_false] at H1 H2
 have k1:=mul_len24 lp lq'
 have k2:=mul_len24 lp' lq
 have n1:(x.neg && decide (p * q' ≠ 0)) = true → p * q' ≠ 0:=fun h=>by simp only [Bool.and_eq_true,decide_eq_true_eq] at h;exact h.2
 have n2:(y.neg && decide (p' * q ≠ 0)) = true → p' * q ≠ 0:=fun h=>by simp only [Bool.and_eq_true,decide_eq_true_eq] at h;exact h.2
 have H3:=fun W (u v:Value) hu hv=>iBigCmp (x.neg && decide (p * q' ≠ 0)) (y.neg && decide (p' * q ≠ 0)) (p * q') (p' * q) n1 n2 u v W hu hv (by omega) (by omega)
 have j1:sgnI x.neg (p * q') = sgnI x.neg p * q':=by cases x.neg <;> simp [sgnI,Int.natCast_mul,Int.neg_mul]
 have j2:sgnI y.neg (p' * q) = sgnI y.neg p' * q:=by cases y.neg <;> simp [sgnI,Int.natCast_mul,Int.neg_mul]
 rw [sgnI_sg,sgnI_sg,j1,j2] at H3
 rw [show cmpI (sgnI x.neg p * (q':Int)) (sgnI y.neg p' * (q:Int)) = cmpV x y p q p' q' from rfl] at H3
 replace H3:=Lib.hid H3
 rw [mx,dx] at C1 ⊢
 rw [my,dy] at C2 ⊢
 clear hx hy h1 mx my dx dy hcd hcd' ra rb ra' rb' hcm hcm' hdm hdm' hca hca' hda hda' lp lq lp' lq' k1 k2 n1 n2 j1 j2 C2
 generalize cmpV x y p q p' q' = R at *
 generalize (x.neg && decide (p * q' ≠ 0)) = sb1 at *
 generalize (y.neg && decide (p' * q ≠ 0)) = sb2 at *
 generalize FE.toL (p * q') = m1 at *
 generalize FE.toL (p' * q) = m2 at *
 generalize (FE.toL p).length = n at *
 generalize (FE.toL q).length = m at *
 generalize (FE.toL p').length = n' at *
 generalize (FE.toL q').length = m' at *
 generalize x.neg = s at *
 generalize y.neg = t at *
 go_enter Tryz.func109,Tryz.ntmps109
 go_wp2_with fail
 refine (C1.out _ (below_alloc2 _ _ _)).mono ?_
 rintro e w1 ⟨rfl,hb1⟩
 have S1:=Slots.new hb1 (g:=w.heap.size + 1) (by simp)
 have S0:=Slots.new (below_step hb1) (g:=w.heap.size) rfl
 replace hb1:=below_trans (below_alloc2 _ _ _) hb1
 obtain ⟨a0,a1,a2,_,_,_⟩:=S0.c3
 obtain ⟨b0,b1,b2,_,_,_⟩:=S1.c3
 have hM:w.heap.size + 1 < w1.heap.size:=S1.1
 clear S0 S1
 go_wp2_with fail
 generalize w1 = wb at *
 refine wp_region_held_drew (S:=fun W=>Below wb.heap.size wb W) (by kernel_rfl) (show Below wb.heap.size wb wb.drew from ⟨rfl,rfl,rfl,Nat.le_refl _,fun _ _=>rfl⟩) (fun hHeld=>?_)
 refine qL (i:=0) (v:=?_) rfl (by kernel_rfl) (fun _ _ _ h=>h) (by assumption) (by rfl) (fun W _=>?_) ?_
 rotate_left
 ·go_simp
  try with_reducible rfl
 try simp only [Act.put,List.setIfInBounds_toArray]
 refine qL (i:=1) (v:=?_) rfl (by kernel_rfl) (fun _ _ _ h=>h) (by assumption) (by rfl) (fun W hSw=>?_) ?_
 rotate_left
 ·have f0:=(Below.cell hSw (p:=⟨w.heap.size,0,none⟩) (show w.heap.size < wb.heap.size by omega)).trans a0
  have f1:=(Below.cell hSw (p:=⟨w.heap.size,1,none⟩) (show w.heap.size < wb.heap.size by omega)).trans a1
  go_simp
  try with_reducible rfl
 try simp only [Act.put]
 refine qL (i:=2) (v:=?_) rfl (by kernel_rfl) (fun _ _ _ h=>h) (by assumption) (by rfl) (fun W _=>?_) ?_
 rotate_left
 ·go_simp
  try with_reducible rfl
 try simp only [Act.put]
 refine qL (i:=3) (v:=?_) rfl (by kernel_rfl) (fun _ _ _ h=>h) (by assumption) (by rfl) (fun W hSw=>?_) ?_
 rotate_left
 ·have f0:=(Below.cell hSw (p:=⟨w.heap.size + 1,2,none⟩) (show w.heap.size + 1 < wb.heap.size by omega)).trans b2
  go_simp
  try with_reducible rfl
 try simp only [Act.put]
 refine qL (i:=4) (v:=?_) rfl (by kernel_rfl) (fun _ _ _ h=>h) (by assumption) (by rfl) (fun W _=>?_) ?_
 rotate_left
 ·go_simp
  try with_reducible rfl
 try simp only [Act.put]
 refine qL (i:=6) (v:=?_) rfl (by kernel_rfl) (fun _ _ _ h=>h) (by assumption) (by rfl) (fun W _=>?_) ?_
 rotate_left
 ·go_simp
  try with_reducible rfl
 try simp only [Act.put]
 refine qL (i:=7) (v:=?_) rfl (by kernel_rfl) (fun _ _ _ h=>h) (by assumption) (by rfl) (fun W hSw=>?_) ?_
 rotate_left
 ·have f0:=(Below.cell hSw (p:=⟨w.heap.size + 1,0,none⟩) (show w.heap.size + 1 < wb.heap.size by omega)).trans b0
  have f1:=(Below.cell hSw (p:=⟨w.heap.size + 1,1,none⟩) (show w.heap.size + 1 < wb.heap.size by omega)).trans b1
  go_simp
  try with_reducible rfl
 try simp only [Act.put]
 refine qL (i:=8) (v:=?_) rfl (by kernel_rfl) (fun _ _ _ h=>h) (by assumption) (by rfl) (fun W _=>?_) ?_
 rotate_left
 ·go_simp
  try with_reducible rfl
 try simp only [Act.put]
 refine qL (i:=9) (v:=?_) rfl (by kernel_rfl) (fun _ _ _ h=>h) (by assumption) (by rfl) (fun W hSw=>?_) ?_
 rotate_left
 ·have f0:=(Below.cell hSw (p:=⟨w.heap.size,2,none⟩) (show w.heap.size < wb.heap.size by omega)).trans a2
  go_simp
  try with_reducible rfl
 try simp only [Act.put]
 refine qL (i:=10) (v:=?_) rfl (by kernel_rfl) (fun _ _ _ h=>h) (by assumption) (by rfl) (fun W _=>?_) ?_
 rotate_left
 ·go_simp
  try with_reducible rfl
 try simp only [Act.put]
 have hBd:Below wb.heap.size wb wb.drew:=⟨rfl,rfl,rfl,Nat.le_refl _,fun _ _=>rfl⟩
 refine qR (i:=5) (by kernel_rfl) rfl (fun K hK=>?_)
 simp only [List.getElem_toArray,List.getElem_cons_succ,List.getElem_cons_zero]
 go_simp
 (go_at_call 120;(with_reducible refine (H1.out _ (below_trans hb1 hBd)).mono ?_);rintro e31 w31 ⟨v31,rfl,h31,hb31⟩)
 try (go_wp2_with fail)
 have hB31:=below_trans hBd hb31
 obtain ⟨va31,rfl,_⟩:=id h31
 refine hK.out _ _ (hB31) (fun h2=>?_)
 clear hK K hHeld
 have hHeld:=h2
 clear h2
 try simp only [Act.put,List.setIfInBounds_toArray,List.set_cons_zero,List.set_cons_succ]
 refine qR (i:=11) (by kernel_rfl) rfl (fun K hK=>?_)
 simp only [List.getElem_toArray,List.getElem_cons_succ,List.getElem_cons_zero]
 go_simp
 (go_at_call 120;(with_reducible refine (H2.out _ (below_trans hb1 hB31)).mono ?_);rintro e32 w32 ⟨v32,rfl,h32,hb32⟩)
 try (go_wp2_with fail)
 have hB32:=below_trans hB31 hb32
 obtain ⟨va32,rfl,_⟩:=id h32
 refine hK.out _ _ (hB32) (fun h2=>?_)
 clear hK K hHeld
 have hHeld:=h2
 clear h2
 try simp only [Act.put,List.setIfInBounds_toArray,List.set_cons_zero,List.set_cons_succ]
 refine qR (i:=12) (by kernel_rfl) rfl (fun K hK=>?_)
 simp only [List.getElem_toArray,List.getElem_cons_succ,List.getElem_cons_zero]
 go_simp
 (go_at_call 179;(with_reducible refine (H3.out _ _ _ (h31.later hb32).reads h32.reads).mono ?_);rintro e33 w33 ⟨rfl,hb33⟩)
 try (go_wp2_with fail)
 have hB33:=below_trans hB32 hb33
 refine hK.out _ _ (hB33) (fun h2=>?_)
 clear hK K hHeld
 have hHeld:=h2
 clear h2
 try simp only [Act.put,List.setIfInBounds_toArray,List.set_cons_zero,List.set_cons_succ]
 refine qR (i:=13) (by kernel_rfl) rfl (fun K hK=>?_)
 simp only [List.getElem_toArray,List.getElem_cons_succ,List.getElem_cons_zero]
 go_simp
 refine hK.out _ _ (hB33) (fun h2=>?_)
 clear hK K hHeld
 have hHeld:=h2
 clear h2
 try simp only [Act.put,List.setIfInBounds_toArray,List.set_cons_zero,List.set_cons_succ]
 refine wpAnyH_done (by kernel_rfl) ?_ _
 clear hHeld
 have hfin:=below_trans hb1 hB33
 clear a0 a1 a2 b0 b1 b2 hB33 hb33
 go_wp2
 go_ret
 exact ⟨rfl,hfin⟩
theorem iCompare_b (x y:RatD) (p q p' q':Nat) (hx:FE.OkR x p q) (hy:FE.OkR y p' q') (u v:Value) (w:World) (hu:RatV w u x) (hv:RatV w v y) (h1:smallB x = true) (h2:smallB y = false) :
 Calls Tryz.prog 109 #[u,v] w fun e w'=>e = .returned (.int .i64 (cmpV x y p q p' q'))∧Below w.heap.size w w':=by
 obtain ⟨A,c,B,d,rfl,hcd,ra,rb⟩:=hu
 obtain ⟨A',c',B',d',rfl,hcd',ra',rb'⟩:=hv
 have C1:=Lib.hid (fun W (hW:Below w.heap.size w W)=>iIsSmall x _ W ⟨A,c,B,d,rfl,hcd,ra.later hW,rb.later hW⟩)
 have C2:=Lib.hid (fun W (hW:Below w.heap.size w W)=>iIsSmall y _ W ⟨A',c',B',d',rfl,hcd',ra'.later hW,rb'.later hW⟩)
 rw [h1] at C1
 rw [h2] at C2
 have mx:=hx.mag
 have my:=hy.mag
 have dx:=hx.den
 have dy:=hy.den
 rw [mx] at ra
 rw [dx] at rb
 rw [my] at ra'
 rw [dy] at rb'
 have hcm:=hcd.2.1
 have hcm':=hcd'.2.1
 have hdm:=hcd.2.2.2
 have hdm':=hcd'.2.2.2
 have hca:(FE.toL p).length ≤ c:=by rw [← mx];exact hcd.1
 have hca':(FE.toL p').length ≤ c':=by rw [← my];exact hcd'.1
 have hda:(FE.toL q).length ≤ d:=by rw [← dx];exact hcd.2.2.1
 have hda':(FE.toL q').length ≤ d':=by rw [← dy];exact hcd'.2.2.1
 have lp:=hx.pl
 have lq:=hx.ql
 have lp':=hy.pl
 have lq':=hy.ql
 have H1:=Lib.hid (fun W (hW:Below w.heap.size w W)=>iBigMul x.neg false p q' (.agg #[.bool x.neg,.slice A (FE.toL p).length c]) (.agg #[.bool false,.slice B' (FE.toL q').length d']) W ⟨A,c,rfl,hca,hcm,ra.later hW⟩ ⟨B',d',rfl,hda',hdm',rb'.later hW⟩ (by omega) (by omega))
 have H2:=Lib.hid (fun W (hW:Below w.heap.size w W)=>iBigMul y.neg false p' q (.agg #[.bool y.neg,.slice A' (FE.toL p').length c']) (.agg #[.bool false,.slice B (FE.toL q).length d]) W ⟨A',c',rfl,hca',hcm',ra'.later hW⟩ ⟨B,d,rfl,hda,hdm,rb.later hW⟩ (by omega) (by omega))
 rw [bne_false] at H1 H2
 have k1:=mul_len24 lp lq'
 have k2:=mul_len24 lp' lq
 have n1:(x.neg && decide (p * q' ≠ 0)) = true → p * q' ≠ 0:=fun h=>by simp only [Bool.and_eq_true,decide_eq_true_eq] at h;exact h.2
 have n2:(y.neg && decide (p' * q ≠ 0)) = true → p' * q ≠ 0:=fun h=>by simp only [Bool.and_eq_true,decide_eq_true_eq] at h;exact h.2
 have H3:=fun W (u v:Value) hu hv=>iBigCmp (x.neg && decide (p * q' ≠ 0)) (y.neg && decide (p' * q ≠ 0)) (p * q') (p' * q) n1 n2 u v W hu hv (by omega) (by omega)
 have j1:sgnI x.neg (p * q') = sgnI x.neg p * q':=by cases x.neg <;> simp [sgnI,Int.natCast_mul,Int.neg_mul]
 have j2:sgnI y.neg (p' * q) = sgnI y.neg p' * q:=by cases y.neg <;> simp [sgnI,Int.natCast_mul,Int.neg_mul]
 rw [sgnI_sg,sgnI_sg,j1,j2] at H3
 rw [show cmpI (sgnI x.neg p * (q':Int)) (sgnI y.neg p' * (q:Int)) = cmpV x y p q p' q' from rfl] at H3
 replace H3:=Lib.hid H3
 rw [mx,dx] at C1 ⊢
 rw [my,dy] at C2 ⊢
 clear hx hy h1 mx my dx dy hcd hcd' ra rb ra' rb' hcm hcm' hdm hdm' hca hca' hda hda' lp lq lp' lq' k1 k2 n1 n2 j1 j2 h2
 generalize cmpV x y p q p' q' = R at *
 generalize (x.neg && decide (p * q' ≠ 0)) = sb1 at *
 generalize (y.neg && decide (p' * q ≠ 0)) = sb2 at *
 generalize FE.toL (p * q') = m1 at *
 generalize FE.toL (p' * q) = m2 at *
 generalize (FE.toL p).length = n at *
 generalize (FE.toL q).length = m at *
 generalize (FE.toL p').length = n' at *
 generalize (FE.toL q').length = m' at *
 generalize x.neg = s at *
 generalize y.neg = t at *
 go_enter Tryz.func109,Tryz.ntmps109
 go_wp2_with fail
 refine (C1.out _ (below_alloc2 _ _ _)).mono ?_
 rintro e w1 ⟨rfl,hb1⟩
 have S1:=Slots.new hb1 (g:=w.heap.size + 1) (by simp)
 have S0:=Slots.new (below_step hb1) (g:=w.heap.size) rfl
 replace hb1:=below_trans (below_alloc2 _ _ _) hb1
 obtain ⟨a0,a1,a2,_,_,_⟩:=S0.c3
 obtain ⟨b0,b1,b2,_,_,_⟩:=S1.c3
 go_wp2_with fail
 refine (C2.out _ hb1).mono ?_
 rintro e w2 ⟨rfl,hb2⟩
 clear a0 a1 a2 b0 b1 b2
 replace S1:=S1.later hb2
 replace S0:=S0.later hb2
 replace hb1:=below_trans hb1 hb2
 clear hb2
 obtain ⟨a0,a1,a2,_,_,_⟩:=S0.c3
 obtain ⟨b0,b1,b2,_,_,_⟩:=S1.c3
 generalize w2 = w1 at *
 have hM:w.heap.size + 1 < w1.heap.size:=S1.1
 clear S0 S1
 go_wp2_with fail
 generalize w1 = wb at *
 refine wp_region_held_drew (S:=fun W=>Below wb.heap.size wb W) (by kernel_rfl) (show Below wb.heap.size wb wb.drew from ⟨rfl,rfl,rfl,Nat.le_refl _,fun _ _=>rfl⟩) (fun hHeld=>?_)
 refine qL (i:=0) (v:=?_) rfl (by kernel_rfl) (fun _ _ _ h=>h) (by assumption) (by rfl) (fun W _=>?_) ?_
 rotate_left
 ·go_simp
  try with_reducible rfl
 try simp only [Act.put,List.setIfInBounds_toArray]
 refine qL (i:=1) (v:=?_) rfl (by kernel_rfl) (fun _ _ _ h=>h) (by assumption) (by rfl) (fun W hSw=>?_) ?_
 rotate_left
 ·have f0:=(Below.cell hSw (p:=⟨w.heap.size,0,none⟩) (show w.heap.size < wb.heap.size by omega)).trans a0
  have f1:=(Below.cell hSw (p:=⟨w.heap.size,1,none⟩) (show w.heap.size < wb.heap.size by omega)).trans a1
  go_simp
  try with_reducible rfl
 try simp only [Act.put]
 refine qL (i:=2) (v:=?_) rfl (by kernel_rfl) (fun _ _ _ h=>h) (by assumption) (by rfl) (fun W _=>?_) ?_
 rotate_left
 ·go_simp
  try with_reducible rfl
 try simp only [Act.put]
 refine qL (i:=3) (v:=?_) rfl (by kernel_rfl) (fun _ _ _ h=>h) (by assumption) (by rfl) (fun W hSw=>?_) ?_
 rotate_left
 ·have f0:=(Below.cell hSw (p:=⟨w.heap.size + 1,2,none⟩) (show w.heap.size + 1 < wb.heap.size by omega)).trans b2
  go_simp
  try with_reducible rfl
 try simp only [Act.put]
 refine qL (i:=4) (v:=?_) rfl (by kernel_rfl) (fun _ _ _ h=>h) (by assumption) (by rfl) (fun W _=>?_) ?_
 rotate_left
 ·go_simp
  try with_reducible rfl
 try simp only [Act.put]
 refine qL (i:=6) (v:=?_) rfl (by kernel_rfl) (fun _ _ _ h=>h) (by assumption) (by rfl) (fun W _=>?_) ?_
 rotate_left
 ·go_simp
  try with_reducible rfl
 try simp only [Act.put]
 refine qL (i:=7) (v:=?_) rfl (by kernel_rfl) (fun _ _ _ h=>h) (by assumption) (by rfl) (fun W hSw=>?_) ?_
 rotate_left
 ·have f0:=(Below.cell hSw (p:=⟨w.heap.size + 1,0,none⟩) (show w.heap.size + 1 < wb.heap.size by omega)).trans b0
  have f1:=(Below.cell hSw (p:=⟨w.heap.size + 1,1,none⟩) (show w.heap.size + 1 < wb.heap.size by omega)).trans b1
  go_simp
  try with_reducible rfl
 try simp only [Act.put]
 refine qL (i:=8) (v:=?_) rfl (by kernel_rfl) (fun _ _ _ h=>h) (by assumption) (by rfl) (fun W _=>?_) ?_
 rotate_left
 ·go_simp
  try with_reducible rfl
 try simp only [Act.put]
 refine qL (i:=9) (v:=?_) rfl (by kernel_rfl) (fun _ _ _ h=>h) (by assumption) (by rfl) (fun W hSw=>?_) ?_
 rotate_left
 ·have f0:=(Below.cell hSw (p:=⟨w.heap.size,2,none⟩) (show w.heap.size < wb.heap.size by omega)).trans a2
  go_simp
  try with_reducible rfl
 try simp only [Act.put]
 refine qL (i:=10) (v:=?_) rfl (by kernel_rfl) (fun _ _ _ h=>h) (by assumption) (by rfl) (fun W _=>?_) ?_
 rotate_left
 ·go_simp
  try with_reducible rfl
 try simp only [Act.put]
 have hBd:Below wb.heap.size wb wb.drew:=⟨rfl,rfl,rfl,Nat.le_refl _,fun _ _=>rfl⟩
 refine qR (i:=5) (by kernel_rfl) rfl (fun K hK=>?_)
 simp only [List.getElem_toArray,List.getElem_cons_succ,List.getElem_cons_zero]
 go_simp
 (go_at_call 120;(with_reducible refine (H1.out _ (below_trans hb1 hBd)).mono ?_);rintro e31 w31 ⟨v31,rfl,h31,hb31⟩)
 try (go_wp2_with fail)
 have hB31:=below_trans hBd hb31
 obtain ⟨va31,rfl,_⟩:=id h31
 refine hK.out _ _ (hB31) (fun h2=>?_)
 clear hK K hHeld
 have hHeld:=h2
 clear h2
 try simp only [Act.put,List.setIfInBounds_toArray,List.set_cons_zero,List.set_cons_succ]
 refine qR (i:=11) (by kernel_rfl) rfl (fun K hK=>?_)
 simp only [List.getElem_toArray,List.getElem_cons_succ,List.getElem_cons_zero]
 go_simp
 (go_at_call 120;(with_reducible refine (H2.out _ (below_trans hb1 hB31)).mono ?_);rintro e32 w32 ⟨v32,rfl,h32,hb32⟩)
 try (go_wp2_with fail)
 have hB32:=below_trans hB31 hb32
 obtain ⟨va32,rfl,_⟩:=id h32
 refine hK.out _ _ (hB32) (fun h2=>?_)
 clear hK K hHeld
 have hHeld:=h2
 clear h2
 try simp only [Act.put,List.setIfInBounds_toArray,List.set_cons_zero,List.set_cons_succ]
 refine qR (i:=12) (by kernel_rfl) rfl (fun K hK=>?_)
 simp only [List.getElem_toArray,List.getElem_cons_succ,List.getElem_cons_zero]
 go_simp
 (go_at_call 179;(with_reducible refine (H3.out _ _ _ (h31.later hb32).reads h32.reads).mono ?_);rintro e33 w33 ⟨rfl,hb33⟩)
 try (go_wp2_with fail)
 have hB33:=below_trans hB32 hb33
 refine hK.out _ _ (hB33) (fun h2=>?_)
 clear hK K hHeld
 have hHeld:=h2
 clear h2
 try simp only [Act.put,List.setIfInBounds_toArray,List.set_cons_zero,List.set_cons_succ]
 refine qR (i:=13) (by kernel_rfl) rfl (fun K hK=>?_)
 simp only [List.getElem_toArray,List.getElem_cons_succ,List.getElem_cons_zero]
 go_simp
 refine hK.out _ _ (hB33) (fun h2=>?_)
 clear hK K hHeld
 have hHeld:=h2
 clear h2
 try simp only [Act.put,List.setIfInBounds_toArray,List.set_cons_zero,List.set_cons_succ]
 refine wpAnyH_done (by kernel_rfl) ?_ _
 clear hHeld
 have hfin:=below_trans hb1 hB33
 clear a0 a1 a2 b0 b1 b2 hB33 hb33
 go_wp2
 go_ret
 exact ⟨rfl,hfin⟩
theorem iCompare (x y:RatD) (p q p' q':Nat) (hx:FE.OkR x p q) (hy:FE.OkR y p' q') (u v:Value) (w:World) (hu:RatV w u x) (hv:RatV w v y) :
 Calls Tryz.prog 109 #[u,v] w fun e w'=>e = .returned (.int .i64 (cmpV x y p q p' q'))∧Below w.heap.size w w':=by
 cases h1:smallB x
 ·exact iCompare_a x y p q p' q' hx hy u v w hu hv h1
 ·cases h2:smallB y
  ·exact iCompare_b x y p q p' q' hx hy u v w hu hv h1 h2
  ·exact iCompare_small x y p q p' q' hx hy u v w hu hv h1 h2
theorem iRatCmp (x y:RatD) (p q p' q':Nat) (hx:FE.OkR x p q) (hy:FE.OkR y p' q') (u v:Value) (w:World) (hu:RatV w u x) (hv:RatV w v y) :
 Calls Tryz.prog 39 #[u,v] w fun e w'=>e = .returned (.int .i64 (cmpV x y p q p' q'))∧Below w.heap.size w w':=by
 have H1:=Lib.hid (fun W (hW:Below w.heap.size w W)=>iCompare x y p q p' q' hx hy u v W (hu.later hW) (hv.later hW))
 have fx:=res_few (Or.inr hx.ok)
 have fy:=res_few (Or.inr hy.ok)
 have HAR:=fun A W (hv:VI W A [x,y])=>iAreRats [x,y] 2 2 rfl ⟨by simp,fun k hk=>by
  match k,hk with
  | 0,_=>exact fx
  | 1,_=>exact fy⟩ A W hv
 have hvr:vok [x,y] = true:=by simp [vok,hx.ok,hy.ok]
 rw [hvr] at HAR
 replace HAR:=Lib.hid HAR
 have HU:=Lib.hid hu
 have HV:=Lib.hid hv
 obtain ⟨A,c,B,d,rfl,hcd,ra,rb⟩:=hu
 obtain ⟨A',c',B',d',rfl,hcd',ra',rb'⟩:=hv
 have S0:=Slots.new (below_step (Below.refl _ ((w.alloc (.cells #[.bool x.neg,.slice A x.mag.length c,.slice B x.den.length d] 50)).alloc (.cells #[.bool y.neg,.slice A' y.mag.length c',.slice B' y.den.length d'] 50)))) (g:=w.heap.size) rfl
 have S1:=Slots.new (Below.refl _ ((w.alloc (.cells #[.bool x.neg,.slice A x.mag.length c,.slice B x.den.length d] 50)).alloc (.cells #[.bool y.neg,.slice A' y.mag.length c',.slice B' y.den.length d'] 50))) (g:=w.heap.size + 1) (by simp)
 have hb:=below_alloc2 w (.cells #[.bool x.neg,.slice A x.mag.length c,.slice B x.den.length d] 50) (.cells #[.bool y.neg,.slice A' y.mag.length c',.slice B' y.den.length d'] 50)
 clear hx hy fx fy hvr hcd hcd' ra rb ra' rb'
 generalize cmpV x y p q p' q' = R at *
 go_enter Tryz.func39,Tryz.ntmps39
 obtain ⟨a0,a1,a2,_,_,_⟩:=S0.c3
 obtain ⟨b0,b1,b2,_,_,_⟩:=S1.c3
 have hvi:=two_rats (HU.out.later hb) (HV.out.later hb)
 rw [World.size_alloc,World.size_alloc] at hvi
 have HVI:=Lib.hid hvi
 clear hvi
 have al:=below_alloc1 ((w.alloc (.cells #[.bool x.neg,.slice A x.mag.length c,.slice B x.den.length d] 50)).alloc (.cells #[.bool y.neg,.slice A' y.mag.length c',.slice B' y.den.length d'] 50)) (.cells #[.bool x.neg,.slice A x.mag.length c,.slice B x.den.length d,.bool y.neg,.slice A' y.mag.length c',.slice B' y.den.length d'] 50)
 replace S0:=S0.later al
 replace S1:=S1.later al
 replace hb:=below_trans hb al
 clear al
 go_wp2_with fail
 clear a0 a1 a2 b0 b1 b2
 refine (HAR.out _ _ HVI.out).mono ?_
 rintro e w2 ⟨rfl,hb2⟩
 replace S0:=S0.later hb2
 replace S1:=S1.later hb2
 replace hb:=below_trans hb hb2
 obtain ⟨a0,a1,a2,_,_,_⟩:=S0.c3
 obtain ⟨b0,b1,b2,_,_,_⟩:=S1.c3
 clear hb2 HVI HAR
 go_wp2_with fail
 refine (H1.out _ hb).mono ?_
 rintro e w3 ⟨rfl,hb3⟩
 replace hb:=below_trans hb hb3
 clear a0 a1 a2 b0 b1 b2 S0 S1 hb3
 go_wp2
 go_ret
 exact ⟨rfl,hb⟩
theorem sRatMake (s t:Bool) (p q:Nat) (hs:s = true → p ≠ 0) (ht:t = true → q ≠ 0) (u v:Value) (w:World) (hu:BigV w u s (FE.toL p)) (hv:BigV w v t (FE.toL q)) (l1:(FE.toL p).length ≤ 60) (l2:(FE.toL q).length ≤ 60) :
 Calls Tryz.prog 222 #[u,v] w fun e w'=>∃ v',e = .returned v'∧RatP w' w.heap.size v' (FE.low (s != t) p q)∧Below w.heap.size w w':=by
 obtain ⟨A,c,rfl,hc,_,ra⟩:=hu
 obtain ⟨B,d,rfl,hd,_,rb⟩:=hv
 have K1:=fun W (hW:Below w.heap.size w W)=>sBigIntOk s (FE.toL p) _ c rfl (by omega) A W (ra.later hW)
 have K2:=fun W (hW:Below w.heap.size w W)=>sBigIntOk t (FE.toL q) _ d rfl (by omega) B W (rb.later hW)
 rw [bigOk_of hs l1] at K1
 rw [bigOk_of ht l2] at K2
 replace K1:=Lib.hid K1
 replace K2:=Lib.hid K2
 have H3:=fun (b:Bool) (hb:(s != t) = b) W (hW:Below w.heap.size w W)=>sLow b p q _ _ c d rfl rfl (by omega) (by omega) hc hd A B W (ra.later hW) (rb.later hW)
 have hne:(s != t) = !(s == t):=by cases s <;> cases t <;> rfl
 replace H3:=H3 _ hne
 rw [hne]
 replace H3:=Lib.hid H3
 clear ra rb l1 l2 hs ht hne
 generalize FE.low (!(s == t)) p q = R at *
 generalize FE.toL p = xs at *
 generalize FE.toL q = ys at *
 go_enter Tryz.func222,Tryz.ntmps222
 go_wp2_with fail
 refine (K1.out _ (below_alloc3 _ _ _ _)).mono ?_
 rintro e w1 ⟨rfl,hb1⟩
 have R0:=Slots.new hb1 (g:=w.heap.size + 1 + 1) (by simp)
 have S1:=Slots.new (below_step hb1) (g:=w.heap.size + 1) (by simp)
 have S0:=Slots.new (below_step (below_step hb1)) (g:=w.heap.size) rfl
 have hS:=below_trans (below_alloc3 _ _ _ _) hb1
 clear hb1
 obtain ⟨a0,a1,_,_⟩:=S1.k2
 go_wp2_with fail
 refine (K2.out _ hS).mono ?_
 rintro e w2 ⟨rfl,hb2⟩
 replace R0:=R0.later hb2
 replace S1:=S1.later hb2
 replace S0:=S0.later hb2
 replace hS:=below_trans hS hb2
 clear hb2 a0 a1
 obtain ⟨a0_0,a0_1,_,_⟩:=S0.k2
 obtain ⟨a1_0,a1_1,_,_⟩:=S1.k2
 go_wp2_with fail
 refine (H3.out _ hS).mono ?_
 rintro e w5 ⟨v5,rfl,hrp,hb5⟩
 have hz:=R0.1
 replace R0:=R0.later hb5
 replace hb3:=below_trans hS hb5
 replace hrp:=hrp.mono (base':=w.heap.size + 1 + 1 + 1) (by omega)
 obtain ⟨A6,n6,c6,B6,m6,d6,rfl⟩:=hrp.shape
 obtain ⟨b0,b1,b2,z0,z1,z2⟩:=R0.c3
 have hb:=below3 hb3 (show w.heap.size ≤ w.heap.size + 1 + 1 by omega) (.bool R.neg) (.slice A6 n6 c6) (.slice B6 m6 d6)
 have f6:=hrp.far3 (g:=w.heap.size + 1 + 1) (Nat.lt_succ_self _) (.bool R.neg) (.slice A6 n6 c6) (.slice B6 m6 d6)
 clear R0 hrp a0_0 a0_1 a1_0 a1_1
 go_wp2
 exact bodyPost_ret (v:=.agg #[.bool R.neg,.slice A6 n6 c6,.slice B6 m6 d6]) (by simp [results,Tryz.results222,go_sem,b0,b1,b2]) rfl ⟨_,rfl,f6.mono (by omega),hb⟩
theorem sRatOf (n d:Int) (hn:-10 ≤ n) (hn2:n ≤ 1000) (hd:1 ≤ d) (hd2:d ≤ 1000) (w:World) :
 Calls Tryz.prog 158 #[.int .i64 n,.int .i64 d] w fun e w'=>∃ v,e = .returned v∧RatP w' w.heap.size v (FE.lowI n d.natAbs)∧Below w.heap.size w w':=by
 have h0:d ≠ 0:=by omega
 have e0:FE.lowI n d.natAbs = FE.low (decide (n < 0) != decide (d < 0)) n.natAbs d.natAbs:=by
  have:decide (d < 0) = false:=by simp;omega
  unfold FE.lowI
  rw [this]
  congr 1
  cases decide (n < 0) <;> rfl
 rw [e0]
 clear e0
 have H1:=Lib.hid (fun W=>sBigIntOf_small n hn hn2 W)
 have H2:=Lib.hid (fun W=>sBigIntOf_small d (by omega) hd2 W)
 have H3:=Lib.hid (fun (u v:Value) W (hu:BigV W u (decide (n < 0)) (FE.toL n.natAbs)) (hv:BigV W v (decide (d < 0)) (FE.toL d.natAbs))=>sRatMake (decide (n < 0)) (decide (d < 0)) n.natAbs d.natAbs (by intro h;simp at h;omega) (by intro h;omega) u v W hu hv (by have:=toL_small3 (k:=n.natAbs) (by omega);omega) (by have:=toL_small3 (k:=d.natAbs) (by omega);omega))
 clear h0 hn hd hn2 hd2
 generalize FE.low (decide (n < 0) != decide (d < 0)) n.natAbs d.natAbs = R at *
 generalize decide (n < 0) = sn at *
 generalize decide (d < 0) = sd at *
 generalize FE.toL n.natAbs = xs at *
 generalize FE.toL d.natAbs = ys at *
 go_enter Tryz.func158,Tryz.ntmps158
 go_wp2_with fail
 refine (H1.out _).mono ?_
 rintro e w3 ⟨v3,rfl,ho3,hb3⟩
 have R0:=Slots.new hb3 (g:=w.heap.size) rfl
 replace hb3:=below_step hb3
 go_wp2_with fail
 refine (H2.out _).mono ?_
 rintro e w4 ⟨v4,rfl,ho4,hb4⟩
 replace R0:=R0.later hb4
 replace hb3:=below_trans hb3 hb4
 have hu:=(ho3.later hb4).reads
 have hv:=ho4.reads
 clear hb4 ho3 ho4
 go_wp2_with fail
 refine (H3.out v3 v4 _ hu hv).mono ?_
 rintro e w5 ⟨v5,rfl,hrp,hb5⟩
 have hz:=R0.1
 replace R0:=R0.later hb5
 replace hb3:=below_trans hb3 hb5
 replace hrp:=hrp.mono (base':=w.heap.size + 1) (by omega)
 obtain ⟨A6,n6,c6,B6,m6,d6,rfl⟩:=hrp.shape
 obtain ⟨b0,b1,b2,z0,z1,z2⟩:=R0.c3
 have hb:=below3 hb3 (Nat.le_refl w.heap.size) (.bool R.neg) (.slice A6 n6 c6) (.slice B6 m6 d6)
 have f6:=hrp.far3 (g:=w.heap.size) (Nat.lt_succ_self _) (.bool R.neg) (.slice A6 n6 c6) (.slice B6 m6 d6)
 clear R0 hrp hu hv
 go_wp2
 exact bodyPost_ret (v:=.agg #[.bool R.neg,.slice A6 n6 c6,.slice B6 m6 d6]) (by simp [results,Tryz.results158,go_sem,b0,b1,b2]) rfl ⟨_,rfl,f6.mono (Nat.le_succ _),hb⟩
theorem Cu.mem {w:World} {g n c:Nat} {A:Option Addr} (h:Cu w g A n c):n ≠ 0 → ∀ a,A = some a → a.block < w.heap.size:=by
 intro h0 a ha
 obtain ⟨b,o,e,hb,_⟩:=h.bytes h0
 have ha2:=e.symm.trans ha
 injection ha2 with ha2
 subst ha2
 exact hb
theorem Frame.fresh {S:Nat → Prop} {a w:World} (h:Frame S a w) {p:Addr} (hp:a.heap.size ≤ p.block) (u:Value):Frame S a (w.setCell p u) :=
 ⟨h.os,h.tape,h.output,by simpa [World.setCell] using h.size,fun k hk hn=>(Below.heap_setCell _ _ _ _ (fun e=>by omega)).trans (h.block k hk hn)⟩
theorem Frame.fresh3 {S:Nat → Prop} {a w:World} (h:Frame S a w) {g:Nat} (hp:a.heap.size ≤ g) (x y z:Value):Frame S a (((w.setCell ⟨g,0,none⟩ x).setCell ⟨g,1,none⟩ y).setCell ⟨g,2,none⟩ z) :=
 ((h.fresh (p:=⟨g,0,none⟩) hp x).fresh (p:=⟨g,1,none⟩) hp y).fresh (p:=⟨g,2,none⟩) hp z
theorem Cu.far {w:World} {g n c k o:Nat} {A:Option Addr} (h:Cu w g A n c) (hk:k ≠ g) (hm:n ≠ 0 → ∀ a,A = some a → a.block ≠ k) (x:Value):Cu (w.setCell ⟨k,o,none⟩ x) g A n c :=
 h.frame (Frame.setCell (S:=fun b=>b = k) (p:=⟨k,o,none⟩) (Frame.refl _ w) rfl x) (fun e=>hk e.symm) (fun h0 a ha e=>hm h0 a ha e)
open Go.SX
def OrcOne (P:Program) (K:Toks) (f:Nat) (g:List V → St → Option R):Prop :=
 ∀ vl st r,g vl st = some r → StOk st → Eff st r∧(∀ vs w,(callFunc f vs).run P w = .ok (.enter f vs) w) ∧
  ∀ E w vs,RelA E vl vs → Pre K E w st r → Calls P f vs.toArray w fun e u=>∃ v F,e = .returned v∧Out K E w st r F u v
noncomputable def asRat (s:S):Option (Nat × X) :=
 match s with
 | .agg [.cell a i x,.cell b j _y,.cell c k _z]=>bi (Nat.beq a b) (bi (Nat.beq a c) (bi (Nat.beq i 0) (bi (Nat.beq j 1) (bi (Nat.beq k 2) (bi (Nat.beq x.kd 1) none (some (a,x))) none) none) none) none) none
 | _=>none
theorem asRat_inv {s:S} {p:Nat × X} (h:asRat s = some p):p.2.kd ≠ 1∧∃ y z,s = .agg [.cell p.1 0 p.2,.cell p.1 1 y,.cell p.1 2 z]:=by
 unfold asRat at h
 split at h
 ·rename_i a i x b j y c k z
  obtain ⟨h1,h⟩:=bi_inv h
  obtain ⟨h2,h⟩:=bi_inv h
  obtain ⟨h3,h⟩:=bi_inv h
  obtain ⟨h4,h⟩:=bi_inv h
  obtain ⟨h5,h⟩:=bi_inv h
  cases hk:Nat.beq x.kd 1 with
  | true=>rw [hk] at h;cases h
  | false =>
   rw [hk] at h
   have h:some (a,x) = some p:=h
   injection h with h
   subst h
   refine ⟨fun e=>?_,y,z,?_⟩
   ·have e:x.kd = 1:=e
    rw [e] at hk;cases hk
   ·rw [← beq_inv h1,← beq_inv h2,beq_inv h3,beq_inv h4,beq_inv h5]
 ·cases h
structure Alg where
 bin:Nat → Nat → X → X → Option X
 un:Nat → Nat → X → Option X
 num:Nat → Int → Nat → Option X
 sgn:X → Option Int
 cmp:X → X → Option Int
 lit:X → Option (Int × Nat)
structure Good2 (val:X → Rat) (z:X):Prop where
 kd:z.kd ≠ 1
 sm:FE.small (val z) = true
structure AlgOk (val:X → Rat) (A:Alg):Prop where
 add:∀ nt x y z,A.bin 0 nt x y = some z → Good2 val z∧val z = val x + val y
 sub:∀ nt x y z,A.bin 1 nt x y = some z → Good2 val z∧val z = val x - val y
 mul:∀ nt x y z,A.bin 2 nt x y = some z → Good2 val z∧val z = val x * val y
 div:∀ nt x y z,A.bin 3 nt x y = some z → Good2 val z∧val y ≠ 0∧val z = val x / val y
 neg:∀ nt x z,A.un 0 nt x = some z → Good2 val z∧val z = - val x
 cpy:∀ nt x z,A.un 1 nt x = some z → Good2 val z∧val z = val x
 num:∀ nt n d z,A.num nt n d = some z → Good2 val z∧0 < d∧val z = _root_.mkRat n d
 sgn:∀ x s,A.sgn x = some s → SgnOk s (val x)
 cmp:∀ x y s,A.cmp x y = some s → SgnOk s (val x - val y)
 lit:∀ x p,A.lit x = some p → val x = _root_.mkRat p.1 p.2∧p.1.natAbs < 1000000000∧0 < p.2∧p.2 < 1000000000∧Nat.gcd p.1.natAbs p.2 = 1
abbrev tokR (st:St) (z:X):R:=⟨.s (rat st.nt z),⟨st.mem,st.nb,Nat.add st.nt 1⟩,[],some []⟩
noncomputable def rat1 (l:List V):Option X :=
 match l with
 | [v]=>ob (vS v) fun s=>ob (asRat s) fun p=>some p.2
 | _=>none
noncomputable def rat2 (l:List V):Option (X × X) :=
 match l with
 | [u,v]=>ob (vS u) fun s=>ob (vS v) fun t=>ob (asRat s) fun p=>ob (asRat t) fun q=>some (p.2,q.2)
 | _=>none
noncomputable def orBin (A:Alg) (o:Nat) (l:List V) (st:St):Option R:=ob (rat2 l) fun p=>ob (A.bin o st.nt p.1 p.2) fun z=>some (tokR st z)
noncomputable def orUn (A:Alg) (o:Nat) (l:List V) (st:St):Option R:=ob (rat1 l) fun x=>ob (A.un o st.nt x) fun z=>some (tokR st z)
noncomputable def orNum (A:Alg) (lim:Int) (l:List V) (st:St):Option R :=
 ob (two l) fun q=>ob (cInt q.1) fun n=>ob (toN q.2) fun d=>bi (Nat.ble 1 d) (bi (ible (Int.ofNat d) 1000) (bi (ible lim n) (bi (ible n 1000) (ob (A.num st.nt n d) fun z=>some (tokR st z)) none) none) none) none
noncomputable def orInt (A:Alg) (lim:Int) (l:List V) (st:St):Option R :=
 ob (one l) fun c=>ob (cInt c) fun n=>bi (ible lim n) (bi (ible n 1000) (ob (A.num st.nt n 1) fun z=>some (tokR st z)) none) none
noncomputable def orSgn (A:Alg) (l:List V) (st:St):Option R:=ob (rat1 l) fun x=>ob (A.sgn x) fun s=>some ⟨vI s,st,[],some []⟩
noncomputable def orCmp (A:Alg) (l:List V) (st:St):Option R:=ob (rat2 l) fun p=>ob (A.cmp p.1 p.2) fun s=>some ⟨vI s,st,[],some []⟩
noncomputable def orEq (A:Alg) (l:List V) (st:St):Option R:=ob (rat2 l) fun p=>ob (A.cmp p.1 p.2) fun s=>some ⟨vB (ibeq s 0),st,[],some []⟩
noncomputable def orTrue (l:List V) (st:St):Option R:=ob (rat1 l) fun _=>some ⟨vB true,st,[],some []⟩
noncomputable def orIsSmall (A:Alg) (l:List V) (st:St):Option R:=ob (rat1 l) fun x=>ob (A.lit x) fun _=>some ⟨vB true,st,[],some []⟩
noncomputable def orSmall (A:Alg) (l:List V) (st:St):Option R:=ob (rat1 l) fun x=>ob (A.lit x) fun p=>some ⟨.tup [.c (.int p.1),.c (.int p.2)],st,[],some []⟩
theorem eff_tok {st:St} (hst:StOk st) (z:X):Eff st (tokR st z) :=
 ⟨Nat.le_refl _,Nat.le_succ _,fun _ _ _=>rfl,fun k hk=>by simp at hk,⟨hst.nb,hst.dom⟩,fun l hl k hk=>by simp at hk⟩
theorem small_len {v:Rat} (h:FE.small v = true):(FE.ofQ v).mag.length ≤ 1048576∧(FE.ofQ v).den.length ≤ 1048576:=by
 have hi:FE.Is (FE.ofQ v) v:=⟨rfl,h⟩
 have ho:=hi.ok
 unfold FE.ratOk at ho
 simp only [Bool.and_eq_true,decide_eq_true_eq] at ho
 omega
section
variable {val:X → Rat} {drw:Drw} {A:Alg} {E:Env} {w:World} {st:St}
theorem rat1_rel (hg:GI (toks val drw) E w) {l:List V} {x:X} {vs:List Value} (h:rat1 l = some x) (hr:RelA E l vs):∃ u,vs = [u]∧FE.small (val x) = true∧RatV w u (FE.ofQ (val x)):=by
 unfold rat1 at h
 split at h
 ·rename_i v
  obtain ⟨s,h1,h⟩:=ob_inv h
  obtain ⟨p,h2,h⟩:=ob_inv h
  injection h with h
  subst h
  match vs,hr with
  | [u],⟨hu,_⟩ =>
   have hs:=vS_rel h1 hu
   obtain ⟨k,y,z,e⟩:=asRat_inv h2
   rw [e] at hs
   obtain ⟨a,b⟩:=rat_val hg k hs
   exact ⟨u,rfl,a,b⟩
  | [],hr=>exact hr.elim
  | _ :: _ :: _,hr=>exact hr.2.elim
 ·cases h
theorem rat2_rel (hg:GI (toks val drw) E w) {l:List V} {p:X × X} {vs:List Value} (h:rat2 l = some p) (hr:RelA E l vs) :
 ∃ u v,vs = [u,v]∧(FE.small (val p.1) = true∧RatV w u (FE.ofQ (val p.1)))∧FE.small (val p.2) = true∧RatV w v (FE.ofQ (val p.2)):=by
 unfold rat2 at h
 split at h
 ·rename_i a b
  obtain ⟨s,h1,h⟩:=ob_inv h
  obtain ⟨t,h2,h⟩:=ob_inv h
  obtain ⟨p1,h3,h⟩:=ob_inv h
  obtain ⟨p2,h4,h⟩:=ob_inv h
  injection h with h
  subst h
  match vs,hr with
  | [u,v],⟨hu,hv,_⟩ =>
   have hs:=vS_rel h1 hu
   have ht:=vS_rel h2 hv
   obtain ⟨k,y,z,e⟩:=asRat_inv h3
   obtain ⟨k',y',z',e'⟩:=asRat_inv h4
   rw [e] at hs
   rw [e'] at ht
   exact ⟨u,v,rfl,rat_val hg k hs,rat_val hg k' ht⟩
  | [],hr=>exact hr.elim
  | [_],hr=>exact hr.2.elim
  | _ :: _ :: _ :: _,hr=>exact hr.2.2.elim
 ·cases h
theorem calls_tok {f:Nat} {vs:Array Value} {z:X} {r:RatD} (hz:Good2 val z) (hr:r = FE.ofQ (val z)) (hp:Pre (toks val drw) E w st (tokR st z))
 (hc:Calls Tryz.prog f vs w fun e w'=>∃ v',e = .returned v'∧RatP w' w.heap.size v' r∧Below w.heap.size w w') :
 Calls Tryz.prog f vs w fun e u=>∃ v F,e = .returned v∧Out (toks val drw) E w st (tokR st z) F u v:=by
 refine hc.mono fun e u ⟨v,he,hv,hb⟩=>?_
 rw [hr] at hv
 obtain ⟨F,ho⟩:=out_token (rd:=some []) hz.kd hz.sm hp.gi hb (hp.newT _ (Nat.le_refl _) (Nat.lt_succ_self _)) hv
 exact ⟨v,F,he,ho⟩
theorem is_of (v:Rat) (h:FE.small v = true):FE.Is (FE.ofQ v) v:=⟨rfl,h⟩
def binR (o:Nat) (x y:RatD):RatD:=match o with | 0=>FE.radd x y | 1=>FE.rsub x y | 2=>FE.rmul x y | _=>FE.rdiv x y
theorem bin_is (h:AlgOk val A) {o nt:Nat} (ho:o ≤ 3) {x y z:X} (hz:A.bin o nt x y = some z) (sx:FE.small (val x) = true) (sy:FE.small (val y) = true) :
 Good2 val z∧binR o (FE.ofQ (val x)) (FE.ofQ (val y)) = FE.ofQ (val z):=by
 have ix:=is_of _ sx
 have iy:=is_of _ sy
 match o,ho with
 | 0,_ =>
  obtain ⟨g,e⟩:=h.add _ _ _ _ hz
  refine ⟨g,?_⟩
  have:=FE.Is.add ix iy (by rw [← e];exact g.sm)
  rw [e];exact this.1
 | 1,_ =>
  obtain ⟨g,e⟩:=h.sub _ _ _ _ hz
  refine ⟨g,?_⟩
  have:=FE.Is.sub ix iy (by rw [← e];exact g.sm)
  rw [e];exact this.1
 | 2,_ =>
  obtain ⟨g,e⟩:=h.mul _ _ _ _ hz
  refine ⟨g,?_⟩
  have:=FE.Is.mul ix iy (by rw [← e];exact g.sm)
  rw [e];exact this.1
 | 3,_ =>
  obtain ⟨g,hne,e⟩:=h.div _ _ _ _ hz
  refine ⟨g,?_⟩
  have:=FE.Is.div ix iy hne (by rw [← e];exact g.sm)
  rw [e];exact this.1
theorem orBin_ok (h:AlgOk val A) {o f:Nat} (ho:o ≤ 3) (hent:∀ vs w,(callFunc f vs).run Tryz.prog w = .ok (.enter f vs) w)
 (hc:∀ (x y:RatD) (u v:Value) (w:World),RatV w u x → RatV w v y → (x.mag.length ≤ 1048576∧x.den.length ≤ 1048576) → (y.mag.length ≤ 1048576∧y.den.length ≤ 1048576) →
  Calls Tryz.prog f #[u,v] w fun e w'=>∃ v',e = .returned v'∧RatP w' w.heap.size v' (binR o x y)∧Below w.heap.size w w'):OrcOne Tryz.prog (toks val drw) f (orBin A o):=by
 intro vl st r hr hst
 obtain ⟨p,h1,hr⟩:=ob_inv hr
 obtain ⟨z,h2,hr⟩:=ob_inv hr
 injection hr with hr
 subst hr
 refine ⟨eff_tok hst z,hent,fun E w vs hrel hp=>?_⟩
 obtain ⟨u,v,rfl,⟨s1,r1⟩,s2,r2⟩:=rat2_rel hp.gi h1 hrel
 obtain ⟨g,e⟩:=bin_is h ho h2 s1 s2
 exact calls_tok g e hp (hc _ _ u v w r1 r2 (small_len s1) (small_len s2))
theorem orAdd_ok (h:AlgOk val A):OrcOne Tryz.prog (toks val drw) 83 (orBin A 0) :=
 orBin_ok h (by omega) Tryz.call83 fun x y u v w h1 h2 f1 f2=>iRatAdd x y u v w h1 h2 f1 f2
theorem orSub_ok (h:AlgOk val A):OrcOne Tryz.prog (toks val drw) 22 (orBin A 1) :=
 orBin_ok h (by omega) Tryz.call22 fun x y u v w h1 h2 f1 f2=>iRatSub x y u v w h1 h2 f1 f2
theorem orMul_ok (h:AlgOk val A):OrcOne Tryz.prog (toks val drw) 50 (orBin A 2) :=
 orBin_ok h (by omega) Tryz.call50 fun x y u v w h1 h2 f1 f2=>iRatMul x y u v w h1 h2 f1 f2
theorem orDiv_ok (h:AlgOk val A):OrcOne Tryz.prog (toks val drw) 112 (orBin A 3) :=
 orBin_ok h (by omega) Tryz.call112 fun x y u v w h1 h2 f1 f2=>iRatDiv x y u v w h1 h2 f1 f2
theorem orCopy_ok (h:AlgOk val A):OrcOne Tryz.prog (toks val drw) 82 (orUn A 1):=by
 intro vl st r hr hst
 obtain ⟨x,h1,hr⟩:=ob_inv hr
 obtain ⟨z,h2,hr⟩:=ob_inv hr
 injection hr with hr
 subst hr
 refine ⟨eff_tok hst z,Tryz.call82,fun E w vs hrel hp=>?_⟩
 obtain ⟨u,rfl,s1,r1⟩:=rat1_rel hp.gi h1 hrel
 obtain ⟨g,e⟩:=h.cpy _ _ _ h2
 have l:=small_len s1
 exact calls_tok g (by rw [e]) hp (iCopyRat _ u w r1 l.1 l.2)
theorem orNeg_ok (h:AlgOk val A):OrcOne Tryz.prog (toks val drw) 149 (orUn A 0):=by
 intro vl st r hr hst
 obtain ⟨x,h1,hr⟩:=ob_inv hr
 obtain ⟨z,h2,hr⟩:=ob_inv hr
 injection hr with hr
 subst hr
 refine ⟨eff_tok hst z,Tryz.call149,fun E w vs hrel hp=>?_⟩
 obtain ⟨u,rfl,s1,r1⟩:=rat1_rel hp.gi h1 hrel
 obtain ⟨g,e⟩:=h.neg _ _ _ h2
 exact calls_tok g (by rw [e];exact ((is_of _ s1).rneg).1) hp (iRatNeg _ u w r1 (small_len s1))
theorem int_is {n:Int} (z:X) (hz:val z = _root_.mkRat n 1) (hn:n.natAbs < 10 ^ 216):FE.rint n = FE.ofQ (val z):=by
 have e:_root_.mkRat n 1 = (n:Rat):=by rw [Rat.mkRat_eq_div];have:((1:Nat):Rat) = 1:=rfl;rw [this];grind
 rw [hz,e];exact (FE.Is.int hn).1
theorem low_is {n:Int} {d:Nat} (z:X) (hd:0 < d) (hz:val z = _root_.mkRat n d) (hs:FE.small (val z) = true):FE.lowI n d = FE.ofQ (val z):=(FE.Is.of_low (by omega) hz.symm hs).1
theorem orInt_ok (h:AlgOk val A):OrcOne Tryz.prog (toks val drw) 191 (orInt A (-10)):=by
 intro vl st r hr hst
 obtain ⟨c,h1,hr⟩:=ob_inv hr
 obtain ⟨n,h2,hr⟩:=ob_inv hr
 obtain ⟨h3,hr⟩:=bi_inv hr
 obtain ⟨h4,hr⟩:=bi_inv hr
 obtain ⟨z,h5,hr⟩:=ob_inv hr
 injection hr with hr
 subst hr
 refine ⟨eff_tok hst z,Tryz.call191,fun E w vs hrel hp=>?_⟩
 obtain ⟨v,rfl,hv⟩:=one_inv h1 hrel
 rw [cInt_inv h2] at hv
 have hv':v = .int .i64 n:=hv
 subst hv'
 rw [ible_eq,decide_eq_true_eq] at h3 h4
 obtain ⟨g,_,e⟩:=h.num _ _ _ _ h5
 exact calls_tok g (int_is z e (by omega)) hp (sRatFromInt_small n h3 h4 w)
theorem orIntI_ok (h:AlgOk val A):OrcOne Tryz.prog (toks val drw) 94 (orInt A (-1000)):=by
 intro vl st r hr hst
 obtain ⟨c,h1,hr⟩:=ob_inv hr
 obtain ⟨n,h2,hr⟩:=ob_inv hr
 obtain ⟨h3,hr⟩:=bi_inv hr
 obtain ⟨h4,hr⟩:=bi_inv hr
 obtain ⟨z,h5,hr⟩:=ob_inv hr
 injection hr with hr
 subst hr
 refine ⟨eff_tok hst z,Tryz.call94,fun E w vs hrel hp=>?_⟩
 obtain ⟨v,rfl,hv⟩:=one_inv h1 hrel
 rw [cInt_inv h2] at hv
 have hv':v = .int .i64 n:=hv
 subst hv'
 rw [ible_eq,decide_eq_true_eq] at h3 h4
 obtain ⟨g,_,e⟩:=h.num _ _ _ _ h5
 exact calls_tok g (int_is z e (by omega)) hp (iRatFromInt n (by omega) w)
theorem two_rel {l:List V} {q:C × C} {vs:List Value} (h:two l = some q) (hr:RelA E l vs):∃ u v,vs = [u,v]∧RelC E q.1 u∧RelC E q.2 v:=by
 unfold two at h
 split at h
 ·rename_i a b
  obtain ⟨x,h1,h⟩:=ob_inv h
  obtain ⟨y,h2,h⟩:=ob_inv h
  injection h with h
  subst h
  match vs,hr with
  | [u,v],⟨hu,hv,_⟩=>exact ⟨u,v,rfl,vC_rel h1 hu,vC_rel h2 hv⟩
  | [],hr=>exact hr.elim
  | [_],hr=>exact hr.2.elim
  | _ :: _ :: _ :: _,hr=>exact hr.2.2.elim
 ·cases h
theorem toN_rel {c:C} {d:Nat} {v:Value} (h:toN c = some d) (hr:RelC E c v):v = .int .i64 (d:Int):=by
 obtain ⟨n,h1,h⟩:=ob_inv h
 rw [cInt_inv h1] at hr
 cases n with
 | ofNat m=>injection h with h;subst h;exact hr
 | negSucc m=>cases h
theorem orNum_inv {lim:Int} {l:List V} {r:R} (hr:orNum A lim l st = some r):∃ q n d z,two l = some q∧cInt q.1 = some n∧toN q.2 = some d∧(1 ≤ d∧d ≤ 1000∧lim ≤ n∧n ≤ 1000)∧A.num st.nt n d = some z∧r = tokR st z:=by
 obtain ⟨q,h1,hr⟩:=ob_inv hr
 obtain ⟨n,h2,hr⟩:=ob_inv hr
 obtain ⟨d,h3,hr⟩:=ob_inv hr
 obtain ⟨h4,hr⟩:=bi_inv hr
 obtain ⟨h5,hr⟩:=bi_inv hr
 obtain ⟨h6,hr⟩:=bi_inv hr
 obtain ⟨h7,hr⟩:=bi_inv hr
 obtain ⟨z,h8,hr⟩:=ob_inv hr
 injection hr with hr
 rw [ible_eq,decide_eq_true_eq] at h5 h6 h7
 have h5':((d:Nat):Int) ≤ 1000:=h5
 exact ⟨q,n,d,z,h1,h2,h3,⟨ble_inv h4,by omega,h6,h7⟩,h8,hr.symm⟩
theorem orOf_ok (h:AlgOk val A):OrcOne Tryz.prog (toks val drw) 158 (orNum A (-10)):=by
 intro vl st r hr hst
 obtain ⟨q,n,d,z,h1,h2,h3,⟨b1,b2,b3,b4⟩,h5,rfl⟩:=orNum_inv hr
 refine ⟨eff_tok hst z,Tryz.call158,fun E w vs hrel hp=>?_⟩
 obtain ⟨u,v,rfl,hu,hv⟩:=two_rel h1 hrel
 rw [cInt_inv h2] at hu
 have hu':u = .int .i64 n:=hu
 have hv':=toN_rel h3 hv
 subst hu';subst hv'
 obtain ⟨g,hd,e⟩:=h.num _ _ _ _ h5
 exact calls_tok g (by rw [show ((d:Int)).natAbs = d from rfl];exact low_is z hd e g.sm) hp (sRatOf n d b3 b4 (by omega) (by omega) w)
theorem orOfI_ok (h:AlgOk val A):OrcOne Tryz.prog (toks val drw) 51 (orNum A (-1000)):=by
 intro vl st r hr hst
 obtain ⟨q,n,d,z,h1,h2,h3,⟨b1,b2,b3,b4⟩,h5,rfl⟩:=orNum_inv hr
 refine ⟨eff_tok hst z,Tryz.call51,fun E w vs hrel hp=>?_⟩
 obtain ⟨u,v,rfl,hu,hv⟩:=two_rel h1 hrel
 rw [cInt_inv h2] at hu
 have hu':u = .int .i64 n:=hu
 have hv':=toN_rel h3 hv
 subst hu';subst hv'
 obtain ⟨g,hd,e⟩:=h.num _ _ _ _ h5
 refine calls_tok g ?_ hp (iRatOf n d (by omega) (by omega) (by omega) w)
 have hs:(decide (n < 0) != decide ((d:Int) < 0)) = decide (n < 0):=by
  have:decide ((d:Int) < 0) = false:=by simp
  rw [this];cases decide (n < 0) <;> rfl
 rw [hs,show ((d:Int)).natAbs = d from rfl]
 exact low_is z hd e g.sm
theorem sgn_num {s:Int} {v:Rat} (h:SgnOk s v):(s = 0∧v.num = 0) ∨ (s = 1∧0 < v.num) ∨ (s = -1∧v.num < 0):=by
 rcases h with ⟨e,h⟩ | ⟨e,h⟩ | ⟨e,h⟩
 ·exact .inl ⟨e,by rw [h];rfl⟩
 ·have:=(Rat.lt_iff 0 v).1 h
  exact .inr (.inl ⟨e,by simpa using this⟩)
 ·have:=(Rat.lt_iff v 0).1 h
  exact .inr (.inr ⟨e,by simpa using this⟩)
theorem rsgn_is {s:Int} {v:Rat} (hv:FE.small v = true) (h:SgnOk s v):rsgn (FE.ofQ v) = s:=by
 have hi:=is_of v hv
 have hm:(FE.ofQ v).mag = FE.toL v.num.natAbs:=hi.okr.mag
 have h0:(FE.ofQ v).mag.length = 0 ↔ v.num = 0:=by rw [hm,List.length_eq_zero_iff,FE.toL_eq_nil];omega
 unfold rsgn
 rcases sgn_num h with ⟨e,h⟩ | ⟨e,h⟩ | ⟨e,h⟩
 ·rw [if_pos (h0.2 h),e]
 ·have hn:(FE.ofQ v).neg = false:=by rw [hi.neg,decide_eq_false_iff_not];omega
  have hz:v.num ≠ 0:=by omega
  rw [if_neg (fun g=>hz (h0.1 g)),hn,e];rfl
 ·have hn:(FE.ofQ v).neg = true:=by rw [hi.neg,decide_eq_true_iff];omega
  have hz:v.num ≠ 0:=by omega
  rw [if_neg (fun g=>hz (h0.1 g)),hn,e];rfl
theorem orSgn_ok (h:AlgOk val A):OrcOne Tryz.prog (toks val drw) 32 (orSgn A):=by
 intro vl st r hr hst
 obtain ⟨x,h1,hr⟩:=ob_inv hr
 obtain ⟨s,h2,hr⟩:=ob_inv hr
 injection hr with hr
 subst hr
 refine ⟨eff_pure hst _ _,Tryz.call32,fun E w vs hrel hp=>?_⟩
 obtain ⟨u,rfl,s1,r1⟩:=rat1_rel hp.gi h1 hrel
 refine (iRatSign _ u w r1 (small_len s1)).mono fun e u ⟨he,hb⟩=>?_
 rw [rsig_ok (is_of _ s1).ok,rsgn_is s1 (h.sgn _ _ h2)] at he
 exact ⟨_,E,he,out_below hp.gi hb rfl⟩
theorem orSgnM_ok (h:AlgOk val A):OrcOne Tryz.prog (toks val drw) 97 (orSgn A):=by
 intro vl st r hr hst
 obtain ⟨x,h1,hr⟩:=ob_inv hr
 obtain ⟨s,h2,hr⟩:=ob_inv hr
 injection hr with hr
 subst hr
 refine ⟨eff_pure hst _ _,Tryz.call97,fun E w vs hrel hp=>?_⟩
 obtain ⟨u,rfl,s1,r1⟩:=rat1_rel hp.gi h1 hrel
 refine (iSign _ u w r1).mono fun e u ⟨he,hb⟩=>?_
 rw [rsgn_is s1 (h.sgn _ _ h2)] at he
 exact ⟨_,E,he,out_below hp.gi hb rfl⟩
theorem cmpV_is {s:Int} {u v:Rat} (hu:FE.small u = true) (hv:FE.small v = true) (h:SgnOk s (u - v)):cmpV (FE.ofQ u) (FE.ofQ v) u.num.natAbs u.den v.num.natAbs v.den = s:=by
 have e1:sgnI (FE.ofQ u).neg u.num.natAbs = u.num:=by
  rw [(is_of u hu).neg];unfold sgnI
  by_cases c:u.num < 0 <;> simp [c] <;> omega
 have e2:sgnI (FE.ofQ v).neg v.num.natAbs = v.num:=by
  rw [(is_of v hv).neg];unfold sgnI
  by_cases c:v.num < 0 <;> simp [c] <;> omega
 unfold cmpV
 rw [e1,e2]
 unfold Go.Proofs.YtcblajhfehadaaaGreat.cmpI
 rcases h with ⟨e,h⟩ | ⟨e,h⟩ | ⟨e,h⟩
 ·have:u = v:=by grind
  subst this
  rw [if_neg (by omega),if_neg (by omega),e]
 ·have:v < u:=by grind
  have:=(Rat.lt_iff v u).1 this
  rw [if_neg (by omega),if_pos (by omega),e]
 ·have:u < v:=by grind
  have:=(Rat.lt_iff u v).1 this
  rw [if_pos (by omega),e]
theorem orCmp_ok (h:AlgOk val A):OrcOne Tryz.prog (toks val drw) 39 (orCmp A):=by
 intro vl st r hr hst
 obtain ⟨p,h1,hr⟩:=ob_inv hr
 obtain ⟨s,h2,hr⟩:=ob_inv hr
 injection hr with hr
 subst hr
 refine ⟨eff_pure hst _ _,Tryz.call39,fun E w vs hrel hp=>?_⟩
 obtain ⟨u,v,rfl,⟨s1,r1⟩,s2,r2⟩:=rat2_rel hp.gi h1 hrel
 refine (iRatCmp _ _ _ _ _ _ (is_of _ s1).okr (is_of _ s2).okr u v w r1 r2).mono fun e u ⟨he,hb⟩=>?_
 rw [cmpV_is s1 s2 (h.cmp _ _ _ h2)] at he
 exact ⟨_,E,he,out_below hp.gi hb rfl⟩
theorem orCompare_ok (h:AlgOk val A):OrcOne Tryz.prog (toks val drw) 109 (orCmp A):=by
 intro vl st r hr hst
 obtain ⟨p,h1,hr⟩:=ob_inv hr
 obtain ⟨s,h2,hr⟩:=ob_inv hr
 injection hr with hr
 subst hr
 refine ⟨eff_pure hst _ _,Tryz.call109,fun E w vs hrel hp=>?_⟩
 obtain ⟨u,v,rfl,⟨s1,r1⟩,s2,r2⟩:=rat2_rel hp.gi h1 hrel
 refine (iCompare _ _ _ _ _ _ (is_of _ s1).okr (is_of _ s2).okr u v w r1 r2).mono fun e u ⟨he,hb⟩=>?_
 rw [cmpV_is s1 s2 (h.cmp _ _ _ h2)] at he
 exact ⟨_,E,he,out_below hp.gi hb rfl⟩
theorem same_is {s:Int} {u v:Rat} (hu:FE.small u = true) (hv:FE.small v = true) (h:SgnOk s (u - v)):(FE.ofQ u).same (FE.ofQ v) = ibeq s 0:=by
 rw [ibeq_eq]
 have hz:(s == 0) = decide (u = v):=by
  rcases h with ⟨e,h⟩ | ⟨e,h⟩ | ⟨e,h⟩
  ·have:u = v:=by grind
   rw [e,this];simp
  ·have:¬ u = v:=by grind
   rw [e];simp [this]
  ·have:¬ u = v:=by grind
   rw [e];simp [this]
 rw [hz,Bool.eq_iff_iff,decide_eq_true_iff]
 constructor
 ·intro hsm
  unfold RatD.same at hsm
  simp only [Bool.and_eq_true,beq_iff_eq] at hsm
  obtain ⟨g1,g2,g3⟩:=hsm
  have e:FE.ofQ u = FE.ofQ v:=by
   cases hq:FE.ofQ u;cases hq':FE.ofQ v
   rw [hq,hq'] at g1 g2 g3
   simp only at g1 g2 g3
   rw [g1,g2,g3]
  have i1:=is_of u hu
  rw [e] at i1
  exact i1.inj (is_of v hv)
 ·intro e
  rw [e]
  unfold RatD.same
  simp
theorem orEq_ok (h:AlgOk val A):OrcOne Tryz.prog (toks val drw) 21 (orEq A):=by
 intro vl st r hr hst
 obtain ⟨p,h1,hr⟩:=ob_inv hr
 obtain ⟨s,h2,hr⟩:=ob_inv hr
 injection hr with hr
 subst hr
 refine ⟨eff_pure hst _ _,Tryz.call21,fun E w vs hrel hp=>?_⟩
 obtain ⟨u,v,rfl,⟨s1,r1⟩,s2,r2⟩:=rat2_rel hp.gi h1 hrel
 have l1:=small_len s1
 have l2:=small_len s2
 refine (iRatEqual _ _ u v w r1 r2 l1.1 l1.2 l2.1 l2.2).mono fun e u ⟨he,hb⟩=>?_
 rw [same_is s1 s2 (h.cmp _ _ _ h2)] at he
 exact ⟨_,E,he,out_below hp.gi hb rfl⟩
theorem orOk_ok:OrcOne Tryz.prog (toks val drw) 29 orTrue:=by
 intro vl st r hr hst
 obtain ⟨x,h1,hr⟩:=ob_inv hr
 injection hr with hr
 subst hr
 refine ⟨eff_pure hst _ _,Tryz.call29,fun E w vs hrel hp=>?_⟩
 obtain ⟨u,rfl,s1,r1⟩:=rat1_rel hp.gi h1 hrel
 have l:=small_len s1
 refine (iRatOk _ u w r1 l.1 l.2).mono fun e u ⟨he,hb⟩=>?_
 rw [(is_of _ s1).ok] at he
 exact ⟨_,E,he,out_below hp.gi hb rfl⟩
theorem den_pos {v:Rat} (h:FE.small v = true):((FE.ofQ v).den.length == 0) = !true:=by
 have hd:(FE.ofQ v).den = FE.toL v.den:=(is_of v h).okr.den
 have:(FE.ofQ v).den.length ≠ 0:=by
  rw [hd]
  intro e
  rw [List.length_eq_zero_iff,FE.toL_eq_nil] at e
  exact v.den_nz e
 simp [this]
theorem orIsRat_ok:OrcOne Tryz.prog (toks val drw) 127 orTrue:=by
 intro vl st r hr hst
 obtain ⟨x,h1,hr⟩:=ob_inv hr
 injection hr with hr
 subst hr
 refine ⟨eff_pure hst _ _,Tryz.call127,fun E w vs hrel hp=>?_⟩
 obtain ⟨u,rfl,s1,r1⟩:=rat1_rel hp.gi h1 hrel
 refine (iIsRat _ true (den_pos s1) u w r1).mono fun e u ⟨he,hb⟩=>?_
 exact ⟨_,E,he,out_below hp.gi hb rfl⟩
theorem lit_is (h:AlgOk val A) {x:X} {p:Int × Nat} (hp:A.lit x = some p):(val x).num = p.1∧(val x).den = p.2:=by
 obtain ⟨e,_,h2,_,h4⟩:=h.lit _ _ hp
 rw [e,Rat.num_mkRat,Rat.den_mkRat,if_neg (by omega),if_neg (by omega)]
 have:Nat.gcd p.2 p.1.natAbs = 1:=by rw [Nat.gcd_comm];exact h4
 rw [this]
 simp
theorem orIsSmall_ok (h:AlgOk val A):OrcOne Tryz.prog (toks val drw) 88 (orIsSmall A):=by
 intro vl st r hr hst
 obtain ⟨x,h1,hr⟩:=ob_inv hr
 obtain ⟨p,h2,hr⟩:=ob_inv hr
 injection hr with hr
 subst hr
 refine ⟨eff_pure hst _ _,Tryz.call88,fun E w vs hrel hp=>?_⟩
 obtain ⟨u,rfl,s1,r1⟩:=rat1_rel hp.gi h1 hrel
 refine (iIsSmall _ u w r1).mono fun e u ⟨he,hb⟩=>?_
 obtain ⟨e1,e2⟩:=lit_is h h2
 obtain ⟨_,b1,b2,b3,_⟩:=h.lit _ _ h2
 have hi:=is_of _ s1
 have hsm:smallB (FE.ofQ (val x)) = true:=by
  unfold smallB
  have l1:(FE.ofQ (val x)).mag.length ≤ 1:=by rw [show (FE.ofQ (val x)).mag = FE.toL (val x).num.natAbs from hi.okr.mag,e1];exact (FE.toL_len_le _ _).2 (by rw [FE.bp_succ,FE.bp_zero];omega)
  have l2:(FE.ofQ (val x)).den.length = 1:=by rw [show (FE.ofQ (val x)).den = FE.toL (val x).den from hi.okr.den,e2,toL_one b2 b3];rfl
  rw [l2];simp [l1]
 rw [hsm] at he
 exact ⟨_,E,he,out_below hp.gi hb rfl⟩
theorem orSmall_ok (h:AlgOk val A):OrcOne Tryz.prog (toks val drw) 89 (orSmall A):=by
 intro vl st r hr hst
 obtain ⟨x,h1,hr⟩:=ob_inv hr
 obtain ⟨p,h2,hr⟩:=ob_inv hr
 injection hr with hr
 subst hr
 refine ⟨eff_pure hst _ _,Tryz.call89,fun E w vs hrel hp=>?_⟩
 obtain ⟨u,rfl,s1,r1⟩:=rat1_rel hp.gi h1 hrel
 obtain ⟨e1,e2⟩:=lit_is h h2
 obtain ⟨_,b1,b2,b3,_⟩:=h.lit _ _ h2
 have hi:=is_of _ s1
 have hm:(FE.ofQ (val x)).mag = FE.toL p.1.natAbs:=by rw [show (FE.ofQ (val x)).mag = FE.toL (val x).num.natAbs from hi.okr.mag,e1]
 have hd:(FE.ofQ (val x)).den = FE.toL p.2:=by rw [show (FE.ofQ (val x)).den = FE.toL (val x).den from hi.okr.den,e2]
 refine (iSmall _ p.1.natAbs p.2 ⟨hm,hd,b1,b2,b3⟩ u w r1).mono fun e u ⟨he,hb⟩=>?_
 have hsg:sgnI (FE.ofQ (val x)).neg p.1.natAbs = p.1:=by
  rw [hi.neg,e1]
  unfold sgnI
  by_cases hn:p.1 < 0
  ·simp [hn];omega
  ·simp [hn];omega
 rw [hsg] at he
 exact ⟨_,E,he,out_below hp.gi hb ⟨_,rfl,rfl,rfl,trivial⟩⟩
end
end Go.Proofs.YtcblajhfehadaaaGreat
