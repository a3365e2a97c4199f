/- Laws for a struct that lies in a block which is known whole: loads and stores of many cells in one step, the world behind a store a letter. Nothing here is a claim. -/
import Derived.Test.YtmffpkippmkjbaaGreatDoorState
import Derived.Lib.AppendIntMem
import Derived.Test.YtmffpkippmkjbaaGreatDoorChecked
import Derived.Deep.MidRow
namespace Go.Proofs.YtmffpkippmkjbaaGreatDoor
open Go.RowKit
section
variable {P:Program}
theorem aaU{w:World}{b o:Nat}{t:TypeId}{cs sub:Array Value}(h:cQ w b t cs)(hs:(cs.toList.drop o).take sub.size=sub.toList):w.rangeAt b o sub.toList:=by
 intro j v hv
 rw[h.cell (o+j)]
 rw[<-hs,List.getElem?_take]at hv
 split at hv
 ·rw[List.getElem?_drop]at hv
  simpa using hv
 ·cases hv
/-- A load of a struct out of a block that is known whole,from offset o on. -/
theorem arJ{ops:Array Oper}{rest:List Oper}{op:Oper}{a:Act}{w:World}{Q:Exit->Act->World->Prop}(rj:op.guard=none)(ty:TypeId)(x:Operand)(ho:op.op = .load ty x)
  (b o:Nat) (hx:a.eval x = .pointer (some ⟨b,o,none⟩)) (t:TypeId) (cs sub:Array Value) (hb:cQ w b t cs) (hs:(cs.toList.drop o).take sub.size=sub.toList) (d:TypeDesc)
  (hu:P.underlying ty=some d) (hd:d.isRow=true) (hi:(P.info? ty).map (·.size)=some sub.size)
  (h:wpList P ops Q rest (a.put op.dst (.agg sub)) w):wpList P ops Q (op :: rest) a w:=by
 refine wpList_load_mid rj ty x ho b o hx sub.toList d (aaU hb hs) hu hd (by rw[hi];simp) ?_
 simpa using h
theorem Ak(b:Nat)(t:TypeId):∀ (l:List Value) (o:Nat) (w:World) (cs:Array Value),cQ w b t cs->o+l.length<=cs.size->
  ∃ cz,cQ (w.setCells b o l) b t cz/\cz.toList=cs.toList.take o++l++cs.toList.drop (o+l.length)
 | [],o,w,cs,h,_=>⟨cs,h,by simp⟩
 | v :: r,o,w,cs,h,hl=>by
  have eB:o+1+r.length<=cs.size:=by simp at hl;omega
  obtain⟨cz,h1,h2⟩:=Ak b t r (o+1) (w.setCell ⟨b,o,none⟩ v) (cs.setIfInBounds o v) (h.qa o v) (by simpa using eB)
  refine⟨cz,h1,?_⟩
  rw[h2]
  have ho:o<cs.toList.length:=by simp;omega
  simp only[Array.toList_setIfInBounds]
  have e1:(cs.toList.set o v).take (o+1)=cs.toList.take o++[v]:=by
   rw[List.take_succ_eq_append_getElem (by simpa using ho),List.getElem_set_self,List.take_set_of_le (Nat.le_refl o)]
  have e2:(cs.toList.set o v).drop (o+1+r.length)=cs.toList.drop (o+1+r.length):=by
   rw[List.drop_set_of_lt (by omega)]
  rw[e1,e2]
  simp[Nat.add_assoc,Nat.add_comm 1]
theorem I5(b:Nat):∀ (l:List Value) (o:Nat) (w:World),(w.setCells b o l).heap.size=w.heap.size
 | [],_,_=>rfl
 | v :: r,o,w=>by
  show ((w.setCell ⟨b,o,none⟩ v).setCells b (o+1) r).heap.size=_
  rw[I5 b r]
  simp[World.setCell]
theorem I6(b:Nat):∀ (l:List Value) (o:Nat) (w:World),w.grownBy (w.setCells b o l) (some b)
 | [],_,w=>World.grownBy.refl w _
 | v :: r,o,w=>aaP (aaQ (World.grownBy.refl w _) (p:=⟨b,o,none⟩) (.inr rfl) v) (I6 b r (o+1) _)
/-- A store of a struct into a block that is known whole,from offset o on: the world behind it is a letter. -/
theorem arK{ops:Array Oper}{rest:List Oper}{op:Oper}{a:Act}{w:World}{Q:Exit->Act->World->Prop}(rj:op.guard=none)(ty:TypeId)(x y:Operand)(ho:op.op = .store ty x y)
  (b o:Nat) (cells:Array Value) (hx:a.eval x = .pointer (some ⟨b,o,none⟩)) (hy:a.eval y = .agg cells) (t:TypeId) (cs cz:Array Value) (hb:cQ w b t cs) (hf:o+cells.size<=cs.size)
  (hc:cs.toList.take o++cells.toList++cs.toList.drop (o+cells.size)=cz.toList) (hi:(P.info? ty).map (·.size)=some cells.size) (h1:cells.toList.all (·.oneCell')=true)
  (h:∀ W',cQ W' b t cz->w.grownBy W' (some b)->W'.heap.size=w.heap.size->wpList P ops Q rest (a.put op.dst undef) W'):wpList P ops Q (op :: rest) a w:=by
 have ht:w.there b o cells.size:=fun j hj=>⟨by rw[hb.cell];simp;omega,hb.frozen _⟩
 refine wpList_store_mid rj ty x y ho b o cells hx hy ht hi (Array.all_eq_true_iff_forall_mem.2 fun v hv=>List.all_eq_true.1 h1 v (by simpa using hv)) ?_
 obtain⟨c2,h2,h3⟩:=Ak b t cells.toList o w cs hb (by simpa using hf)
 have e:c2=cz:=by
  apply Array.ext'
  rw[h3,<-hc]
  simp
 subst e
 exact h _ h2 (I6 b _ _ _) (I5 b _ _ _)
theorem results_cell_tmp{fn:Func}{p q:Tmp}{ty:TypeId}(h:fn.results = #[.cell p ty,.tmp q])(tmps:Array Value)(w:World)(g:Nat)(t:TypeId)(cs:Array Value)(d:TypeDesc)
  (hp:tmps.getD p undef = .pointer (some ⟨g,0,none⟩)) (hg:cQ w g t cs) (hu:P.underlying ty=some d) (hd:d.isRow=true) (hi:(P.info? ty).map (·.size)=some cs.size):
  (results fn tmps).run P w = .ok (.tuple #[.agg cs,tmps.getD q undef]) w:=by
 have xL:tmps[p]?.getD undef = .pointer (some ⟨g,0,none⟩):=by simpa using hp
 have hl:=run_loadVar_row (P:=P) w g t ty cs (0,0) d hg hu (by cases d <;>simp_all) hi
 simp[results,h,xL,asAddr,hl]
theorem arL{fn:Func}{p:Tmp}{ty:TypeId}(h:fn.results = #[.cell p ty])(tmps:Array Value)(w:World)(g:Nat)(t:TypeId)(cs:Array Value)(d:TypeDesc)
  (hp:tmps.getD p undef = .pointer (some ⟨g,0,none⟩)) (hg:cQ w g t cs) (hu:P.underlying ty=some d) (hd:d.isRow=true) (hi:(P.info? ty).map (·.size)=some cs.size):
  (results fn tmps).run P w = .ok (.agg cs) w:=
 results_cell_row h tmps w g t cs (0,0) d hp hg hu (by cases d <;>simp_all) hi
end
section
variable {w0 W W1:World} {bs:List (Nat×TypeId×Array Value)} {rs:List (Option Addr×Nat×List Int)} {b:Nat} {t:TypeId} {cs cz:Array Value}
/-- A state behind a store into its head block. -/
theorem eA.aX(h:eA w0 ((b,t,cs) :: bs) rs W)(hd:∀ x∈bs,x.1≠b)(ht:3≠t)(hB:cQ W1 b t cz)(hg:W.grownBy W1 (some b)):eA w0 ((b,t,cz) :: bs) rs W1:=by
 have hb:=h.st.blk _ _ _ (.head _)
 have ho:=h.st.own _ _ _ (.head _)
 refine⟨⟨?_,fun b' t' c' hm=>?_,fun b' t' c' hm=>?_⟩,fun A c l hm=>?_⟩
 ·exact h.st.gW.grown hg h.st.gW.size (fun k hk=>by injection hk;omega)
 ·rcases List.mem_cons.1 hm with e | hm
  ·injection e with e1 e2;injection e2 with e2 e3;subst e1 e2 e3;exact hB
  ·exact(h.st.blk _ _ _ (.tail _ hm)).grown hg (by intro e;injection e with e;exact hd _ hm e)
 ·rcases List.mem_cons.1 hm with e | hm
  ·injection e with e1 e2;subst e1;exact ho
  ·exact h.st.own _ _ _ (.tail _ hm)
 ·have hr:=h.row A c l hm
  have aK:=OK hr hb ht
  exact World.ownsRow.kept hr hg (.inr aK)
end
end Go.Proofs.YtmffpkippmkjbaaGreatDoor
