/- Laws for a struct that lies in a block which is known whole: loads and stores of many cells in one step, the world behind a store a letter. Nothing here is a claim. -/
import Derived.Test.YthmgjjfedieljaaGreatDoorState
import Derived.Lib.AppendIntMem
import Derived.Test.YthmgjjfedieljaaGreatDoorChecked
import Derived.Deep.MidRow
namespace Go.Proofs.YthmgjjfedieljaaGreatDoor
set_option linter.defProp false
open Go.RowKit
section
variable {P:Program}
def Eh(b:Nat)(t:TypeId):∀ (l:List Value) (o:Nat) (w:World) (cs:Array Value),wK w b t cs->o+l.length<=cs.size->
  ∃eo,wK (w.setCells b o l) b t eo/\eo.toList=cs.toList.take o++l++cs.toList.drop (o+l.length)
 |[],o,w,cs,h,_=>⟨cs,h,by simp⟩
 | v :: r,o,w,cs,h,hl=>by
  have C:o+1+r.length<=cs.size:=by simp at hl;omega
  obtain⟨eo,D,E⟩:=Eh b t r (o+1) (w.setCell ⟨b,o,none⟩ v) (cs.setIfInBounds o v) (h.agr o v) (by simpa using C);refine⟨eo,D,?_⟩;rw[E];have F:o<cs.toList.length:=by simp;omega
  simp only[Array.toList_setIfInBounds];have I:(cs.toList.set o v).take (o+1)=cs.toList.take o++[v]:=by
   rw[List.take_succ_eq_append_getElem (by simpa using F),List.getElem_set_self,List.take_set_of_le (Nat.le_refl o)]
  have L:(cs.toList.set o v).drop (o+1+r.length)=cs.toList.drop (o+1+r.length):=by
   rw[List.drop_set_of_lt (by omega)]
  rw[I,L];simp[Nat.add_assoc,Nat.add_comm 1]
def Vx(b:Nat):∀ (l:List Value) (o:Nat) (w:World),(w.setCells b o l).heap.size=w.heap.size
 |[],_,_=>rfl
 | v :: r,o,w=>by
  show ((w.setCell ⟨b,o,none⟩ v).setCells b (o+1) r).heap.size=_;rw[Vx b r];simp[World.setCell]
def Vy(b:Nat):∀ (l:List Value) (o:Nat) (w:World),w.grownBy (w.setCells b o l) (some b)
 |[],_,w=>World.grownBy.refl w _
 |v::r,o,w=>ags (agt (World.grownBy.refl w _) (p:=⟨b,o,none⟩) (.inr rfl) v) (Vy b r (o+1) _)
end
section
variable {w0 W W1:World} {bs:List (Nat×TypeId×Array Value)} {rs:List (Option Addr×Nat×List Int)} {b:Nat} {t:TypeId} {cs eo:Array Value}
end
end Go.Proofs.YthmgjjfedieljaaGreatDoor
