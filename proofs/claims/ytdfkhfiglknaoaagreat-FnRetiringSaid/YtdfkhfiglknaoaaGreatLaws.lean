/- Laws for a struct that lies in a block which is known whole: loads and stores of many cells in one step, the world behind a store a letter. Nothing here is a claim. -/
import Derived.Test.YtdfkhfiglknaoaaGreatState
import Derived.Deep.MidRow
namespace Go.Proofs.YtdfkhfiglknaoaaGreat
set_option linter.defProp false
open Go.RowKit
section
variable {P:Program}
def Im(b:Nat)(t:TypeId):∀ (l:List Value) (o:Nat) (w:World) (cs:Array Value),zX w b t cs->o+l.length<=cs.size->
  ∃fM,zX (w.setCells b o l) b t fM/\fM.toList=cs.toList.take o++l++cs.toList.drop (o+l.length)
 |[],o,w,cs,h,_=>⟨cs,h,by simp⟩
 | v :: r,o,w,cs,h,hl=>by
  have C:o+1+r.length<=cs.size:=by simp at hl;omega
  obtain⟨fM,D,E⟩:=Im b t r (o+1) (w.setCell ⟨b,o,none⟩ v) (cs.setIfInBounds o v) (h.aof o v) (by simpa using C);refine⟨fM,D,?_⟩;rw[E];have I:o<cs.toList.length:=by simp;omega
  simp only[Array.toList_setIfInBounds];have O:(cs.toList.set o v).take (o+1)=cs.toList.take o++[v]:=by
   rw[List.take_succ_eq_append_getElem (by simpa using I),List.getElem_set_self,List.take_set_of_le (Nat.le_refl o)]
  have U:(cs.toList.set o v).drop (o+1+r.length)=cs.toList.drop (o+1+r.length):=by
   rw[List.drop_set_of_lt (by omega)]
  rw[O,U];simp[Nat.add_assoc,Nat.add_comm 1]
def abz(b:Nat):∀ (l:List Value) (o:Nat) (w:World),(w.setCells b o l).heap.size=w.heap.size
 |[],_,_=>rfl
 | v :: r,o,w=>by
  show ((w.setCell ⟨b,o,none⟩ v).setCells b (o+1) r).heap.size=_;rw[abz b r];simp[World.setCell]
def abA(b:Nat):∀ (l:List Value) (o:Nat) (w:World),w.grownBy (w.setCells b o l) (some b)
 |[],_,w=>World.grownBy.refl w _
 |v::r,o,w=>aog (aoh (World.grownBy.refl w _) (p:=⟨b,o,none⟩) (.inr rfl) v) (abA b r (o+1) _)
end
section
variable {w0 W W1:World} {bs:List (Nat×TypeId×Array Value)} {rs:List (Option Addr×Nat×List Int)} {b:Nat} {t:TypeId} {cs fM:Array Value}
end
end Go.Proofs.YtdfkhfiglknaoaaGreat
