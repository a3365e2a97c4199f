/- Laws for a struct that lies in a block which is known whole: loads and stores of many cells in one step, the world behind a store a letter. Nothing here is a claim. -/
import Derived.Test.YtgjfmljpdnnihaaGreatState
import Derived.Deep.MidRow
namespace Go.Proofs.YtgjfmljpdnnihaaGreat
set_option linter.defProp false
open Go.RowKit
section
variable {P:Program}
def Ft(b:Nat)(t:TypeId):∀ (l:List Value) (o:Nat) (w:World) (cs:Array Value),yP w b t cs->o+l.length<=cs.size->
  ∃eS,yP (w.setCells b o l) b t eS/\eS.toList=cs.toList.take o++l++cs.toList.drop (o+l.length)
 |[],o,w,cs,h,_=>⟨cs,h,by simp⟩
 | v :: r,o,w,cs,h,C=>by
  have D:o+1+r.length<=cs.size:=by simp at C;omega
  obtain⟨eS,E,I⟩:=Ft b t r (o+1) (w.setCell ⟨b,o,none⟩ v) (cs.setIfInBounds o v) (h.agf o v) (by simpa using D);refine⟨eS,E,?_⟩;rw[I];have O:o<cs.toList.length:=by simp;omega
  simp only[Array.toList_setIfInBounds];have T:(cs.toList.set o v).take (o+1)=cs.toList.take o++[v]:=by
   rw[List.take_succ_eq_append_getElem (by simpa using O),List.getElem_set_self,List.take_set_of_le (Nat.le_refl o)]
  have U:(cs.toList.set o v).drop (o+1+r.length)=cs.toList.drop (o+1+r.length):=by
   rw[List.drop_set_of_lt (by omega)]
  rw[T,U];simp[Nat.add_assoc,Nat.add_comm 1]
def Wl(b:Nat):∀ (l:List Value) (o:Nat) (w:World),(w.setCells b o l).heap.size=w.heap.size
 |[],_,_=>rfl
 | v :: r,o,w=>by
  show ((w.setCell ⟨b,o,none⟩ v).setCells b (o+1) r).heap.size=_;rw[Wl b r];simp[World.setCell]
def Wm(b:Nat):∀ (l:List Value) (o:Nat) (w:World),w.grownBy (w.setCells b o l) (some b)
 |[],_,w=>World.grownBy.refl w _
 |v::r,o,w=>agh (agi (World.grownBy.refl w _) (p:=⟨b,o,none⟩) (.inr rfl) v) (Wm b r (o+1) _)
end
section
variable {w0 W W1:World} {bs:List (Nat×TypeId×Array Value)} {rs:List (Option Addr×Nat×List Int)} {b:Nat} {t:TypeId} {cs eS:Array Value}
end
end Go.Proofs.YtgjfmljpdnnihaaGreat
