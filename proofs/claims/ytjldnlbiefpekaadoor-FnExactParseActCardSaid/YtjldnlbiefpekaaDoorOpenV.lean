/-
  What is known of an argument that can be read as data, by contents. The block of howto/extra-structs.md (section 1) is laid ahead. Nothing here is a claim.
-/
import Derived.Test.YtjldnlbiefpekaaDoorVZ
import Derived.Test.YtjldnlbiefpekaaDoorOpen
import Derived.Deep.Slices
import Derived.Deep.Fields
import Derived.ChangeSame
namespace Go.Proofs.YtjldnlbiefpekaaDoor
open Go.ChangeShapes Go.WideShapes Go.ChangeAt Go.RowKit Go.Deep
set_option linter.unusedVariables false
set_option maxRecDepth 100000
section
variable {H:Type} {enc:TypeId×Value->H} {P:Program} {w:World} {base:Nat} {spare:Nat->Bool} {held:Bool}
end
def bX(x:Int):Prop:=-9223372036854775808<=x/\x<=9223372036854775807
section
variable {H:Type} {enc:TypeId×Value->H} {W:World} {base:Nat} {v:Value} {d:DataW H} {p:List MemPlace}
end
theorem WR{P:Program}{f:Nat}{c:cx}{args:List Pt}{aN:Array Value}{w:World}(h:enters P f/\cy P f c)(aC:c.run dj args some=some (.one (false,[.bool true])))(ha:rq w args aN)(hQ:Hd w (fun _=>none):=by first | exact abh _ _ | assumption):
  Calls P f aN w fun e w'=>e = .returned (.bool true)/\Below w.heap.size w w':=by
 obtain⟨res,h1,_,h2⟩:=h.2 dj args some _ aC
 injection h1 with h1
 subst h1
 refine(h2 (fun n=>n) w aN ha hQ).mono fun e w'=>?_
 rintro⟨v,af,rfl,hB,_,⟨⟨_,us,cE,hsz,hv⟩,_⟩⟩
 refine⟨?_,hB⟩
 obtain⟨u,hu,hr⟩:=hv 0 _ rfl
 have cE:us = #[v]:=cE
 subst cE
 have:v=u:=by simpa using hu
 subst this
 cases hr
 rfl
theorem WS{ai:List (Bool×TC)}{ro:List (Bool×TC×Nat)}{F:kZ ai->Option (hG ro)}{X:Type}{args:List Pt}{k:dj->Option X}{x:kZ ai}{y:hG ro}(hx:tN ai args=some x)(hy:F x=some y):(cz ai ro F).run X args k=k (cC ro y):=by
 simp only[cz,hx,hy]
theorem WT{w:World}{v0:Value}{x0:V}(h0:RV w w.heap.size (fun _=>none) [] x0 v0):rq w [(false,[x0])] #[v0]:=by
 refine⟨rfl,fun i p hp=>?_⟩
 rcases i with _ | i
 ·cases hp
  exact⟨v0,rfl,.v _ _ ⟨#[v0],rfl,rfl,fun j x hx=>by rcases j with _ | j <;>cases hx;exact⟨v0,rfl,h0⟩⟩⟩
 ·cases hp
section
variable {H:Type} {abi:TypeId×Value->H} {P:Program} {w:World}
end
end Go.Proofs.YtjldnlbiefpekaaDoor
