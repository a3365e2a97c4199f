/-
  What is known of an argument that can be read as data, by contents. The block of howto/extra-structs.md (section 1) is laid ahead. Nothing here is a claim.
-/
import Derived.Test.YtjldnlbiefpekaaDoorVZ
import Derived.Test.YtjldnlbiefpekaaDoorOpen
import Derived.Deep.Slices
import Derived.Deep.Fields
import Derived.ChangeSame
namespace Go.Proofs.YtjldnlbiefpekaaDoor
open Go.ChangeShapes Go.WideShapes Go.ChangeAt Go.RowKit Go.Deep
set_option linter.unusedVariables false
set_option maxRecDepth 100000
section
variable {H:Type} {enc:TypeId×Value->H} {P:Program} {w:World} {base:Nat} {spare:Nat->Bool} {held:Bool}
end
def b7(x:Int):Prop:=-9223372036854775808<=x/\x<=9223372036854775807
section
variable {H:Type} {enc:TypeId×Value->H} {W:World} {base:Nat} {v:Value} {d:DataW H} {p:List MemPlace}
end
theorem Yz{P:Program}{f:Nat}{c:cu}{args:List Pt}{aM:Array Value}{w:World}(h:enters P f/\cw P f c)(aD:c.run dz args some=some (.one (false,[.bool true])))(ha:si w args aM)(hQ:Hd w (fun _=>none):=by first | exact ac8 _ _ | assumption):
  Calls P f aM w fun e w'=>e = .returned (.bool true)/\Below w.heap.size w w':=by
 obtain⟨res,h1,_,h2⟩:=h.2 dz args some _ aD
 injection h1 with h1
 subst h1
 refine(h2 (fun n=>n) w aM ha hQ).mono fun e w'=>?_
 rintro⟨v,af,rfl,hB,_,⟨⟨_,us,cI,hsz,hv⟩,_⟩⟩
 refine⟨?_,hB⟩
 obtain⟨u,hu,hr⟩:=hv 0 _ rfl
 have cI:us = #[v]:=cI
 subst cI
 have:v=u:=by simpa using hu
 subst this
 cases hr
 rfl
theorem YA{ai:List (Bool×TC)}{ro:List (Bool×TC×Nat)}{F:lF ai->Option (iw ro)}{X:Type}{args:List Pt}{k:dz->Option X}{x:lF ai}{y:iw ro}(hx:uI ai args=some x)(hy:F x=some y):(cg ai ro F).run X args k=k (cG ro y):=by
 simp only[cg,hx,hy]
theorem YB{w:World}{v0:Value}{x0:V}(h0:RV w w.heap.size (fun _=>none) [] x0 v0):si w [(false,[x0])] #[v0]:=by
 refine⟨rfl,fun i p hp=>?_⟩
 rcases i with _ | i
 ·cases hp
  exact⟨v0,rfl,.v _ _ ⟨#[v0],rfl,rfl,fun j x hx=>by rcases j with _ | j <;>cases hx;exact⟨v0,rfl,h0⟩⟩⟩
 ·cases hp
section
variable {H:Type} {ac9:TypeId×Value->H} {P:Program} {w:World}
end
end Go.Proofs.YtjldnlbiefpekaaDoor
