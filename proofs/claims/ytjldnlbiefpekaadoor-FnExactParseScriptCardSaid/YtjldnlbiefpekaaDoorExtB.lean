/-
  strings.IndexByte, as a contract of contents. Nothing here is a claim.
-/
import Derived.Test.YtjldnlbiefpekaaDoorExt
import Derived.WalkSpells
import Derived.WalkLawsBesides
import Derived.Handy
import Derived.Lib.Bytealg
namespace Go.Proofs.YtjldnlbiefpekaaDoor
open Go.RowKit
set_option linter.unusedVariables false
set_option maxRecDepth 100000
/-- A contract of contents,from what the call does to typed arguments. -/
theorem YG{P:Program}{f:Nat}{ai:List (Bool×TC)}{F:lF ai->Option Int}(he:enters P f)
  (h:∀ x y,F x=some y->∀ (w:World) (aM:Array Value),aM.size=(gB ai x).length->(∀ (j:Nat) p,(gB ai x)[j]?=some p->∃ u,aM[j]?=some u/\PA w p u)->Hd w (fun _=>none)->
   Calls P f aM w fun e w'=>e = .returned (.int .i64 y)/\Below w.heap.size w w'):enters P f/\cw P f (cg ai [(false,.int,0)] F):=by
 refine⟨he,fun X args k r hr=>?_⟩
 simp only[cg]at hr
 split at hr
 ·rename_i x hx
  split at hr
  ·rename_i y hy
   refine⟨_,hr,fun X' k'=>by simp only[cg,hx,hy],fun nm w aM cR hQ=>?_⟩
   obtain⟨k1,k2⟩:=A5 ai args x hx
   refine(h x y hy w aM (by rw[k1,cR.1]) (fun j p hp=>?_) hQ).mono fun e w' fG=>?_
   ·obtain⟨q,hq,kJ,mj⟩:=k2 j p hp
    obtain⟨u,hu,mT⟩:=cR.2 j q hq
    refine⟨u,hu,?_⟩
    obtain⟨b,ys⟩:=p
    obtain⟨b',xs⟩:=q
    simp only at kJ
    subst kJ
    exact mT.nA mj
   ·obtain⟨rfl,U⟩:=fG
    refine⟨_,fun _=>none,rfl,U,(fun b k U=>by cases U),?_⟩
    show jx w' w.heap.size _ nm (.one (false,[.int .i64 y])) _
    refine⟨⟨rfl,#[.int .i64 y],rfl,rfl,fun j x hx=>?_⟩,trivial⟩
    rcases j with _ | j
    ·simp at hx;subst hx;exact⟨_,rfl,.int _ _ _⟩
    ·simp at hx
  ·cases hr
 ·cases hr
set_option maxHeartbeats 400000 in
theorem YH(s:ByteArray)(c:Int)(w:World):
  Calls Tryd.prog 50 #[.string s,.int .u8 c] w fun e w'=>e = .returned (.int .i64 (Lib.indexByte s.data.toList c.toNat.toUInt8))/\w=w':=by
 go_enter Tryd.func50,Tryd.ntmps50
 go_wp2
 rw[run_callFunc_extern Tryd.func58 (by kernel_rfl) (by kernel_rfl) (by kernel_rfl) (e:=Extern.BytealgIndexByte.indexByte) (by kernel_rfl),Lib.run_indexByteString]
 simp only[Result.andThen]
 rw[Oper.upon_value]
 go_wp2
 go_ret
 exact⟨rfl,rfl⟩
set_option maxHeartbeats 400000 in
theorem YI(s:ByteArray)(c:Int)(w:World):
  Calls Tryd.prog 35 #[.string s,.int .u8 c] w fun e w'=>e = .returned (.int .i64 (Lib.indexByte s.data.toList c.toNat.toUInt8))/\w=w':=by
 go_enter Tryd.func35,Tryd.ntmps35
 go_wp2_with (go_at_call 50;refine(YH _ _ _).mono ?_;rintro e w' ⟨rfl,rfl⟩)
 go_ret
 exact⟨rfl,rfl⟩
def Bc(s:ByteArray)(c:Int):Option Int:=some (Lib.indexByte s.data.toList c.toNat.toUInt8)
def Om:cu:=cg [(false,.str),(false,.u8)] [(false,.int,0)] (fun x=>Bc x.1 x.2.1)
theorem YJ:enters Tryd.prog 35/\cw Tryd.prog 35 Om:=by
 refine YG ⟨_,Tryd.func35,by kernel_rfl,by kernel_rfl⟩ fun x y hy w aM hsz hv hQ=>?_
 obtain⟨s,c,_⟩:=x
 have hy:=Option.some.inj hy
 subst hy
 obtain⟨u0,iX,kG⟩:=hv 0 _ rfl
 obtain⟨u1,n7,Bb⟩:=hv 1 _ rfl
 obtain rfl:=(PV.one kG).js
 obtain rfl:=(PV.one Bb).eM
 have jR:aM = #[.string s,.int .u8 c]:=by
  have hs:aM.size=2:=hsz
  apply Array.ext (by simpa using hs)
  intro i h1 h2
  have:i=0\/i=1:=by simp at h2;omega
  rcases this with rfl | rfl
  ·rw[Array.getElem?_eq_getElem h1]at iX
   injection iX
  ·rw[Array.getElem?_eq_getElem h1]at n7
   injection n7
 subst jR
 refine(YI s c w).mono fun e w' fG=>?_
 obtain⟨rfl,rfl⟩:=fG
 exact⟨rfl,Below.refl _ _⟩
end Go.Proofs.YtjldnlbiefpekaaDoor
