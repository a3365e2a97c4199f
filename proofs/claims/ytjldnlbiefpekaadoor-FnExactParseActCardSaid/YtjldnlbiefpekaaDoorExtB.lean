/-
  strings.IndexByte, as a contract of contents. Nothing here is a claim.
-/
import Derived.Test.YtjldnlbiefpekaaDoorExt
import Derived.WalkSpells
import Derived.WalkLawsBesides
import Derived.Handy
import Derived.Lib.Bytealg
namespace Go.Proofs.YtjldnlbiefpekaaDoor
open Go.RowKit
set_option linter.unusedVariables false
set_option maxRecDepth 100000
/-- A contract of contents,from what the call does to typed arguments. -/
theorem WY{P:Program}{f:Nat}{ai:List (Bool×TC)}{F:kZ ai->Option Int}(he:enters P f)
  (h:∀ x y,F x=some y->∀ (w:World) (aN:Array Value),aN.size=(gL ai x).length->(∀ (j:Nat) p,(gL ai x)[j]?=some p->∃ u,aN[j]?=some u/\PA w p u)->Hd w (fun _=>none)->
   Calls P f aN w fun e w'=>e = .returned (.int .i64 y)/\Below w.heap.size w w'):enters P f/\cy P f (cz ai [(false,.int,0)] F):=by
 refine⟨he,fun X args k r hr=>?_⟩
 simp only[cz]at hr
 split at hr
 ·rename_i x hx
  split at hr
  ·rename_i y hy
   refine⟨_,hr,fun X' k'=>by simp only[cz,hx,hy],fun nm w aN cX hQ=>?_⟩
   obtain⟨k1,k2⟩:=CC ai args x hx
   refine(h x y hy w aN (by rw[k1,cX.1]) (fun j p hp=>?_) hQ).mono fun e w' fR=>?_
   ·obtain⟨q,hq,mq,nH⟩:=k2 j p hp
    obtain⟨u,hu,o3⟩:=cX.2 j q hq
    refine⟨u,hu,?_⟩
    obtain⟨b,ys⟩:=p
    obtain⟨b',xs⟩:=q
    simp only at mq
    subst mq
    exact o3.nU nH
   ·obtain⟨rfl,U⟩:=fR
    refine⟨_,fun _=>none,rfl,U,(fun b k U=>by cases U),?_⟩
    show jy w' w.heap.size _ nm (.one (false,[.int .i64 y])) _
    refine⟨⟨rfl,#[.int .i64 y],rfl,rfl,fun j x hx=>?_⟩,trivial⟩
    rcases j with _ | j
    ·simp at hx;subst hx;exact⟨_,rfl,.int _ _ _⟩
    ·simp at hx
  ·cases hr
 ·cases hr
set_option maxHeartbeats 400000 in
theorem WZ(s:ByteArray)(c:Int)(w:World):
  Calls Tryd.prog 50 #[.string s,.int .u8 c] w fun e w'=>e = .returned (.int .i64 (Lib.indexByte s.data.toList c.toNat.toUInt8))/\w=w':=by
 go_enter Tryd.func50,Tryd.ntmps50
 go_wp2
 rw[run_callFunc_extern Tryd.func58 (by kernel_rfl) (by kernel_rfl) (by kernel_rfl) (e:=Extern.BytealgIndexByte.indexByte) (by kernel_rfl),Lib.run_indexByteString]
 simp only[Result.andThen]
 rw[Oper.upon_value]
 go_wp2
 go_ret
 exact⟨rfl,rfl⟩
set_option maxHeartbeats 400000 in
theorem W0(s:ByteArray)(c:Int)(w:World):
  Calls Tryd.prog 35 #[.string s,.int .u8 c] w fun e w'=>e = .returned (.int .i64 (Lib.indexByte s.data.toList c.toNat.toUInt8))/\w=w':=by
 go_enter Tryd.func35,Tryd.ntmps35
 go_wp2_with (go_at_call 50;refine(WZ _ _ _).mono ?_;rintro e w' ⟨rfl,rfl⟩)
 go_ret
 exact⟨rfl,rfl⟩
def Aa(s:ByteArray)(c:Int):Option Int:=some (Lib.indexByte s.data.toList c.toNat.toUInt8)
def MU:cx:=cz [(false,.str),(false,.u8)] [(false,.int,0)] (fun x=>Aa x.1 x.2.1)
theorem W2:enters Tryd.prog 35/\cy Tryd.prog 35 MU:=by
 refine WY ⟨_,Tryd.func35,by kernel_rfl,by kernel_rfl⟩ fun x y hy w aN hsz hv hQ=>?_
 obtain⟨s,c,_⟩:=x
 have hy:=Option.some.inj hy
 subst hy
 obtain⟨u0,jV,lP⟩:=hv 0 _ rfl
 obtain⟨u1,sN,Ho⟩:=hv 1 _ rfl
 obtain rfl:=(PV.one lP).jU
 obtain rfl:=(PV.one Ho).eE
 have kO:aN = #[.string s,.int .u8 c]:=by
  have hs:aN.size=2:=hsz
  apply Array.ext (by simpa using hs)
  intro i h1 h2
  have:i=0\/i=1:=by simp at h2;omega
  rcases this with rfl | rfl
  ·rw[Array.getElem?_eq_getElem h1]at jV
   injection jV
  ·rw[Array.getElem?_eq_getElem h1]at sN
   injection sN
 subst kO
 refine(W0 s c w).mono fun e w' fR=>?_
 obtain⟨rfl,rfl⟩:=fR
 exact⟨rfl,Below.refl _ _⟩
end Go.Proofs.YtjldnlbiefpekaaDoor
