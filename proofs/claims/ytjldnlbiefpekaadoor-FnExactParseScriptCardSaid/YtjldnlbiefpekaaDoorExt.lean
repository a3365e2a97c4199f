/-
  Functions of Go's library by the kit's contracts, as contracts of contents: strconv.Itoa, strings.Join. Nothing here is a claim.
-/
import Derived.Test.YtjldnlbiefpekaaDoorVZ
import Derived.Test.YtjldnlbiefpekaaDoorShelf
import Derived.Lib.ItoaLen
namespace Go.Proofs.YtjldnlbiefpekaaDoor
open Go.RowKit
set_option linter.unusedVariables false
set_option maxRecDepth 100000
/-- A contract of contents,from what the call does to typed arguments. -/
theorem Oj{P:Program}{f:Nat}{ai:List (Bool×TC)}{F:lF ai->Option ByteArray}(he:enters P f)
  (h:∀ x y,F x=some y->∀ (w:World) (aM:Array Value),aM.size=(gB ai x).length->(∀ (j:Nat) p,(gB ai x)[j]?=some p->∃ u,aM[j]?=some u/\PA w p u)->Hd w (fun _=>none)->
   Calls P f aM w fun e w'=>e = .returned (.string y)/\Below w.heap.size w w'):enters P f/\cw P f (cg ai [(false,.str,0)] F):=by
 refine⟨he,fun X args k r hr=>?_⟩
 simp only[cg]at hr
 split at hr
 ·rename_i x hx
  split at hr
  ·rename_i y hy
   refine⟨_,hr,fun X' k'=>by simp only[cg,hx,hy],fun nm w aM cR hQ=>?_⟩
   obtain⟨k1,k2⟩:=A5 ai args x hx
   refine(h x y hy w aM (by rw[k1,cR.1]) (fun j p hp=>?_) hQ).mono fun e w' fG=>?_
   ·obtain⟨q,hq,kJ,mj⟩:=k2 j p hp
    obtain⟨u,hu,mT⟩:=cR.2 j q hq
    refine⟨u,hu,?_⟩
    obtain⟨b,ys⟩:=p
    obtain⟨b',xs⟩:=q
    simp only at kJ
    subst kJ
    exact mT.nA mj
   ·obtain⟨rfl,U⟩:=fG
    refine⟨_,fun _=>none,rfl,U,(fun b k U=>by cases U),?_⟩
    show jx w' w.heap.size _ nm (.one (false,[.str y])) _
    refine⟨⟨rfl,#[.string y],rfl,rfl,fun j x hx=>?_⟩,trivial⟩
    rcases j with _ | j
    ·simp at hx;subst hx;exact⟨_,rfl,.str _ _⟩
    ·simp at hx
  ·cases hr
 ·cases hr
theorem PV.one{w:World}{x:V}{u:Value}(h:PA w (false,[x]) u):RV w w.heap.size (fun _=>none) [] x u:=by
 have h:=h.pv
 obtain⟨us,e,hs,hv⟩:=h
 have e:us = #[u]:=e
 subst e
 obtain⟨v,h1,h2⟩:=hv 0 x rfl
 simp at h1
 subst h1
 exact h2
def xl(n:Int):Option ByteArray:=bif decide (-9223372036854775808<=n)&&decide (n<=9223372036854775807)then some ⟨(Lib.itoa n).toArray⟩else none
theorem YC{n:Int}{y:ByteArray}(h:xl n=some y):-9223372036854775808<=n/\n<=9223372036854775807/\y=⟨(Lib.itoa n).toArray⟩:=by
 unfold xl at h
 cases U:decide (-9223372036854775808<=n)&&decide (n<=9223372036854775807)with
 | false=>rw[U]at h;cases h
 | true=>
  rw[U,cond_true]at h
  injection h with h
  rw[Bool.and_eq_true,decide_eq_true_eq,decide_eq_true_eq]at U
  exact⟨U.1,U.2,h.symm⟩
def Ok:cu:=cg [(false,.int)] [(false,.str,0)] (fun x=>xl x.1)
theorem YD:enters Tryd.prog 59/\cw Tryd.prog 59 Ok:=by
 refine Oj ⟨_,Tryd.func59,by kernel_rfl,by kernel_rfl⟩ fun x y hy w aM hsz hv hQ=>?_
 obtain⟨n,_⟩:=x
 obtain⟨wB,eI,rfl⟩:=YC (show xl n=some y from hy)
 obtain⟨u,hu,hp⟩:=hv 0 _ rfl
 obtain rfl:=(PV.one hp).eM
 have jR:aM = #[.int .i64 n]:=by
  have hs:aM.size=1:=hsz
  apply Array.ext (by simpa using hs)
  intro i h1 h2
  have:i=0:=by simp at h2;omega
  subst this
  rw[Array.getElem?_eq_getElem h1]at hu
  injection hu
 subst jR
 refine(Tryd.strconv_Itoa n wB eI w hQ.here.TA).mono fun e w' fG=>?_
 obtain⟨rfl,k,os,rfl⟩:=fG
 exact⟨rfl,Lib.below_grow _ w (Nat.le_refl _) k os⟩
/-- A slice of strings,as its cells stand. -/
theorem YE{w:World}{B:Nat}{l:List ByteArray}{u:Value}(h:RV w B (fun _=>none) [] (.sl .str 0 false l) u):(l=[]/\∃ a c,u = .slice a 0 c)\/∃ b o c,u = .slice (some ⟨b,o,none⟩) l.length c/\l.length<=c/\b<w.heap.size/\∀ (j:Nat) x,l[j]?=some x->w.cell? ⟨b,o+j,none⟩=some (.string x):=by
 generalize hy:V.sl .str 0 false l=y at h
 cases h with
 | int=>cases hy
 | bool=>cases hy
 | str=>cases hy
 | nil=>cases hy
 | bg q t o'=>
  injection hy with e1 e2 e3 e4
  subst e1
  obtain rfl:=eq_of_heq e4
  exact .inl ⟨rfl,_,_,rfl⟩
 | bw q t o' A c ho=>
  injection hy with e1 e2 e3 e4
  subst e1
  obtain rfl:=eq_of_heq e4
  exact .inl ⟨rfl,_,_,rfl⟩
 | bI q t o' A c ho=>
  injection hy with e1 e2 e3 e4
  subst e1
  obtain rfl:=eq_of_heq e4
  exact .inl ⟨rfl,_,_,rfl⟩
 | av q t o' Gu l' b off cap uu ho hl U h1 hcap hc hr=>
  injection hy with e1 e2 e3 e4
  subst e1
  obtain rfl:=eq_of_heq e4
  refine .inr ⟨b,off,cap,rfl,hcap,U,fun j x hx=>?_⟩
  obtain⟨hj,rfl⟩:=List.getElem?_eq_some_iff.1 hx
  have h2:=hc j hj 0 (.str l[j]) rfl
  have h3:=hr j hj 0 (.str l[j]) rfl
  simp only[aj,Nat.mul_one,Nat.add_zero]at h2
  rw[h2,h3.js]
 | own q t o' Gu l' b cap cs uu hl hh iS hn hm hc hr=>
  cases hl
def kU(l:List ByteArray)(sep:ByteArray):Option ByteArray:=bif decide (l.length<=140737488355328)&&decide ((Lib.join (l.map (·.data.toList)) sep.data.toList).length<=140737488355328)then some ⟨(Lib.join (l.map (·.data.toList)) sep.data.toList).toArray⟩else none
theorem YF{l:List ByteArray}{sep:ByteArray}{y:ByteArray}(h:kU l sep=some y):l.length<=140737488355328/\(Lib.join (l.map (·.data.toList)) sep.data.toList).length<=140737488355328/\y=⟨(Lib.join (l.map (·.data.toList)) sep.data.toList).toArray⟩:=by
 unfold kU at h
 cases U:decide (l.length<=140737488355328)&&decide ((Lib.join (l.map (·.data.toList)) sep.data.toList).length<=140737488355328)with
 | false=>rw[U]at h;cases h
 | true=>
  rw[U,cond_true]at h
  injection h with h
  rw[Bool.and_eq_true,decide_eq_true_eq,decide_eq_true_eq]at U
  exact⟨U.1,U.2,h.symm⟩
def IS:cu:=cg [(false,(.sl .str)),(false,.str)] [(false,.str,0)] (fun x=>kU x.1 x.2.1)
theorem Ol:enters Tryd.prog 24/\cw Tryd.prog 24 IS:=by
 refine Oj ⟨_,Tryd.func24,by kernel_rfl,by kernel_rfl⟩ fun x y hy w aM hsz hv hQ=>?_
 obtain⟨l,sep,_⟩:=x
 obtain⟨wB,eI,rfl⟩:=YF (show kU l sep=some y from hy)
 obtain⟨u0,iX,kG⟩:=hv 0 _ rfl
 obtain⟨u1,n7,Bb⟩:=hv 1 _ rfl
 obtain rfl:=(PV.one Bb).js
 have jR:aM = #[u0,.string sep]:=by
  have hs:aM.size=2:=hsz
  apply Array.ext (by simpa using hs)
  intro i h1 h2
  have:i=0\/i=1:=by simp at h2;omega
  rcases this with rfl | rfl
  ·rw[Array.getElem?_eq_getElem h1]at iX
   injection iX
  ·rw[Array.getElem?_eq_getElem h1]at n7
   injection n7
 subst jR
 rcases YE (PV.one kG)with ⟨rfl,a,c,rfl⟩ | ⟨b,o,c,rfl,hcap,hbk,hcells⟩
 ·refine(Tryd.strings_Join_none a c sep w).mono fun e w' fG=>?_
  obtain⟨rfl,rfl⟩:=fG
  exact⟨rfl,Below.refl _ _⟩
 ·exact Tryd.strings_Join b o c l sep w hcells hbk wB hcap eI
end Go.Proofs.YtjldnlbiefpekaaDoor
