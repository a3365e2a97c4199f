/-
  Functions of Go's library by the kit's contracts, as contracts of contents: strconv.Itoa, strings.Join. Nothing here is a claim.
-/
import Derived.Test.YtmffpkippmkjbaaGreatDoorVZ
import Derived.Test.YtmffpkippmkjbaaGreatDoorShelf
import Derived.Lib.ItoaLen
namespace Go.Proofs.YtmffpkippmkjbaaGreatDoor
open Go.RowKit
set_option linter.unusedVariables false
set_option maxRecDepth 100000
/-- A contract of contents,from what the call does to typed arguments. -/
theorem S5{P:Program}{f:Nat}{ai:List (Bool×TC)}{F:k8 ai->Option ByteArray}(he:enters P f)
  (h:∀ x y,F x=some y->∀ (w:World) (aT:Array Value),aT.size=(fH ai x).length->(∀ (j:Nat) p,(fH ai x)[j]?=some p->∃ u,aT[j]?=some u/\PA w p u)->Hd w (fun _=>none)->
   Calls P f aT w fun e w'=>e = .returned (.string y)/\Below w.heap.size w w'):enters P f/\aG P f (aH ai [(false,.str,0)] F):=by
 refine⟨he,fun X args k r hr=>?_⟩
 simp only[aH]at hr
 split at hr
 ·rename_i x hx
  split at hr
  ·rename_i y hy
   refine⟨_,hr,fun X' k'=>by simp only[aH,hx,hy],fun nm w aT eW hQ=>?_⟩
   obtain⟨k1,k2⟩:=Cl ai args x hx
   refine(h x y hy w aT (by rw[k1,eW.1]) (fun j p hp=>?_) hQ).mono fun e w' kC=>?_
   ·obtain⟨q,hq,mS,oC⟩:=k2 j p hp
    obtain⟨u,hu,pn⟩:=eW.2 j q hq
    refine⟨u,hu,?_⟩
    obtain⟨b,ys⟩:=p
    obtain⟨b',xs⟩:=q
    simp only at mS
    subst mS
    exact pn.pR oC
   ·obtain⟨rfl,hb⟩:=kC
    refine⟨_,fun _=>none,rfl,hb,(fun b k hb=>by cases hb),?_⟩
    show mP w' w.heap.size _ nm (.one (false,[.str y])) _
    refine⟨⟨rfl,#[.string y],rfl,rfl,fun j x hx=>?_⟩,trivial⟩
    rcases j with _ | j
    ·simp at hx;subst hx;exact⟨_,rfl,.str _ _⟩
    ·simp at hx
  ·cases hr
 ·cases hr
theorem PV.one{w:World}{x:V}{u:Value}(h:PA w (false,[x]) u):RV w w.heap.size (fun _=>none) [] x u:=by
 have h:=h.pv
 obtain⟨us,e,hs,hv⟩:=h
 have e:us = #[u]:=e
 subst e
 obtain⟨v,h1,h2⟩:=hv 0 x rfl
 simp at h1
 subst h1
 exact h2
def wW(n:Int):Option ByteArray:=bif decide (-9223372036854775808<=n)&&decide (n<=9223372036854775807)then some ⟨(Lib.itoa n).toArray⟩else none
theorem afA{n:Int}{y:ByteArray}(h:wW n=some y):-9223372036854775808<=n/\n<=9223372036854775807/\y=⟨(Lib.itoa n).toArray⟩:=by
 unfold wW at h
 cases hb:decide (-9223372036854775808<=n)&&decide (n<=9223372036854775807)with
 | false=>rw[hb]at h;cases h
 | true=>
  rw[hb,cond_true]at h
  injection h with h
  rw[Bool.and_eq_true,decide_eq_true_eq,decide_eq_true_eq]at hb
  exact⟨hb.1,hb.2,h.symm⟩
def S6:aI:=aH [(false,.int)] [(false,.str,0)] (fun x=>wW x.1)
theorem afB:enters Tryz.prog 135/\aG Tryz.prog 135 S6:=by
 refine S5 ⟨_,Tryz.func135,by kernel_rfl,by kernel_rfl⟩ fun x y hy w aT hsz hv hQ=>?_
 obtain⟨n,_⟩:=x
 obtain⟨yG,eK,rfl⟩:=afA (show wW n=some y from hy)
 obtain⟨u,hu,hp⟩:=hv 0 _ rfl
 obtain rfl:=(PV.one hp).gk
 have o8:aT = #[.int .i64 n]:=by
  have hs:aT.size=1:=hsz
  apply Array.ext (by simpa using hs)
  intro i h1 h2
  have:i=0:=by simp at h2;omega
  subst this
  rw[Array.getElem?_eq_getElem h1]at hu
  injection hu
 subst o8
 refine(Tryz.strconv_Itoa n yG eK w hQ.here.tab).mono fun e w' kC=>?_
 obtain⟨rfl,k,os,rfl⟩:=kC
 exact⟨rfl,Lib.below_grow _ w (Nat.le_refl _) k os⟩
/-- A slice of strings,as its cells stand. -/
theorem afC{w:World}{B:Nat}{l:List ByteArray}{u:Value}(h:RV w B (fun _=>none) [] (.sl .str 0 false l) u):(l=[]/\∃ a c,u = .slice a 0 c)\/∃ b o c,u = .slice (some ⟨b,o,none⟩) l.length c/\l.length<=c/\b<w.heap.size/\∀ (j:Nat) x,l[j]?=some x->w.cell? ⟨b,o+j,none⟩=some (.string x):=by
 generalize hy:V.sl .str 0 false l=y at h
 cases h with
 | int=>cases hy
 | bool=>cases hy
 | str=>cases hy
 | nil=>cases hy
 | bO q t o'=>
  injection hy with e1 e2 e3 e4
  subst e1
  obtain rfl:=eq_of_heq e4
  exact .inl ⟨rfl,_,_,rfl⟩
 | bY q t o' A c ho=>
  injection hy with e1 e2 e3 e4
  subst e1
  obtain rfl:=eq_of_heq e4
  exact .inl ⟨rfl,_,_,rfl⟩
 | cy q t o' A c ho=>
  injection hy with e1 e2 e3 e4
  subst e1
  obtain rfl:=eq_of_heq e4
  exact .inl ⟨rfl,_,_,rfl⟩
 | ah q t o' Kv l' b off cap uu ho hl hb h1 hcap hc hr=>
  injection hy with e1 e2 e3 e4
  subst e1
  obtain rfl:=eq_of_heq e4
  refine .inr ⟨b,off,cap,rfl,hcap,hb,fun j x hx=>?_⟩
  obtain⟨hj,rfl⟩:=List.getElem?_eq_some_iff.1 hx
  have h2:=hc j hj 0 (.str l[j]) rfl
  have h3:=hr j hj 0 (.str l[j]) rfl
  simp only[aq,Nat.mul_one,Nat.add_zero]at h2
  rw[h2,h3.nE]
 | own q t o' Kv l' b cap cs uu hl hh kj hn hm hc hr=>
  cases hl
def n5(l:List ByteArray)(sep:ByteArray):Option ByteArray:=bif decide (l.length<=140737488355328)&&decide ((Lib.join (l.map (·.data.toList)) sep.data.toList).length<=140737488355328)then some ⟨(Lib.join (l.map (·.data.toList)) sep.data.toList).toArray⟩else none
theorem afD{l:List ByteArray}{sep:ByteArray}{y:ByteArray}(h:n5 l sep=some y):l.length<=140737488355328/\(Lib.join (l.map (·.data.toList)) sep.data.toList).length<=140737488355328/\y=⟨(Lib.join (l.map (·.data.toList)) sep.data.toList).toArray⟩:=by
 unfold n5 at h
 cases hb:decide (l.length<=140737488355328)&&decide ((Lib.join (l.map (·.data.toList)) sep.data.toList).length<=140737488355328)with
 | false=>rw[hb]at h;cases h
 | true=>
  rw[hb,cond_true]at h
  injection h with h
  rw[Bool.and_eq_true,decide_eq_true_eq,decide_eq_true_eq]at hb
  exact⟨hb.1,hb.2,h.symm⟩
def GA:aI:=aH [(false,(.sl .str)),(false,.str)] [(false,.str,0)] (fun x=>n5 x.1 x.2.1)
theorem MN:enters Tryz.prog 136/\aG Tryz.prog 136 GA:=by
 refine S5 ⟨_,Tryz.func136,by kernel_rfl,by kernel_rfl⟩ fun x y hy w aT hsz hv hQ=>?_
 obtain⟨l,sep,_⟩:=x
 obtain⟨yG,eK,rfl⟩:=afD (show n5 l sep=some y from hy)
 obtain⟨u0,jF,uo⟩:=hv 0 _ rfl
 obtain⟨u1,Fa,hp1⟩:=hv 1 _ rfl
 obtain rfl:=(PV.one hp1).nE
 have o8:aT = #[u0,.string sep]:=by
  have hs:aT.size=2:=hsz
  apply Array.ext (by simpa using hs)
  intro i h1 h2
  have:i=0\/i=1:=by simp at h2;omega
  rcases this with rfl | rfl
  ·rw[Array.getElem?_eq_getElem h1]at jF
   injection jF
  ·rw[Array.getElem?_eq_getElem h1]at Fa
   injection Fa
 subst o8
 rcases afC (PV.one uo)with ⟨rfl,a,c,rfl⟩ | ⟨b,o,c,rfl,hcap,hbk,hcells⟩
 ·refine(Tryz.strings_Join_none a c sep w).mono fun e w' kC=>?_
  obtain⟨rfl,rfl⟩:=kC
  exact⟨rfl,Below.refl _ _⟩
 ·exact Tryz.strings_Join b o c l sep w hcells hbk yG hcap eK
end Go.Proofs.YtmffpkippmkjbaaGreatDoor
