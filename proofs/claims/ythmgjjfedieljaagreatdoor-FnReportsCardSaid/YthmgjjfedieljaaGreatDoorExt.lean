/-
  Functions of Go's library by the kit's contracts, as contracts of contents: strconv.Itoa, strings.Join. Nothing here is a claim.
-/
import Derived.Test.YthmgjjfedieljaaGreatDoorVZ
import Derived.Test.YthmgjjfedieljaaGreatDoorShelf
import Derived.Lib.ItoaLen
namespace Go.Proofs.YthmgjjfedieljaaGreatDoor
set_option linter.defProp false
open Go.RowKit
set_option linter.unusedVariables false
set_option maxRecDepth 100000
/-- A contract of contents,from what the call does to typed arguments. -/
def Zf{P:Program}{f:Nat}{ai:List (Bool×TC)}{F:jd ai->Option ByteArray}(E:enters P f)
  (h:∀ x y,F x=some y->∀ (w:World) (bB:Array Value),bB.size=(fl ai x).length->(∀ (j:Nat) p,(fl ai x)[j]?=some p->∃ u,bB[j]?=some u/\PA w p u)->Hd w (λ_=>none)->
   Calls P f bB w λe w'=>e = .returned (.string y)/\Below w.heap.size w w'):enters P f/\iY P f (jI ai [(false,.str,0)] F):=by
 refine⟨E,Sh λx y I nm w bB D L=>(h x y I w bB D.1 D.2 L).mono λe w' O=>?_⟩
 obtain⟨rfl,hb⟩:=O
 refine⟨_,λ_=>none,rfl,hb,(λb k hb=>by cases hb),?_⟩
 show mz w' w.heap.size _ nm (.one (false,[.str y])) _
 refine⟨⟨rfl,#[.string y],rfl,rfl,λj x C=>?_⟩,trivial⟩
 rcases j with _|j
 ·simp at C;subst C;exact⟨_,rfl,.str _ _⟩
 ·simp at C
def PV.one{w:World}{x:V}{u:Value}(h:PA w (false,[x]) u):RV w w.heap.size (λ_=>none) [] x u:=by
 have h:=h.pv;obtain⟨us,e,F,D⟩:=h;have e:us = #[u]:=e;subst e;obtain⟨v,C,E⟩:=D 0 x rfl;simp at C;subst C;exact E
def Ap(n:Int):Option ByteArray:=bif decide (-9223372036854775808<=n)&&decide (n<=9223372036854775807)then some ⟨(Lib.itoa n).toArray⟩else none
def akX{n:Int}{y:ByteArray}(h:Ap n=some y):-9223372036854775808<=n/\n<=9223372036854775807/\y=⟨(Lib.itoa n).toArray⟩:=by
 unfold Ap at h;cases hb:decide (-9223372036854775808<=n)&&decide (n<=9223372036854775807)with
 |false=>rw[hb]at h;cases h
 | true=>
  rw[hb,cond_true]at h;injection h with h;rw[Bool.and_eq_true,decide_eq_true_eq,decide_eq_true_eq]at hb;exact⟨hb.1,hb.2,h.symm⟩
def Zg:ji:=jI [(false,.int)] [(false,.str,0)] (λx=>Ap x.1)
def akY:enters Tryz.prog 44/\iY Tryz.prog 44 Zg:=by
 refine Zf ⟨_,Tryz.func44,by kernel_rfl,by kernel_rfl⟩ λx y D w bB E F I=>?_
 obtain⟨n,_⟩:=x;obtain⟨L,O,rfl⟩:=akX (show Ap n=some y from D);obtain⟨u,C,T⟩:=F 0 _ rfl;obtain rfl:=(PV.one T).fS;have U:bB = #[.int .i64 n]:=by
  have Y:bB.size=1:=E;apply Array.ext (by simpa using Y);intro i Z h2;have:i=0:=by simp at h2;omega
  subst this;rw[Array.getElem?_eq_getElem Z]at C;injection C
 subst U
 refine(Tryz.strconv_Itoa n L O w I.here.tab).mono λe w' lS=>?_
 obtain⟨rfl,k,os,rfl⟩:=lS;exact⟨rfl,Lib.below_grow _ w (Nat.le_refl _) k os⟩
/-- A slice of strings,as its cells stand. -/
def akZ{w:World}{B:Nat}{l:List ByteArray}{u:Value}(h:RV w B (λ_=>none) [] (.sl .str 0 false l) u):(l=[]/\∃ a c,u = .slice a 0 c)\/∃ b o c,u = .slice (some ⟨b,o,none⟩) l.length c/\l.length<=c/\b<w.heap.size/\∀ (j:Nat) x,l[j]?=some x->w.cell? ⟨b,o+j,none⟩=some (.string x):=by
 generalize C:V.sl .str 0 false l=y at h;cases h with
 |int=>cases C
 |bool=>cases C
 |str=>cases C
 |nil=>cases C
 | dN q t F=>
  injection C with D I L E;subst D;obtain rfl:=eq_of_heq E;exact .inl ⟨rfl,_,_,rfl⟩
 | eX q t F A c O=>
  injection C with D I L E;subst D;obtain rfl:=eq_of_heq E;exact .inl ⟨rfl,_,_,rfl⟩
 | fB q t F A c O=>
  injection C with D I L E;subst D;obtain rfl:=eq_of_heq E;exact .inl ⟨rfl,_,_,rfl⟩
 | aF q t F Pr l' b off cap uu O hl hb h1 hcap T U=>
  injection C with D I L E;subst D;obtain rfl:=eq_of_heq E
  refine .inr ⟨b,off,cap,rfl,hcap,hb,λj x hx=>?_⟩
  obtain⟨Y,rfl⟩:=List.getElem?_eq_some_iff.1 hx;have Z:=T j Y 0 (.str l[j]) rfl;have h3:=U j Y 0 (.str l[j]) rfl;simp only[aA,Nat.mul_one,Nat.add_zero]at Z;rw[Z,h3.om]
 | own q t F Pr l' b cap cs uu hl hh nJ hn hm T U=>
  cases hl
def pW(l:List ByteArray)(C:ByteArray):Option ByteArray:=bif decide (l.length<=140737488355328)&&decide ((Lib.join (l.map (·.data.toList)) C.data.toList).length<=140737488355328)then some ⟨(Lib.join (l.map (·.data.toList)) C.data.toList).toArray⟩else none
def ak0{l:List ByteArray}{C y:ByteArray}(h:pW l C=some y):l.length<=140737488355328/\(Lib.join (l.map (·.data.toList)) C.data.toList).length<=140737488355328/\y=⟨(Lib.join (l.map (·.data.toList)) C.data.toList).toArray⟩:=by
 unfold pW at h;cases hb:decide (l.length<=140737488355328)&&decide ((Lib.join (l.map (·.data.toList)) C.data.toList).length<=140737488355328)with
 |false=>rw[hb]at h;cases h
 | true=>
  rw[hb,cond_true]at h;injection h with h;rw[Bool.and_eq_true,decide_eq_true_eq,decide_eq_true_eq]at hb;exact⟨hb.1,hb.2,h.symm⟩
def Ln:ji:=jI [(false,(.sl .str)),(false,.str)] [(false,.str,0)] (λx=>pW x.1 x.2.1)
def SB:enters Tryz.prog 23/\iY Tryz.prog 23 Ln:=by
 refine Zf ⟨_,Tryz.func23,by kernel_rfl,by kernel_rfl⟩ λx y L w bB O D hQ=>?_
 obtain⟨l,C,_⟩:=x;obtain⟨T,U,rfl⟩:=ak0 (show pW l C=some y from L);obtain⟨Y,E,Z⟩:=D 0 _ rfl;obtain⟨u1,F,Lo⟩:=D 1 _ rfl;obtain rfl:=(PV.one Lo).om;have va:bB = #[Y,.string C]:=by
  have hs:bB.size=2:=O;apply Array.ext (by simpa using hs);intro i I h2;have:i=0\/i=1:=by simp at h2;omega
  rcases this with rfl|rfl
  ·rw[Array.getElem?_eq_getElem I]at E;injection E
  ·rw[Array.getElem?_eq_getElem I]at F;injection F
 subst va;rcases akZ (PV.one Z)with ⟨rfl,a,c,rfl⟩|⟨b,o,c,rfl,hcap,hbk,hcells⟩
 ·refine(Tryz.strings_Join_none a c C w).mono λe w' lS=>?_
  obtain⟨rfl,rfl⟩:=lS;exact⟨rfl,Below.refl _ _⟩
 ·exact Tryz.strings_Join b o c l C w hcells hbk T hcap U
end Go.Proofs.YthmgjjfedieljaaGreatDoor
