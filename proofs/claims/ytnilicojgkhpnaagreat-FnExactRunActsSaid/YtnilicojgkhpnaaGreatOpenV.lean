/-
  What is known of an argument that can be read as data, by contents. The block of howto/extra-structs.md (section 1) is laid ahead. Nothing here is a claim.
-/
import Derived.Test.YtnilicojgkhpnaaGreatVZ
import Derived.Test.YtnilicojgkhpnaaGreatOpen
import Derived.Deep.Slices
import Derived.Deep.Fields
import Derived.ChangeSame
namespace Go.Proofs.YtnilicojgkhpnaaGreat
set_option linter.defProp false
open Go.ChangeShapes Go.WideShapes Go.ChangeAt Go.RowKit Go.Deep
set_option linter.unusedVariables false
set_option maxRecDepth 100000
section
variable {H:Type} {enc:TypeId×Value->H} {P:Program} {w:World} {base:Nat} {spare:Nat->Bool} {held:Bool}
end
def YH(t:TC)(I:T t->Prop)(w:World)(v:Value):Prop:=∃l:aa (T t),l.length<=maxLen/\(∀x∈l,I x)/\RV w w.heap.size (λ_=>none) [] (.sl t 0 false l) v
def eF(x:Int):Prop:=-9223372036854775808<=x/\x<=9223372036854775807
def as6{n:Int}(h:(Lit.int .i64 n).wf=true):eF n:=by
 have:=bounds_i64 h;unfold eF;omega
def as7{t:TC}{I:T t->Prop}{w:World}{a:Addr}{len cap m B:Nat}(hl:len<=cap)(hm:len<=m)(aIH:cap<=maxLen)
  (E:∀i,i<m->∃e:T t,I e/\∀(j:Nat) x,(enc t 0 e)[j]?=some x->∃u,w.cell? (a.add (i*aE t+j))=some u/\∀q,RV w B (λ_=>none) q x u):∃l:aa (T t),l.length<=maxLen/\(∀x∈l,I x)/\RV w B (λ_=>none) [] (.sl t 0 false l) (.slice (some a) len cap):=by
 by_cases h0:len=0
 ·subst h0;exact⟨[],by simp,by simp,.gd _ _ _ _ _ (by omega)⟩
 ·obtain⟨e0,_⟩:=E 0 (by omega);obtain⟨F,L⟩:∃ F:Nat->T t,∀ i,i<m->I (F i)/\∀ (j:Nat) x,(enc t 0 (F i))[j]?=some x->∃ u,w.cell? (a.add (i*aE t+j))=some u/\∀ q,RV w B (λ_=>none) q x u:=by
   refine⟨λi=>if h:i<m then (E i h).choose else e0,λi h=>?_⟩
   simp only[h,aA];exact(E i h).choose_spec
  clear E;have x4:=pQ t;obtain⟨x0,Yw⟩:=Cx t 0 (F 0) 0 x4;obtain⟨u0,D,_⟩:=(L 0 (by omega)).2 0 x0 Yw;obtain⟨b,off,spot⟩:=a;have vS:spot=none:=by
   cases spot with
   |none=>rfl
   | some s=>
    unfold World.cell? at D;split at D
    ·simp[Addr.add]at D
    ·cases D
  subst vS;have O:∀n,Addr.add ⟨b,off,none⟩ n=⟨b,off+n,none⟩:=λn=>by simp[Addr.add]
  have hb:b<w.heap.size:=by rw[O]at D;exact World.block_lt_of_cell? w _ D
  obtain⟨U,Y⟩:∃ U:Nat->Nat->Value,∀ i,i<m->∀ (j:Nat) x,(enc t 0 (F i))[j]?=some x->w.cell? ⟨b,off+(i*aE t+j),none⟩=some (U i j)/\∀ q,RV w B (λ_=>none) q x (U i j):=by
   refine⟨λi j=>(w.cell? ⟨b,off+(i*aE t+j),none⟩).getD undef,λi h j x C=>?_⟩
   obtain⟨u,Z,h2⟩:=(L i h).2 j x C;rw[O]at Z;simp only[Z,Option.getD_some];exact⟨trivial,h2⟩
  refine⟨(List.range len).map F,by simp;omega,λx C=>?_,?_⟩
  ·obtain⟨i,hi,rfl⟩:=List.mem_map.1 C;exact(L i (by have:=fI.1 hi;omega)).1
  ·have hlen:((List.range len).map F).length=len:=by simp
   have:=RV.aF (w:=w) (B:=B) (aj:=λ_=>none) [] t 0 false ((List.range len).map F) b off cap U (by omega) rfl hb (by omega) (by simp;omega)
    (λi h j x C=>(Y i (by rw[hlen]at h;omega) j x (by simpa using C)).1) (λi h j x C=>(Y i (by rw[hlen]at h;omega) j x (by simpa using C)).2 _)
   rw[hlen]at this;exact this
def as8{P:Program}{f:Nat}{c:jl}{args:aa Pt}{bX:Array Value}{w:World}(h:enters P f/\iR P f c)(D:c.run gC args some=some (.one (false,[.bool true])))(E:qc w args bX)(L:Hd w (λ_=>none):=by first | exact ao3 _ _ | assumption):
  Calls P f bX w λe w'=>e = .returned (.bool true)/\Below w.heap.size w w':=by
 refine(h.2.2 args _ D (λn=>n) w bX E L).mono λe w'=>?_
 rintro⟨v,aD,rfl,hB,_,⟨⟨_,us,C,Y,O⟩,_⟩⟩;refine⟨?_,hB⟩;obtain⟨u,T,U⟩:=O 0 _ rfl;have C:us = #[v]:=C;subst C;have:v=u:=by simpa using T
 subst this;cases U;rfl
def as9{ai:aa (Bool×TC)}{ro:aa (Bool×TC×Nat)}{F:lK ai->ah (ja ro)}{X:Type}{args:aa Pt}{k:gC->ah X}{x:lK ai}{y:ja ro}(C:yB ai args=some x)(D:F x=some y):(gW ai ro F).run X args k=k (fV ro y):=by
 simp only[gW,C,D]
def cY(w:World)(B:Nat)(C:aa V)(cs:aa Value):Prop:=cs.length=C.length/\∀(j:Nat) v,C[j]?=some v->∃u,cs[j]?=some u/\∀q,RV w B (λ_=>none) q v u
def cY.nil{w:World}{B:Nat}:cY w B [] []:=⟨rfl,λj v h=>by simp at h⟩
def cY.append{w:World}{B:Nat}{D E:aa V}{cs fe:aa Value}(h:cY w B D cs)(L:cY w B E fe):cY w B (D++E) (cs++fe):=by
 refine⟨by simp[h.1,L.1],λj v C=>?_⟩
 rcases Nat.lt_or_ge j D.length with hj|hj
 ·rw[List.getElem?_append_left hj]at C;rw[List.getElem?_append_left (by rw[h.1];exact hj)];exact h.2 j v C
 ·rw[List.getElem?_append_right hj]at C;rw[List.getElem?_append_right (by rw[h.1];exact hj),h.1];exact L.2 _ v C
section
variable {H:Type} {fF:TypeId×Value->H} {P:Program} {w:World}
def cy(fF:TypeId×Value->H)(P:Program)(w:World)(ty:TypeId)(t:TC)(I:T t->Prop):Prop:=
 ∀n cs x,DataW.trod fF P w 0 (λ_=>true) true n ty cs=some x->∃y:T t,I y/\cY w w.heap.size (enc t 0 y) cs
def cy.int{ty:TypeId}(h:P.underlying ty=some (.int .i64)):cy fF P w ty .int eF:=λn cs x D=>by
 obtain⟨m,e,_,z⟩:=DataW.trod_int h D;cases e
 refine⟨m,as6 z,rfl,λj v C=>?_⟩
 rcases j with _|j
 ·cases C;exact⟨_,rfl,λq=>.int _ _ _⟩
 ·cases C
def cy.bool{ty:TypeId}(h:P.underlying ty=some .bool):cy fF P w ty .bool λ_=>True:=λn cs x D=>by
 obtain⟨m,e,_⟩:=DataW.trod_bool h D;cases e
 refine⟨m,trivial,rfl,λj v C=>?_⟩
 rcases j with _|j
 ·cases C;exact⟨_,rfl,λq=>.bool _ _⟩
 ·cases C
def cy.sl{ty e:TypeId}{t:TC}{I:T t->Prop}(h:P.underlying ty=some (.slice e))(U:P.cellsOf e=aE t)(Y:cy fF P w e t I):cy fF P w ty (.sl t) λ(l:aa (T t))=>l.length<=maxLen/\∀ x∈l,I x:=λn cs x Z=>by
 rcases open_slice h Z with ⟨rfl,_⟩|⟨a,len,cap,m,n',D,Pl,rfl,hb,hl,hm,hmm,_,hi⟩
 ·refine⟨([]:aa (T t)),⟨by simp,by simp⟩,rfl,λj v C=>?_⟩
  rcases j with _|j
  ·cases C;exact⟨_,rfl,λq=>.eU _ _ _⟩
  ·cases C
 ·have E:∀ i,i<m->∃ e:T t,I e/\∀ (j:Nat) x,(enc t 0 e)[j]?=some x->∃ u,w.cell? (a.add (i*aE t+j))=some u/\∀ q,RV w w.heap.size (λ_=>none) q x u:=λi him=>by
   obtain⟨fe,L,ht⟩:=hi i him;rw[U]at L;obtain⟨y,hI,h1,h2⟩:=Y _ _ _ ht;obtain⟨_,vZ,Dm⟩:=World.cells?_some L
   refine⟨y,hI,λj v C=>?_⟩
   obtain⟨u,O,E⟩:=h2 j v C;have hj:j<aE t:=by
    have:=(eo.1 O).1;omega
   have jO:=Dm j hj;refine⟨u,?_,E⟩;rw[<-Go.Deep.add_add,jO,O]
  obtain⟨l,l1,l2,l3⟩:=as7 (t:=t) (I:=I) hl (by rw[hmm];split<;>omega) hm E
  refine⟨l,⟨l1,l2⟩,rfl,λj v C=>?_⟩
  rcases j with _|j
  ·cases C;exact⟨_,rfl,λq=>l3.key rfl⟩
  ·cases C
def cy.part{ty:TypeId}{C:Array Field}{cs:aa Value}{x:DataW H×aa MemPlace}{n:Nat}(h:P.underlying ty=some (.struct C))(L:DataW.trod fF P w 0 (λ_=>true) true n ty cs=some x){i:Nat}{f:Field}(D:C[i]?=some f){t:TC}{I:T t->Prop}(hi:cy fF P w f.type t I){off k:Nat}(O:f.offset=off)(U:P.cellsOf f.type=k):∃ y:T t,I y/\cY w w.heap.size (enc t 0 y) ((cs.drop off).take k):=by
 obtain⟨xs,n',_,_,_,Y,Z⟩:=DataW.trod_struct h L;have E:=Z i f D;have th:i<xs.length:=by rw[Y];exact(jj.1 D).1
 rw[bY th,O,U]at E;exact hi _ _ _ E
def cy.len{ty:TypeId}{C:Array Field}{cs:aa Value}{x:DataW H×aa MemPlace}{n:Nat}(h:P.underlying ty=some (.struct C))(D:DataW.trod fF P w 0 (λ_=>true) true n ty cs=some x):cs.length=P.cellsOf ty:=by
 obtain⟨_,_,_,_,E,_⟩:=DataW.trod_struct h D;exact E
end
def Kb(t:TC)(I:T t->Prop)(w:World)(v:Value):Prop:=∃y:T t,I y/\∃us:Array Value,v = .agg us/\cY w w.heap.size (enc t 0 y) us.toList
def afw{H:Type}{fF:TypeId×Value->H}{P:Program}{w:World}{ty:TypeId}{C:Array Field}{t:TC}{I:T t->Prop}(D:cy fF P w ty t I)(E:P.underlying ty=some (.struct C)){base:Nat}{v:Value}{d:DataW H}{p:aa MemPlace}
  (L:Value.okWide P w .any base ty v) (h:DataW.Trod fF P w 0 (λ_=>true) true ty v d p):Kb t I w v:=by
 obtain⟨us,rfl,_⟩:=okWide_struct E L;obtain⟨fuel,O⟩:=h;obtain⟨y,U,Y⟩:=D _ _ _ O;exact⟨y,U,us,rfl,Y⟩
def ata{H:Type}{fF:TypeId×Value->H}{P:Program}{w:World}{ty e:TypeId}{t:TC}{I:T t->Prop}(h:P.underlying ty=some (.slice e))(U:P.cellsOf e=aE t)(Y:cy fF P w e t I){base:Nat}{v:Value}{d:DataW H}{p:aa MemPlace}
  (Z:Value.okWide P w .any base ty v) (ht:DataW.Trod fF P w 0 (λ_=>true) true ty v d p):YH t I w v:=by
 obtain⟨D,E,L,rfl⟩:=okWide_slice h Z;obtain⟨fuel,hf⟩:=ht;obtain⟨y,O,h1,h2⟩:=cy.sl h U Y _ _ _ hf;obtain⟨u,C,hr⟩:=h2 0 _ rfl;have C:u = .slice D E L:=by
  have:(Value.slice D E L).cells[0]?=some u:=by simpa using C
  simpa [Value.cells]using this.symm
 subst C;exact⟨y,O.1,O.2,hr []⟩
end Go.Proofs.YtnilicojgkhpnaaGreat
