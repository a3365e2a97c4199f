/-
  What is known of an argument that can be read as data, by contents. The block of howto/extra-structs.md (section 1) is laid ahead. Nothing here is a claim.
-/
import Derived.Test.YtnilicojgkhpnaaGreatVZ
import Derived.Test.YtnilicojgkhpnaaGreatOpen
import Derived.Deep.Slices
import Derived.Deep.Fields
import Derived.ChangeSame
namespace Go.Proofs.YtnilicojgkhpnaaGreat
set_option linter.defProp false
open Go.ChangeShapes Go.WideShapes Go.ChangeAt Go.RowKit Go.Deep
set_option linter.unusedVariables false
set_option maxRecDepth 100000
section
variable {H:Type} {enc:TypeId×Value->H} {P:Program} {w:World} {base:Nat} {spare:Nat->Bool} {held:Bool}
end
def cx(x:Int):Prop:=-9223372036854775808<=x/\x<=9223372036854775807
def arp{n:Int}(h:(Lit.int .i64 n).wf=true):cx n:=by
 have:=bounds_i64 h;unfold cx;omega
def arq{t:TC}{I:T t->Prop}{w:World}{a:Addr}{len cap m B:Nat}(hl:len<=cap)(hm:len<=m)(aHa:cap<=maxLen)
  (E:∀i,i<m->∃e:T t,I e/\∀(j:Nat) x,(enc t 0 e)[j]?=some x->∃u,w.cell? (a.add (i*aD t+j))=some u/\∀q,RV w B (λ_=>none) q x u):∃l:aa (T t),l.length<=maxLen/\(∀x∈l,I x)/\RV w B (λ_=>none) [] (.sl t 0 false l) (.slice (some a) len cap):=by
 by_cases h0:len=0
 ·subst h0;exact⟨[],by simp,by simp,.fA _ _ _ _ _ (by omega)⟩
 ·obtain⟨e0,_⟩:=E 0 (by omega);obtain⟨F,L⟩:∃ F:Nat->T t,∀ i,i<m->I (F i)/\∀ (j:Nat) x,(enc t 0 (F i))[j]?=some x->∃ u,w.cell? (a.add (i*aD t+j))=some u/\∀ q,RV w B (λ_=>none) q x u:=by
   refine⟨λi=>if h:i<m then (E i h).choose else e0,λi h=>?_⟩
   simp only[h,az];exact(E i h).choose_spec
  clear E;have xb:=oA t;obtain⟨x0,Xc⟩:=Bh t 0 (F 0) 0 xb;obtain⟨u0,D,_⟩:=(L 0 (by omega)).2 0 x0 Xc;obtain⟨b,off,spot⟩:=a;have uZ:spot=none:=by
   cases spot with
   |none=>rfl
   | some s=>
    unfold World.cell? at D;split at D
    ·simp[Addr.add]at D
    ·cases D
  subst uZ;have O:∀n,Addr.add ⟨b,off,none⟩ n=⟨b,off+n,none⟩:=λn=>by simp[Addr.add]
  have hb:b<w.heap.size:=by rw[O]at D;exact World.block_lt_of_cell? w _ D
  obtain⟨U,Y⟩:∃ U:Nat->Nat->Value,∀ i,i<m->∀ (j:Nat) x,(enc t 0 (F i))[j]?=some x->w.cell? ⟨b,off+(i*aD t+j),none⟩=some (U i j)/\∀ q,RV w B (λ_=>none) q x (U i j):=by
   refine⟨λi j=>(w.cell? ⟨b,off+(i*aD t+j),none⟩).getD undef,λi h j x C=>?_⟩
   obtain⟨u,Z,h2⟩:=(L i h).2 j x C;rw[O]at Z;simp only[Z,Option.getD_some];exact⟨trivial,h2⟩
  refine⟨(List.range len).map F,by simp;omega,λx C=>?_,?_⟩
  ·obtain⟨i,hi,rfl⟩:=List.mem_map.1 C;exact(L i (by have:=gk.1 hi;omega)).1
  ·have hlen:((List.range len).map F).length=len:=by simp
   have:=RV.aF (w:=w) (B:=B) (aj:=λ_=>none) [] t 0 false ((List.range len).map F) b off cap U (by omega) rfl hb (by omega) (by simp;omega)
    (λi h j x C=>(Y i (by rw[hlen]at h;omega) j x (by simpa using C)).1) (λi h j x C=>(Y i (by rw[hlen]at h;omega) j x (by simpa using C)).2 _)
   rw[hlen]at this;exact this
def ars{P:Program}{f:Nat}{c:iK}{args:aa Pt}{bY:Array Value}{w:World}(h:enters P f/\ig P f c)(D:c.run fR args some=some (.one (false,[.bool true])))(E:oO w args bY)(L:Hd w (λ_=>none):=by first | exact ans _ _ | assumption):
  Calls P f bY w λe w'=>e = .returned (.bool true)/\Below w.heap.size w w':=by
 refine(h.2.2 args _ D (λn=>n) w bY E L).mono λe w'=>?_
 rintro⟨v,aA,rfl,hB,_,⟨⟨_,us,C,Y,O⟩,_⟩⟩;refine⟨?_,hB⟩;obtain⟨u,T,U⟩:=O 0 _ rfl;have C:us = #[v]:=C;subst C;have:v=u:=by simpa using T
 subst this;cases U;rfl
def art{ai:aa (Bool×TC)}{ro:aa (Bool×TC×Nat)}{F:kC ai->ah (iC ro)}{X:Type}{args:aa Pt}{k:fR->ah X}{x:kC ai}{y:iC ro}(C:xJ ai args=some x)(D:F x=some y):(gQ ai ro F).run X args k=k (fm ro y):=by
 simp only[gQ,C,D]
def bN(w:World)(B:Nat)(C:aa V)(cs:aa Value):Prop:=cs.length=C.length/\∀(j:Nat) v,C[j]?=some v->∃u,cs[j]?=some u/\∀q,RV w B (λ_=>none) q v u
def bN.nil{w:World}{B:Nat}:bN w B [] []:=⟨rfl,λj v h=>by simp at h⟩
def bN.append{w:World}{B:Nat}{D E:aa V}{cs eA:aa Value}(h:bN w B D cs)(L:bN w B E eA):bN w B (D++E) (cs++eA):=by
 refine⟨by simp[h.1,L.1],λj v C=>?_⟩
 rcases Nat.lt_or_ge j D.length with hj|hj
 ·rw[List.getElem?_append_left hj]at C;rw[List.getElem?_append_left (by rw[h.1];exact hj)];exact h.2 j v C
 ·rw[List.getElem?_append_right hj]at C;rw[List.getElem?_append_right (by rw[h.1];exact hj),h.1];exact L.2 _ v C
section
variable {H:Type} {cW:TypeId×Value->H} {P:Program} {w:World}
def aX(cW:TypeId×Value->H)(P:Program)(w:World)(ty:TypeId)(t:TC)(I:T t->Prop):Prop:=
 ∀n cs x,DataW.trod cW P w 0 (λ_=>true) true n ty cs=some x->∃y:T t,I y/\bN w w.heap.size (enc t 0 y) cs
def aX.int{ty:TypeId}(h:P.underlying ty=some (.int .i64)):aX cW P w ty .int cx:=λn cs x D=>by
 obtain⟨m,e,_,z⟩:=DataW.trod_int h D;cases e
 refine⟨m,arp z,rfl,λj v C=>?_⟩
 rcases j with _|j
 ·cases C;exact⟨_,rfl,λq=>.int _ _ _⟩
 ·cases C
def aX.bool{ty:TypeId}(h:P.underlying ty=some .bool):aX cW P w ty .bool λ_=>True:=λn cs x D=>by
 obtain⟨m,e,_⟩:=DataW.trod_bool h D;cases e
 refine⟨m,trivial,rfl,λj v C=>?_⟩
 rcases j with _|j
 ·cases C;exact⟨_,rfl,λq=>.bool _ _⟩
 ·cases C
def aX.sl{ty e:TypeId}{t:TC}{I:T t->Prop}(h:P.underlying ty=some (.slice e))(U:P.cellsOf e=aD t)(Y:aX cW P w e t I):aX cW P w ty (.sl t) λ(l:aa (T t))=>l.length<=maxLen/\∀ x∈l,I x:=λn cs x Z=>by
 rcases open_slice h Z with ⟨rfl,_⟩|⟨a,len,cap,m,n',D,Pl,rfl,hb,hl,hm,hmm,_,hi⟩
 ·refine⟨([]:aa (T t)),⟨by simp,by simp⟩,rfl,λj v C=>?_⟩
  rcases j with _|j
  ·cases C;exact⟨_,rfl,λq=>.ep _ _ _⟩
  ·cases C
 ·have E:∀ i,i<m->∃ e:T t,I e/\∀ (j:Nat) x,(enc t 0 e)[j]?=some x->∃ u,w.cell? (a.add (i*aD t+j))=some u/\∀ q,RV w w.heap.size (λ_=>none) q x u:=λi him=>by
   obtain⟨eA,L,ht⟩:=hi i him;rw[U]at L;obtain⟨y,hI,h1,h2⟩:=Y _ _ _ ht;obtain⟨_,vh,OO⟩:=World.cells?_some L
   refine⟨y,hI,λj v C=>?_⟩
   obtain⟨u,O,E⟩:=h2 j v C;have hj:j<aD t:=by
    have:=(dQ.1 O).1;omega
   have jl:=OO j hj;refine⟨u,?_,E⟩;rw[<-Go.Deep.add_add,jl,O]
  obtain⟨l,l1,l2,l3⟩:=arq (t:=t) (I:=I) hl (by rw[hmm];split<;>omega) hm E
  refine⟨l,⟨l1,l2⟩,rfl,λj v C=>?_⟩
  rcases j with _|j
  ·cases C;exact⟨_,rfl,λq=>l3.key rfl⟩
  ·cases C
def aX.part{ty:TypeId}{C:Array Field}{cs:aa Value}{x:DataW H×aa MemPlace}{n:Nat}(h:P.underlying ty=some (.struct C))(L:DataW.trod cW P w 0 (λ_=>true) true n ty cs=some x){i:Nat}{f:Field}(D:C[i]?=some f){t:TC}{I:T t->Prop}(hi:aX cW P w f.type t I){off k:Nat}(O:f.offset=off)(U:P.cellsOf f.type=k):∃ y:T t,I y/\bN w w.heap.size (enc t 0 y) ((cs.drop off).take k):=by
 obtain⟨xs,n',_,_,_,Y,Z⟩:=DataW.trod_struct h L;have E:=Z i f D;have rZ:i<xs.length:=by rw[Y];exact(iH.1 D).1
 rw[bZ rZ,O,U]at E;exact hi _ _ _ E
def aX.len{ty:TypeId}{C:Array Field}{cs:aa Value}{x:DataW H×aa MemPlace}{n:Nat}(h:P.underlying ty=some (.struct C))(D:DataW.trod cW P w 0 (λ_=>true) true n ty cs=some x):cs.length=P.cellsOf ty:=by
 obtain⟨_,_,_,_,E,_⟩:=DataW.trod_struct h D;exact E
end
def Xn(t:TC)(I:T t->Prop)(w:World)(v:Value):Prop:=∃y:T t,I y/\∃us:Array Value,v = .agg us/\bN w w.heap.size (enc t 0 y) us.toList
def aru{H:Type}{cW:TypeId×Value->H}{P:Program}{w:World}{ty:TypeId}{C:Array Field}{t:TC}{I:T t->Prop}(D:aX cW P w ty t I)(E:P.underlying ty=some (.struct C)){base:Nat}{v:Value}{d:DataW H}{p:aa MemPlace}
  (L:Value.okWide P w .any base ty v) (h:DataW.Trod cW P w 0 (λ_=>true) true ty v d p):Xn t I w v:=by
 obtain⟨us,rfl,_⟩:=okWide_struct E L;obtain⟨fuel,O⟩:=h;obtain⟨y,U,Y⟩:=D _ _ _ O;exact⟨y,U,us,rfl,Y⟩
def arv{w:World}{C:aa V}{us:Array Value}(h:bN w w.heap.size C us.toList):oO w [(true,C)] #[.agg us]:=by
 refine⟨rfl,λi p D=>?_⟩
 rcases i with _|i
 ·cases D
  refine⟨_,rfl,.v _ _ ⟨us,rfl,by simpa using h.1,λj x E=>?_⟩⟩
  obtain⟨u,L,O⟩:=h.2 j x E;exact⟨u,by simpa using L,O _⟩
 ·cases D
end Go.Proofs.YtnilicojgkhpnaaGreat
