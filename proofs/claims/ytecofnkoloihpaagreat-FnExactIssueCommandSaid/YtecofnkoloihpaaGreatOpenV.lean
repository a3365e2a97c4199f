/-
  What is known of an argument that can be read as data, by contents. The block of howto/extra-structs.md (section 1) is laid ahead. Nothing here is a claim.
-/
import Derived.Test.YtecofnkoloihpaaGreatVZ
import Derived.Test.YtecofnkoloihpaaGreatOpen
import Derived.Deep.Slices
import Derived.Deep.Fields
import Derived.ChangeSame
namespace Go.Proofs.YtecofnkoloihpaaGreat
open Go.ChangeShapes Go.WideShapes Go.ChangeAt Go.RowKit Go.Deep
set_option linter.unusedVariables false
set_option maxRecDepth 100000
section
variable {H:Type} {enc:TypeId×Value->H} {P:Program} {w:World} {base:Nat} {spare:Nat->Bool} {held:Bool}
end
def cI(x:Int):Prop:=-9223372036854775808<=x/\x<=9223372036854775807
theorem an4{n:Int}(h:(Lit.int .i64 n).wf=true):cI n:=by
 have:=bounds_i64 h;unfold cI;omega
theorem an5{t:TC}{I:T t->Prop}{w:World}{a:Addr}{len cap m B:Nat}(hl:len<=cap)(hm:len<=m)(aA9:cap<=maxLen)
  (hr:∀i,i<m->∃e:T t,I e/\∀(j:Nat) x,(enc t 0 e)[j]?=some x->∃u,w.cell? (a.add (i*aB t+j))=some u/\∀q,RV w B (λ_=>none) q x u):∃l:af (T t),l.length<=maxLen/\(∀x∈l,I x)/\RV w B (λ_=>none) [] (.sl t 0 false l) (.slice (some a) len cap):=by
 by_cases h0:len=0
 ·subst h0;exact⟨[],by simp,by simp,.dm _ _ _ _ _ (by omega)⟩
 ·obtain⟨e0,_⟩:=hr 0 (by omega);obtain⟨F,hF⟩:∃ F:Nat->T t,∀ i,i<m->I (F i)/\∀ (j:Nat) x,(enc t 0 (F i))[j]?=some x->∃ u,w.cell? (a.add (i*aB t+j))=some u/\∀ q,RV w B (λ_=>none) q x u:=by
   refine⟨λi=>if h:i<m then (hr i h).choose else e0,λi h=>?_⟩
   simp only[h,aG];exact(hr i h).choose_spec
  clear hr;have xE:=p4 t;obtain⟨x0,Vg⟩:=Br t 0 (F 0) 0 xE;obtain⟨u0,kr,_⟩:=(hF 0 (by omega)).2 0 x0 Vg;obtain⟨b,off,spot⟩:=a;have qW:spot=none:=by
   cases spot with
   |none=>rfl
   | some s=>
    unfold World.cell? at kr;split at kr
    ·simp[Addr.add]at kr
    ·cases kr
  subst qW;have yQ:∀n,Addr.add ⟨b,off,none⟩ n=⟨b,off+n,none⟩:=λn=>by simp[Addr.add]
  have hb:b<w.heap.size:=by rw[yQ]at kr;exact World.block_lt_of_cell? w _ kr
  obtain⟨U,hU⟩:∃ U:Nat->Nat->Value,∀ i,i<m->∀ (j:Nat) x,(enc t 0 (F i))[j]?=some x->w.cell? ⟨b,off+(i*aB t+j),none⟩=some (U i j)/\∀ q,RV w B (λ_=>none) q x (U i j):=by
   refine⟨λi j=>(w.cell? ⟨b,off+(i*aB t+j),none⟩).getD undef,λi h j x hx=>?_⟩
   obtain⟨u,h1,h2⟩:=(hF i h).2 j x hx;rw[yQ]at h1;simp only[h1,Option.getD_some];exact⟨trivial,h2⟩
  refine⟨(List.range len).map F,by simp;omega,λx hx=>?_,?_⟩
  ·obtain⟨i,hi,rfl⟩:=List.mem_map.1 hx;exact(hF i (by have:=jY.1 hi;omega)).1
  ·have hlen:((List.range len).map F).length=len:=by simp
   have:=RV.az (w:=w) (B:=B) (aj:=λ_=>none) [] t 0 false ((List.range len).map F) b off cap U (by omega) rfl hb (by omega) (by simp;omega)
    (λi h j x hx=>(hU i (by rw[hlen]at h;omega) j x (by simpa using hx)).1) (λi h j x hx=>(hU i (by rw[hlen]at h;omega) j x (by simpa using hx)).2 _)
   rw[hlen]at this;exact this
theorem an6{P:Program}{f:Nat}{c:lD}{args:af Pt}{cq:Array Value}{w:World}(h:enters P f/\kz P f c)(bE:c.run ig args some=some (.one (false,[.bool true])))(ha:vU w args cq)(hQ:Hd w (λ_=>none):=by first | exact akj _ _ | assumption):
  Calls P f cq w λe w'=>e = .returned (.bool true)/\Below w.heap.size w w':=by
 obtain⟨res,h1,_,h2⟩:=h.2 ig args some _ bE;injection h1 with h1;subst h1
 refine(h2 (λn=>n) w cq ha hQ).mono λe w'=>?_
 rintro⟨v,aD,rfl,hB,_,⟨⟨_,us,gv,dO,hv⟩,_⟩⟩;refine⟨?_,hB⟩;obtain⟨u,hu,hr⟩:=hv 0 _ rfl;have gv:us = #[v]:=gv;subst gv;have:v=u:=by simpa using hu
 subst this;cases hr;rfl
theorem an7{ai:af (Bool×TC)}{ro:af (Bool×TC×Nat)}{F:oV ai->ak (lR ro)}{X:Type}{args:af Pt}{k:ig->ak X}{x:oV ai}{y:lR ro}(hx:An ai args=some x)(hy:F x=some y):(aE ai ro F).run X args k=k (gi ro y):=by
 simp only[aE,hx,hy]
def bU(w:World)(B:Nat)(vs:af V)(cs:af Value):Prop:=cs.length=vs.length/\∀(j:Nat) v,vs[j]?=some v->∃u,cs[j]?=some u/\∀q,RV w B (λ_=>none) q v u
theorem bU.nil{w:World}{B:Nat}:bU w B [] []:=⟨rfl,λj v h=>by simp at h⟩
theorem bU.append{w:World}{B:Nat}{vs tv:af V}{cs fy:af Value}(h:bU w B vs cs)(h':bU w B tv fy):bU w B (vs++tv) (cs++fy):=by
 refine⟨by simp[h.1,h'.1],λj v hv=>?_⟩
 rcases Nat.lt_or_ge j vs.length with hj|hj
 ·rw[List.getElem?_append_left hj]at hv;rw[List.getElem?_append_left (by rw[h.1];exact hj)];exact h.2 j v hv
 ·rw[List.getElem?_append_right hj]at hv;rw[List.getElem?_append_right (by rw[h.1];exact hj),h.1];exact h'.2 _ v hv
section
variable {H:Type} {dg:TypeId×Value->H} {P:Program} {w:World}
def aT(dg:TypeId×Value->H)(P:Program)(w:World)(ty:TypeId)(t:TC)(I:T t->Prop):Prop:=
 ∀n cs x,DataW.trod dg P w 0 (λ_=>true) true n ty cs=some x->∃y:T t,I y/\bU w w.heap.size (enc t 0 y) cs
theorem aT.int{ty:TypeId}(h:P.underlying ty=some (.int .i64)):aT dg P w ty .int cI:=λn cs x hx=>by
 obtain⟨m,e,_,z⟩:=DataW.trod_int h hx;cases e
 refine⟨m,an4 z,rfl,λj v hv=>?_⟩
 rcases j with _|j
 ·cases hv;exact⟨_,rfl,λq=>.int _ _ _⟩
 ·cases hv
theorem aT.bool{ty:TypeId}(h:P.underlying ty=some .bool):aT dg P w ty .bool λ_=>True:=λn cs x hx=>by
 obtain⟨m,e,_⟩:=DataW.trod_bool h hx;cases e
 refine⟨m,trivial,rfl,λj v hv=>?_⟩
 rcases j with _|j
 ·cases hv;exact⟨_,rfl,λq=>.bool _ _⟩
 ·cases hv
theorem aT.sl{ty e:TypeId}{t:TC}{I:T t->Prop}(h:P.underlying ty=some (.slice e))(hC:P.cellsOf e=aB t)(he:aT dg P w e t I):aT dg P w ty (.sl t) λ(l:af (T t))=>l.length<=maxLen/\∀ x∈l,I x:=λn cs x hx=>by
 rcases open_slice h hx with ⟨rfl,_⟩|⟨a,len,cap,m,n',D,Pl,rfl,hb,hl,hm,hmm,_,hi⟩
 ·refine⟨([]:af (T t)),⟨by simp,by simp⟩,rfl,λj v hv=>?_⟩
  rcases j with _|j
  ·cases hv;exact⟨_,rfl,λq=>.c9 _ _ _⟩
  ·cases hv
 ·have hr:∀ i,i<m->∃ e:T t,I e/\∀ (j:Nat) x,(enc t 0 e)[j]?=some x->∃ u,w.cell? (a.add (i*aB t+j))=some u/\∀ q,RV w w.heap.size (λ_=>none) q x u:=λi him=>by
   obtain⟨fy,hc,ht⟩:=hi i him;rw[hC]at hc;obtain⟨y,hI,h1,h2⟩:=he _ _ _ ht;obtain⟨_,eC,NQ⟩:=World.cells?_some hc
   refine⟨y,hI,λj v hv=>?_⟩
   obtain⟨u,hu,hr⟩:=h2 j v hv;have hj:j<aB t:=by
    have:=(dS.1 hu).1;omega
   have kO:=NQ j hj;refine⟨u,?_,hr⟩;rw[<-Go.Deep.add_add,kO,hu]
  obtain⟨l,l1,l2,l3⟩:=an5 (t:=t) (I:=I) hl (by rw[hmm];split<;>omega) hm hr
  refine⟨l,⟨l1,l2⟩,rfl,λj v hv=>?_⟩
  rcases j with _|j
  ·cases hv;exact⟨_,rfl,λq=>l3.key rfl⟩
  ·cases hv
theorem aT.part{ty:TypeId}{fs:Array Field}{cs:af Value}{x:DataW H×af MemPlace}{n:Nat}(h:P.underlying ty=some (.struct fs))(hx:DataW.trod dg P w 0 (λ_=>true) true n ty cs=some x){i:Nat}{f:Field}(hf:fs[i]?=some f){t:TC}{I:T t->Prop}(hi:aT dg P w f.type t I){off k:Nat}(ho:f.offset=off)(hk:P.cellsOf f.type=k):∃ y:T t,I y/\bU w w.heap.size (enc t 0 y) ((cs.drop off).take k):=by
 obtain⟨xs,n',_,_,_,gV,hh⟩:=DataW.trod_struct h hx;have h1:=hh i f hf;have uG:i<xs.length:=by rw[gV];exact(ia.1 hf).1
 rw[cu uG,ho,hk]at h1;exact hi _ _ _ h1
theorem aT.len{ty:TypeId}{fs:Array Field}{cs:af Value}{x:DataW H×af MemPlace}{n:Nat}(h:P.underlying ty=some (.struct fs))(hx:DataW.trod dg P w 0 (λ_=>true) true n ty cs=some x):cs.length=P.cellsOf ty:=by
 obtain⟨_,_,_,_,h1,_⟩:=DataW.trod_struct h hx;exact h1
end
def It(t:TC)(I:T t->Prop)(w:World)(v:Value):Prop:=∃y:T t,I y/\∃us:Array Value,v = .agg us/\bU w w.heap.size (enc t 0 y) us.toList
theorem acI{H:Type}{dg:TypeId×Value->H}{P:Program}{w:World}{ty:TypeId}{fs:Array Field}{t:TC}{I:T t->Prop}(he:aT dg P w ty t I)(hs:P.underlying ty=some (.struct fs)){base:Nat}{v:Value}{d:DataW H}{p:af MemPlace}
  (hv:Value.okWide P w .any base ty v) (h:DataW.Trod dg P w 0 (λ_=>true) true ty v d p):It t I w v:=by
 obtain⟨us,rfl,_⟩:=okWide_struct hs hv;obtain⟨fuel,hf⟩:=h;obtain⟨y,h1,h2⟩:=he _ _ _ hf;exact⟨y,h1,us,rfl,h2⟩
end Go.Proofs.YtecofnkoloihpaaGreat
