/-
  What is known of an argument that can be read as data, by contents. The block of howto/extra-structs.md (section 1) is laid ahead. Nothing here is a claim.
-/
import Derived.Test.YtinbifpbkcbnkaaGreatVZ
import Derived.Test.YtinbifpbkcbnkaaGreatOpen
import Derived.Deep.Slices
import Derived.Deep.Fields
import Derived.ChangeSame
namespace Go.Proofs.YtinbifpbkcbnkaaGreat
open Go.ChangeShapes Go.WideShapes Go.ChangeAt Go.RowKit Go.Deep
set_option linter.unusedVariables false
set_option maxRecDepth 100000
section
variable {H:Type} {enc:TypeId×Value->H} {P:Program} {w:World} {base:Nat} {spare:Nat->Bool} {held:Bool}
end
def bU(x:Int):Prop:=-9223372036854775808<=x/\x<=9223372036854775807
theorem alm{n:Int}(h:(Lit.int .i64 n).wf=true):bU n:=by
 have:=bounds_i64 h
 unfold bU
 omega
theorem aln{t:TC}{I:T t->Prop}{w:World}{a:Addr}{len cap m B:Nat}(hl:len<=cap)(hm:len<=m)(azJ:cap<=maxLen)
  (hr:∀ i,i<m->∃ e:T t,I e/\∀ (j:Nat) x,(enc t 0 e)[j]?=some x->∃ u,w.cell? (a.add (i*aB t+j))=some u/\∀ q,RV w B (fun _=>none) q x u):∃ l:List (T t),l.length<=maxLen/\(∀ x∈l,I x)/\RV w B (fun _=>none) [] (.sl t 0 false l) (.slice (some a) len cap):=by
 by_cases h0:len=0
 ·subst h0
  exact⟨[],by simp,by simp,.cK _ _ _ _ _ (by omega)⟩
 ·obtain⟨e0,_⟩:=hr 0 (by omega)
  obtain⟨F,hF⟩:∃ F:Nat->T t,∀ i,i<m->I (F i)/\∀ (j:Nat) x,(enc t 0 (F i))[j]?=some x->∃ u,w.cell? (a.add (i*aB t+j))=some u/\∀ q,RV w B (fun _=>none) q x u:=by
   refine⟨fun i=>if h:i<m then (hr i h).choose else e0,fun i h=>?_⟩
   simp only[h,dif_pos]
   exact(hr i h).choose_spec
  clear hr
  have tW:=oF t
  obtain⟨x0,hx0⟩:=Dd t 0 (F 0) 0 tW
  obtain⟨u0,l7,_⟩:=(hF 0 (by omega)).2 0 x0 hx0
  obtain⟨b,off,spot⟩:=a
  have td:spot=none:=by
   cases spot with
   | none=>rfl
   | some s=>
    unfold World.cell? at l7
    split at l7
    ·simp[Addr.add]at l7
    ·cases l7
  subst td
  have vb:∀ n,Addr.add ⟨b,off,none⟩ n=⟨b,off+n,none⟩:=fun n=>by simp[Addr.add]
  have hb:b<w.heap.size:=by rw[vb]at l7;exact World.block_lt_of_cell? w _ l7
  obtain⟨U,hU⟩:∃ U:Nat->Nat->Value,∀ i,i<m->∀ (j:Nat) x,(enc t 0 (F i))[j]?=some x->w.cell? ⟨b,off+(i*aB t+j),none⟩=some (U i j)/\∀ q,RV w B (fun _=>none) q x (U i j):=by
   refine⟨fun i j=>(w.cell? ⟨b,off+(i*aB t+j),none⟩).getD undef,fun i h j x hx=>?_⟩
   obtain⟨u,h1,h2⟩:=(hF i h).2 j x hx
   rw[vb]at h1
   simp only[h1,Option.getD_some]
   exact⟨trivial,h2⟩
  refine⟨(List.range len).map F,by simp;omega,fun x hx=>?_,?_⟩
  ·obtain⟨i,hi,rfl⟩:=List.mem_map.1 hx
   exact(hF i (by have:=List.mem_range.1 hi;omega)).1
  ·have hlen:((List.range len).map F).length=len:=by simp
   have:=RV.ah (w:=w) (B:=B) (af:=fun _=>none) [] t 0 false ((List.range len).map F) b off cap U (by omega) rfl hb (by omega) (by simp;omega)
    (fun i h j x hx=>(hU i (by rw[hlen]at h;omega) j x (by simpa using hx)).1) (fun i h j x hx=>(hU i (by rw[hlen]at h;omega) j x (by simpa using hx)).2 _)
   rw[hlen]at this
   exact this
theorem alo{P:Program}{f:Nat}{c:aE}{args:List Pt}{bZ:Array Value}{w:World}(h:enters P f/\aF P f c)(aW:c.run iL args some=some (.one (false,[.bool true])))(ha:vQ w args bZ)(hQ:Hd w (fun _=>none):=by first | exact ahC _ _ | assumption):
  Calls P f bZ w fun e w'=>e = .returned (.bool true)/\Below w.heap.size w w':=by
 obtain⟨res,h1,_,h2⟩:=h.2 iL args some _ aW
 injection h1 with h1
 subst h1
 refine(h2 (fun n=>n) w bZ ha hQ).mono fun e w'=>?_
 rintro⟨v,ax,rfl,hB,_,⟨⟨_,us,eo,cT,hv⟩,_⟩⟩
 refine⟨?_,hB⟩
 obtain⟨u,hu,hr⟩:=hv 0 _ rfl
 have eo:us = #[v]:=eo
 subst eo
 have:v=u:=by simpa using hu
 subst this
 cases hr
 rfl
theorem alp{ai:List (Bool×TC)}{ro:List (Bool×TC×Nat)}{F:m5 ai->Option (nT ro)}{X:Type}{args:List Pt}{k:iL->Option X}{x:m5 ai}{y:nT ro}(hx:wC ai args=some x)(hy:F x=some y):(aG ai ro F).run X args k=k (ez ro y):=by
 simp only[aG,hx,hy]
def br(w:World)(B:Nat)(vs:List V)(cs:List Value):Prop:=cs.length=vs.length/\∀ (j:Nat) v,vs[j]?=some v->∃ u,cs[j]?=some u/\∀ q,RV w B (fun _=>none) q v u
theorem br.nil{w:World}{B:Nat}:br w B [] []:=⟨rfl,fun j v h=>by simp at h⟩
theorem br.append{w:World}{B:Nat}{vs oL:List V}{cs fz:List Value}(h:br w B vs cs)(h':br w B oL fz):br w B (vs++oL) (cs++fz):=by
 refine⟨by simp[h.1,h'.1],fun j v hv=>?_⟩
 rcases Nat.lt_or_ge j vs.length with hj | hj
 ·rw[List.getElem?_append_left hj]at hv
  rw[List.getElem?_append_left (by rw[h.1];exact hj)]
  exact h.2 j v hv
 ·rw[List.getElem?_append_right hj]at hv
  rw[List.getElem?_append_right (by rw[h.1];exact hj),h.1]
  exact h'.2 _ v hv
section
variable {H:Type} {cE:TypeId×Value->H} {P:Program} {w:World}
def aN(cE:TypeId×Value->H)(P:Program)(w:World)(ty:TypeId)(t:TC)(I:T t->Prop):Prop:=
 ∀ n cs x,DataW.trod cE P w 0 (fun _=>true) true n ty cs=some x->∃ y:T t,I y/\br w w.heap.size (enc t 0 y) cs
theorem aN.int{ty:TypeId}(h:P.underlying ty=some (.int .i64)):aN cE P w ty .int bU:=fun n cs x hx=>by
 obtain⟨m,e,_,z⟩:=DataW.trod_int h hx
 cases e
 refine⟨m,alm z,rfl,fun j v hv=>?_⟩
 rcases j with _ | j
 ·cases hv;exact⟨_,rfl,fun q=>.int _ _ _⟩
 ·cases hv
theorem aN.bool{ty:TypeId}(h:P.underlying ty=some .bool):aN cE P w ty .bool fun _=>True:=fun n cs x hx=>by
 obtain⟨m,e,_⟩:=DataW.trod_bool h hx
 cases e
 refine⟨m,trivial,rfl,fun j v hv=>?_⟩
 rcases j with _ | j
 ·cases hv;exact⟨_,rfl,fun q=>.bool _ _⟩
 ·cases hv
theorem aN.sl{ty e:TypeId}{t:TC}{I:T t->Prop}(h:P.underlying ty=some (.slice e))(hC:P.cellsOf e=aB t)(he:aN cE P w e t I):aN cE P w ty (.sl t) fun(l:List (T t))=>l.length<=maxLen/\∀ x∈l,I x:=fun n cs x hx=>by
 rcases open_slice h hx with ⟨rfl,_⟩ | ⟨a,len,cap,m,n',D,Pl,rfl,hb,hl,hm,hmm,_,hi⟩
 ·refine⟨([]:List (T t)),⟨by simp,by simp⟩,rfl,fun j v hv=>?_⟩
  rcases j with _ | j
  ·cases hv;exact⟨_,rfl,fun q=>.cD _ _ _⟩
  ·cases hv
 ·have hr:∀ i,i<m->∃ e:T t,I e/\∀ (j:Nat) x,(enc t 0 e)[j]?=some x->∃ u,w.cell? (a.add (i*aB t+j))=some u/\∀ q,RV w w.heap.size (fun _=>none) q x u:=fun i him=>by
   obtain⟨fz,hc,ht⟩:=hi i him
   rw[hC]at hc
   obtain⟨y,hI,h1,h2⟩:=he _ _ _ ht
   obtain⟨_,dg,hat⟩:=World.cells?_some hc
   refine⟨y,hI,fun j v hv=>?_⟩
   obtain⟨u,hu,hr⟩:=h2 j v hv
   have hj:j<aB t:=by
    have:=(List.getElem?_eq_some_iff.1 hu).1
    omega
   have pW:=hat j hj
   refine⟨u,?_,hr⟩
   rw[<-Go.Deep.add_add,pW,hu]
  obtain⟨l,l1,l2,l3⟩:=aln (t:=t) (I:=I) hl (by rw[hmm];split <;>omega) hm hr
  refine⟨l,⟨l1,l2⟩,rfl,fun j v hv=>?_⟩
  rcases j with _ | j
  ·cases hv
   exact⟨_,rfl,fun q=>l3.key rfl⟩
  ·cases hv
theorem aN.part{ty:TypeId}{fs:Array Field}{cs:List Value}{x:DataW H×List MemPlace}{n:Nat}(h:P.underlying ty=some (.struct fs))(hx:DataW.trod cE P w 0 (fun _=>true) true n ty cs=some x){i:Nat}{f:Field}(hf:fs[i]?=some f){t:TC}{I:T t->Prop}(hi:aN cE P w f.type t I){off k:Nat}(ho:f.offset=off)(hk:P.cellsOf f.type=k):∃ y:T t,I y/\br w w.heap.size (enc t 0 y) ((cs.drop off).take k):=by
 obtain⟨xs,n',_,_,_,fJ,hh⟩:=DataW.trod_struct h hx
 have h1:=hh i f hf
 have qJ:i<xs.length:=by rw[fJ];exact(Array.getElem?_eq_some_iff.1 hf).1
 rw[List.getElem?_eq_getElem qJ,ho,hk]at h1
 exact hi _ _ _ h1
theorem aN.len{ty:TypeId}{fs:Array Field}{cs:List Value}{x:DataW H×List MemPlace}{n:Nat}(h:P.underlying ty=some (.struct fs))(hx:DataW.trod cE P w 0 (fun _=>true) true n ty cs=some x):cs.length=P.cellsOf ty:=by
 obtain⟨_,_,_,_,h1,_⟩:=DataW.trod_struct h hx
 exact h1
end
def Qk(t:TC)(I:T t->Prop)(w:World)(v:Value):Prop:=∃ y:T t,I y/\∃ us:Array Value,v = .agg us/\br w w.heap.size (enc t 0 y) us.toList
theorem alq{H:Type}{cE:TypeId×Value->H}{P:Program}{w:World}{ty:TypeId}{fs:Array Field}{t:TC}{I:T t->Prop}(he:aN cE P w ty t I)(hs:P.underlying ty=some (.struct fs)){base:Nat}{v:Value}{d:DataW H}{p:List MemPlace}
  (hv:Value.okWide P w .any base ty v) (h:DataW.Trod cE P w 0 (fun _=>true) true ty v d p):Qk t I w v:=by
 obtain⟨us,rfl,_⟩:=okWide_struct hs hv
 obtain⟨fuel,hf⟩:=h
 obtain⟨y,h1,h2⟩:=he _ _ _ hf
 exact⟨y,h1,us,rfl,h2⟩
theorem alr{w:World}{vs:List V}{us:Array Value}(h:br w w.heap.size vs us.toList):vQ w [(true,vs)] #[.agg us]:=by
 refine⟨rfl,fun i p hp=>?_⟩
 rcases i with _ | i
 ·cases hp
  refine⟨_,rfl,.v _ _ ⟨us,rfl,by simpa using h.1,fun j x hx=>?_⟩⟩
  obtain⟨u,hu,hr⟩:=h.2 j x hx
  exact⟨u,by simpa using hu,hr _⟩
 ·cases hp
end Go.Proofs.YtinbifpbkcbnkaaGreat
