/-
  What is known of an argument that can be read as data, by contents. The block of howto/extra-structs.md (section 1) is laid ahead. Nothing here is a claim.
-/
import Derived.Test.YtmffpkippmkjbaaGreatDoorVZ
import Derived.Test.YtmffpkippmkjbaaGreatDoorOpen
import Derived.Deep.Slices
import Derived.Deep.Fields
import Derived.ChangeSame
namespace Go.Proofs.YtmffpkippmkjbaaGreatDoor
open Go.ChangeShapes Go.WideShapes Go.ChangeAt Go.RowKit Go.Deep
set_option linter.unusedVariables false
set_option maxRecDepth 100000
section
variable {H:Type} {enc:TypeId×Value->H} {P:Program} {w:World} {base:Nat} {spare:Nat->Bool} {held:Bool}
theorem ar5{t e:TypeId}{fs:Array Field}{fuel:Nat}{cs:List Value}{x:DataW H×List MemPlace}(ht:P.underlying t=some (.slice e))(he:P.underlying e=some (.struct fs))
  (iL:oneCellFields P fs=true) (hC:P.cellsOf e=fs.size) (h:DataW.trod enc P w base spare held fuel t cs=some x):
  (cs=[.slice none 0 0]/\x=(.nil,[]))\/
  ∃ (a:Addr) (len cap m:Nat) (D:Nat->DataW H) (Pl:Nat->List MemPlace),cs=[.slice (some a) len cap]/\base<=a.block/\len<=cap/\cap<=maxLen/\m=(if spare a.block then cap else len)/\
   x=(.slice ((List.range len).map D) ((List.range (m-len)).map fun j=>D (len+j)),MemPlace.row a (m*fs.size)++(List.range m).flatMap Pl)/\
   ∀ i,i<m->∃ (ys:List (DataW H×List MemPlace)) (n:Nat),D i = .agg (ys.map (·.1))/\Pl i=ys.flatMap (·.2)/\ys.length=fs.size/\
    ∀ (j:Nat) (f:Field),fs[j]?=some f->∃ (v:Value) (y:DataW H×List MemPlace),w.cell? (a.add (i*fs.size+j))=some v/\ys[j]?=some y/\DataW.trod enc P w base spare held n f.type [v]=some y:=by
 rcases open_slice ht h with h0 | ⟨a,len,cap,m,n,D,Pl,cC,hb,hl,hm,MH,hx,hi⟩
 ·exact .inl h0
 ·refine .inr ⟨a,len,cap,m,D,Pl,cC,hb,hl,hm,MH,by rw[hC]at hx;exact hx,fun i MI=>?_⟩
  obtain⟨cz,hc,Gd⟩:=hi i MI
  rw[hC]at hc
  obtain⟨ys,n',rB,hy,hlen,hyl,hf⟩:=DataW.trod_struct he Gd
  obtain⟨_,dn,MJ⟩:=World.cells?_some hc
  simp only[Prod.mk.injEq]at hy
  refine⟨ys,n',hy.1,hy.2,hyl,fun j f hj=>?_⟩
  obtain⟨ho,hk⟩:=hone_of iL j f hj
  have om:j<fs.size:=(Array.getElem?_eq_some_iff.1 hj).1
  have kY:=MJ j om
  have hv:cz[j]?=some (cz[j]'(by omega)):=List.getElem?_eq_getElem (by omega)
  have h1:=hf j f hj
  rw[ho,hk]at h1
  have afu:(cz.drop j).take 1=[cz[j]'(by omega)]:=by
   rw[List.drop_eq_getElem_cons (by omega)]
   rfl
  rw[afu]at h1
  have iV:ys[j]?=some (ys[j]'(by omega)):=List.getElem?_eq_getElem (by omega)
  refine⟨_,_,?_,iV,h1.trans iV⟩
  rw[<-Go.Deep.add_add,kY,hv]
end
/-- Of a call with read arguments. -/
def S3(t:TC)(I:T t->Prop)(w:World)(v:Value):Prop:=∃ l:List (T t),l.length<=maxLen/\(∀ x∈l,I x)/\RV w w.heap.size (fun _=>none) [] (.sl t 0 false l) v
def bw(x:Int):Prop:=-9223372036854775808<=x/\x<=9223372036854775807
theorem afv{n:Int}(h:(Lit.int .i64 n).wf=true):bw n:=by
 have:=bounds_i64 h
 unfold bw
 omega
theorem S4{t:TC}{I:T t->Prop}{w:World}{a:Addr}{len cap m B:Nat}(hl:len<=cap)(hm:len<=m)(ar6:cap<=maxLen)
  (hr:∀ i,i<m->∃ e:T t,I e/\∀ (j:Nat) x,(enc t 0 e)[j]?=some x->∃ u,w.cell? (a.add (i*aq t+j))=some u/\∀ q,RV w B (fun _=>none) q x u):∃ l:List (T t),l.length<=maxLen/\(∀ x∈l,I x)/\RV w B (fun _=>none) [] (.sl t 0 false l) (.slice (some a) len cap):=by
 by_cases h0:len=0
 ·subst h0
  exact⟨[],by simp,by simp,.bY _ _ _ _ _ (by omega)⟩
 ·obtain⟨e0,_⟩:=hr 0 (by omega)
  obtain⟨F,hF⟩:∃ F:Nat->T t,∀ i,i<m->I (F i)/\∀ (j:Nat) x,(enc t 0 (F i))[j]?=some x->∃ u,w.cell? (a.add (i*aq t+j))=some u/\∀ q,RV w B (fun _=>none) q x u:=by
   refine⟨fun i=>if h:i<m then (hr i h).choose else e0,fun i h=>?_⟩
   simp only[h,dif_pos]
   exact(hr i h).choose_spec
  clear hr
  have sk:=nA t
  obtain⟨x0,Mx⟩:=Bb t 0 (F 0) 0 sk
  obtain⟨u0,jF,_⟩:=(hF 0 (by omega)).2 0 x0 Mx
  obtain⟨b,off,spot⟩:=a
  have rA:spot=none:=by
   cases spot with
   | none=>rfl
   | some s=>
    unfold World.cell? at jF
    split at jF
    ·simp[Addr.add]at jF
    ·cases jF
  subst rA
  have n8:∀ n,Addr.add ⟨b,off,none⟩ n=⟨b,off+n,none⟩:=fun n=>by simp[Addr.add]
  have hb:b<w.heap.size:=by rw[n8]at jF;exact World.block_lt_of_cell? w _ jF
  obtain⟨U,hU⟩:∃ U:Nat->Nat->Value,∀ i,i<m->∀ (j:Nat) x,(enc t 0 (F i))[j]?=some x->w.cell? ⟨b,off+(i*aq t+j),none⟩=some (U i j)/\∀ q,RV w B (fun _=>none) q x (U i j):=by
   refine⟨fun i j=>(w.cell? ⟨b,off+(i*aq t+j),none⟩).getD undef,fun i h j x hx=>?_⟩
   obtain⟨u,h1,h2⟩:=(hF i h).2 j x hx
   rw[n8]at h1
   simp only[h1,Option.getD_some]
   exact⟨trivial,h2⟩
  refine⟨(List.range len).map F,by simp;omega,fun x hx=>?_,?_⟩
  ·obtain⟨i,hi,rfl⟩:=List.mem_map.1 hx
   exact(hF i (by have:=List.mem_range.1 hi;omega)).1
  ·have hlen:((List.range len).map F).length=len:=by simp
   have:=RV.ah (w:=w) (B:=B) (lab:=fun _=>none) [] t 0 false ((List.range len).map F) b off cap U (by omega) rfl hb (by omega) (by simp;omega)
    (fun i h j x hx=>(hU i (by rw[hlen]at h;omega) j x (by simpa using hx)).1) (fun i h j x hx=>(hU i (by rw[hlen]at h;omega) j x (by simpa using hx)).2 _)
   rw[hlen]at this
   exact this
section
variable {H:Type} {enc:TypeId×Value->H} {W:World} {base:Nat} {v:Value} {d:DataW H} {p:List MemPlace}
theorem ar7(hv:Value.okWide Tryz.prog W .any base 196 v)(h:DataW.Trod enc Tryz.prog W 0 (fun _=>true) true 196 v d p):S3 .u8 (fun x:Int=>0<=x/\x<=255) W v:=by
 obtain⟨a0,ML,Cq,rfl⟩:=okWide_slice Tryz.underlying196 hv
 obtain⟨fuel,hf⟩:=h
 rcases open_ints Tryz.underlying196 Tryz.underlying5 (by kernel_rfl) hf with ⟨cC,_⟩ | ⟨x,l,c,zs,cC,_,hl,hm,hz,_,kY,L6⟩
 ·simp[Value.cells]at cC
  obtain⟨rfl,rfl,rfl⟩:=cC
  exact⟨[],by simp,by simp,.bO _ _ _⟩
 ·simp[Value.cells]at cC
  obtain⟨rfl,rfl,rfl⟩:=cC
  have hzl:zs.length=Cq:=by simpa using hz
  refine S4 (m:=Cq) hl hl hm fun i hi=>⟨zs.getD i 0,?_,fun j y hy=>?_⟩
  ·have qu:zs.getD i 0∈zs:=by
    have:i<zs.length:=by omega
    simp[this]
   have:=bounds_u8 (L6 _ qu)
   show (0:Int)<=zs.getD i 0/\(zs.getD i 0:Int)<=255
   omega
  ·rcases j with _ | j
   ·cases hy
    refine⟨_,?_,fun q=>.int _ _ _⟩
    have:aq .u8=1:=rfl
    rw[this,Nat.mul_one,Nat.add_zero]
    exact kY i (by omega)
   ·cases hy
end
/-- A law's call,out of its function. -/
theorem afw{P:Program}{f:Nat}{c:aI}{args:List Pt}{aT:Array Value}{w:World}(h:enters P f/\aG P f c)(aL:c.run eM args some=some (.one (false,[.bool true])))(ha:nK w args aT)(hQ:Hd w (fun _=>none):=by first | exact ar8 _ _ | assumption):
  Calls P f aT w fun e w'=>e = .returned (.bool true)/\Below w.heap.size w w':=by
 obtain⟨res,h1,_,h2⟩:=h.2 eM args some _ aL
 injection h1 with h1
 subst h1
 refine(h2 (fun n=>n) w aT ha hQ).mono fun e w'=>?_
 rintro⟨v,aj,rfl,hB,_,⟨⟨_,us,dN,hsz,hv⟩,_⟩⟩
 refine⟨?_,hB⟩
 obtain⟨u,hu,hr⟩:=hv 0 _ rfl
 have dN:us = #[v]:=dN
 subst dN
 have:v=u:=by simpa using hu
 subst this
 cases hr
 rfl
theorem afx{ai:List (Bool×TC)}{ro:List (Bool×TC×Nat)}{F:k8 ai->Option (jI ro)}{X:Type}{args:List Pt}{k:eM->Option X}{x:k8 ai}{y:jI ro}(hx:uP ai args=some x)(hy:F x=some y):(aH ai ro F).run X args k=k (dK ro y):=by
 simp only[aH,hx,hy]
theorem ar9{w:World}{v0:Value}{x0:V}(h0:RV w w.heap.size (fun _=>none) [] x0 v0):nK w [(false,[x0])] #[v0]:=by
 refine⟨rfl,fun i p hp=>?_⟩
 rcases i with _ | i
 ·cases hp
  exact⟨v0,rfl,.v _ _ ⟨#[v0],rfl,rfl,fun j x hx=>by rcases j with _ | j <;>cases hx;exact⟨v0,rfl,h0⟩⟩⟩
 ·cases hp
theorem asa{w:World}{v0 v1:Value}{x0 x1:V}(h0:RV w w.heap.size (fun _=>none) [] x0 v0)(h1:RV w w.heap.size (fun _=>none) [] x1 v1):nK w [(false,[x0]),(false,[x1])] #[v0,v1]:=by
 refine⟨rfl,fun i p hp=>?_⟩
 rcases i with _ | _ | i
 ·cases hp
  exact⟨v0,rfl,.v _ _ ⟨#[v0],rfl,rfl,fun j x hx=>by rcases j with _ | j <;>cases hx;exact⟨v0,rfl,h0⟩⟩⟩
 ·cases hp
  exact⟨v1,rfl,.v _ _ ⟨#[v1],rfl,rfl,fun j x hx=>by rcases j with _ | j <;>cases hx;exact⟨v1,rfl,h1⟩⟩⟩
 ·cases hp
theorem asb{w:World}{v0 v1 v2:Value}{x0 x1 x2:V}(h0:RV w w.heap.size (fun _=>none) [] x0 v0)(h1:RV w w.heap.size (fun _=>none) [] x1 v1)(h2:RV w w.heap.size (fun _=>none) [] x2 v2):nK w [(false,[x0]),(false,[x1]),(false,[x2])] #[v0,v1,v2]:=by
 refine⟨rfl,fun i p hp=>?_⟩
 rcases i with _ | _ | _ | i
 ·cases hp
  exact⟨v0,rfl,.v _ _ ⟨#[v0],rfl,rfl,fun j x hx=>by rcases j with _ | j <;>cases hx;exact⟨v0,rfl,h0⟩⟩⟩
 ·cases hp
  exact⟨v1,rfl,.v _ _ ⟨#[v1],rfl,rfl,fun j x hx=>by rcases j with _ | j <;>cases hx;exact⟨v1,rfl,h1⟩⟩⟩
 ·cases hp
  exact⟨v2,rfl,.v _ _ ⟨#[v2],rfl,rfl,fun j x hx=>by rcases j with _ | j <;>cases hx;exact⟨v2,rfl,h2⟩⟩⟩
 ·cases hp
/-- Cells that bear such contents,frozen. -/
def aR(w:World)(B:Nat)(vs:List V)(cs:List Value):Prop:=cs.length=vs.length/\∀ (j:Nat) v,vs[j]?=some v->∃ u,cs[j]?=some u/\∀ q,RV w B (fun _=>none) q v u
theorem aR.nil{w:World}{B:Nat}:aR w B [] []:=⟨rfl,fun j v h=>by simp at h⟩
theorem aR.append{w:World}{B:Nat}{vs nH:List V}{cs cz:List Value}(h:aR w B vs cs)(h':aR w B nH cz):aR w B (vs++nH) (cs++cz):=by
 refine⟨by simp[h.1,h'.1],fun j v hv=>?_⟩
 rcases Nat.lt_or_ge j vs.length with hj | hj
 ·rw[List.getElem?_append_left hj]at hv
  rw[List.getElem?_append_left (by rw[h.1];exact hj)]
  exact h.2 j v hv
 ·rw[List.getElem?_append_right hj]at hv
  rw[List.getElem?_append_right (by rw[h.1];exact hj),h.1]
  exact h'.2 _ v hv
section
variable {H:Type} {bP:TypeId×Value->H} {P:Program} {w:World}
/-- Whatever reads as data of the type ty bears contents of the code t,of I. -/
def aB(bP:TypeId×Value->H)(P:Program)(w:World)(ty:TypeId)(t:TC)(I:T t->Prop):Prop:=
 ∀ n cs x,DataW.trod bP P w 0 (fun _=>true) true n ty cs=some x->∃ y:T t,I y/\aR w w.heap.size (enc t 0 y) cs
theorem aB.int{ty:TypeId}(h:P.underlying ty=some (.int .i64)):aB bP P w ty .int bw:=fun n cs x hx=>by
 obtain⟨m,e,_,z⟩:=DataW.trod_int h hx
 cases e
 refine⟨m,afv z,rfl,fun j v hv=>?_⟩
 rcases j with _ | j
 ·cases hv;exact⟨_,rfl,fun q=>.int _ _ _⟩
 ·cases hv
theorem aB.bool{ty:TypeId}(h:P.underlying ty=some .bool):aB bP P w ty .bool fun _=>True:=fun n cs x hx=>by
 obtain⟨m,e,_⟩:=DataW.trod_bool h hx
 cases e
 refine⟨m,trivial,rfl,fun j v hv=>?_⟩
 rcases j with _ | j
 ·cases hv;exact⟨_,rfl,fun q=>.bool _ _⟩
 ·cases hv
theorem aB.str{ty:TypeId}(h:P.underlying ty=some .string):aB bP P w ty .str fun _=>True:=fun n cs x hx=>by
 obtain⟨m,e,_⟩:=DataW.trod_string h hx
 cases e
 refine⟨m,trivial,rfl,fun j v hv=>?_⟩
 rcases j with _ | j
 ·cases hv;exact⟨_,rfl,fun q=>.str _ _⟩
 ·cases hv
theorem aB.sl{ty e:TypeId}{t:TC}{I:T t->Prop}(h:P.underlying ty=some (.slice e))(hC:P.cellsOf e=aq t)(he:aB bP P w e t I):aB bP P w ty (.sl t) fun(l:List (T t))=>l.length<=maxLen/\∀ x∈l,I x:=fun n cs x hx=>by
 rcases open_slice h hx with ⟨rfl,_⟩ | ⟨a,len,cap,m,n',D,Pl,rfl,hb,hl,hm,MH,_,hi⟩
 ·refine⟨([]:List (T t)),⟨by simp,by simp⟩,rfl,fun j v hv=>?_⟩
  rcases j with _ | j
  ·cases hv;exact⟨_,rfl,fun q=>.bO _ _ _⟩
  ·cases hv
 ·have hr:∀ i,i<m->∃ e:T t,I e/\∀ (j:Nat) x,(enc t 0 e)[j]?=some x->∃ u,w.cell? (a.add (i*aq t+j))=some u/\∀ q,RV w w.heap.size (fun _=>none) q x u:=fun i MI=>by
   obtain⟨cz,hc,ht⟩:=hi i MI
   rw[hC]at hc
   obtain⟨y,hI,h1,h2⟩:=he _ _ _ ht
   obtain⟨_,dn,MJ⟩:=World.cells?_some hc
   refine⟨y,hI,fun j v hv=>?_⟩
   obtain⟨u,hu,hr⟩:=h2 j v hv
   have hj:j<aq t:=by
    have:=(List.getElem?_eq_some_iff.1 hu).1
    omega
   have kY:=MJ j hj
   refine⟨u,?_,hr⟩
   rw[<-Go.Deep.add_add,kY,hu]
  obtain⟨l,l1,l2,l3⟩:=S4 (t:=t) (I:=I) hl (by rw[MH];split <;>omega) hm hr
  refine⟨l,⟨l1,l2⟩,rfl,fun j v hv=>?_⟩
  rcases j with _ | j
  ·cases hv
   exact⟨_,rfl,fun q=>l3.key rfl⟩
  ·cases hv
/-- A part of a struct. -/
theorem aB.part{ty:TypeId}{fs:Array Field}{cs:List Value}{x:DataW H×List MemPlace}{n:Nat}(h:P.underlying ty=some (.struct fs))(hx:DataW.trod bP P w 0 (fun _=>true) true n ty cs=some x){i:Nat}{f:Field}(hf:fs[i]?=some f){t:TC}{I:T t->Prop}(hi:aB bP P w f.type t I){off k:Nat}(ho:f.offset=off)(hk:P.cellsOf f.type=k):∃ y:T t,I y/\aR w w.heap.size (enc t 0 y) ((cs.drop off).take k):=by
 obtain⟨xs,n',_,_,_,eS,hh⟩:=DataW.trod_struct h hx
 have h1:=hh i f hf
 have pz:i<xs.length:=by rw[eS];exact(Array.getElem?_eq_some_iff.1 hf).1
 rw[List.getElem?_eq_getElem pz,ho,hk]at h1
 exact hi _ _ _ h1
theorem aB.len{ty:TypeId}{fs:Array Field}{cs:List Value}{x:DataW H×List MemPlace}{n:Nat}(h:P.underlying ty=some (.struct fs))(hx:DataW.trod bP P w 0 (fun _=>true) true n ty cs=some x):cs.length=P.cellsOf ty:=by
 obtain⟨_,_,_,_,h1,_⟩:=DataW.trod_struct h hx
 exact h1
end
/-- A struct that came in by value. -/
def MM(t:TC)(I:T t->Prop)(w:World)(v:Value):Prop:=∃ y:T t,I y/\∃ us:Array Value,v = .agg us/\aR w w.heap.size (enc t 0 y) us.toList
theorem afy{H:Type}{bP:TypeId×Value->H}{P:Program}{w:World}{ty:TypeId}{fs:Array Field}{t:TC}{I:T t->Prop}(he:aB bP P w ty t I)(hs:P.underlying ty=some (.struct fs)){base:Nat}{v:Value}{d:DataW H}{p:List MemPlace}
  (hv:Value.okWide P w .any base ty v) (h:DataW.Trod bP P w 0 (fun _=>true) true ty v d p):MM t I w v:=by
 obtain⟨us,rfl,_⟩:=okWide_struct hs hv
 obtain⟨fuel,hf⟩:=h
 obtain⟨y,h1,h2⟩:=he _ _ _ hf
 exact⟨y,h1,us,rfl,h2⟩
theorem asc{H:Type}{bP:TypeId×Value->H}{P:Program}{w:World}{ty e:TypeId}{t:TC}{I:T t->Prop}(h:P.underlying ty=some (.slice e))(hC:P.cellsOf e=aq t)(he:aB bP P w e t I){base:Nat}{v:Value}{d:DataW H}{p:List MemPlace}
  (hv:Value.okWide P w .any base ty v) (ht:DataW.Trod bP P w 0 (fun _=>true) true ty v d p):S3 t I w v:=by
 obtain⟨a0,ML,Cq,rfl⟩:=okWide_slice h hv
 obtain⟨fuel,hf⟩:=ht
 obtain⟨y,hI,h1,h2⟩:=aB.sl h hC he _ _ _ hf
 obtain⟨u,hu,hr⟩:=h2 0 _ rfl
 have hu:u = .slice a0 ML Cq:=by
  have:(Value.slice a0 ML Cq).cells[0]?=some u:=by simpa using hu
  simpa [Value.cells]using this.symm
 subst hu
 exact⟨y,hI.1,hI.2,hr []⟩
theorem afz{w:World}{vs:List V}{us:Array Value}(h:aR w w.heap.size vs us.toList):nK w [(true,vs)] #[.agg us]:=by
 refine⟨rfl,fun i p hp=>?_⟩
 rcases i with _ | i
 ·cases hp
  refine⟨_,rfl,.v _ _ ⟨us,rfl,by simpa using h.1,fun j x hx=>?_⟩⟩
  obtain⟨u,hu,hr⟩:=h.2 j x hx
  exact⟨u,by simpa using hu,hr _⟩
 ·cases hp
end Go.Proofs.YtmffpkippmkjbaaGreatDoor
