/-
  What is known of an argument that can be read as data, by contents. The block of howto/extra-structs.md (section 1) is laid ahead. Nothing here is a claim.
-/
import Derived.Test.YtdnecbbihepdoaaGreatVZ
import Derived.Test.YtdnecbbihepdoaaGreatOpen
import Derived.Deep.Slices
import Derived.Deep.Fields
import Derived.ChangeSame
namespace Go.Proofs.YtdnecbbihepdoaaGreat
open Go.ChangeShapes Go.WideShapes Go.ChangeAt Go.RowKit Go.Deep
set_option linter.unusedVariables false
set_option maxRecDepth 100000
section
variable {H:Type} {enc:TypeId×Value->H} {P:Program} {w:World} {base:Nat} {spare:Nat->Bool} {held:Bool}
end
def in64(x:Int):Prop:=-9223372036854775808<=x/\x<=9223372036854775807
theorem in64_of{n:Int}(h:(Lit.int .i64 n).wf=true):in64 n:=by
 have:=bounds_i64 h
 unfold in64
 omega
theorem fro_of{t:TC}{I:T t->Prop}{w:World}{a:Addr}{len cap m B:Nat}(hl:len<=cap)(hm:len<=m)(hmax:cap<=maxLen)
  (hr:∀ i,i<m->∃ e:T t,I e/\∀ (j:Nat) x,(enc t 0 e)[j]?=some x->∃ u,w.cell? (a.add (i*csz t+j))=some u/\∀ q,RV w B (fun _=>none) q x u):∃ l:List (T t),l.length<=maxLen/\(∀ x∈l,I x)/\RV w B (fun _=>none) [] (.sl t 0 false l) (.slice (some a) len cap):=by
 by_cases h0:len=0
 ·subst h0
  exact⟨[],by simp,by simp,.slEmp _ _ _ _ _ (by omega)⟩
 ·obtain⟨e0,_⟩:=hr 0 (by omega)
  obtain⟨F,hF⟩:∃ F:Nat->T t,∀ i,i<m->I (F i)/\∀ (j:Nat) x,(enc t 0 (F i))[j]?=some x->∃ u,w.cell? (a.add (i*csz t+j))=some u/\∀ q,RV w B (fun _=>none) q x u:=by
   refine⟨fun i=>if h:i<m then (hr i h).choose else e0,fun i h=>?_⟩
   simp only[h,dif_pos]
   exact(hr i h).choose_spec
  clear hr
  have hc0:=csz_pos t
  obtain⟨x0,hx0⟩:=enc_some t 0 (F 0) 0 hc0
  obtain⟨u0,hu0,_⟩:=(hF 0 (by omega)).2 0 x0 hx0
  obtain⟨b,off,spot⟩:=a
  have hsp:spot=none:=by
   cases spot with
   | none=>rfl
   | some s=>
    unfold World.cell? at hu0
    split at hu0
    ·simp[Addr.add]at hu0
    ·cases hu0
  subst hsp
  have hadd:∀ n,Addr.add ⟨b,off,none⟩ n=⟨b,off+n,none⟩:=fun n=>by simp[Addr.add]
  have hb:b<w.heap.size:=by rw[hadd]at hu0;exact World.block_lt_of_cell? w _ hu0
  obtain⟨U,hU⟩:∃ U:Nat->Nat->Value,∀ i,i<m->∀ (j:Nat) x,(enc t 0 (F i))[j]?=some x->w.cell? ⟨b,off+(i*csz t+j),none⟩=some (U i j)/\∀ q,RV w B (fun _=>none) q x (U i j):=by
   refine⟨fun i j=>(w.cell? ⟨b,off+(i*csz t+j),none⟩).getD undef,fun i h j x hx=>?_⟩
   obtain⟨u,h1,h2⟩:=(hF i h).2 j x hx
   rw[hadd]at h1
   simp only[h1,Option.getD_some]
   exact⟨trivial,h2⟩
  refine⟨(List.range len).map F,by simp;omega,fun x hx=>?_,?_⟩
  ·obtain⟨i,hi,rfl⟩:=List.mem_map.1 hx
   exact(hF i (by have:=List.mem_range.1 hi;omega)).1
  ·have hlen:((List.range len).map F).length=len:=by simp
   have:=RV.fro (w:=w) (B:=B) (lab:=fun _=>none) [] t 0 false ((List.range len).map F) b off cap U (by omega) rfl hb (by omega) (by simp;omega)
    (fun i h j x hx=>(hU i (by rw[hlen]at h;omega) j x (by simpa using hx)).1) (fun i h j x hx=>(hU i (by rw[hlen]at h;omega) j x (by simpa using hx)).2 _)
   rw[hlen]at this
   exact this
theorem law_of{P:Program}{f:Nat}{c:Ctr}{args:List Pt}{vals:Array Value}{w:World}(h:enters P f/\CtrOK P f c)(hrun:c.run Res args some=some (.one (false,[.bool true])))(ha:ArgsOK w args vals)(hQ:Hd w (fun _=>none):=by first | exact hd_any _ _ | assumption):
  Calls P f vals w fun e w'=>e = .returned (.bool true)/\Below w.heap.size w w':=by
 obtain⟨res,h1,_,h2⟩:=h.2 Res args some _ hrun
 injection h1 with h1
 subst h1
 refine(h2 (fun n=>n) w vals ha hQ).mono fun e w'=>?_
 rintro⟨v,lab',rfl,hB,_,⟨⟨_,us,hus,hsz,hv⟩,_⟩⟩
 refine⟨?_,hB⟩
 obtain⟨u,hu,hr⟩:=hv 0 _ rfl
 have hus:us = #[v]:=hus
 subst hus
 have:v=u:=by simpa using hu
 subst this
 cases hr
 rfl
theorem ctrT_run{ai:List (Bool×TC)}{ro:List (Bool×TC×Nat)}{F:InT ai->Option (OutT ro)}{X:Type}{args:List Pt}{k:Res->Option X}{x:InT ai}{y:OutT ro}(hx:inRd ai args=some x)(hy:F x=some y):(ctrT ai ro F).run X args k=k (resMk ro y):=by
 simp only[ctrT,hx,hy]
def RdV(w:World)(B:Nat)(vs:List V)(cs:List Value):Prop:=cs.length=vs.length/\∀ (j:Nat) v,vs[j]?=some v->∃ u,cs[j]?=some u/\∀ q,RV w B (fun _=>none) q v u
theorem RdV.nil{w:World}{B:Nat}:RdV w B [] []:=⟨rfl,fun j v h=>by simp at h⟩
theorem RdV.append{w:World}{B:Nat}{vs vs':List V}{cs cs':List Value}(h:RdV w B vs cs)(h':RdV w B vs' cs'):RdV w B (vs++vs') (cs++cs'):=by
 refine⟨by simp[h.1,h'.1],fun j v hv=>?_⟩
 rcases Nat.lt_or_ge j vs.length with hj | hj
 ·rw[List.getElem?_append_left hj]at hv
  rw[List.getElem?_append_left (by rw[h.1];exact hj)]
  exact h.2 j v hv
 ·rw[List.getElem?_append_right hj]at hv
  rw[List.getElem?_append_right (by rw[h.1];exact hj),h.1]
  exact h'.2 _ v hv
section
variable {H:Type} {enc':TypeId×Value->H} {P:Program} {w:World}
def Opn(enc':TypeId×Value->H)(P:Program)(w:World)(ty:TypeId)(t:TC)(I:T t->Prop):Prop:=
 ∀ n cs x,DataW.trod enc' P w 0 (fun _=>true) true n ty cs=some x->∃ y:T t,I y/\RdV w w.heap.size (enc t 0 y) cs
theorem Opn.int{ty:TypeId}(h:P.underlying ty=some (.int .i64)):Opn enc' P w ty .int in64:=fun n cs x hx=>by
 obtain⟨m,e,_,z⟩:=DataW.trod_int h hx
 cases e
 refine⟨m,in64_of z,rfl,fun j v hv=>?_⟩
 rcases j with _ | j
 ·cases hv;exact⟨_,rfl,fun q=>.int _ _ _⟩
 ·cases hv
theorem Opn.bool{ty:TypeId}(h:P.underlying ty=some .bool):Opn enc' P w ty .bool fun _=>True:=fun n cs x hx=>by
 obtain⟨m,e,_⟩:=DataW.trod_bool h hx
 cases e
 refine⟨m,trivial,rfl,fun j v hv=>?_⟩
 rcases j with _ | j
 ·cases hv;exact⟨_,rfl,fun q=>.bool _ _⟩
 ·cases hv
theorem Opn.sl{ty e:TypeId}{t:TC}{I:T t->Prop}(h:P.underlying ty=some (.slice e))(hC:P.cellsOf e=csz t)(he:Opn enc' P w e t I):Opn enc' P w ty (.sl t) fun(l:List (T t))=>l.length<=maxLen/\∀ x∈l,I x:=fun n cs x hx=>by
 rcases open_slice h hx with ⟨rfl,_⟩ | ⟨a,len,cap,m,n',D,Pl,rfl,hb,hl,hm,hmm,_,hi⟩
 ·refine⟨([]:List (T t)),⟨by simp,by simp⟩,rfl,fun j v hv=>?_⟩
  rcases j with _ | j
  ·cases hv;exact⟨_,rfl,fun q=>.slNil _ _ _⟩
  ·cases hv
 ·have hr:∀ i,i<m->∃ e:T t,I e/\∀ (j:Nat) x,(enc t 0 e)[j]?=some x->∃ u,w.cell? (a.add (i*csz t+j))=some u/\∀ q,RV w w.heap.size (fun _=>none) q x u:=fun i him=>by
   obtain⟨cs',hc,ht⟩:=hi i him
   rw[hC]at hc
   obtain⟨y,hI,h1,h2⟩:=he _ _ _ ht
   obtain⟨_,hcl,hat⟩:=World.cells?_some hc
   refine⟨y,hI,fun j v hv=>?_⟩
   obtain⟨u,hu,hr⟩:=h2 j v hv
   have hj:j<csz t:=by
    have:=(List.getElem?_eq_some_iff.1 hu).1
    omega
   have hcell:=hat j hj
   refine⟨u,?_,hr⟩
   rw[<-Go.Deep.add_add,hcell,hu]
  obtain⟨l,l1,l2,l3⟩:=fro_of (t:=t) (I:=I) hl (by rw[hmm];split <;>omega) hm hr
  refine⟨l,⟨l1,l2⟩,rfl,fun j v hv=>?_⟩
  rcases j with _ | j
  ·cases hv
   exact⟨_,rfl,fun q=>l3.key rfl⟩
  ·cases hv
theorem Opn.part{ty:TypeId}{fs:Array Field}{cs:List Value}{x:DataW H×List MemPlace}{n:Nat}(h:P.underlying ty=some (.struct fs))(hx:DataW.trod enc' P w 0 (fun _=>true) true n ty cs=some x){i:Nat}{f:Field}(hf:fs[i]?=some f){t:TC}{I:T t->Prop}(hi:Opn enc' P w f.type t I){off k:Nat}(ho:f.offset=off)(hk:P.cellsOf f.type=k):∃ y:T t,I y/\RdV w w.heap.size (enc t 0 y) ((cs.drop off).take k):=by
 obtain⟨xs,n',_,_,_,hxs,hh⟩:=DataW.trod_struct h hx
 have h1:=hh i f hf
 have hi':i<xs.length:=by rw[hxs];exact(Array.getElem?_eq_some_iff.1 hf).1
 rw[List.getElem?_eq_getElem hi',ho,hk]at h1
 exact hi _ _ _ h1
theorem Opn.len{ty:TypeId}{fs:Array Field}{cs:List Value}{x:DataW H×List MemPlace}{n:Nat}(h:P.underlying ty=some (.struct fs))(hx:DataW.trod enc' P w 0 (fun _=>true) true n ty cs=some x):cs.length=P.cellsOf ty:=by
 obtain⟨_,_,_,_,h1,_⟩:=DataW.trod_struct h hx
 exact h1
end
def RdS(t:TC)(I:T t->Prop)(w:World)(v:Value):Prop:=∃ y:T t,I y/\∃ us:Array Value,v = .agg us/\RdV w w.heap.size (enc t 0 y) us.toList
theorem openS{H:Type}{enc':TypeId×Value->H}{P:Program}{w:World}{ty:TypeId}{fs:Array Field}{t:TC}{I:T t->Prop}(he:Opn enc' P w ty t I)(hs:P.underlying ty=some (.struct fs)){base:Nat}{v:Value}{d:DataW H}{p:List MemPlace}
  (hv:Value.okWide P w .any base ty v) (h:DataW.Trod enc' P w 0 (fun _=>true) true ty v d p):RdS t I w v:=by
 obtain⟨us,rfl,_⟩:=okWide_struct hs hv
 obtain⟨fuel,hf⟩:=h
 obtain⟨y,h1,h2⟩:=he _ _ _ hf
 exact⟨y,h1,us,rfl,h2⟩
end Go.Proofs.YtdnecbbihepdoaaGreat
