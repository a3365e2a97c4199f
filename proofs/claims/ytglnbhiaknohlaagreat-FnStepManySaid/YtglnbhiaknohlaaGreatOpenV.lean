/-
  What is known of an argument that can be read as data, by contents. The block of howto/extra-structs.md (section 1) is laid ahead. Nothing here is a claim.
-/
import Derived.Test.YtglnbhiaknohlaaGreatVZ
import Derived.Test.YtglnbhiaknohlaaGreatOpen
import Derived.Deep.Slices
import Derived.Deep.Fields
import Derived.ChangeSame
namespace Go.Proofs.YtglnbhiaknohlaaGreat
set_option linter.defProp false
open Go.ChangeShapes Go.WideShapes Go.ChangeAt Go.RowKit Go.Deep
set_option linter.unusedVariables false
set_option maxRecDepth 100000
section
variable {H:Type} {enc:TypeId×Value->H} {P:Program} {w:World} {base:Nat} {spare:Nat->Bool} {held:Bool}
end
def RdL(t:TC)(I:T t->Prop)(w:World)(v:Value):Prop:=∃l:aa (T t),l.length<=maxLen/\(∀x∈l,I x)/\RV w w.heap.size (λ_=>none) [] (.sl t 0 false l) v
def aqr{t:TC}{I:T t->Prop}{w:World}{a:Addr}{len cap m B:Nat}(hl:len<=cap)(hm:len<=m)(aDi:cap<=maxLen)
  (E:∀i,i<m->∃e:T t,I e/\∀(j:Nat) x,(enc t 0 e)[j]?=some x->∃u,w.cell? (a.add (i*aF t+j))=some u/\∀q,RV w B (λ_=>none) q x u):∃l:aa (T t),l.length<=maxLen/\(∀x∈l,I x)/\RV w B (λ_=>none) [] (.sl t 0 false l) (.slice (some a) len cap):=by
 by_cases Y:len=0
 ·subst Y;exact⟨[],by simp,by simp,.cZ _ _ _ _ _ (by omega)⟩
 ·obtain⟨Z,_⟩:=E 0 (by omega);obtain⟨F,J⟩:∃ F:Nat->T t,∀ i,i<m->I (F i)/\∀ (j:Nat) x,(enc t 0 (F i))[j]?=some x->∃ u,w.cell? (a.add (i*aF t+j))=some u/\∀ q,RV w B (λ_=>none) q x u:=by
   refine⟨λi=>if h:i<m then (E i h).choose else Z,λi h=>?_⟩
   simp only[h,aA];exact(E i h).choose_spec
  clear E;have tD:=oV t;obtain⟨x0,Ip⟩:=A1 t 0 (F 0) 0 tD;obtain⟨u0,D,_⟩:=(J 0 (by omega)).2 0 x0 Ip;obtain⟨b,off,spot⟩:=a;have yI:spot=none:=by
   cases spot with
   |none=>rfl
   | some s=>
    unfold World.cell? at D;split at D
    ·simp[Addr.add]at D
    ·cases D
  subst yI;have L:∀n,Addr.add ⟨b,off,none⟩ n=⟨b,off+n,none⟩:=λn=>by simp[Addr.add]
  have hb:b<w.heap.size:=by rw[L]at D;exact World.block_lt_of_cell? w _ D
  obtain⟨U,O⟩:∃ U:Nat->Nat->Value,∀ i,i<m->∀ (j:Nat) x,(enc t 0 (F i))[j]?=some x->w.cell? ⟨b,off+(i*aF t+j),none⟩=some (U i j)/\∀ q,RV w B (λ_=>none) q x (U i j):=by
   refine⟨λi j=>(w.cell? ⟨b,off+(i*aF t+j),none⟩).getD undef,λi h j x C=>?_⟩
   obtain⟨u,Q,h2⟩:=(J i h).2 j x C;rw[L]at Q;simp only[Q,Option.getD_some];exact⟨trivial,h2⟩
  refine⟨(List.range len).map F,by simp;omega,λx C=>?_,?_⟩
  ·obtain⟨i,hi,rfl⟩:=List.mem_map.1 C;exact(J i (by have:=fq.1 hi;omega)).1
  ·have hlen:((List.range len).map F).length=len:=by simp
   have:=RV.aD (w:=w) (B:=B) (aj:=λ_=>none) [] t 0 false ((List.range len).map F) b off cap U (by omega) rfl hb (by omega) (by simp;omega)
    (λi h j x C=>(O i (by rw[hlen]at h;omega) j x (by simpa using C)).1) (λi h j x C=>(O i (by rw[hlen]at h;omega) j x (by simpa using C)).2 _)
   rw[hlen]at this;exact this
section
variable {H:Type} {enc:TypeId×Value->H} {W:World} {base:Nat} {v:Value} {d:DataW H} {p:aa MemPlace}
def aqs(J:Value.okWide Tryz.prog W .any base 22 v)(h:DataW.Trod enc Tryz.prog W 0 (λ_=>true) true 22 v d p):RdL .u8 (λx:Int=>0<=x/\x<=255) W v:=by
 obtain⟨Z,aDj,E,rfl⟩:=okWide_slice Tryz.underlying22 J;obtain⟨fuel,L⟩:=h;rcases open_ints Tryz.underlying22 Tryz.underlying5 (by kernel_rfl) L with ⟨D,_⟩|⟨x,l,c,C,D,_,hl,O,Q,_,T,U⟩
 ·simp[Value.cells]at D;obtain⟨rfl,rfl,rfl⟩:=D;exact⟨[],by simp,by simp,.cS _ _ _⟩
 ·simp[Value.cells]at D;obtain⟨rfl,rfl,rfl⟩:=D;have hzl:C.length=E:=by simpa using Q
  refine aqr (m:=E) hl hl O λi hi=>⟨C.getD i 0,?_,λj y I=>?_⟩
  ·have Y:C.getD i 0∈C:=by
    have:i<C.length:=by omega
    simp[this]
   have:=bounds_u8 (U _ Y);show (0:Int)<=C.getD i 0/\(C.getD i 0:Int)<=255;omega
  ·rcases j with _ | j
   ·cases I
    refine⟨_,?_,λq=>.int _ _ _⟩
    have:aF .u8=1:=rfl;rw[this,Nat.mul_one,Nat.add_zero];exact T i (by omega)
   ·cases I
end
def aqt{P:Program}{f:Nat}{c:jo}{args:aa Pt}{cc:Array Value}{w:World}(h:enters P f/\iP P f c)(E:c.run fW args some=some (.one (false,[.bool true])))(I:uR w args cc)(J:Hd w (λ_=>none):=by first | exact amB _ _ | assumption):
  Calls P f cc w λe w'=>e = .returned (.bool true)/\Below w.heap.size w w':=by
 obtain⟨U,C,_,L⟩:=h.2 fW args some _ E;injection C with C;subst C
 refine(L (λn=>n) w cc I J).mono λe w'=>?_
 rintro⟨v,aE,rfl,hB,_,⟨⟨_,us,D,Y,O⟩,_⟩⟩;refine⟨?_,hB⟩;obtain⟨u,Q,T⟩:=O 0 _ rfl;have D:us = #[v]:=D;subst D;have:v=u:=by simpa using Q
 subst this;cases T;rfl
def aqu{ai:aa (Bool×TC)}{ro:aa (Bool×TC×Nat)}{F:me ai->ah (iQ ro)}{X:Type}{args:aa Pt}{k:fW->ah X}{x:me ai}{y:iQ ro}(C:zH ai args=some x)(D:F x=some y):(gp ai ro F).run X args k=k (fe ro y):=by
 simp only[gp,C,D]
def aqv{w:World}{C:Value}{D:V}(I:RV w w.heap.size (λ_=>none) [] D C):uR w [(false,[D])] #[C]:=by
 refine⟨rfl,λi p E=>?_⟩
 rcases i with _|i
 ·cases E;exact⟨C,rfl,.v _ _ ⟨#[C],rfl,rfl,λj x J=>by rcases j with _|j<;>cases J;exact⟨C,rfl,I⟩⟩⟩
 ·cases E
section
variable {H:Type} {aDk:TypeId×Value->H} {P:Program} {w:World}
end
end Go.Proofs.YtglnbhiaknohlaaGreat
