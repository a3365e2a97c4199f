/-
  What is known of an argument that can be read as data, by contents. The block of howto/extra-structs.md (section 1) is laid ahead. Nothing here is a claim.
-/
import Derived.Test.YtdfkhfiglknaoaaGreatVZ
import Derived.Test.YtdfkhfiglknaoaaGreatOpen
import Derived.Deep.Slices
import Derived.Deep.Fields
import Derived.ChangeSame
namespace Go.Proofs.YtdfkhfiglknaoaaGreat
set_option linter.defProp false
open Go.ChangeShapes Go.WideShapes Go.ChangeAt Go.RowKit Go.Deep
set_option linter.unusedVariables false
set_option maxRecDepth 100000
section
variable {H:Type} {enc:TypeId×Value->H} {P:Program} {w:World} {base:Nat} {spare:Nat->Bool} {held:Bool}
end
def RdL(t:TC)(I:T t->Prop)(w:World)(v:Value):Prop:=∃l:aa (T t),l.length<=maxLen/\(∀x∈l,I x)/\RV w w.heap.size (λ_=>none) [] (.sl t 0 false l) v
def asn(x:Int):Prop:=-9223372036854775808<=x/\x<=9223372036854775807
def aso{t:TC}{I:T t->Prop}{w:World}{a:Addr}{len cap m B:Nat}(hl:len<=cap)(hm:len<=m)(aGl:cap<=maxLen)
  (E:∀i,i<m->∃e:T t,I e/\∀(j:Nat) x,(enc t 0 e)[j]?=some x->∃u,w.cell? (a.add (i*aH t+j))=some u/\∀q,RV w B (λ_=>none) q x u):∃l:aa (T t),l.length<=maxLen/\(∀x∈l,I x)/\RV w B (λ_=>none) [] (.sl t 0 false l) (.slice (some a) len cap):=by
 by_cases h0:len=0
 ·subst h0;exact⟨[],by simp,by simp,.gy _ _ _ _ _ (by omega)⟩
 ·obtain⟨e0,_⟩:=E 0 (by omega);obtain⟨F,O⟩:∃ F:Nat->T t,∀ i,i<m->I (F i)/\∀ (j:Nat) x,(enc t 0 (F i))[j]?=some x->∃ u,w.cell? (a.add (i*aH t+j))=some u/\∀ q,RV w B (λ_=>none) q x u:=by
   refine⟨λi=>if h:i<m then (E i h).choose else e0,λi h=>?_⟩
   simp only[h,aC];exact(E i h).choose_spec
  clear E;have tN:=pE t;obtain⟨x0,J2⟩:=Cu t 0 (F 0) 0 tN;obtain⟨u0,D,_⟩:=(O 0 (by omega)).2 0 x0 J2;obtain⟨b,off,spot⟩:=a;have uL:spot=none:=by
   cases spot with
   |none=>rfl
   | some s=>
    unfold World.cell? at D;split at D
    ·simp[Addr.add]at D
    ·cases D
  subst uL;have Y:∀n,Addr.add ⟨b,off,none⟩ n=⟨b,off+n,none⟩:=λn=>by simp[Addr.add]
  have hb:b<w.heap.size:=by rw[Y]at D;exact World.block_lt_of_cell? w _ D
  obtain⟨U,hU⟩:∃ U:Nat->Nat->Value,∀ i,i<m->∀ (j:Nat) x,(enc t 0 (F i))[j]?=some x->w.cell? ⟨b,off+(i*aH t+j),none⟩=some (U i j)/\∀ q,RV w B (λ_=>none) q x (U i j):=by
   refine⟨λi j=>(w.cell? ⟨b,off+(i*aH t+j),none⟩).getD undef,λi h j x C=>?_⟩
   obtain⟨u,h1,h2⟩:=(O i h).2 j x C;rw[Y]at h1;simp only[h1,Option.getD_some];exact⟨trivial,h2⟩
  refine⟨(List.range len).map F,by simp;omega,λx C=>?_,?_⟩
  ·obtain⟨i,hi,rfl⟩:=List.mem_map.1 C;exact(O i (by have:=ga.1 hi;omega)).1
  ·have hlen:((List.range len).map F).length=len:=by simp
   have:=RV.aI (w:=w) (B:=B) (aj:=λ_=>none) [] t 0 false ((List.range len).map F) b off cap U (by omega) rfl hb (by omega) (by simp;omega)
    (λi h j x C=>(hU i (by rw[hlen]at h;omega) j x (by simpa using C)).1) (λi h j x C=>(hU i (by rw[hlen]at h;omega) j x (by simpa using C)).2 _)
   rw[hlen]at this;exact this
section
variable {H:Type} {enc:TypeId×Value->H} {W:World} {base:Nat} {v:Value} {d:DataW H} {p:aa MemPlace}
def asp(O:Value.okWide Tryz.prog W .any base 22 v)(h:DataW.Trod enc Tryz.prog W 0 (λ_=>true) true 22 v d p):RdL .u8 (λx:Int=>0<=x/\x<=255) W v:=by
 obtain⟨a0,aGm,E,rfl⟩:=okWide_slice Tryz.underlying22 O;obtain⟨fuel,U⟩:=h;rcases open_ints Tryz.underlying22 Tryz.underlying5 (by kernel_rfl) U with ⟨D,_⟩|⟨x,l,c,C,D,_,hl,Y,hz,_,ku,Xy⟩
 ·simp[Value.cells]at D;obtain⟨rfl,rfl,rfl⟩:=D;exact⟨[],by simp,by simp,.fq _ _ _⟩
 ·simp[Value.cells]at D;obtain⟨rfl,rfl,rfl⟩:=D;have hzl:C.length=E:=by simpa using hz
  refine aso (m:=E) hl hl Y λi hi=>⟨C.getD i 0,?_,λj y I=>?_⟩
  ·have sK:C.getD i 0∈C:=by
    have:i<C.length:=by omega
    simp[this]
   have:=bounds_u8 (Xy _ sK);show (0:Int)<=C.getD i 0/\(C.getD i 0:Int)<=255;omega
  ·rcases j with _ | j
   ·cases I
    refine⟨_,?_,λq=>.int _ _ _⟩
    have:aH .u8=1:=rfl;rw[this,Nat.mul_one,Nat.add_zero];exact ku i (by omega)
   ·cases I
end
def asq{P:Program}{f:Nat}{c:jQ}{args:aa Pt}{cE:Array Value}{w:World}(h:enters P f/\jl P f c)(D:c.run gM args some=some (.one (false,[.bool true])))(E:rB w args cE)(I:Hd w (λ_=>none):=by first | exact aoy _ _ | assumption):
  Calls P f cE w λe w'=>e = .returned (.bool true)/\Below w.heap.size w w':=by
 refine(h.2.2 args _ D (λn=>n) w cE E I).mono λe w'=>?_
 rintro⟨v,aD,rfl,hB,_,⟨⟨_,us,C,gx,O⟩,_⟩⟩;refine⟨?_,hB⟩;obtain⟨u,U,Y⟩:=O 0 _ rfl;have C:us = #[v]:=C;subst C;have:v=u:=by simpa using U
 subst this;cases Y;rfl
def asr{ai:aa (Bool×TC)}{ro:aa (Bool×TC×Nat)}{F:oL ai->ah (jB ro)}{X:Type}{args:aa Pt}{k:gM->ah X}{x:oL ai}{y:jB ro}(C:AY ai args=some x)(D:F x=some y):(ir ai ro F).run X args k=k (fL ro y):=by
 simp only[ir,C,D]
def ass{w:World}{C:Value}{D:V}(I:RV w w.heap.size (λ_=>none) [] D C):rB w [(false,[D])] #[C]:=by
 refine⟨rfl,λi p E=>?_⟩
 rcases i with _|i
 ·cases E;exact⟨C,rfl,.v _ _ ⟨#[C],rfl,rfl,λj x O=>by rcases j with _|j<;>cases O;exact⟨C,rfl,I⟩⟩⟩
 ·cases E
section
variable {H:Type} {aGn:TypeId×Value->H} {P:Program} {w:World}
end
end Go.Proofs.YtdfkhfiglknaoaaGreat
