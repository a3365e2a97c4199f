/-
  What is known of an argument that can be read as data, by contents. The block of howto/extra-structs.md (section 1) is laid ahead. Nothing here is a claim.
-/
import Derived.Test.YtgjfmljpdnnihaaGreatVZ
import Derived.Test.YtgjfmljpdnnihaaGreatOpen
import Derived.Deep.Slices
import Derived.Deep.Fields
import Derived.ChangeSame
namespace Go.Proofs.YtgjfmljpdnnihaaGreat
set_option linter.defProp false
open Go.ChangeShapes Go.WideShapes Go.ChangeAt Go.RowKit Go.Deep
set_option linter.unusedVariables false
set_option maxRecDepth 100000
section
variable {H:Type} {enc:TypeId×Value->H} {P:Program} {w:World} {base:Nat} {spare:Nat->Bool} {held:Bool}
end
def Z6(t:TC)(I:T t->Prop)(w:World)(v:Value):Prop:=∃l:aa (T t),l.length<=maxLen/\(∀x∈l,I x)/\RV w w.heap.size (λ_=>none) [] (.sl t 0 false l) v
def akx{t:TC}{I:T t->Prop}{w:World}{a:Addr}{len cap m B:Nat}(hl:len<=cap)(hm:len<=m)(auA:cap<=maxLen)
  (E:∀i,i<m->∃e:T t,I e/\∀(j:Nat) x,(enc t 0 e)[j]?=some x->∃u,w.cell? (a.add (i*aC t+j))=some u/\∀q,RV w B (λ_=>none) q x u):∃l:aa (T t),l.length<=maxLen/\(∀x∈l,I x)/\RV w B (λ_=>none) [] (.sl t 0 false l) (.slice (some a) len cap):=by
 by_cases h0:len=0
 ·subst h0;exact⟨[],by simp,by simp,.fy _ _ _ _ _ (by omega)⟩
 ·obtain⟨e0,_⟩:=E 0 (by omega);obtain⟨F,O⟩:∃ F:Nat->T t,∀ i,i<m->I (F i)/\∀ (j:Nat) x,(enc t 0 (F i))[j]?=some x->∃ u,w.cell? (a.add (i*aC t+j))=some u/\∀ q,RV w B (λ_=>none) q x u:=by
   refine⟨λi=>if h:i<m then (E i h).choose else e0,λi h=>?_⟩
   simp only[h,aO];exact(E i h).choose_spec
  clear E;have q6:=ot t;obtain⟨x0,G9⟩:=Bm t 0 (F 0) 0 q6;obtain⟨u0,D,_⟩:=(O 0 (by omega)).2 0 x0 G9;obtain⟨b,off,spot⟩:=a;have vm:spot=none:=by
   cases spot with
   |none=>rfl
   | some s=>
    unfold World.cell? at D;split at D
    ·simp[Addr.add]at D
    ·cases D
  subst vm;have Y:∀n,Addr.add ⟨b,off,none⟩ n=⟨b,off+n,none⟩:=λn=>by simp[Addr.add]
  have hb:b<w.heap.size:=by rw[Y]at D;exact World.block_lt_of_cell? w _ D
  obtain⟨U,Z⟩:∃ U:Nat->Nat->Value,∀ i,i<m->∀ (j:Nat) x,(enc t 0 (F i))[j]?=some x->w.cell? ⟨b,off+(i*aC t+j),none⟩=some (U i j)/\∀ q,RV w B (λ_=>none) q x (U i j):=by
   refine⟨λi j=>(w.cell? ⟨b,off+(i*aC t+j),none⟩).getD undef,λi h j x C=>?_⟩
   obtain⟨u,h1,h2⟩:=(O i h).2 j x C;rw[Y]at h1;simp only[h1,Option.getD_some];exact⟨trivial,h2⟩
  refine⟨(List.range len).map F,by simp;omega,λx C=>?_,?_⟩
  ·obtain⟨i,hi,rfl⟩:=List.mem_map.1 C;exact(O i (by have:=gq.1 hi;omega)).1
  ·have hlen:((List.range len).map F).length=len:=by simp
   have:=RV.aF (w:=w) (B:=B) (af:=λ_=>none) [] t 0 false ((List.range len).map F) b off cap U (by omega) rfl hb (by omega) (by simp;omega)
    (λi h j x C=>(Z i (by rw[hlen]at h;omega) j x (by simpa using C)).1) (λi h j x C=>(Z i (by rw[hlen]at h;omega) j x (by simpa using C)).2 _)
   rw[hlen]at this;exact this
section
variable {H:Type} {enc:TypeId×Value->H} {W:World} {base:Nat} {v:Value} {d:DataW H} {p:aa MemPlace}
def aky(O:Value.okWide Tryz.prog W .any base 22 v)(h:DataW.Trod enc Tryz.prog W 0 (λ_=>true) true 22 v d p):Z6 .u8 (λx:Int=>0<=x/\x<=255) W v:=by
 obtain⟨a0,auB,D,rfl⟩:=okWide_slice Tryz.underlying22 O;obtain⟨fuel,T⟩:=h;rcases open_ints Tryz.underlying22 Tryz.underlying5 (by kernel_rfl) T with ⟨C,_⟩|⟨x,l,c,zs,C,_,E,U,Y,_,Z,R8⟩
 ·simp[Value.cells]at C;obtain⟨rfl,rfl,rfl⟩:=C;exact⟨[],by simp,by simp,.eo _ _ _⟩
 ·simp[Value.cells]at C;obtain⟨rfl,rfl,rfl⟩:=C;have hzl:zs.length=D:=by simpa using Y
  refine akx (m:=D) E E U λi hi=>⟨zs.getD i 0,?_,λj y I=>?_⟩
  ·have vC:zs.getD i 0∈zs:=by
    have:i<zs.length:=by omega
    simp[this]
   have:=bounds_u8 (R8 _ vC);show (0:Int)<=zs.getD i 0/\(zs.getD i 0:Int)<=255;omega
  ·rcases j with _ | j
   ·cases I
    refine⟨_,?_,λq=>.int _ _ _⟩
    have:aC .u8=1:=rfl;rw[this,Nat.mul_one,Nat.add_zero];exact Z i (by omega)
   ·cases I
end
def akz{P:Program}{f:Nat}{c:jf}{args:aa Pt}{bA:Array Value}{w:World}(h:enters P f/\iL P f c)(D:c.run fL args some=some (.one (false,[.bool true])))(E:oJ w args bA)(I:Hd w (λ_=>none):=by first | exact agz _ _ | assumption):
  Calls P f bA w λe w'=>e = .returned (.bool true)/\Below w.heap.size w w':=by
 refine(h.2.2 args _ D (λn=>n) w bA E I).mono λe w'=>?_
 rintro⟨v,az,rfl,hB,_,⟨⟨_,us,C,Y,O⟩,_⟩⟩;refine⟨?_,hB⟩;obtain⟨u,T,U⟩:=O 0 _ rfl;have C:us = #[v]:=C;subst C;have:v=u:=by simpa using T
 subst this;cases U;rfl
def akA{ai:aa (Bool×TC)}{ro:aa (Bool×TC×Nat)}{F:kA ai->ah (iw ro)}{X:Type}{args:aa Pt}{k:fL->ah X}{x:kA ai}{y:iw ro}(C:yc ai args=some x)(D:F x=some y):(gZ ai ro F).run X args k=k (eP ro y):=by
 simp only[gZ,C,D]
def akB{w:World}{C:Value}{D:V}(I:RV w w.heap.size (λ_=>none) [] D C):oJ w [(false,[D])] #[C]:=by
 refine⟨rfl,λi p E=>?_⟩
 rcases i with _|i
 ·cases E;exact⟨C,rfl,.v _ _ ⟨#[C],rfl,rfl,λj x O=>by rcases j with _|j<;>cases O;exact⟨C,rfl,I⟩⟩⟩
 ·cases E
section
variable {H:Type} {auC:TypeId×Value->H} {P:Program} {w:World}
end
end Go.Proofs.YtgjfmljpdnnihaaGreat
