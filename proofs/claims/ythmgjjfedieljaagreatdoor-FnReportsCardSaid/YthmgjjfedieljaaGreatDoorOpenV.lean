/-
  What is known of an argument that can be read as data, by contents. The block of howto/extra-structs.md (section 1) is laid ahead. Nothing here is a claim.
-/
import Derived.Test.YthmgjjfedieljaaGreatDoorVZ
import Derived.Test.YthmgjjfedieljaaGreatDoorOpen
import Derived.Deep.Slices
import Derived.Deep.Fields
import Derived.ChangeSame
namespace Go.Proofs.YthmgjjfedieljaaGreatDoor
set_option linter.defProp false
open Go.ChangeShapes Go.WideShapes Go.ChangeAt Go.RowKit Go.Deep
set_option linter.unusedVariables false
set_option maxRecDepth 100000
section
variable {H:Type} {enc:TypeId×Value->H} {P:Program} {w:World} {base:Nat} {spare:Nat->Bool} {held:Bool}
end
def Ze(t:TC)(I:T t->Prop)(w:World)(v:Value):Prop:=∃l:aa (T t),l.length<=maxLen/\(∀x∈l,I x)/\RV w w.heap.size (λ_=>none) [] (.sl t 0 false l) v
def Ll(x:Int):Prop:=-9223372036854775808<=x/\x<=9223372036854775807
def akS{t:TC}{I:T t->Prop}{w:World}{a:Addr}{len cap m B:Nat}(hl:len<=cap)(hm:len<=m)(awJ:cap<=maxLen)
  (E:∀i,i<m->∃e:T t,I e/\∀(j:Nat) x,(enc t 0 e)[j]?=some x->∃u,w.cell? (a.add (i*aA t+j))=some u/\∀q,RV w B (λ_=>none) q x u):∃l:aa (T t),l.length<=maxLen/\(∀x∈l,I x)/\RV w B (λ_=>none) [] (.sl t 0 false l) (.slice (some a) len cap):=by
 by_cases h0:len=0
 ·subst h0;exact⟨[],by simp,by simp,.eX _ _ _ _ _ (by omega)⟩
 ·obtain⟨e0,_⟩:=E 0 (by omega);obtain⟨F,L⟩:∃ F:Nat->T t,∀ i,i<m->I (F i)/\∀ (j:Nat) x,(enc t 0 (F i))[j]?=some x->∃ u,w.cell? (a.add (i*aA t+j))=some u/\∀ q,RV w B (λ_=>none) q x u:=by
   refine⟨λi=>if h:i<m then (E i h).choose else e0,λi h=>?_⟩
   simp only[h,aD];exact(E i h).choose_spec
  clear E;have rO:=mh t;obtain⟨x0,Si⟩:=zx t 0 (F 0) 0 rO;obtain⟨u0,D,_⟩:=(L 0 (by omega)).2 0 x0 Si;obtain⟨b,off,spot⟩:=a;have uK:spot=none:=by
   cases spot with
   |none=>rfl
   | some s=>
    unfold World.cell? at D;split at D
    ·simp[Addr.add]at D
    ·cases D
  subst uK;have O:∀n,Addr.add ⟨b,off,none⟩ n=⟨b,off+n,none⟩:=λn=>by simp[Addr.add]
  have hb:b<w.heap.size:=by rw[O]at D;exact World.block_lt_of_cell? w _ D
  obtain⟨U,Y⟩:∃ U:Nat->Nat->Value,∀ i,i<m->∀ (j:Nat) x,(enc t 0 (F i))[j]?=some x->w.cell? ⟨b,off+(i*aA t+j),none⟩=some (U i j)/\∀ q,RV w B (λ_=>none) q x (U i j):=by
   refine⟨λi j=>(w.cell? ⟨b,off+(i*aA t+j),none⟩).getD undef,λi h j x C=>?_⟩
   obtain⟨u,Z,h2⟩:=(L i h).2 j x C;rw[O]at Z;simp only[Z,Option.getD_some];exact⟨trivial,h2⟩
  refine⟨(List.range len).map F,by simp;omega,λx C=>?_,?_⟩
  ·obtain⟨i,hi,rfl⟩:=List.mem_map.1 C;exact(L i (by have:=eJ.1 hi;omega)).1
  ·have hlen:((List.range len).map F).length=len:=by simp
   have:=RV.aF (w:=w) (B:=B) (lab:=λ_=>none) [] t 0 false ((List.range len).map F) b off cap U (by omega) rfl hb (by omega) (by simp;omega)
    (λi h j x C=>(Y i (by rw[hlen]at h;omega) j x (by simpa using C)).1) (λi h j x C=>(Y i (by rw[hlen]at h;omega) j x (by simpa using C)).2 _)
   rw[hlen]at this;exact this
section
variable {H:Type} {enc:TypeId×Value->H} {W:World} {base:Nat} {v:Value} {d:DataW H} {p:aa MemPlace}
def akT(I:Value.okWide Tryz.prog W .any base 22 v)(h:DataW.Trod enc Tryz.prog W 0 (λ_=>true) true 22 v d p):Ze .u8 (λx:Int=>0<=x/\x<=255) W v:=by
 obtain⟨a0,awK,E,rfl⟩:=okWide_slice Tryz.underlying22 I;obtain⟨fuel,L⟩:=h;rcases open_ints Tryz.underlying22 Tryz.underlying5 (by kernel_rfl) L with ⟨D,_⟩|⟨x,l,c,C,D,_,hl,O,T,_,U,Y⟩
 ·simp[Value.cells]at D;obtain⟨rfl,rfl,rfl⟩:=D;exact⟨[],by simp,by simp,.dN _ _ _⟩
 ·simp[Value.cells]at D;obtain⟨rfl,rfl,rfl⟩:=D;have hzl:C.length=E:=by simpa using T
  refine akS (m:=E) hl hl O λi hi=>⟨C.getD i 0,?_,λj y F=>?_⟩
  ·have Z:C.getD i 0∈C:=by
    have:i<C.length:=by omega
    simp[this]
   have:=bounds_u8 (Y _ Z);show (0:Int)<=C.getD i 0/\(C.getD i 0:Int)<=255;omega
  ·rcases j with _ | j
   ·cases F
    refine⟨_,?_,λq=>.int _ _ _⟩
    have:aA .u8=1:=rfl;rw[this,Nat.mul_one,Nat.add_zero];exact U i (by omega)
   ·cases F
end
def akU{P:Program}{f:Nat}{c:ji}{args:aa Pt}{bB:Array Value}{w:World}(h:enters P f/\iY P f c)(D:c.run fq args some=some (.one (false,[.bool true])))(E:pn w args bB)(F:Hd w (λ_=>none):=by first | exact T _ _ | assumption):
  Calls P f bB w λe w'=>e = .returned (.bool true)/\Below w.heap.size w w':=by
 refine(h.2.2 args _ D (λn=>n) w bB E F).mono λe w'=>?_
 rintro⟨v,ax,rfl,hB,_,⟨⟨_,us,C,U,I⟩,_⟩⟩;refine⟨?_,hB⟩;obtain⟨u,L,O⟩:=I 0 _ rfl;have C:us = #[v]:=C;subst C;have:v=u:=by simpa using L
 subst this;cases O;rfl
def akV{ai:aa (Bool×TC)}{ro:aa (Bool×TC×Nat)}{F:jd ai->ah (gT ro)}{X:Type}{args:aa Pt}{k:fq->ah X}{x:jd ai}{y:gT ro}(C:vC ai args=some x)(D:F x=some y):(jI ai ro F).run X args k=k (ek ro y):=by
 simp only[jI,C,D]
def akW{w:World}{C:Value}{D:V}(F:RV w w.heap.size (λ_=>none) [] D C):pn w [(false,[D])] #[C]:=by
 refine⟨rfl,λi p E=>?_⟩
 rcases i with _|i
 ·cases E;exact⟨C,rfl,.v _ _ ⟨#[C],rfl,rfl,λj x I=>by rcases j with _|j<;>cases I;exact⟨C,rfl,F⟩⟩⟩
 ·cases E
section
variable {H:Type} {awL:TypeId×Value->H} {P:Program} {w:World}
end
end Go.Proofs.YthmgjjfedieljaaGreatDoor
