/-
  What is known of an argument that can be read as data, by contents. The block of howto/extra-structs.md (section 1) is laid ahead. Nothing here is a claim.
-/
import Derived.Test.YtcioagfjiccleaaGreatVZ
import Derived.Test.YtcioagfjiccleaaGreatOpen
import Derived.Deep.Slices
import Derived.Deep.Fields
import Derived.ChangeSame
namespace Go.Proofs.YtcioagfjiccleaaGreat
open Go.ChangeShapes Go.WideShapes Go.ChangeAt Go.RowKit Go.Deep
set_option linter.unusedVariables false
set_option maxRecDepth 100000
section
variable {H:Type} {enc:TypeId×Value->H} {P:Program} {w:World} {base:Nat} {spare:Nat->Bool} {held:Bool}
end
def RdL(t:TC)(I:T t->Prop)(w:World)(v:Value):Prop:=∃l:af (T t),l.length<=maxLen/\(∀x∈l,I x)/\RV w w.heap.size (λ_=>none) [] (.sl t 0 false l) v
theorem ak1{t:TC}{I:T t->Prop}{w:World}{a:Addr}{len cap m B:Nat}(hl:len<=cap)(hm:len<=m)(avG:cap<=maxLen)
  (hr:∀i,i<m->∃e:T t,I e/\∀(j:Nat) x,(enc t 0 e)[j]?=some x->∃u,w.cell? (a.add (i*aB t+j))=some u/\∀q,RV w B (λ_=>none) q x u):∃l:af (T t),l.length<=maxLen/\(∀x∈l,I x)/\RV w B (λ_=>none) [] (.sl t 0 false l) (.slice (some a) len cap):=by
 by_cases h0:len=0
 ·subst h0;exact⟨[],by simp,by simp,.dg _ _ _ _ _ (by omega)⟩
 ·obtain⟨e0,_⟩:=hr 0 (by omega);obtain⟨F,hF⟩:∃ F:Nat->T t,∀ i,i<m->I (F i)/\∀ (j:Nat) x,(enc t 0 (F i))[j]?=some x->∃ u,w.cell? (a.add (i*aB t+j))=some u/\∀ q,RV w B (λ_=>none) q x u:=by
   refine⟨λi=>if h:i<m then (hr i h).choose else e0,λi h=>?_⟩
   simp only[h,aK];exact(hr i h).choose_spec
  clear hr;have vC:=qB t;obtain⟨x0,Js⟩:=Cs t 0 (F 0) 0 vC;obtain⟨u0,kS,_⟩:=(hF 0 (by omega)).2 0 x0 Js;obtain⟨b,off,spot⟩:=a;have sQ:spot=none:=by
   cases spot with
   |none=>rfl
   | some s=>
    unfold World.cell? at kS;split at kS
    ·simp[Addr.add]at kS
    ·cases kS
  subst sQ;have Ac:∀n,Addr.add ⟨b,off,none⟩ n=⟨b,off+n,none⟩:=λn=>by simp[Addr.add]
  have hb:b<w.heap.size:=by rw[Ac]at kS;exact World.block_lt_of_cell? w _ kS
  obtain⟨U,hU⟩:∃ U:Nat->Nat->Value,∀ i,i<m->∀ (j:Nat) x,(enc t 0 (F i))[j]?=some x->w.cell? ⟨b,off+(i*aB t+j),none⟩=some (U i j)/\∀ q,RV w B (λ_=>none) q x (U i j):=by
   refine⟨λi j=>(w.cell? ⟨b,off+(i*aB t+j),none⟩).getD undef,λi h j x hx=>?_⟩
   obtain⟨u,h1,h2⟩:=(hF i h).2 j x hx;rw[Ac]at h1;simp only[h1,Option.getD_some];exact⟨trivial,h2⟩
  refine⟨(List.range len).map F,by simp;omega,λx hx=>?_,?_⟩
  ·obtain⟨i,hi,rfl⟩:=List.mem_map.1 hx;exact(hF i (by have:=iA.1 hi;omega)).1
  ·have hlen:((List.range len).map F).length=len:=by simp
   have:=RV.aA (w:=w) (B:=B) (ah:=λ_=>none) [] t 0 false ((List.range len).map F) b off cap U (by omega) rfl hb (by omega) (by simp;omega)
    (λi h j x hx=>(hU i (by rw[hlen]at h;omega) j x (by simpa using hx)).1) (λi h j x hx=>(hU i (by rw[hlen]at h;omega) j x (by simpa using hx)).2 _)
   rw[hlen]at this;exact this
section
variable {H:Type} {enc:TypeId×Value->H} {W:World} {base:Nat} {v:Value} {d:DataW H} {p:af MemPlace}
theorem ak2(hv:Value.okWide Tryz.prog W .any base 22 v)(h:DataW.Trod enc Tryz.prog W 0 (λ_=>true) true 22 v d p):RdL .u8 (λx:Int=>0<=x/\x<=255) W v:=by
 obtain⟨a0,avH,abt,rfl⟩:=okWide_slice Tryz.underlying22 hv;obtain⟨fuel,hf⟩:=h;rcases open_ints Tryz.underlying22 Tryz.underlying5 (by kernel_rfl) hf with ⟨dL,_⟩|⟨x,l,c,zs,dL,_,hl,hm,hz,_,lz,Um⟩
 ·simp[Value.cells]at dL;obtain⟨rfl,rfl,rfl⟩:=dL;exact⟨[],by simp,by simp,.dc _ _ _⟩
 ·simp[Value.cells]at dL;obtain⟨rfl,rfl,rfl⟩:=dL;have hzl:zs.length=abt:=by simpa using hz
  refine ak1 (m:=abt) hl hl hm λi hi=>⟨zs.getD i 0,?_,λj y hy=>?_⟩
  ·have uw:zs.getD i 0∈zs:=by
    have:i<zs.length:=by omega
    simp[this]
   have:=bounds_u8 (Um _ uw);show (0:Int)<=zs.getD i 0/\(zs.getD i 0:Int)<=255;omega
  ·rcases j with _ | j
   ·cases hy
    refine⟨_,?_,λq=>.int _ _ _⟩
    have:aB .u8=1:=rfl;rw[this,Nat.mul_one,Nat.add_zero];exact lz i (by omega)
   ·cases hy
end
theorem ak3{P:Program}{f:Nat}{c:mb}{args:af Pt}{bQ:Array Value}{w:World}(h:enters P f/\lD P f c)(bq:c.run iF args some=some (.one (false,[.bool true])))(ha:wS w args bQ)(hQ:Hd w (λ_=>none):=by first | exact ahc _ _ | assumption):
  Calls P f bQ w λe w'=>e = .returned (.bool true)/\Below w.heap.size w w':=by
 obtain⟨res,h1,_,h2⟩:=h.2 iF args some _ bq;injection h1 with h1;subst h1
 refine(h2 (λn=>n) w bQ ha hQ).mono λe w'=>?_
 rintro⟨v,aC,rfl,hB,_,⟨⟨_,us,gD,dx,hv⟩,_⟩⟩;refine⟨?_,hB⟩;obtain⟨u,hu,hr⟩:=hv 0 _ rfl;have gD:us = #[v]:=gD;subst gD;have:v=u:=by simpa using hu
 subst this;cases hr;rfl
theorem ak4{ai:af (Bool×TC)}{ro:af (Bool×TC×Nat)}{F:pL ai->aj (mg ro)}{X:Type}{args:af Pt}{k:iF->aj X}{x:pL ai}{y:mg ro}(hx:Bh ai args=some x)(hy:F x=some y):(aZ ai ro F).run X args k=k (fK ro y):=by
 simp only[aZ,hx,hy]
theorem ak5{w:World}{v0:Value}{x0:V}(h0:RV w w.heap.size (λ_=>none) [] x0 v0):wS w [(false,[x0])] #[v0]:=by
 refine⟨rfl,λi p hp=>?_⟩
 rcases i with _|i
 ·cases hp;exact⟨v0,rfl,.v _ _ ⟨#[v0],rfl,rfl,λj x hx=>by rcases j with _|j<;>cases hx;exact⟨v0,rfl,h0⟩⟩⟩
 ·cases hp
section
variable {H:Type} {avI:TypeId×Value->H} {P:Program} {w:World}
end
end Go.Proofs.YtcioagfjiccleaaGreat
