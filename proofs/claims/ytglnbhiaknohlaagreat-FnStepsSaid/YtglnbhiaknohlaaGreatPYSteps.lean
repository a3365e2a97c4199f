/-
  Plain laws. Nothing here is a claim.
-/
import Derived.Test.YtglnbhiaknohlaaGreatVZ
import Derived.Test.YtglnbhiaknohlaaGreatOpenV
import Derived.Test.YtglnbhiaknohlaaGreatG1
import Derived.Test.YtglnbhiaknohlaaGreatG2
import Derived.Test.YtglnbhiaknohlaaGreatG3
import Derived.Test.YtglnbhiaknohlaaGreatG4
import Derived.Test.YtglnbhiaknohlaaGreatG5
import Derived.Test.YtglnbhiaknohlaaGreatG6
import Derived.Test.YtglnbhiaknohlaaGreatG7
import Derived.Test.YtglnbhiaknohlaaGreatG8
namespace Go.Proofs.YtglnbhiaknohlaaGreat
set_option linter.defProp false
open Go.RowKit
set_option linter.unusedVariables false
set_option linter.unusedSimpArgs false
set_option maxRecDepth 100000
def aR{n:Int}(C:-9223372036854775808<=n:=by omega)(D:n<9223372036854775808:=by omega):W6 n=n:=by
 exact(IntKind.wrap_i64 n).trans (by omega)
def aif{α β:Type}{step:α->aj (α⊕β)}(I:α->Prop)(m:α->Nat)(Q:β->Prop)
  (h:∀x,I x->(∃y,step x=some (.inl y)/\I y/\m y<m x)\/∃z,step x=some (.inr z)/\Q z):
  ∀(n:Nat) (x:α),I x->m x<n->∃z,iter step n x=some z/\Q z
 |0,x,_,E=>by omega
 | n+1,x,J,E=>by
  unfold iter;rcases h x J with ⟨y,C,D,L⟩|⟨z,C,D⟩
  ·rw[C];exact aif I m Q h n y D (by omega)
  ·rw[C];exact⟨z,rfl,D⟩
def au{α β:Type}(x:α)(f:α->aj β):(some x).bind f=f x:=rfl
def gQ{α β T:Type}{step:α->aj (α⊕β)}(l:aa T)(q:T->Bool)(S:Nat->α)(D z:β)(fuel:Nat)(I:∀ k (h:k<l.length),step (S k)=some (bif q l[k]then .inl (S (k+1))else .inr D))(J:step (S l.length)=some (.inr z))(C:l.length<fuel):
  iter step fuel (S 0)=some (bif l.all q then z else D):=by
 have key:∀ (n i fuel:Nat),i+n=l.length->n<fuel->iter step fuel (S i)=some (bif (l.drop i).all q then z else D):=by
  intro n
  induction n with
  | zero=>
   intro i fuel hi C
   match fuel,C with
   | f+1,_=>
    have:i=l.length:=by omega
    subst this;unfold iter;rw[J];simp
  | succ n L=>
   intro i fuel hi C
   match fuel,C with
   | f+1,C=>
    have E:i<l.length:=by omega
    unfold iter;rw[I i E,List.drop_eq_getElem_cons E,List.all_cons];cases q l[i]with
    |true=>simp only[ak,cr];exact L (i+1) f (by omega) (by omega)
    |false=>rfl
 exact key l.length 0 fuel (by omega) C
def cL{α β:Type}{step:α->aj (α⊕β)}(n:Nat)(S:Nat->α)(z:β)(fuel:Nat)(D:∀ k,k<n->step (S k)=some (.inl (S (k+1))))(E:step (S n)=some (.inr z))(C:n<fuel):iter step fuel (S 0)=some z:=by
 have key:∀ (m i fuel:Nat),i+m=n->m<fuel->iter step fuel (S i)=some z:=by
  intro m
  induction m with
  | zero=>
   intro i fuel hi C
   match fuel,C with
   | f+1,_=>
    have:i=n:=by omega
    subst this;unfold iter;rw[E]
  | succ m I=>
   intro i fuel hi C
   match fuel,C with
   | f+1,C=>
    unfold iter;rw[D i (by omega)];exact I (i+1) f (by omega) (by omega)
 exact key n 0 fuel (by omega) C
def YB{α β:Type}{step:α->aj (α⊕β)}(n:Nat)(I:Nat->α->Prop)(Q:β->Prop){x:α}(fuel:Nat)(L:I 0 x)(O:∀ k,k<n->∀ x,I k x->∃ y,step x=some (.inl y)/\I (k+1) y)(T:∀ x,I n x->∃ z,step x=some (.inr z)/\Q z)(C:n<fuel):∃ z,iter step fuel x=some z/\Q z:=by
 have key:∀ (m i fuel:Nat) (x:α),i+m=n->m<fuel->I i x->∃ z,iter step fuel x=some z/\Q z:=by
  intro m
  induction m with
  | zero=>
   intro i fuel x hi C D
   match fuel,C with
   | f+1,_=>
    have:i=n:=by omega
    subst this;obtain⟨z,E,J⟩:=T x D;unfold iter;rw[E];exact⟨z,rfl,J⟩
  | succ m U=>
   intro i fuel x hi C D
   match fuel,C with
   | f+1,C=>
    obtain⟨y,E,J⟩:=O i (by omega) x D;unfold iter;rw[E];exact U (i+1) f y (by omega) (by omega) J
 exact key n 0 fuel x (by omega) C L
def YC{α β:Type}{step:α->aj (α⊕β)}(n:Nat)(I:Nat->α->Prop)(Q:β->Prop){x:α}(fuel:Nat)(L:I 0 x)(O:∀ k,k<n->∀ x,I k x->(∃ y,step x=some (.inl y)/\I (k+1) y)\/∃ z,step x=some (.inr z)/\Q z)(T:∀ x,I n x->∃ z,step x=some (.inr z)/\Q z)(C:n<fuel):∃ z,iter step fuel x=some z/\Q z:=by
 have key:∀ (m i fuel:Nat) (x:α),i+m=n->m<fuel->I i x->∃ z,iter step fuel x=some z/\Q z:=by
  intro m
  induction m with
  | zero=>
   intro i fuel x hi C J
   match fuel,C with
   | f+1,_=>
    have:i=n:=by omega
    subst this;obtain⟨z,D,E⟩:=T x J;unfold iter;rw[D];exact⟨z,rfl,E⟩
  | succ m U=>
   intro i fuel x hi C J
   match fuel,C with
   | f+1,C=>
    unfold iter;rcases O i (by omega) x J with ⟨y,D,E⟩|⟨z,D,E⟩
    ·rw[D];exact U (i+1) f y (by omega) (by omega) E
    ·rw[D];exact⟨z,rfl,E⟩
 exact key n 0 fuel x (by omega) C L
def upto{α:Type}(f:α->α)(l:aa α)(i:Nat):aa α:=(l.take i).map f++l.drop i
def AA{α:Type}(f:α->α)(l:aa α)(i:Nat):(upto f l i).length=l.length:=by
 simp[upto];omega
def FX{α:Type}(f:α->α)(l:aa α):upto f l 0=l:=by simp[upto]
def FY{α:Type}(f:α->α)(l:aa α):upto f l l.length=l.map f:=by simp[upto]
def FZ{α:Type}(f:α->α)(l:aa α)(i:Nat)(h:i<l.length)(C:i<(upto f l i).length):(upto f l i)[i]=l[i]:=by
 simp only[upto];rw[List.getElem_append_right (by simp;omega)];simp[Nat.min_eq_left (Nat.le_of_lt h)]
def F0{α:Type}(f:α->α)(l:aa α)(i:Nat)(h:i<l.length):(upto f l i).set i (f l[i])=upto f l (i+1):=by
 have C:min i l.length=i:=by omega
 have e:l.drop i=l[i]::l.drop (i+1):=List.drop_eq_getElem_cons h;simp only[upto];rw[List.set_append_right _ _ (by simp;omega),e,List.take_succ_eq_append_getElem h];simp only[lZ,List.map_cons,List.map_nil,dh,fF,C,Nat.sub_self,List.set_cons_zero,List.append_assoc,List.cons_append,jH]
def fP{x y:Int}(h:¬ x=y):(x==y)=false:=by simp[h]
def fY{x y:Int}(h:¬ x=y):(x != y)=true:=by simp[h]
def cP{n:Nat}(h:n<1073741824:=by omega):bD n=true:=aP h
def bI{i:Nat}(h:i<4611686018427387904:=by omega):W6 ((i:Int)+1)=((i+1:Nat):Int):=by
 rw[aR];simp
def bM{n:Nat}(h:n<1073741824:=by omega):n<aS:=by unfold aS;omega
def aK(x a b:Int):Bool:=decide (a<=x)&&decide (x<=b)
def bx{x a b:Int}:aK x a b=true ↔ a<=x/\x<=b:=by simp[aK]
def dJ(x a b:Int):cK x a b=some (aK x a b):=by
 unfold cK aK;by_cases h:a<=x<;>simp[h]
def eJ(x a b:Int):cN x a b=some (aK x a b):=dJ x a b
def cD(g:aO):Bool:=aK g.cq 1 2&&aK g.aC 1 4&&aK g.rows 2 16&&aK g.aN 1 8
def xT(g:aO):sZ g=some (cD g):=by
 unfold sZ cD;simp only[dJ,au];cases aK g.cq 1 2<;>cases aK g.aC 1 4<;>cases aK g.rows 2 16<;>rfl
def F1(g:aO):xw g=some (cD g):=by
 unfold xw cD;simp only[eJ,au];cases aK g.cq 1 2<;>cases aK g.aC 1 4<;>cases aK g.rows 2 16<;>rfl
def fA{g:aO}(h:cD g=true):1<=g.cq/\g.cq<=2/\1<=g.aC/\g.aC<=4/\2<=g.rows/\g.rows<=16/\1<=g.aN/\g.aN<=8:=by
 simp only[cD,aK,aM,gf]at h;omega
def aT(g:aO):Int:=bif cD g then g.cq*g.aC else 0
def eY(g:aO):0<=aT g/\aT g<=8:=by
 unfold aT;cases h:cD g with
 |false=>simp
 | true=>
  obtain⟨C,D,E,I,_⟩:=fA h;simp only[ak];rcases(by omega:g.cq=1\/g.cq=2)with e|e<;>rw[e]<;>omega
def LG{g:aO}(h:cD g=true):1<=aT g:=by
 obtain⟨C,D,E,I,_⟩:=fA h;simp only[aT,h,ak];rcases(by omega:g.cq=1\/g.cq=2)with e|e<;>rw[e]<;>omega
def oN(g:aO):oM g=some (aT g):=by
 have hb:=eY g;unfold oM;rw[xT,au];unfold aT at hb ⊢;cases h:cD g with
 |false=>rfl
 | true=>
  rw[h]at hb;simp only[ak]at hb;simp only[bB,aq,ak];rw[aR]
def oO(g:aO):ng g=some (aT g):=by
 have hb:=eY g;unfold ng;rw[F1,au];unfold aT at hb ⊢;cases h:cD g with
 |false=>rfl
 | true=>
  rw[h]at hb;simp only[ak]at hb;simp only[bB,aq,ak];rw[aR]
def gu(g:aO):Int:=bif cD g then aT g*g.rows else 0
def dK(g:aO):Int:=bif cD g then aT g*g.rows*g.aN else 0
def Rr{a b A B:Int}(D:0<=a)(E:a<=A)(C:0<=b)(I:b<=B):0<=a*b/\a*b<=A*B:=
 ⟨Int.mul_nonneg D C,Int.le_trans (Int.mul_le_mul_of_nonneg_right E C) (Int.mul_le_mul_of_nonneg_left I (by omega))⟩
def p6(g:aO):0<=gu g/\gu g<=128:=by
 unfold gu;cases h:cD g with
 |false=>simp
 | true=>
  obtain⟨_,_,_,_,D,C,_⟩:=fA h;have:=eY g;exact Rr this.1 this.2 (by omega) C
def kU(g:aO):0<=dK g/\dK g<=1024:=by
 have C:=p6 g;unfold dK gu at *
 cases h:cD g with
 |false=>simp
 | true=>
  rw[h]at C;obtain⟨_,_,_,_,E,I,J,D⟩:=fA h;exact Rr C.1 C.2 (by omega) D
def LH(g:aO):vG g=some (dK g):=by
 have C:=kU g;have D:=p6 g;unfold vG;rw[oN,au];unfold dK gu at *
 cases h:cD g with
 |false=>simp only[aT,h,aq,Int.zero_mul];rw[show W6 0=0 from rfl,Int.zero_mul];rfl
 | true=>
  rw[h]at C D;simp only[ak]at C D;simp only[ak];rw[aR (n:=aT g*g.rows),aR]
def CU(g:aO):um g=some (dK g):=by
 have C:=kU g;have D:=p6 g;unfold um;rw[F1,au,oO,au];unfold dK gu at *
 cases h:cD g with
 |false=>rfl
 | true=>
  rw[h]at C D;simp only[ak]at C D;simp only[bB,ak,aq];rw[aR (n:=aT g*g.rows),aR]
def dL(g:aO)(a:aL):Bool:=cD g&&aK a.ax 0 (aT g-1)&&aK a.row 0 (g.rows-1)&&aK a.bR 0 (g.aN-1)
def r6{g:aO}{a:aL}(h:dL g a=true):cD g=true/\0<=a.ax/\a.ax<aT g/\0<=a.row/\a.row<g.rows/\0<=a.bR/\a.bR<g.aN:=by
 simp only[dL,aK,aM,gf]at h;exact⟨h.1.1.1,by omega⟩
def vL{g:aO}{a:aL}(h:cD g=true)(C:0<=a.ax)(D:a.ax<aT g)(E:0<=a.row)(I:a.row<g.rows)(J:0<=a.bR)(L:a.bR<g.aN):dL g a=true:=by
 simp only[dL,aK,aM,gf];exact⟨⟨⟨h,by omega⟩,by omega⟩,by omega⟩
def YD(g:aO)(a:aL):CG g a=some (dL g a):=by
 unfold CG dL;simp only[xT,oN,dJ,au];have hb:=eY g;cases h:cD g with
 |false=>rfl
 | true=>
  obtain⟨_,_,_,_,C,D,E,I⟩:=fA h;rw[aR (n:=aT g-1),aR (n:=g.rows-1),aR (n:=g.aN-1)];cases aK a.ax 0 (aT g-1)<;>cases aK a.row 0 (g.rows-1)<;>rfl
def YE(g:aO)(a:aL):ES g a=some (dL g a):=by
 unfold ES dL;simp only[oO,eJ,au];have hb:=eY g;rw[aR (n:=aT g-1)];cases h:cD g with
 | false=>
  have:aK a.ax 0 (aT g-1)=false:=by
   simp only[aT,h,aq,aK];by_cases C:0<=a.ax<;>simp[C];omega
  rw[this];rfl
 | true=>
  obtain⟨_,_,_,_,D,E,I,J⟩:=fA h;rw[aR (n:=g.rows-1),aR (n:=g.aN-1)];cases aK a.ax 0 (aT g-1)<;>cases aK a.row 0 (g.rows-1)<;>rfl
def vM{b n r R:Int}(C:0<=b)(E:b<n)(I:0<=r)(J:r<R):0<=b*R/\0<=b*R+r/\b*R+r<n*R:=by
 have L:0<=b*R:=Int.mul_nonneg C (by omega);have D:(b+1)*R<=n*R:=Int.mul_le_mul_of_nonneg_right (by omega) (by omega);rw[Int.add_mul]at D;omega
def qT(g:aO)(a:aL):Int:=bif dL g a then (a.ax*g.rows+a.row)*g.aN+a.bR else -1
def YF{g:aO}{a:aL}(h:dL g a=true):0<=qT g a/\qT g a<dK g/\0<=a.ax*g.rows/\0<=a.ax*g.rows+a.row/\a.ax*g.rows+a.row<gu g/\0<=(a.ax*g.rows+a.row)*g.aN:=by
 obtain⟨C,D,E,I,J,L,O⟩:=r6 h;obtain⟨U,Q,T⟩:=vM D E I J;obtain⟨Y,l1,l2⟩:=vM Q T L O;simp only[qT,h,dK,gu,C,ak];omega
def YG(g:aO)(a:aL):K4 g a=some (qT g a):=by
 unfold K4;rw[YD,au];cases h:dL g a with
 |false=>simp[qT,h]
 | true=>
  have hb:=YF h;have D:=kU g;have E:=p6 g;obtain⟨C,I,J,L,O,Q,T⟩:=r6 h;obtain⟨_,_,_,_,U,Y,Z,g8⟩:=fA C;simp only[qT,h,ak]at hb ⊢;simp only[bB,aq];rw[aR (n:=a.ax*g.rows),aR (n:=a.ax*g.rows+a.row),aR (n:=(a.ax*g.rows+a.row)*g.aN),aR]
def Rs(g:aO)(a:aL):Ch g a=some (qT g a):=by
 unfold Ch;rw[YE,au];cases h:dL g a with
 |false=>simp[qT,h]
 | true=>
  have hb:=YF h;have D:=kU g;have E:=p6 g;obtain⟨C,I,J,L,O,Q,T⟩:=r6 h;obtain⟨_,_,_,_,U,Y,Z,g8⟩:=fA C;simp only[qT,h,ak]at hb ⊢;simp only[bB,aq];rw[aR (n:=a.ax*g.rows),aR (n:=a.ax*g.rows+a.row),aR (n:=(a.ax*g.rows+a.row)*g.aN),aR]
def vN{α β:Type}{step:α->aj (α⊕β)}(S:Nat->α){z:β}:∀ (n i fuel:Nat),(∀ k,i<=k->k<i+n->step (S k)=some (.inl (S (k+1))))->step (S (i+n))=some (.inr z)->n<fuel->iter step fuel (S i)=some z
 | 0,i,fuel,_,C,D=>by
  match fuel,D with
  |f+1,_=>unfold iter;rw[Nat.add_zero]at C;rw[C]
 | n+1,i,fuel,E,C,D=>by
  match fuel,D with
  | f+1,D=>
   unfold iter;rw[E i (eB _) (by omega)];exact vN S n (i+1) f (λk I J=>E k (by omega) (by omega)) (by rw[show i+1+n=i+(n+1) by omega];exact C) (by omega)
def vO{i:Nat}(h:i<4611686018427387904:=by omega):W6 ((i:Int)+1)=((i+1:Nat):Int):=by
 rw[aR];simp
def aih(y:Int):0<=bits .and .i64 y 255/\bits .and .i64 y 255<=255:=by
 have e:bits .and .i64 y 255=IntKind.wrap .i64 ((BitVec.ofInt 64 y &&& BitVec.ofInt 64 255).toNat:Int):=rfl;have h:(BitVec.ofInt 64 y &&& BitVec.ofInt 64 255).toNat<=255:=by
  rw[BitVec.toNat_and];exact Nat.le_trans Nat.and_le_right (by decide)
 rw[e,IntKind.wrap_i64];omega
structure kC (b:List Int) (c:bN):Prop where
 eq:c.b=b
 lo:0<=c.i
 hi:c.i<=b.length
 len:b.length<=1073741823
def kC.eta{b:aa Int}{c:bN}(h:kC b c):(⟨b,c.i,c.h⟩:bN)=c:=by
 obtain⟨C,i,D⟩:=c;have:=h.eq;simp only at this;subst this;rfl
def Dr{α:Type}(b:aa Int)(f:aj (α×(bN×af)))(P:α->Prop):Prop:=∃x c,f=some (x,(c,()))/\kC b c/\P x
def Dr.bind{α β:Type}{b:aa Int}{f:aj (α×(bN×af))}{g:α×(bN×af)->aj (β×(bN×af))}{P:α->Prop}{Q:β->Prop}(h:Dr b f P)(C:∀ x c,P x->kC b c->Dr b (g (x,(c,()))) Q):Dr b (f.bind g) Q:=by
 obtain⟨x,c,D,E,I⟩:=h;rw[D];exact C x c I E
def Dr.pure{α:Type}{b:aa Int}{x:α}{c:bN}{P:α->Prop}(C:kC b c)(D:P x):Dr b (some (x,(c,()))) P:=⟨x,c,rfl,C,D⟩
def awM(l:aa Int)(h:l.length<=1073741823):∃ y,Kr l=some y:=by
 unfold Kr bw;obtain⟨z,C,I⟩:=aif (step:=Kq)
  (λx=>∃(i:Nat) (y:Int),x=(((),y,(i:Int),()),(l,()))/\i<=l.length)
  (λx=>l.length-x.1.2.2.1.toNat) (λz=>∃ y,(Sum.elim (λJ:((af×Int×af)×((aa Int)×af))=>some J.1.2.1) (λz=>nomatch z)) z=some y) (by
   rintro x ⟨i,y,rfl,hi⟩;unfold Kq aA xG xI;dsimp only;by_cases D:i<l.length
   ·have E:decide ((i:Int)<(l.length:Int))=true:=by simpa using D
    have L:0<=(i:Int)/\(i:Int).toNat<l.length:=⟨by omega,by simpa using D⟩
    rw[E,ak];cases O:decide ((i:Int)<4000)with
    | true=>
     rw[ak,az L];left;refine⟨_,rfl,⟨i+1,_,by rw[vO],by omega⟩,?_⟩;dsimp only;rw[vO];omega
    | false=>
     rw[aq];right;exact⟨_,rfl,_,rfl⟩
   ·have E:decide ((i:Int)<(l.length:Int))=false:=by simpa using D
    rw[E,aq];right;exact⟨_,rfl,_,rfl⟩)
  aS (((),(W6 ((97301:Int)+(l.length:Int))),((0:Nat):Int),()),(l,())) ⟨0,_,rfl,by omega⟩ (by dsimp only;unfold aS;omega)
 have C:iter Kq aS (((),(W6 ((97301:Int)+(l.length:Int))),(0:Int),()),(l,()))=some z:=C;rw[C];exact I
def awN(l:aa Int)(y:Int)(h:l.length<=1073741823):kC l ⟨l,0,y⟩:=⟨rfl,Int.le_refl _,by simp,h⟩
def LI{b:aa Int}{c:bN}(C:kC b c):Dr b (z0 c) λx=>0<=x/\x<=255:=by
 have hb:=C.eq;have E:=C.lo;have J:=C.hi;have I:=C.len;unfold z0 xI;by_cases h:c.i<(c.b.length:Int)
 ·have D:decide (c.i<(c.b.length:Int))=true:=by simpa using h
  rw[D,ak,az ⟨E,by omega⟩];refine Dr.pure ⟨hb,?_,?_,I⟩ (aih _)
  ·show 0<=W6 (c.i+1);rw[hb]at h;rw[aR];omega
  ·show W6 (c.i+1)<=_;rw[hb]at h;rw[aR];omega
 ·have D:decide (c.i<(c.b.length:Int))=false:=by simpa using h
  rw[D,aq];exact Dr.pure ⟨hb,E,J,I⟩ (aih _)
def aii{x n:Int}(h:0<=x)(C:0<n):0<=x.tmod n/\x.tmod n<n:=by
 rw[qg h];exact⟨Int.emod_nonneg _ (by omega),Int.emod_lt_of_pos _ C⟩
def fB{b:aa Int}{c:bN}(C:kC b c)(n:Int):Dr b (fh c n) λx=>0<=x/\(n<=0->x=0)/\(0<n->x<n):=by
 unfold fh;by_cases O:n<=0
 ·have J:decide (n<=0)=true:=by simpa using O
  rw[J,ak];exact Dr.pure C ⟨Int.le_refl _,λ_=>rfl,λh=>by omega⟩
 ·have J:decide (n<=0)=false:=by simpa using O
  have Q:¬ n=0:=by omega
  rw[J,aq];by_cases T:n<=256
  ·have L:decide (n<=256)=true:=by simpa using T
   rw[L,ak]
   refine(LI C).bind λx c' hx U=>?_
   rw[bE Q];dsimp only;rw[C.eq,U.eta];have:=aii hx.1 (show 0<n by omega);exact Dr.pure U ⟨this.1,λh=>by omega,λ_=>this.2⟩
  ·have L:decide (n<=256)=false:=by simpa using T
   rw[L,aq,C.eq]
   refine(LI C).bind λD k1 UY Y=>?_
   dsimp only;rw[Y.eta]
   refine(LI Y).bind λE k2 MX Z=>?_
   dsimp only;rw[Z.eta]
   refine(LI Z).bind λI k3 hx3 zR=>?_
   dsimp only;rw[zR.eta]
   refine(LI zR).bind λx4 k4 hx4 vu=>?_
   rw[bE Q];dsimp only;rw[vu.eta];rw[aR (n:=D*16777216),aR (n:=E*65536),aR (n:=D*16777216+E*65536),aR (n:=I*256),aR (n:=D*16777216+E*65536+I*256),aR (n:=D*16777216+E*65536+I*256+x4)];have:=aii (x:=D*16777216+E*65536+I*256+x4) (by omega) (show 0<n by omega);exact Dr.pure vu ⟨this.1,λh=>by omega,λ_=>this.2⟩
def awO(x a b:Int):cK x a b=some (decide (a<=x)&&decide (x<=b)):=by
 unfold cK;by_cases h:a<=x
 ·have:decide (x >= a)=true:=aP h;rw[this];rfl
 ·have:decide (x >= a)=false:=aW h;rw[this];rfl
def aij{x a b:Int}(h:a<=x)(C:x<=b):cK x a b=some true:=by
 rw[awO,aP h,aP C];rfl
def awP{x a b:Int}(h:a<=x)(C:x<=b):cN x a b=some true:=aij h C
def opens:Nat->aa fC->aa Int
 |_,[]=>[]
 |i,b::bs=>bif b.open_ then (i:Int)::opens (i+1) bs else opens (i+1) bs
def YH(i:Nat)(a b:aa fC):opens i (a++b)=opens i a++opens (i+a.length) b:=by
 induction a generalizing i with
 |nil=>simp[opens]
 | cons x a C=>
  simp only[List.cons_append,opens,lY];rw[C,show i+1+a.length=i+(a.length+1) by omega];cases x.open_<;>rfl
def Rt(i:Nat)(l:aa fC):(opens i l).length<=l.length:=by
 induction l generalizing i with
 |nil=>simp[opens]
 | cons x a C=>
  have:=C (i+1);simp only[opens];cases x.open_<;>simp<;>omega
def p7{α:Type}{l:aa α}{i:Nat}(h:i<l.length):l.take (i+1)=l.take i++[l[i]]:=by
 rw[List.take_succ_eq_append_getElem h]
def Ru(r:cM)(h:r.aC.length<1073741823):Aq r=some (opens 0 r.aC):=by
 unfold Aq bw;have e:=vN (step:=Fp) (λi=>(((),r.aC,(r.aC.length:Int),(i:Int),()),(opens 0 (r.aC.take i),()))) (z:=.inl (((),()),(opens 0 r.aC,()))) r.aC.length 0 aS (λk _ C=>?_) ?_ (by unfold aS;omega)
 ·have e:iter Fp aS (((),r.aC,(r.aC.length:Int),(0:Int),()),(([]:aa Int),()))=_:=e;rw[e];rfl
 ·have C:k<r.aC.length:=by omega
  unfold Fp aA xG xI;dsimp only;have D:decide ((k:Int)<(r.aC.length:Int))=true:=aP;have E:0<=(k:Int)/\(k:Int).toNat<r.aC.length:=⟨by omega,by simpa using C⟩
  have hl:=Rt 0 (r.aC.take k);rw[fF]at hl;have I:bD ((opens 0 (r.aC.take k)).length+([(k:Int)]:aa Int).length)=true:=by
   unfold bD;refine aP ?_;simp;omega
  rw[D,ak,az E,vO,p7 C,YH];simp only[bu,opens,fF,fo,Nat.min_eq_left (Nat.le_of_lt C)];cases r.aC[k].open_ with
  |true=>rw[ak,I];rfl
  |false=>rw[aq,aq,List.append_nil]
 ·rw[fo];unfold Fp aA xG xI;dsimp only;have D:decide ((r.aC.length:Int)<(r.aC.length:Int))=false:=aW;rw[D,aq,iA]
def gmT:Nat:=116196760129267793630862849262464326346044543732748708940920453221664288556434379745879494961270582141731748813355742142288220638766218855867759359510984593843506004200114943278699875244065120512813025380665946106619127097398772031257643617143689515450995722003729973585221105779229319991106539050771048038400
def gm(a b:Nat):Nat:=(gmT / 2 ^ (4*(16*a+b))) % 16
def pwT:Nat:=44684875893970114885940500792407720993
def pw(n:Nat):Nat:=(pwT / 2 ^ (4*n)) % 16
def jq(f:Nat->Bool):Bool:=(List.range 16).all f
def gE{f:Nat->Bool}(h:jq f=true){a:Nat}(C:a<16):f a=true:=by
 have:=cE.1 h a (eV.2 C);exact this
def gv(a b:Nat):gm a b<16:=Nat.mod_lt _ (by decide)
def uw(n:Nat):pw n<16:=Nat.mod_lt _ (by decide)
def awQ:(jq λa=>jq λb=>jC (Int.ofNat a) (Int.ofNat b)==some (Int.ofNat (gm a b)))=true:=by kernel_rfl
def awR:((List.range 31).all λn=>Lc 2 (Int.ofNat n)==some (Int.ofNat (pw n)))=true:=by kernel_rfl
def aik:(jq λa=>jq λb=>decide (bits .xor .i64 (Int.ofNat a) (Int.ofNat b)=Int.ofNat (a ^^^ b))&&Nat.blt (a ^^^ b) 16)=true:=by kernel_rfl
def awS:(jq λa=>jq λb=>jq λc=>Nat.beq (gm (a ^^^ b) c) (gm a c ^^^ gm b c))=true:=by kernel_rfl
def ail:(jq λa=>Nat.beq (gm a 1) a&&Nat.beq (gm 0 a) 0)=true:=by kernel_rfl
def awT:(jq λC=>jq λs1=>jq λs2=>
  (λy z=>(λx=>Nat.beq (gm x 1 ^^^ (gm y 1 ^^^ (gm z 1 ^^^ C))) 0&&Nat.beq (gm x 1 ^^^ (gm y 2 ^^^ (gm z 4 ^^^ s1))) 0&&Nat.beq (gm x 1 ^^^ (gm y 4 ^^^ (gm z 3 ^^^ s2))) 0) (C ^^^ y ^^^ z))
   (gm (gm 2 (C ^^^ s1) ^^^ gm 5 (C ^^^ s2)) 13) (gm (gm 3 (C ^^^ s2) ^^^ gm 5 (C ^^^ s1)) 13))=true:=by kernel_rfl
def awU:CN 4=some 13:=by kernel_rfl
def CV{a b:Nat}(C:a<16)(hb:b<16):jC (a:Int) (b:Int)=some (gm a b:Int):=by
 have h:=gE (gE awQ C) hb;exact eq_of_beq h
def awV{n:Nat}(h:n<31):Lc 2 (n:Int)=some (pw n:Int):=eq_of_beq (cE.1 awR n (eV.2 h))
def r7{a b:Nat}(C:a<16)(hb:b<16):bits .xor .i64 (a:Int) (b:Int)=((a ^^^ b:Nat):Int):=by
 have h:=gE (gE aik C) hb;rw[aM]at h;exact of_decide_eq_true h.1
def mK{a b:Nat}(C:a<16)(hb:b<16):a ^^^ b<16:=by
 have h:=gE (gE aik C) hb;rw[aM]at h;exact cI h.2
def awW{a b c:Nat}(C:a<16)(hb:b<16)(D:c<16):gm (a ^^^ b) c=gm a c ^^^ gm b c:=ck (gE (gE (gE awS C) hb) D)
def awX{a:Nat}(C:a<16):gm a 1=a:=by
 have h:=gE ail C;rw[aM]at h;exact ck h.1
def Rw{a:Nat}(C:a<16):gm 0 a=0:=by
 have h:=gE ail C;rw[aM]at h;exact ck h.2
abbrev bf (w:aa Nat):aa Int:=w.map λ(n:Nat)=>(n:Int)
def dM(w:aa Nat):Prop:=∀x∈w,x<16
def fS(w:aa Nat):(bf w).length=w.length:=by simp[bf]
def uy{w:aa Nat}{k:Nat}(h:k<(bf w).length):(bf w)[k]=((w.getD k 0:Nat):Int):=by
 have C:k<w.length:=by rw[fS]at h;exact h
 simp[bf,en,bO C]
def dM.get{w:aa Nat}(h:dM w)(k:Nat):w.getD k 0<16:=by
 by_cases C:k<w.length
 ·simp only[en,bO C,Option.getD_some];exact h _ (cO C)
 ·simp[en,List.getElem?_eq_none (Nat.le_of_not_lt C)]
def YI{w:aa Nat}(I:dM w)(hl:w.length<1000)(n:Int):vH (bf w) n=some ((w.length:Int)==n):=by
 unfold vH cc;have e:=vN (step:=xN) (λi=>((bf w,n,bf w,((bf w).length:Int),(i:Int),()),())) (z:=.inr (.inl ((bf w,n,()),()))) w.length 0 aS (λk _ C=>?_) ?_ (by unfold aS;omega)
 ·have e:iter xN aS ((bf w,n,bf w,((bf w).length:Int),(0:Int),()),())=_:=e;rw[e];show some (((bf w).length:Int)==n)=_;rw[fS]
 ·have C:k<(bf w).length:=by rw[fS];omega
  unfold xN aA bq xG xI;dsimp only;have D:decide ((k:Int)<((bf w).length:Int))=true:=aP;have E:0<=(k:Int)/\(k:Int).toNat<(bf w).length:=⟨by omega,by simpa using C⟩
  rw[D,ak,az E];have J:(bf w)[(k:Int).toNat]'E.2=((w.getD k 0:Nat):Int):=uy C;rw[J];have:=I.get k;unfold CE;rw[aij (by omega) (by omega),au,au,vO];rfl
 ·unfold xN aA bq xG xI;dsimp only;have D:decide (((0+w.length:Nat):Int)<((bf w).length:Int))=false:=aW (by rw[fS];omega);rw[D,aq]
def bQ(w:aa Nat)(j:Nat):Nat->Nat
 |0=>0
 |i+1=>bQ w j i ^^^ gm (w.getD i 0) (pw (i*j))
def r8(w:aa Nat)(j:Nat):∀ i,bQ w j i<16
 |0=>Nat.zero_lt_succ _
 |i+1=>mK (r8 w j i) (gv _ _)
def awY{w:aa Nat}(J:dM w)(hl:w.length=11)(j:Nat)(Z:j<3)(a b:Int)(o:aa Int)(L:j<o.length)(O:o.set j 0=o):
  iter CM aS ((bf w,(),(j:Int),a,b,bf w,((bf w).length:Int),(0:Int),()),(o,()))=some (.inl ((bf w,(),a,b,()),(o.set j (bQ w j 11:Int),()))):=by
 have e:=vN (step:=CM) (λi=>((bf w,(),(j:Int),a,b,bf w,((bf w).length:Int),(i:Int),()),(o.set j (bQ w j i:Int),()))) (z:=.inl ((bf w,(),a,b,()),(o.set j (bQ w j 11:Int),()))) 11 0 aS (λk _ D=>?_) ?_ (by unfold aS;omega)
 ·have e:iter CM aS ((bf w,(),(j:Int),a,b,bf w,((bf w).length:Int),(0:Int),()),(o.set j 0,()))=_:=e;rw[O]at e;exact e
 ·have D:k<(bf w).length:=by rw[fS];omega
  unfold CM aA xG xI xL;dsimp only;have E:decide ((k:Int)<((bf w).length:Int))=true:=aP;have I:0<=(k:Int)/\(k:Int).toNat<(bf w).length:=⟨by omega,by simpa using D⟩
  have C:0<=(j:Int)/\(j:Int).toNat<(o.set j (bQ w j k:Int)).length:=⟨by omega,by simpa using L⟩
  have Q:(bf w)[(k:Int).toNat]'I.2=((w.getD k 0:Nat):Int):=uy D;have T:(o.set j (bQ w j k:Int))[(j:Int).toNat]'C.2=(bQ w j k:Int):=List.getElem_set_self _;rw[E,ak,az I,az C,az C.2,Q,T];have hkj:k*j<=20:=Nat.le_trans (Nat.mul_le_mul (show k<=10 by omega) (show j<=2 by omega)) (by decide);have U:W6 ((k:Int)*(j:Int))=((k*j:Nat):Int):=by
   rw[<-Int.natCast_mul,aR]
  rw[U,awV (by omega),au,CV (J.get k) (uw _),au,az C,az C.2,r7 (r8 _ _ _) (gv _ _),vO];have Y:(o.set j (bQ w j k:Int)).set (j:Int).toNat ((bQ w j k ^^^ gm (w.getD k 0) (pw (k*j)):Nat):Int)=o.set j (bQ w j (k+1):Int):=List.set_set ..;rw[Y]
 ·unfold CM aA xG xI xL;dsimp only;have E:decide (((0+11:Nat):Int)<((bf w).length:Int))=false:=aW (by rw[fS];omega);rw[E,aq]
def ta(w:aa Nat):Nat->aa Int
 |0=>[0,0,0]
 |1=>[(bQ w 0 11:Int),0,0]
 |2=>[(bQ w 0 11:Int),(bQ w 1 11:Int),0]
 |_=>[(bQ w 0 11:Int),(bQ w 1 11:Int),(bQ w 2 11:Int)]
def YJ{w:aa Nat}(D:dM w)(hl:w.length=11):Aw (bf w)=some [(bQ w 0 11:Int),(bQ w 1 11:Int),(bQ w 2 11:Int)]:=by
 unfold Aw bw;have c0:((w.length:Int)==(11:Int))=true:=by rw[hl];rfl
 rw[YI D (by omega),c0,au];have e:=vN (step:=FG) (λj=>((bf w,(),(3:Int),(j:Int),()),(ta w j,()))) (z:=.inl (((),()),(ta w 3,()))) 3 0 aS (λk _ I=>?_) ?_ (by unfold aS;omega)
 ·have e:iter FG aS ((bf w,(),((List.replicate (3:Int).toNat (0:Int)).length:Int),(0:Int),()),(List.replicate (3:Int).toNat (0:Int),()))=_:=e;rw[show (!true)=false from rfl,aq,br (by decide),e];rfl
 ·unfold FG aA xG bw;dsimp only;have E:decide ((k:Int)<(3:Int))=true:=aP;have C:ta w k=(ta w k).set k 0/\k<(ta w k).length/\(ta w k).set k (bQ w k 11:Int)=ta w (k+1):=by
   have:k=0\/k=1\/k=2:=by omega
   rcases this with rfl|rfl|rfl
   ·exact⟨rfl,by simp[ta],rfl⟩
   ·exact⟨rfl,by simp[ta],rfl⟩
   ·exact⟨rfl,by simp[ta],rfl⟩
  rw[E,ak,awY D hl k (by omega) (3:Int) (k:Int) (ta w k) C.2.1 C.1.symm,C.2.2];show some (Sum.inl ((bf w,(),(3:Int),W6 ((k:Int)+1),()),(ta w (k+1),())))=_;rw[vO]
 ·unfold FG aA xG bw;dsimp only;rfl
def awZ{w:aa Nat}(C:dM w)(hl:w.length=11):Q1 (bf w)=some (Nat.beq (bQ w 0 11) 0&&(Nat.beq (bQ w 1 11) 0&&Nat.beq (bQ w 2 11) 0)):=by
 unfold Q1 xL;rw[YJ C hl,au];generalize bQ w 0 11=a;generalize bQ w 1 11=b;generalize bQ w 2 11=c;have q:∀ n:Nat,((n:Int)==(0:Int))=Nat.beq n 0:=by
  intro n;cases n with
  |zero=>rfl
  |succ n=>rfl
 show (bif ((a:Int)==(0:Int))then (bif ((b:Int)==(0:Int))then some ((c:Int)==(0:Int))else some false)else some false)=_;rw[q,q,q];cases Nat.beq a 0<;>cases Nat.beq b 0<;>rfl
def aw0(C D E:Nat)(I:C<16)(J:D<16)(L:E<16):
  (λy z=>(λx=>(gm x 1 ^^^ (gm y 1 ^^^ (gm z 1 ^^^ C)))=0/\(gm x 1 ^^^ (gm y 2 ^^^ (gm z 4 ^^^ D)))=0/\(gm x 1 ^^^ (gm y 4 ^^^ (gm z 3 ^^^ E)))=0) (C ^^^ y ^^^ z))
   (gm (gm 2 (C ^^^ D) ^^^ gm 5 (C ^^^ E)) 13) (gm (gm 3 (C ^^^ E) ^^^ gm 5 (C ^^^ D)) 13):=by
 have h:=gE (gE (gE awT I) J) L;dsimp only at h ⊢;rw[aM,aM]at h;exact⟨ck h.1.1,ck h.1.2,ck h.2⟩
def aw1{d:aa Nat}(O:dM d)(hl:d.length=8):∃ w,Lj (bf d)=some (bf w)/\w.length=11/\dM w/\w.drop 3=d/\bQ w 0 11=0/\bQ w 1 11=0/\bQ w 2 11=0:=by
 have T:dM (0 :: 0 :: 0 :: d):=by
  intro x hx;simp only[fQ]at hx;rcases hx with rfl|rfl|rfl|hx
  ·decide
  ·decide
  ·decide
  ·exact O x hx
 have key:∀ j x y z,j<3->x<16->y<16->z<16->bQ (x :: y :: z :: d) j 11=gm x (pw (0*j)) ^^^ (gm y (pw (1*j)) ^^^ (gm z (pw (2*j)) ^^^ bQ (0 :: 0 :: 0 :: d) j 11)):=by
  intro j x y z hj hx hy T;simp only[bQ,List.getD_cons_zero,List.getD_cons_succ,Nat.xor_assoc,Nat.zero_xor,Rw (uw _)]
 have e0:∀ C E I:Nat,C<16->E<16->I<16->Aw (bf (0 :: 0 :: 0 :: d))=some [(C:Int),(E:Int),(I:Int)]->
   Lj (bf d)=some (bf ((C ^^^ gm (gm 2 (C ^^^ E) ^^^ gm 5 (C ^^^ I)) 13 ^^^ gm (gm 3 (C ^^^ I) ^^^ gm 5 (C ^^^ E)) 13)::gm (gm 2 (C ^^^ E) ^^^ gm 5 (C ^^^ I)) 13::gm (gm 3 (C ^^^ I) ^^^ gm 5 (C ^^^ E)) 13::d)):=by
  intro C E I D J L hs;unfold Lj xL;have c0:((d.length:Int)==(8:Int))=true:=by rw[hl];rfl
  have c1:bD ((List.replicate (3:Int).toNat (0:Int)).length+(bf d).length)=true:=by
   rw[fS,hl];rfl
  rw[YI O (by omega),au,c0,show (!true)=false from rfl,aq,br (by decide),c1,ak];have Q:Aw (List.replicate (3:Int).toNat (0:Int)++bf d)=some [(C:Int),(E:Int),(I:Int)]:=hs;rw[Q,au];show (CN (4:Int)).bind (λU=>(jC (2:Int) (bits .xor .i64 (C:Int) (E:Int))).bind λoL=>(jC (5:Int) (bits .xor .i64 (C:Int) (I:Int))).bind λkT=>(jC (bits .xor .i64 oL kT) U).bind λY=>(jC (3:Int) (bits .xor .i64 (C:Int) (I:Int))).bind λlR=>(jC (5:Int) (bits .xor .i64 (C:Int) (E:Int))).bind λuv=>(jC (bits .xor .i64 lR uv) U).bind λZ=>some (bits .xor .i64 (bits .xor .i64 (C:Int) Y) Z::Y::Z::bf d))=_;have m2:∀b:Nat,b<16->jC (2:Int) (b:Int)=some (gm 2 b:Int):=λb hb=>CV (a:=2) (by decide) hb
  have m3:∀b:Nat,b<16->jC (3:Int) (b:Int)=some (gm 3 b:Int):=λb hb=>CV (a:=3) (by decide) hb
  have m5:∀b:Nat,b<16->jC (5:Int) (b:Int)=some (gm 5 b:Int):=λb hb=>CV (a:=5) (by decide) hb
  have m13:∀b:Nat,b<16->jC (b:Int) (13:Int)=some (gm b 13:Int):=λb hb=>CV (b:=13) hb (by decide)
  rw[awU,au,r7 D J,r7 D L,m2 _ (mK D J),au,m5 _ (mK D L),au,r7 (gv _ _) (gv _ _),m13 _ (mK (gv _ _) (gv _ _)),au,m3 _ (mK D L),au,m5 _ (mK D J),au,r7 (gv _ _) (gv _ _),m13 _ (mK (gv _ _) (gv _ _)),au,r7 D (gv _ _),r7 (mK D (gv _ _)) (gv _ _)];rfl
 have D:=r8 (0::0::0::d) 0 11;have J:=r8 (0::0::0::d) 1 11;have L:=r8 (0::0::0::d) 2 11;have Q:=e0 _ _ _ D J L (YJ T (by simp[hl]));have f:=aw0 _ _ _ D J L;dsimp only at f;refine⟨_,Q,by simp[hl],?_,rfl,?_,?_,?_⟩
 ·intro x hx;simp only[fQ]at hx;rcases hx with rfl | rfl | rfl | hx
  ·exact mK (mK D (gv _ _)) (gv _ _)
  ·exact gv _ _
  ·exact gv _ _
  ·exact O x hx
 ·rw[key 0 _ _ _ (by decide) (mK (mK D (gv _ _)) (gv _ _)) (gv _ _) (gv _ _)];exact f.1
 ·rw[key 1 _ _ _ (by decide) (mK (mK D (gv _ _)) (gv _ _)) (gv _ _) (gv _ _)];exact f.2.1
 ·rw[key 2 _ _ _ (by decide) (mK (mK D (gv _ _)) (gv _ _)) (gv _ _) (gv _ _)];exact f.2.2
def aim{w:aa Nat}(C:dM w){k e:Nat}(D:e<16)(E:k<w.length)(j:Nat):∀ i,bQ (w.set k (w.getD k 0 ^^^ e)) j i=if i<=k then bQ w j i else bQ w j i ^^^ gm e (pw (k*j))
 |0=>by rw[br (iO _)];rfl
 | i+1=>by
  have J:=aim C D E j i;have L:(w.set k (w.getD k 0 ^^^ e)).getD i 0=if i=k then w.getD k 0 ^^^ e else w.getD i 0:=by
   simp only[en,List.getElem?_set];by_cases h:i=k
   ·subst h;simp[E]
   ·simp[h,Ne.symm h]
  show bQ (w.set k (w.getD k 0 ^^^ e)) j i ^^^ gm ((w.set k (w.getD k 0 ^^^ e)).getD i 0) (pw (i*j))=_;rw[J,L];by_cases O:i<k
  ·rw[br,bE,br];rfl
  ·by_cases I:i=k
   ·subst I;rw[br (eB _),br rfl,bE,awW (C.get _) D (uw _),<-Nat.xor_assoc];rfl
   ·rw[bE,bE I,bE];show _=bQ w j i ^^^ gm (w.getD i 0) (pw (i*j)) ^^^ gm e (pw (k*j));rw[Nat.xor_assoc,Nat.xor_comm (gm e _),<-Nat.xor_assoc]
def dM.set{w:aa Nat}(h:dM w){k v:Nat}(D:v<16):dM (w.set k v):=by
 intro x C;rcases List.mem_or_eq_of_mem_set C with C|rfl
 ·exact h x C
 ·exact D
def ivT:Nat:=9460475325918865680
def iv(a:Nat):Nat:=(ivT / 2 ^ (4*a)) % 16
def aw2(a:Nat):iv a<16:=Nat.mod_lt _ (by decide)
def aw3:(jq λa=>Nat.beq a 0 ||CN (Int.ofNat a)==some (Int.ofNat (iv a)))=true:=by kernel_rfl
def oP:aa Nat:=[8,14,7,1]
def aw4:((List.range 8).all λm=>jq λf=>(List.range 3).all λj=>
  Nat.beq (gm (gm 8 f) (pw (m*j)) ^^^ (gm (gm 14 f) (pw ((m+1)*j)) ^^^ (gm (gm 7 f) (pw ((m+2)*j)) ^^^ gm f (pw ((m+3)*j))))) 0)=true:=by kernel_rfl
def aw5:(jq λa=>jq λb=>ur (Int.ofNat a) (Int.ofNat b)==some (Int.ofNat (gm a b)))=true:=by kernel_rfl
def LJ{a b:Nat}(C:a<16)(hb:b<16):ur (a:Int) (b:Int)=some (gm a b:Int):=by
 have h:=gE (gE aw5 C) hb;exact eq_of_beq h
def ain(W:aa Int):iter XH aS (((),(),(1:Int),()),(W,([(1:Int),(1:Int)]:aa Int),()))=some (.inl (((),(),()),(W,bf oP,()))):=by kernel_rfl
def aio{w:aa Nat}(I:dM w)(hl:w.length<1000)(n:Int):vF (bf w) n=some ((w.length:Int)==n):=by
 unfold vF cc;have e:=vN (step:=xE) (λi=>((bf w,n,(i:Int),()),())) (z:=.inr (.inl ((bf w,n,()),()))) w.length 0 aS (λk _ C=>?_) ?_ (by unfold aS;omega)
 ·have e:iter xE aS ((bf w,n,(0:Int),()),())=_:=e;rw[e];show some (((bf w).length:Int)==n)=_;rw[fS]
 ·have C:k<(bf w).length:=by rw[fS];omega
  unfold xE aA bq xG xI;dsimp only;have D:decide ((k:Int)<((bf w).length:Int))=true:=aP;have E:0<=(k:Int)/\(k:Int).toNat<(bf w).length:=⟨by omega,by simpa using C⟩
  rw[D,ak,az E];have J:(bf w)[(k:Int).toNat]'E.2=((w.getD k 0:Nat):Int):=uy C;rw[J];have:=I.get k;unfold xD;rw[awP (by omega) (by omega),au,au,vO];rfl
 ·unfold xE aA bq xG xI;dsimp only;have D:decide (((0+w.length:Nat):Int)<((bf w).length:Int))=false:=aW (by rw[fS];omega);rw[D,aq]
def td(k:Nat):Nat:=oP.getD k 0
def aw6(k:Nat):td k<16:=by
 have:dM oP:=by
  intro x C;simp only[oP,fQ,List.not_mem_nil,or_false]at C;omega
 exact this.get k
def kD(r:aa Nat)(m f:Nat):Nat->aa Nat
 |0=>r
 |k+1=>(kD r m f k).set (m+k) ((kD r m f k).getD (m+k) 0 ^^^ gm (td k) f)
def LK(r:aa Nat)(m f:Nat):∀ k,(kD r m f k).length=r.length
 |0=>rfl
 |k+1=>by show (List.set _ _ _).length=_;rw[iw,LK r m f k]
def LL{r:aa Nat}(C:dM r)(m f:Nat):∀ k,dM (kD r m f k)
 |0=>C
 |k+1=>(LL C m f k).set (mK ((LL C m f k).get _) (gv _ _))
def Rx(w:aa Nat)(k v:Nat):(bf w).set k (v:Int)=bf (w.set k v):=(List.map_set ..).symm
def aw7{r:aa Nat}(L:dM r)(hl:r.length=11){m f:Nat}(Z:m<8)(O:f<16)(W:aa Int):
  iter EY aS (((),(),(),((m+3:Nat):Int),(f:Int),(0:Int),()),(W,bf oP,bf r,()))=some (.inl (((),(),(),((m+3:Nat):Int),()),(W,bf oP,bf (kD r m f 4),()))):=by
 have e:=vN (step:=EY) (λk=>(((),(),(),((m+3:Nat):Int),(f:Int),(k:Int),()),(W,bf oP,bf (kD r m f k),()))) (z:=.inl (((),(),(),((m+3:Nat):Int),()),(W,bf oP,bf (kD r m f 4),()))) 4 0 aS (λk _ hk=>?_) ?_ (by unfold aS;omega)
 ·exact e
 ·unfold EY aA xG xL;dsimp only;have D:decide ((k:Int)<((bf oP).length:Int))=true:=aP (by show (k:Int)<4;omega);have Q:W6 (W6 (((m+3:Nat):Int)-3)+(k:Int))=((m+k:Nat):Int):=by
   rw[aR (n:=((m+3:Nat):Int)-3),aR];omega
  have I:m+k<(bf (kD r m f k)).length:=by rw[fS,LK,hl];omega
  have C:0<=((m+k:Nat):Int)/\((m+k:Nat):Int).toNat<(bf (kD r m f k)).length:=⟨by omega,I⟩
  have J:k<(bf oP).length:=by show k<4;omega
  have E:0<=(k:Int)/\(k:Int).toNat<(bf oP).length:=⟨by omega,J⟩
  have T:(bf (kD r m f k))[((m+k:Nat):Int).toNat]'C.2=(((kD r m f k).getD (m+k) 0:Nat):Int):=uy I;have U:(bf oP)[(k:Int).toNat]'E.2=((td k:Nat):Int):=uy J;rw[D,ak];simp only[Q];rw[az C,az C.2];rw[az E,az E.2,U,LJ (aw6 k) O,au,az C,az C.2,T,r7 ((LL L m f k).get _) (gv _ _),vO];have Y:(bf (kD r m f k)).set ((m+k:Nat):Int).toNat (((kD r m f k).getD (m+k) 0 ^^^ gm (td k) f:Nat):Int)=bf (kD r m f (k+1)):=Rx _ _ _;rw[Y]
 ·unfold EY aA xG xL;dsimp only;have D:decide (((0+4:Nat):Int)<((bf oP).length:Int))=false:=rfl;rw[D,aq]
def out(r:aa Nat):Nat->aa Nat
 |0=>r
 |t+1=>kD (out r t) (7-t) ((out r t).getD (10-t) 0) 4
def CW(r:aa Nat):∀ t,(out r t).length=r.length
 |0=>rfl
 |t+1=>by show (kD _ _ _ _).length=_;rw[LK,CW r t]
def CX{r:aa Nat}(C:dM r):∀ t,dM (out r t)
 |0=>C
 |t+1=>LL (CX C t) _ _ _
def aip{r:aa Nat}(D:dM r)(hl:r.length=11)(W:aa Int):
  iter EZ aS (((),(),(),(10:Int),()),(W,bf oP,bf r,()))=some (.inl (((),(),()),(W,bf (out r 8),()))):=by
 have e:=vN (step:=EZ) (λt=>(((),(),(),(10:Int)-(t:Int),()),(W,bf oP,bf (out r t),()))) (z:=.inl (((),(),()),(W,bf (out r 8),()))) 8 0 aS (λt _ L=>?_) ?_ (by unfold aS;omega)
 ·exact e
 ·unfold EZ aA xG bw xL;dsimp only;have hi:(10:Int)-(t:Int)=((7-t+3:Nat):Int):=by omega
  have I:decide ((10:Int)-(t:Int) >= 3)=true:=aP;have E:7-t+3<(bf (out r t)).length:=by rw[fS,CW,hl];omega
  have C:0<=((7-t+3:Nat):Int)/\((7-t+3:Nat):Int).toNat<(bf (out r t)).length:=⟨by omega,E⟩
  have J:(bf (out r t))[((7-t+3:Nat):Int).toNat]'C.2=(((out r t).getD (10-t) 0:Nat):Int):=(uy E).trans (by rw[show 7-t+3=10-t by omega]);rw[I,ak];simp only[hi];rw[az C,az C.2,J,aw7 (CX D t) (by rw[CW,hl]) (by omega) ((CX D t).get _)];show some (Sum.inl (((),(),(),W6 (((7-t+3:Nat):Int)-1),()),(W,bf oP,bf (out r (t+1)),())))=_;rw[aR,show ((7-t+3:Nat):Int)-1=10-((t+1:Nat):Int) by omega]
 ·unfold EZ aA xG bw xL;dsimp only;rfl
def aw8:(jq λa=>Nat.beq (gm 1 a) a)=true:=by kernel_rfl
def aiq{a:Nat}(C:a<16):gm 1 a=a:=ck (gE aw8 C)
def air{r:aa Nat}(C:dM r)(hl:r.length=11){k e:Nat}(D:e<16)(E:k<11)(j:Nat):bQ (r.set k (r.getD k 0 ^^^ e)) j 11=bQ r j 11 ^^^ gm e (pw (k*j)):=by
 rw[aim C D (by omega) j 11,bE]
def aw9{r:aa Nat}(D:dM r)(hl:r.length=11){m f j:Nat}(E:m<8)(C:f<16)(I:j<3):bQ (kD r m f 4) j 11=bQ r j 11:=by
 have st:∀ k,k<4->bQ (kD r m f (k+1)) j 11=bQ (kD r m f k) j 11 ^^^ gm (gm (td k) f) (pw ((m+k)*j)):=λk L=>
  air (LL D m f k) (by rw[LK,hl]) (gv _ _) (by omega) j
 have h:=cE.1 (gE (cE.1 aw4 m (eV.2 E)) C) j (eV.2 I);have h:gm (gm (td 0) f) (pw ((m+0)*j)) ^^^ (gm (gm (td 1) f) (pw ((m+1)*j)) ^^^ (gm (gm (td 2) f) (pw ((m+2)*j)) ^^^ gm (gm (td 3) f) (pw ((m+3)*j))))=0:=by
  have J:gm (td 3) f=f:=aiq C;rw[J];exact ck h
 rw[st 3 (by decide),st 2 (by decide),st 1 (by decide),st 0 (by decide),Nat.xor_assoc,Nat.xor_assoc,Nat.xor_assoc,h,Nat.xor_zero];rfl
def ais{r:aa Nat}(C:dM r)(hl:r.length=11){j:Nat}(D:j<3):∀ t,t<=8->bQ (out r t) j 11=bQ r j 11
 |0,_=>rfl
 |t+1,E=>(aw9 (CX C t) (by rw[CW,hl]) (by omega) ((CX C t).get _) D).trans (ais C hl D t (by omega))
def ait(r:aa Nat)(k v n:Nat):(r.set k v).getD n 0=if n=k/\k<r.length then v else r.getD n 0:=by
 simp only[en,List.getElem?_set];by_cases h:n=k
 ·subst h;by_cases C:n<r.length
  ·simp[C]
  ·simp[C]
 ·simp[h,Ne.symm h]
def YK(r:aa Nat)(m f:Nat):∀ k n,m+k<=n->(kD r m f k).getD n 0=r.getD n 0
 |0,n,_=>rfl
 | k+1,n,h=>by
  show (List.set _ _ _).getD n 0=_;rw[ait,bE,YK r m f k n (by omega)]
def axa{r:aa Nat}{m f:Nat}(h:m+3<r.length):(kD r m f 4).getD (m+3) 0=r.getD (m+3) 0 ^^^ gm (td 3) f:=by
 show (List.set _ _ _).getD (m+3) 0=_;rw[ait,br ⟨rfl,by rw[LK];exact h⟩,YK r m f 3 (m+3) (eB _)]
def aiu{r:aa Nat}(C:dM r)(hl:r.length=11):∀ t,t<=8->∀ n,10-t<n->n<11->(out r t).getD n 0=0
 |0,_,n,h,D=>by omega
 | t+1,I,n,h,D=>by
  show (kD (out r t) (7-t) ((out r t).getD (10-t) 0) 4).getD n 0=0;by_cases E:n=10-t
  ·have e:n=7-t+3:=by omega
   subst e;rw[axa (by rw[CW,hl];omega),<-E];have:gm (td 3) ((out r t).getD (7-t+3) 0)=(out r t).getD (7-t+3) 0:=aiq ((CX C t).get _);rw[this,Nat.xor_self]
  ·rw[YK _ _ _ 4 n (by omega)];exact aiu C hl t (by omega) n (by omega) D
def qU(w r:aa Nat):Nat->aa Nat
 |0=>w
 |k+1=>(qU w r k).set k (r.getD k 0)
def YL(w r:aa Nat):∀ k,(qU w r k).length=w.length
 |0=>rfl
 |k+1=>by show (List.set _ _ _).length=_;rw[iw,YL w r k]
def aiv{w r:aa Nat}(Q:w.length=11)(T:r.length=11):
  iter E0 aS (((),(),(0:Int),()),(bf w,bf r,()))=some (.inl (((),()),(bf (qU w r 3),()))):=by
 have e:=vN (step:=E0) (λi=>(((),(),(i:Int),()),(bf (qU w r i),bf r,()))) (z:=.inl (((),()),(bf (qU w r 3),()))) 3 0 aS (λk _ U=>?_) ?_ (by unfold aS;omega)
 ·exact e
 ·unfold E0 aA xG xL;dsimp only;have I:decide ((k:Int)<(3:Int))=true:=aP;have D:k<(bf r).length:=by rw[fS];omega
  have J:k<(bf (qU w r k)).length:=by rw[fS,YL];omega
  have C:0<=(k:Int)/\(k:Int).toNat<(bf r).length:=⟨by omega,D⟩
  have E:0<=(k:Int)/\(k:Int).toNat<(bf (qU w r k)).length:=⟨by omega,J⟩
  have L:(bf r)[(k:Int).toNat]'C.2=((r.getD k 0:Nat):Int):=uy D;rw[I,ak,az C,az C.2,L,az E,az E.2,vO];have O:(bf (qU w r k)).set (k:Int).toNat ((r.getD k 0:Nat):Int)=bf (qU w r (k+1)):=Rx _ _ _;rw[O]
 ·unfold E0 aA xG xL;dsimp only;rfl
def axb{d:aa Nat}(L:dM d)(hl:d.length=8):∃ w,Ai (bf d)=some (bf w)/\w.length=11/\dM w/\bQ w 0 11=0/\bQ w 1 11=0/\bQ w 2 11=0:=by
 have D:dM (0 :: 0 :: 0 :: d):=by
  intro x hx;simp only[fQ]at hx;rcases hx with rfl|rfl|rfl|hx
  ·decide
  ·decide
  ·decide
  ·exact L x hx
 have C:(0::0::0::d).length=11:=by simp[hl]
 have O:Ai (bf d)=some (bf (qU (0 :: 0 :: 0 :: d) (out (0 :: 0 :: 0 :: d) 8) 3)):=by
  unfold Ai xA bw xZ;have c0:((d.length:Int)==(8:Int))=true:=by rw[hl];rfl
  have Q:bD ((List.replicate (3:Int).toNat (0:Int)).length+(bf d).length)=true:=by
   rw[fS,hl];rfl
  have T:bD (([]:aa Int).length+(bf (0 :: 0 :: 0 :: d)).length)=true:=by
   rw[fS,C];rfl
  have U:W6 (((bf (0 :: 0 :: 0 :: d)).length:Int)-(1:Int))=10:=by
   rw[fS,C];rfl
  have Y:List.replicate (3:Int).toNat (0:Int)++bf d=bf (0::0::0::d):=rfl;rw[aio L (by omega),au,c0,show (!true)=false from rfl,aq,br (by decide),Q,ak,Y,ain,au,dY];dsimp only;rw[jH,T,ak,U,aip D C,au,dY];dsimp only;rw[aiv C (by rw[CW,C]),au,dY]
 have E:=CX D 8;have I:∀ j,j<3->bQ (qU (0 :: 0 :: 0 :: d) (out (0 :: 0 :: 0 :: d) 8) 3) j 11=0:=by
  intro j Z;have J:=ais D C Z 8 (eB _);have z:=aiu D C 8 (eB _);revert J z;generalize out (0 :: 0 :: 0 :: d) 8=r;intro J z;have h2:bQ (qU (0 :: 0 :: 0 :: d) r 3) j 11=gm (r.getD 0 0) (pw (0*j)) ^^^ (gm (r.getD 1 0) (pw (1*j)) ^^^ (gm (r.getD 2 0) (pw (2*j)) ^^^ bQ (0 :: 0 :: 0 :: d) j 11)):=by
   show bQ (r.getD 0 0::r.getD 1 0::r.getD 2 0::d) j 11=_;simp only[bQ,List.getD_cons_zero,List.getD_cons_succ,Nat.xor_assoc,Nat.zero_xor,Rw (uw _)]
  have h3:bQ r j 11=gm (r.getD 0 0) (pw (0*j)) ^^^ (gm (r.getD 1 0) (pw (1*j)) ^^^ gm (r.getD 2 0) (pw (2*j))):=by
   simp only[bQ,z 3 (by decide) (by decide),z 4 (by decide) (by decide),z 5 (by decide) (by decide),z 6 (by decide) (by decide),z 7 (by decide) (by decide),z 8 (by decide) (by decide),z 9 (by decide) (by decide),z 10 (by decide) (by decide),Nat.xor_assoc,Nat.zero_xor,Nat.xor_zero,Rw (uw _)]
  rw[h2,<-J,h3,<-Nat.xor_assoc (gm (r.getD 1 0) _) (gm (r.getD 2 0) _),<-Nat.xor_assoc (gm (r.getD 0 0) _),Nat.xor_self]
 refine⟨_,O,by rw[YL,C],?_,I 0 (by decide),I 1 (by decide),I 2 (by decide)⟩;exact((D.set (E.get _)).set (E.get _)).set (E.get _)
def vP(s:Int):Bool:=aK s 0 15
def tf(l:aa Int)(n:Int):Bool:=l.all vP&&decide ((l.length:Int)=n)
def aiw(l:aa Int)(n:Int)(hl:l.length<1073741824):vH l n=some (tf l n):=by
 unfold vH tf cc;have e:=gQ (step:=xN) l vP (λi=>((l,n,l,(l.length:Int),(i:Int),()),())) (.inl ((false,()),())) (.inr (.inl ((l,n,()),()))) aS (λk h=>by
  unfold xN CE aA bq xG xI;simp (disch:=omega) [h,bI,dJ,vP];cases aK l[k] 0 15<;>rfl) (by unfold xN aA bq xG xI;simp) (bM hl)
 rw[bT]at e;rw[e];cases l.all vP<;>simp;rfl
def Ry(l:aa Int)(n:Int)(hl:l.length<1073741824):vF l n=some (tf l n):=by
 unfold vF tf cc;have e:=gQ (step:=xE) l vP (λi=>((l,n,(i:Int),()),())) (.inl ((false,()),())) (.inr (.inl ((l,n,()),()))) aS (λk h=>by
  unfold xE xD aA bq xG xI;simp (disch:=omega) [h,bI,eJ,vP];cases aK l[k] 0 15<;>rfl) (by unfold xE aA bq xG xI;simp) (bM hl)
 rw[bT]at e;rw[e];cases l.all vP<;>simp;rfl
def Sy(l:aa Int):Prop:=l.length=11/\∀s∈l,0<=s/\s<=15
def Sy.ok{l:aa Int}(h:Sy l):tf l 11=true:=by
 simp only[tf,aM,cE,gf,vP,bx];exact⟨λx C=>h.2 x C,by rw[h.1];rfl⟩
def Sy.of{l:aa Int}(h:tf l 11=true):Sy l:=by
 simp only[tf,aM,cE,gf,vP,bx]at h;exact⟨by omega,h.1⟩
def YM{a b:Int}(E:0<=a/\a<=15)(hb:0<=b/\b<=15):0<=bits .xor .i64 a b/\bits .xor .i64 a b<=15/\bits .xor .i64 (bits .xor .i64 a b) b=a:=by
 obtain⟨x,rfl⟩:=fy E.1;obtain⟨y,rfl⟩:=fy hb.1;have D:x<16:=by omega
 have C:y<16:=by omega
 have:=mK D C;rw[r7 D C];rw[r7 this C];refine⟨by omega,by omega,?_⟩;rw[Nat.xor_assoc,Nat.xor_self,Nat.xor_zero]
def Sy.set{l:aa Int}(h:Sy l){k:Nat}{v:Int}(D:0<=v/\v<=15):Sy (l.set k v):=by
 refine⟨by simp[h.1],λs C=>?_⟩
 rcases List.mem_or_eq_of_mem_set C with C|rfl
 ·exact h.2 s C
 ·exact D
def Sy.get{l:aa Int}(h:Sy l){k:Nat}(C:k<l.length):0<=l[k]/\l[k]<=15:=h.2 _ (cO C)
structure ep (g:aO) (B:Int) (a:dx):Prop where
 cells:(a.cells.length:Int)=dK g
 syms:∀c∈a.cells,Sy c.symbols
 bC:(a.bC.length:Int)=gu g
 bz:(a.bz.length:Int)=gu g
 AB:∀x∈a.bC,0<=x/\x<=B
 iH:∀x∈a.bz,0<=x/\x<=100000
def axc(c:bZ)(h:c.symbols.length<1073741824):QG c=some c:=by
 unfold QG xA xZ;simp[bD,h]
def aix(c:bZ)(h:c.symbols.length<1073741824):IU c=some c:=by
 unfold IU xA xZ;simp[bD,h]
def aiy(a:dx)(L:a.cells.length<1073741823)(C:a.bC.length<1073741824)(D:a.bz.length<1073741824)(E:∀ c∈a.cells,c.symbols.length<1073741824):Fz a=some a:=by
 unfold Fz xA bw xZ;have e:=cL (step:=KV) a.cells.length (λi=>(((),(),a.cells,(a.cells.length:Int),(i:Int),()),(((),(),(),()),((),(),(),()),([]:aa bZ),([]:aa Int),([]:aa Int),a.cells.take i,(([]:aa Int)++a.bC),(([]:aa Int)++a.bz),())))
  (.inl (((),(),()),(((),(),(),()),((),(),(),()),([]:aa bZ),([]:aa Int),([]:aa Int),a.cells,(([]:aa Int)++a.bC),(([]:aa Int)++a.bz),()))) aS (λk h=>by
  unfold KV aA xG xI;have I:min k a.cells.length=k:=by omega
  have J:bD (k+1)=true:=cP;simp (disch:=omega) [h,bI,axc _ (E _ (cO h)),I,J]) (by unfold KV aA xG xI;simp) (bM)
 rw[bT,List.take_zero]at e;rw[e];simp[bD,C,D]
def axd(a:dx)(L:a.cells.length<1073741823)(C:a.bC.length<1073741824)(D:a.bz.length<1073741824)(E:∀ c∈a.cells,c.symbols.length<1073741824):OU a=some a:=by
 unfold OU xA bw xZ;have e:=cL (step:=IV) a.cells.length (λi=>(((),(),(),(i:Int),()),((a.cells,a.bC,a.bz,()),((),(),(),()),((),(),(),()),([]:aa bZ),([]:aa Int),([]:aa Int),a.cells.take i,(([]:aa Int)++a.bC),(([]:aa Int)++a.bz),())))
  (.inl (((),(),()),(((),(),(),()),((),(),(),()),([]:aa bZ),([]:aa Int),([]:aa Int),a.cells,(([]:aa Int)++a.bC),(([]:aa Int)++a.bz),()))) aS (λk h=>by
  unfold IV aA xG xI;have I:min k a.cells.length=k:=by omega
  have J:bD (k+1)=true:=cP;simp (disch:=omega) [h,bI,aix _ (E _ (cO h)),I,J]) (by unfold IV aA xG xI;simp) (bM)
 rw[bT,List.take_zero]at e;rw[e];simp[bD,C,D]
def ep.lens{g:aO}{B:Int}{a:dx}(h:ep g B a):a.cells.length<1073741823/\a.bC.length<1073741824/\a.bz.length<1073741824/\∀ c∈a.cells,c.symbols.length<1073741824:=by
 have D:=h.cells;have E:=h.bC;have I:=h.bz;have J:=kU g;have L:=p6 g;exact⟨by omega,by omega,by omega,λc C=>by rw[(h.syms c C).1];omega⟩
def ep.copy{g:aO}{B:Int}{a:dx}(h:ep g B a):Fz a=some a:=
 let ⟨C,D,E,I⟩:=h.lens;aiy a C D E I
def LM(c:bZ):Bool:=tf c.symbols 11
def xU(p:Int×Int):Bool:=aK p.1 0 100000&&aK p.2 0 100000
def nh(g:aO)(a:dx):Bool:=cD g&&(decide ((a.cells.length:Int)=dK g)&&(decide ((a.bC.length:Int)=gu g)&&(decide ((a.bz.length:Int)=gu g)&&(a.cells.all LM&&(a.bC.zip a.bz).all xU))))
def aiz(g:aO)(a:dx)(I:∀ c∈a.cells,c.symbols.length<1073741824):Fs g a=some (nh g a):=by
 unfold Fs nh cc;rw[oN,au,xT,au,LH];cases J:cD g with
 |false=>rfl
 | true=>
  have Q:=kU g;have T:=p6 g;have er:aT g*g.rows=gu g:=by simp[gu,J]
  simp only[bB,aq,au,cr,er];rw[aR];by_cases C:(a.cells.length:Int)=dK g
  ·by_cases D:(a.bC.length:Int)=gu g
   ·by_cases E:(a.bz.length:Int)=gu g
    ·have hl:a.bC.length=a.bz.length:=by omega
     have l1:=gQ (step:=KI) a.cells LM (λi=>(((),a.cells,(a.cells.length:Int),(i:Int),()),((a.cells,a.bC,a.bz,()),()))) (.inl ((false,()),())) (.inr (.inl (((),()),((a.cells,a.bC,a.bz,()),())))) aS (λk h=>by
      unfold KI aA bq xG xI;simp (disch:=omega) [h,bI,aiw _ 11 (I _ (cO h)),LM];cases tf a.cells[k].symbols 11<;>rfl) (by unfold KI aA bq xG xI;simp) (bM)
     have l2:=gQ (step:=KJ) (a.bC.zip a.bz) xU (λi=>(((),(a.bC.length:Int),(i:Int),()),((a.cells,a.bC,a.bz,()),()))) (.inl ((false,()),())) (.inr (.inl ((),()))) aS (λk h=>by
      have L:k<a.bC.length:=by simp at h;omega
      have O:k<a.bz.length:=by omega
      unfold KJ aA bq xG xI;simp (disch:=omega) [L,O,bI,dJ,xU];cases aK a.bC[k] 0 100000<;>cases aK a.bz[k] 0 100000<;>rfl) (by unfold KJ aA bq xG xI;simp[hl]) (bM (by simp;omega))
     rw[bT]at l1 l2;simp only[C,D,E,bne_self_eq_false,aq,decide_true,cr];rw[<-C,l1];cases U:a.cells.all LM with
     |false=>simp
     | true=>
      simp only[ak,Option.bind_some,Sum.elim_inr,dY];rw[l2];cases (a.bC.zip a.bz).all xU<;>simp
    ·simp[C,D,fY E,E]
   ·simp[C,fY D,D]
  ·simp[fY C,C]
def ep.ok{g:aO}{B:Int}{a:dx}(h:ep g B a)(E:cD g=true)(hB:B<=100000):Fs g a=some true:=by
 rw[aiz g a (λc C=>by rw[(h.syms c C).1];omega)];have I:=h.cells;have J:=h.bC;have L:=h.bz;have O:a.cells.all LM=true:=cE.2 λc C=>(h.syms c C).ok
 have Q:(a.bC.zip a.bz).all xU=true:=cE.2 λp T=>by
  obtain⟨x,y⟩:=p;have D:=List.of_mem_zip T;have U:=h.AB x D.1;have Y:=h.iH y D.2;simp only[xU,aM,bx];omega
 simp[nh,E,I,J,L,O,Q]
def Rz{b:aa Int}{c:bN}(C:kC b c)(l:aa Int)(hl:0<l.length):Dr b (Am c l) λx=>x∈l:=by
 unfold Am xI;rw[C.eq]
 refine(fB C _).bind λI J D E=>?_
 have L:=D.2.2 (by omega);rw[az ⟨D.1,by dsimp only;omega⟩];dsimp only;rw[E.eta];exact Dr.pure E (cO _)
def RB{b:aa Int}{c:bN}(C:kC b c)(n:Int):Dr b (Cd c n) λ_=>True:=by
 unfold Cd;rw[C.eq]
 refine(fB C _).bind λE I J D=>?_
 dsimp only;rw[D.eta];exact Dr.pure D trivial
def ni(g:aO):(⟨g.cq,g.aC,g.rows,g.aN⟩:aO)=g:=rfl
def axe{b:aa Int}{c:bN}(D:kC b c){g:aO}(C:cD g=true):Dr b (Qj c g) λa=>dL g a=true:=by
 have T:=LG C;obtain⟨_,_,_,_,U,Y,Z,g8⟩:=fA C;unfold Qj;rw[oO,au,D.eq]
 refine(fB D _).bind λx1 k1 E I=>?_
 dsimp only;rw[I.eta]
 refine(fB I _).bind λx2 k2 J L=>?_
 dsimp only;rw[L.eta]
 refine(fB L _).bind λx3 k3 O Q=>?_
 dsimp only;rw[Q.eta];exact Dr.pure Q (vL C E.1 (E.2.2 (by omega)) J.1 (J.2.2 (by omega)) O.1 (O.2.2 (by omega)))
def nj(n x:Int):Int:=if 100000<x+n then 100000 else x+n
def YN(l:aa Int)(h:∀ s∈l,0<=s/\s<=15):bf (l.map Int.toNat)=l/\dM (l.map Int.toNat):=by
 constructor
 ·induction l with
  |nil=>rfl
  | cons x l E=>
   have D:=h x (.head _);have:=E λs C=>h s (.tail _ C)
   simp only[bf,List.map_cons]at this ⊢;rw[this];congr 1;omega
 ·intro x D;obtain⟨s,C,rfl⟩:=List.mem_map.1 D;have:=h s C;omega
def LN{w:aa Nat}(D:dM w)(hl:w.length=11):Sy (bf w):=by
 refine⟨by rw[fS,hl],λs C=>?_⟩
 simp only[bf,List.mem_map]at C;obtain⟨x,E,rfl⟩:=C;have:=D x E;omega
def Sy.mem{l:aa bZ}(h:∀c∈l,Sy c.symbols){k:Nat}(C:k<l.length):Sy l[k].symbols:=h _ (cO C)
def Sy.bV{l:aa bZ}(h:∀ c∈l,Sy c.symbols){k:Nat}{d:bZ}(D:Sy d.symbols):∀ c∈l.set k d,Sy c.symbols:=by
 intro c C;rcases List.mem_or_eq_of_mem_set C with C|rfl
 ·exact h c C
 ·exact D
def LO{l:aa Int}{B C:Int}(h:∀ x∈l,B<=x/\x<=C){k:Nat}{v:Int}(E:B<=v/\v<=C):∀ x∈l.set k v,B<=x/\x<=C:=by
 intro x D;rcases List.mem_or_eq_of_mem_set D with D|rfl
 ·exact h x D
 ·exact E
def xV(l:lz)(a:dx)(i:Nat):Bool:=decide (a.bC.getD i 0 > l.bC) ||decide (a.bz.getD i 0 > l.bz)
def axf(g:aO)(l:lz)(a:dx)(i:Nat)(C:i<a.bC.length)(D:i<a.bz.length):Jq g l a (i:Int)=some (xV l a i):=by
 unfold Jq xV xI;simp only[en,bO C,bO D,Option.getD_some];by_cases h:a.bC[i] > l.bC<;>simp[C,D,h]
def axg{l:aa Int}{B C:Int}(h:∀ x∈l,B<=x/\x<=C)(k:Nat)(D:B<=0/\0<=C):B<=l.getD k 0/\l.getD k 0<=C:=by
 rw[en];cases E:l[k]? with
 |none=>exact D
 |some x=>exact h x (ga E)
def YO{x:Int}(h:0<=x/\x<=100000){n:Int}(C:0<=n):0<=nj n x/\nj n x<=100000:=by
 unfold nj;split<;>omega
def p9(k:Nat)(h:aa Int):aa Int:=h.set k (nj 1 (h.getD k 0))
def LP(k:Nat)(h:aa Int):(p9 k h).length=h.length:=by simp[p9]
def RC{k:Nat}{h:aa Int}(hb:∀ x∈h,0<=x/\x<=100000):∀ x∈p9 k h,0<=x/\x<=100000:=
 LO hb (YO (axg hb k ⟨by omega,by omega⟩) (by omega))
def YP{k:Nat}{h:aa Int}(C:k<h.length):p9 k h=h.set k (nj 1 h[k]):=by
 unfold p9;rw[en,bO C];rfl
def AD(row:Int)(i:Nat)(h:aa Int):aa Int:=bif decide (0<row)then p9 (i-1) (h.set i 0)else h.set i 0
def vQ(R row:Int)(i:Nat)(h:aa Int):aa Int:=bif decide (row<R-1)then p9 (i+1) (AD row i h)else AD row i h
def axh(row:Int)(i:Nat)(h:aa Int):(AD row i h).length=h.length:=by
 unfold AD;cases decide (0<row)<;>simp[LP]
def axi(R row:Int)(i:Nat)(h:aa Int):(vQ R row i h).length=h.length:=by
 unfold vQ;cases decide (row<R-1)<;>simp[LP,axh]
def axj{row:Int}{i:Nat}{h:aa Int}(hb:∀ x∈h,0<=x/\x<=100000):∀ x∈AD row i h,0<=x/\x<=100000:=by
 have C:=LO hb (k:=i) (v:=0) ⟨by omega,by omega⟩;unfold AD;cases decide (0<row)
 ·exact C
 ·exact RC C
def axk{R row:Int}{i:Nat}{h:aa Int}(hb:∀ x∈h,0<=x/\x<=100000):∀ x∈vQ R row i h,0<=x/\x<=100000:=by
 have C:=axj (row:=row) (i:=i) hb;unfold vQ;cases decide (row<R-1)
 ·exact C
 ·exact RC C
def Gv{C:Type}(P:C->Prop)(o:aj C):Prop:=∃y,o=some y/\P y
def Gv.pure{C:Type}{P:C->Prop}{y:C}(h:P y):Gv P (some y):=⟨y,rfl,h⟩
def Gv.bind{α C:Type}{Q:α->Prop}{P:C->Prop}{f:aj α}{g:α->aj C}(h:Gv Q f)(D:∀ y,Q y->Gv P (g y)):Gv P (f.bind g):=by
 obtain⟨y,rfl,E⟩:=h;exact D y E
def axl(x a b:Int):Gv (λy=>y=aK x a b) (cN x a b):=⟨_,eJ x a b,rfl⟩
def axm(k:Int):Gv (λy=>y=(aK k 1 5,k==1,(k==2 || k==3))) (Je k):=by
 unfold Je
 refine Gv.bind (axl _ _ _) (λ_ h=>?_)
 subst h;cases h:k==2<;>exact Gv.pure (by simp)
def qV(t:dc):aa Int:=[t.jX,t.rp,t.gI,t.nE,t.jY,t.lu,t.nG,t.nH,t.jK,t.wr,t.pg,t.pn,t.sx,t.pq,t.qi,t.xp,t.xs]
def AE(x:Int):Bool:=aK x 1 64
def jr(t:dc):Bool:=(qV t).all AE&&(decide (t.jX<=t.gI)&&(decide (t.nE<=t.jY)&&(decide (t.nG<=t.nH)&&decide (t.pg<=t.pn))))
def RD(t:dc):Fm t=some (jr t):=by
 unfold Fm jr cc;change (iter Fl aS (((),(),((qV t).length:Int),(0:Int),()),(t,qV t,()))).bind _=_;have C:(qV t).length=17:=rfl;generalize qV t=l at *
 have e:=gQ (step:=Fl) l AE (λi=>(((),(),(l.length:Int),(i:Int),()),(t,l,()))) (.inl ((false,()),())) (.inr (.inl (((),()),(t,())))) aS (λk h=>by
  unfold Fl aA bq xG xL;simp (disch:=omega) [h,bI,dJ,AE];cases aK l[k] 1 64<;>rfl) (by unfold Fl aA bq xG xL;simp) (bM)
 rw[bT]at e;rw[e];cases l.all AE<;>simp;cases decide (t.jX<=t.gI)<;>cases decide (t.nE<=t.jY)<;>cases decide (t.nG<=t.nH)<;>rfl
def RE(t:dc):Cf t=some (jr t):=by
 unfold Cf jr Xn cc;rw[au];change (iter EL aS (((),(),(0:Int),()),(t,qV t,()))).bind _=_;have C:(qV t).length=17:=rfl;generalize qV t=l at *
 have e:=gQ (step:=EL) l AE (λi=>(((),(),(i:Int),()),(t,l,()))) (.inl ((false,()),())) (.inr (.inl (((),()),(t,())))) aS (λk h=>by
  unfold EL aA bq xG xL;simp (disch:=omega) [h,bI,eJ,AE];cases aK l[k] 1 64<;>rfl) (by unfold EL aA bq xG xL;simp) (bM)
 rw[bT]at e;rw[e];cases l.all AE<;>simp;cases decide (t.jX<=t.gI)<;>cases decide (t.nE<=t.jY)<;>cases decide (t.nG<=t.nH)<;>rfl
def axn(t:dc):IZ t=An t:=by
 unfold IZ An;rw[RD,RE]
def axo(t:dc):∃ y,An t=some y:=by
 unfold An;rw[RD,au];cases jr t<;>exact⟨_,rfl⟩
def LQ(R i:Nat):Int:=((i % R:Nat):Int)
def mL(n R:Nat):aa Int:=(List.range n).map (LQ R)
def YQ(n R:Nat):(mL n R).length=n:=by simp[mL]
def axp(n R:Nat):mL (n+1) R=mL n R++[LQ R n]:=by simp[mL,List.range_succ]
def jD(g:aO)(n:Int):Bool:=cD g&&(aK n 0 2&&decide (2<=g.rows-n))
def th(g:aO)(n:Int):dG×Bool:=bif jD g n then (⟨n,mL ((aT g).toNat*(g.rows-n).toNat) (g.rows-n).toNat⟩,true)else (⟨0,[]⟩,false)
def RG{g:aO}{n:Int}(h:jD g n=true):cD g=true/\0<=n/\n<=2/\2<=g.rows-n/\g.rows<=16:=by
 simp only[jD,aM,bx,gf]at h;obtain⟨C,⟨D,E⟩,I⟩:=h;have:=fA C;exact⟨C,D,E,I,by omega⟩
def YR(g:aO)(n:Int):EK g n=some (th g n):=by
 unfold EK th bw;rw[F1,au];cases D:cD g with
 |false=>simp[jD,D]
 | true=>
  simp only[bB,aq,eJ,au];cases E:aK n 0 2 with
  |false=>simp[jD,E]
  | true=>
   have U:=bx.1 E;have Y:=fA D;simp only[bB,aq];rw[aR];by_cases I:g.rows-n<2
   ·have:decide (2<=g.rows-n)=false:=aW;rw[aP I,ak];simp[jD,this]
   ·have L:jD g n=true:=by simp[jD,D,E];omega
    rw[aW I,aq,L,ak];have O:=eY g;obtain⟨C,hb⟩:=fy O.1;obtain⟨R,hR⟩:=fy (show 0<=g.rows-n by omega);have Z:C*R<=8*16:=Nat.mul_le_mul (by omega) (by omega);have hmul:W6 ((C:Int)*(R:Int))=((C*R:Nat):Int):=by
     rw[<-Int.natCast_mul];exact aR
    have J:W6 (g.rows-n)=(R:Int):=by rw[hR];exact aR
    have e:=cL (step:=IY) (C*R) (λi=>((n,(),(),(),(i:Int),()),((g.cq,g.aC,g.rows,g.aN,()),((0:Int),(),()),(n,(),()),([]:aa Int),mL i R,())))
     (.inl (((),(),()),(((0:Int),(),()),(n,(),()),([]:aa Int),mL (C*R) R,()))) aS (λk h=>by
     unfold IY aA xG;have Q:bD ((mL k R).length+1)=true:=cP (by rw[YQ];omega);have T:(k:Int).tmod (R:Int)=LQ R k:=by unfold LQ;exact(Int.ofNat_tmod k R).symm
     dsimp only;rw[ni,oO,au,J,hb,hmul,aP,ak,bE,T];simp only[lY,List.length_nil,fo];rw[Q,ak,bI,axp]) (by
     unfold IY aA xG;dsimp only;rw[ni,oO,au,J,hb,hmul,aW,aq]) (bM)
    rw[bT]at e
    refine(bF (λo=>Option.bind o _) e).trans ?_
    rw[hb,hR];rfl
def axq(b R:Nat)(hR:0<R)(j:Nat)(C:j<=R):mL (b*R+j) R=mL (b*R) R++(List.range j).map (λi:Nat=>(i:Int)):=by
 unfold mL;rw[List.range_add,lZ,List.map_map];congr 1
 refine lX λi hi=>?_
 have hi:i<j:=eV.1 hi;simp only[Function.comp,LQ];rw[Nat.mul_comm,Nat.mul_add_mod,Nat.mod_eq_of_lt (by omega)]
def aiA(g:aO)(n:Int):Ku g n=some (th g n):=by
 unfold Ku th bw;rw[xT,au];cases C:cD g with
 |false=>simp[jD,C]
 | true=>
  simp only[bB,aq,dJ,au];cases D:aK n 0 2 with
  |false=>simp[jD,D]
  | true=>
   have T:=bx.1 D;have U:=fA C;simp only[bB,aq];rw[aR];by_cases I:g.rows-n<2
   ·have:decide (2<=g.rows-n)=false:=aW;rw[aP I,ak];simp[jD,this]
   ·have L:jD g n=true:=by simp[jD,C,D];omega
    rw[aW I,aq,L,ak];have O:=eY g;obtain⟨E,hb⟩:=fy O.1;obtain⟨R,hR⟩:=fy (show 0<=g.rows-n by omega);have J:W6 (g.rows-n)=(R:Int):=by rw[hR];exact aR
    have inner:∀ b:Nat,b<E->iter Fh aS ((n,(),(),(),(b:Int),(0:Int),()),((g.cq,g.aC,g.rows,g.aN,()),((0:Int),(),()),(n,(),()),([]:aa Int),mL (b*R) R,()))=some (.inl ((n,(),(),(),(b:Int),()),((g.cq,g.aC,g.rows,g.aN,()),((0:Int),(),()),(n,(),()),([]:aa Int),mL ((b+1)*R) R,()))):=by
     intro b Y;have Z:b*R<=8*16:=Nat.mul_le_mul (by omega) (by omega);have e:=cL (step:=Fh) R (λj=>((n,(),(),(),(b:Int),(j:Int),()),((g.cq,g.aC,g.rows,g.aN,()),((0:Int),(),()),(n,(),()),([]:aa Int),mL (b*R) R++(List.range j).map (λi:Nat=>(i:Int)),())))
      (.inl ((n,(),(),(),(b:Int),()),((g.cq,g.aC,g.rows,g.aN,()),((0:Int),(),()),(n,(),()),([]:aa Int),mL (b*R) R++(List.range R).map (λi:Nat=>(i:Int)),()))) aS (λk h=>by
      unfold Fh aA xG;have Q:bD ((mL (b*R) R++(List.range k).map (λi:Nat=>(i:Int))).length+1)=true:=cP (by simp[YQ];omega);dsimp only;rw[J,aP,ak];simp only[lY,List.length_nil,fo];rw[Q,ak,bI,List.range_succ,lZ,List.append_assoc];rfl) (by
      unfold Fh aA xG;dsimp only;rw[J,aW,aq]) (bM)
     rw[bT,List.range_zero,List.map_nil,List.append_nil]at e;rw[e,<-axq b R (by omega) R (eB _),gH]
    have e:=cL (step:=Kt) E (λi=>((n,(),(),(),(i:Int),()),((g.cq,g.aC,g.rows,g.aN,()),((0:Int),(),()),(n,(),()),([]:aa Int),mL (i*R) R,())))
     (.inl (((),(),()),(((0:Int),(),()),(n,(),()),([]:aa Int),mL (E*R) R,()))) aS (λk h=>by
     unfold Kt aA xG bw;dsimp only;rw[ni,oN,au,hb,aP,ak]
     refine(bF (λo=>Option.bind o _) (inner k h)).trans ?_
     rw[au];simp only[dY];rw[bI]) (by
     unfold Kt aA xG bw;dsimp only;rw[ni,oN,au,hb,aW,aq]) (bM)
    rw[bT,Nat.zero_mul]at e
    refine(bF (λo=>Option.bind o _) e).trans ?_
    rw[hb,hR];rfl
def CY(t:dc):Int:=(An t).getD 0
def aiB(t:dc):An t=some (CY t):=by
 obtain⟨y,e⟩:=axo t;unfold CY;rw[e];rfl
def axr(t:dc):IZ t=some (CY t):=by rw[axn,aiB]
def YS(m:ld):Ky m=some (aK m.order 0 2):=by
 unfold Ky;rw[dJ];rfl
def axt(m:ld):EM m=some (aK m.order 0 2):=by
 unfold EM;rw[eJ];rfl
def nY(c:eX):Bool:=cD c.ay&&(jr c.cm&&(aK c.mapping.order 0 2&&(jD c.ay c.bP&&(aK c.interval (CY c.cm) 10000&&(aK c.hD 1 16&&(aK c.dH.bC (W6 ((6:Int)*c.interval)) 100000&&aK c.dH.bz 0 100000))))))
def RH(g:aO)(n:Int):(th g n).2=jD g n:=by
 unfold th;cases jD g n<;>rfl
def RI(c:eX):Qs c=some (nY c):=by
 unfold Qs nY;simp only[aiA,xT,RD,YS,aiB,dJ,au,RH];cases cD c.ay<;>cases jr c.cm<;>cases aK c.mapping.order 0 2<;>cases jD c.ay c.bP<;>cases aK c.interval (CY c.cm) 10000<;>cases aK c.hD 1 16<;>cases aK c.dH.bC (W6 ((6:Int)*c.interval)) 100000<;>rfl
def axu(c:eX):OZ c=some (nY c):=by
 unfold OZ nY;simp only[YR,RE,axt,axr,eJ,au,RH];cases h:jD c.ay c.bP with
 |false=>cases cD c.ay<;>cases jr c.cm<;>cases aK c.mapping.order 0 2<;>rfl
 | true=>
  rw[(RG h).1];cases jr c.cm<;>cases aK c.mapping.order 0 2<;>cases aK c.interval (CY c.cm) 10000<;>cases aK c.hD 1 16<;>cases aK c.dH.bC (W6 ((6:Int)*c.interval)) 100000<;>rfl
def aiC{c:eX}(h:nY c=true):cD c.ay=true/\jr c.cm=true/\jD c.ay c.bP=true/\aK c.hD 1 16=true:=by
 simp only[nY,aM]at h;exact⟨h.1,h.2.1,h.2.2.2.1,h.2.2.2.2.2.1⟩
def aiD{t:dc}(h:jr t=true):(1<=t.gI/\t.gI<=64)/\1<=t.rp/\t.rp<=64:=by
 simp only[jr,aM,cE]at h;have C:=h.1 t.gI (by simp[qV]);have D:=h.1 t.rp (by simp[qV]);simp only[AE,bx]at C D;exact⟨C,D⟩
def nZ(s:cz):Bool:=aK s.weight 1 9&&aK s.fL 0 s.weight
def gF(l:aa cz):Bool:=l.all nZ&&aK (l.length:Int) 1 4
def LR(l:aa cz)(hl:l.length<1073741824):Fo l=some (gF l):=by
 unfold Fo gF cc;have e:=gQ (step:=Kz) l nZ (λi=>((l,l,(l.length:Int),(i:Int),()),())) (.inl ((false,()),())) (.inr (.inl ((l,()),()))) aS (λk h=>by
  unfold Kz aA bq xG xI;simp (disch:=omega) [h,bI,dJ,nZ];cases aK l[k].weight 1 9<;>cases aK l[k].fL 0 l[k].weight<;>rfl) (by unfold Kz aA bq xG xI;simp) (bM hl)
 rw[bT]at e;rw[e];cases l.all nZ<;>simp[dJ]
def aiE(l:aa cz)(hl:l.length<1073741824):I1 l=some (gF l):=by
 unfold I1 gF cc;have e:=gQ (step:=I0) l nZ (λi=>((l,(i:Int),()),())) (.inl ((false,()),())) (.inr (.inl ((l,()),()))) aS (λk h=>by
  unfold I0 aA bq xG xI;simp (disch:=omega) [h,bI,eJ,nZ];cases aK l[k].weight 1 9<;>cases aK l[k].fL 0 l[k].weight<;>rfl) (by unfold I0 aA bq xG xI;simp) (bM hl)
 rw[bT]at e;rw[e];cases l.all nZ<;>simp[eJ]
def iI(w:Int):cz:=⟨w,w⟩
def xW(l:aa Int):aa cz×Bool:=bif gF (l.map iI)then (l.map iI,true)else ([],false)
def aiF{l:aa Int}{k:Nat}(h:k<l.length):(l.take (k+1)).map iI=(l.take k).map iI++[⟨l[k],l[k]⟩]:=by
 rw[List.take_succ_eq_append_getElem h,lZ];rfl
def YT(l:aa Int)(hl:l.length<1073741823):Ao l=some (xW l):=by
 unfold Ao xW bw;have e:=cL (step:=KA) l.length (λi=>(((),l,(l.length:Int),(i:Int),()),((l.take i).map iI,()))) (.inl (((),()),(l.map iI,()))) aS (λk h=>by
  unfold KA aA xG xI;have C:bD (((l.take k).map iI).length+1)=true:=cP (by simp;omega);dsimp only;rw[aP,ak,az ⟨by omega,by omega⟩];simp only[lY,List.length_nil,fo,bu];rw[C,ak,bI,aiF h]) (by
  unfold KA aA xG xI;dsimp only;rw[aW,aq,iA]) (bM)
 rw[bT,List.take_zero,List.map_nil]at e
 refine(bF (λo=>Option.bind o _) e).trans ?_
 rw[au];simp only[dY];rw[LR _ (by simp;omega),au];cases gF (l.map iI)<;>rfl
def YU(l:aa Int)(hl:l.length<1073741823):Ab l=some (xW l):=by
 unfold Ab xW bw;have e:=cL (step:=I2) (min l.length 5) (λi=>((l,(),(i:Int),()),((l.take i).map iI,()))) (.inl (((),()),((l.take 5).map iI,()))) aS (λk h=>by
  have C:k<l.length:=by omega
  unfold I2 aA xG xI;have D:bD (((l.take k).map iI).length+1)=true:=cP (by simp;omega);dsimp only;rw[aP,ak,aP,ak,az ⟨by omega,by omega⟩,az ⟨by omega,by omega⟩];simp only[lY,List.length_nil,fo,bu];rw[D,ak,bI,aiF C]) (by
  unfold I2 aA xG xI;dsimp only;by_cases c:l.length<=5
  ·rw[Nat.min_eq_left c,iA,List.take_of_length_le c];by_cases J:l.length=5
   ·rw[aW,aq]
   ·rw[aW,aq]
  ·rw[Nat.min_eq_right (by omega),aP,ak,aW,aq]) (bM)
 rw[bT,List.take_zero,List.map_nil]at e
 refine(bF (λo=>Option.bind o _) e).trans ?_
 rw[au];simp only[dY];rw[aiE _ (by simp;omega),au];by_cases c:l.length<=5
 ·rw[List.take_of_length_le c];cases gF (l.map iI)<;>rfl
 ·have E:gF (l.map iI)=false:=by
   unfold gF;have:aK ((l.map iI).length:Int) 1 4=false:=by
    rw[Bool.eq_false_iff];intro h;have:=(bx.1 h).2;rw[dh]at this;omega
   rw[this,Bool.and_false]
  have I:gF ((l.take 5).map iI)=false:=by
   unfold gF;have:aK (((l.take 5).map iI).length:Int) 1 4=false:=by
    rw[Bool.eq_false_iff];intro h;have:=(bx.1 h).2;rw[dh,fF]at this;omega
   rw[this,Bool.and_false]
  rw[E,I];rfl
def aiG(l:aa Int):(xW l).2=gF (l.map iI):=by
 unfold xW;cases gF (l.map iI)<;>rfl
def jS(d:gJ):Bool:=decide (d.low >= 0)&&(decide (d.low<d.high)&&decide (d.high<=12))
def RJ(d:gJ):CC d=some (jS d):=by
 unfold CC jS;cases decide (d.low >= 0)<;>cases decide (d.low<d.high)<;>rfl
def YV(d:gJ):EN d=some (jS d):=by
 unfold EN jS;cases decide (d.low >= 0)<;>cases decide (d.low<d.high)<;>cases decide (d.high<=12)<;>rfl
def xX(r:og):Bool:=aK r.down 1 10000&&(decide (r.sleep > r.down)&&decide (r.sleep<=20000))
def aiH(r:og):KB r=some (xX r):=by
 unfold KB xX;rw[dJ,au];cases aK r.down 1 10000<;>cases decide (r.sleep > r.down)<;>rfl
def aiI(r:og):I3 r=some (xX r):=by
 unfold I3 xX;rw[eJ,au];cases aK r.down 1 10000<;>cases decide (r.sleep > r.down)<;>rfl
def oQ(p:dS):Bool:=aK p.eP 0 1&&(aK p.cap 0 100000&&(aK p.eK 3 1000&&(jS ⟨false,p.low,p.high⟩&&((p.weights.length:Int)==4&&(gF (p.weights.map iI)&&xX p.eA)))))
def YW(p:dS)(hl:p.weights.length<1073741823):EO p=some (oQ p):=by
 unfold EO oQ;simp only[YU _ hl,au,eJ,YV,aiI,aiG];cases aK p.eP 0 1<;>cases aK p.cap 0 100000<;>cases aK p.eK 3 1000<;>cases jS ⟨false,p.low,p.high⟩<;>cases gF (p.weights.map iI)<;>cases ((p.weights.length:Int)==4)<;>rfl
def axv(x:Int):aK x 0 1=(x==0 || x==1):=by
 rw[Bool.eq_iff_iff];simp[aK];omega
def RK(p:dS)(hl:p.weights.length<1073741823):Qu p=some (oQ p):=by
 unfold Qu oQ;simp only[YT _ hl,au,dJ,RJ,aiH,aiG,axv];cases (p.eP==0)<;>cases (p.eP==1)<;>cases aK p.cap 0 100000<;>cases aK p.eK 3 1000<;>cases jS ⟨false,p.low,p.high⟩<;>cases ((p.weights.length:Int)==4)<;>cases gF (p.weights.map iI)<;>rfl
def axw(x:Int):O0 x=Ap x:=by
 unfold O0 Ap;rw[eJ,dJ]
def YX(x:Int):∃ y,Ap x=some y:=by
 unfold Ap;rw[dJ,au];cases aK x 3 1000<;>exact⟨_,rfl⟩
def YY(c:eX)(p:dS)(hl:p.weights.length<1073741823):∃ b,s7 c p=some b/\(b=true->nY c=true):=by
 unfold s7;obtain⟨y,e⟩:=YX p.eK;simp only[RI,RK _ hl,e,au];cases C:nY c with
 |false=>exact⟨false,rfl,λh=>by cases h⟩
 | true=>
  have E:=aiD (aiC C).2.1;have D:¬ W6 (c.cm.gI+c.cm.rp)=0:=by
   rw[aR];omega
  cases oQ p with
  |false=>exact⟨false,rfl,λ_=>rfl⟩
  | true=>
   simp only[bE D,bB,aq,ak];cases decide (W6 (y+2)<=c.dH.bz)<;>exact⟨_,rfl,λ_=>by first|rfl|trivial⟩
def axx(c:eX)(p:dS)(hl:p.weights.length<1073741823):∃ b,s7 c p=some b/\Cg c p=some b/\(b=true->nY c=true):=by
 unfold s7 Cg;obtain⟨y,e⟩:=YX p.eK;simp only[RI,axu,RK _ hl,YW _ hl,axw,e,au];cases C:nY c with
 |false=>exact⟨false,rfl,rfl,λh=>by cases h⟩
 | true=>
  have E:=aiD (aiC C).2.1;have D:¬ W6 (c.cm.gI+c.cm.rp)=0:=by
   rw[aR];omega
  cases oQ p with
  |false=>exact⟨false,rfl,rfl,λ_=>rfl⟩
  | true=>
   simp only[bE D,bB,aq,ak];cases decide (W6 (y+2)<=c.dH.bz)<;>exact⟨_,rfl,rfl,λ_=>by first|rfl|trivial⟩
def aiJ(i:Nat)(l:aa fC):((opens i l).length==0)=l.all λb=>!b.open_:=by
 induction l generalizing i with
 |nil=>rfl
 | cons x a C=>
  simp only[opens,List.all_cons];cases x.open_ with
  |true=>simp
  |false=>simpa using C (i+1)
def AF(g:aO)(b:fC):Bool:=aK b.row 0 (g.rows-1)&&(b.open_ ||b.row==0)
def nq(g:aO)(r:cM):Bool:=cD g&&(((r.aC.length:Int)==aT g)&&(aK r.bh 0 2&&(r.aC.all (AF g)&&(r.bh != 2 ||r.aC.all λb=>!b.open_))))
def aiK(g:aO)(r:cM):KE g r=some (nq g r):=by
 unfold KE nq cc;rw[xT,au,oN];cases D:cD g with
 |false=>rfl
 | true=>
  simp only[bB,aq,au,cr];by_cases C:(r.aC.length:Int)=aT g
  ·have I:=eY g;have J:=fA D;simp only[C,bne_self_eq_false,aq,kM,cr,dJ,au];cases L:aK r.bh 0 2 with
   |false=>rfl
   | true=>
    have e:=gQ (step:=KD) r.aC (AF g) (λi=>(((),(),r.aC,(r.aC.length:Int),(i:Int),()),((g.cq,g.aC,g.rows,g.aN,()),(r.aC,r.bh,()),()))) (.inl ((false,()),())) (.inr (.inl (((),()),((r.aC,r.bh,()),())))) aS (λk h=>by
     unfold KD aA bq xG xI;dsimp only;rw[aP,ak,az ⟨by omega,by omega⟩];simp only[bu,dJ,au];rw[aR (n:=g.rows-1),bI];unfold AF;cases aK r.aC[k].row 0 (g.rows-1)with
     |false=>rfl
     | true=>
      cases r.aC[k].open_ with
      |true=>rfl
      | false=>
       simp only[bne];cases r.aC[k].row==0<;>rfl) (by
     unfold KD aA bq xG xI;dsimp only;rw[aW,aq]) (bM)
    rw[bT,C]at e;simp only[bB,aq,cr]
    refine(bF (λo=>Option.bind o _) e).trans ?_
    rw[au];cases r.aC.all (AF g)with
    |false=>rfl
    | true=>
     simp only[ak,Sum.elim_inr,dY,cr];cases O:r.bh != 2 with
     |true=>rfl
     | false=>
      simp only[aq,Bool.false_or];have:(⟨r.aC,r.bh⟩:cM)=r:=rfl;rw[Ru ⟨r.aC,r.bh⟩ (by show r.aC.length<_;omega),au,<-aiJ 0 r.aC];congr 1;simp only;rw[Bool.eq_iff_iff];simp
  ·have E:((r.aC.length:Int)==aT g)=false:=by simp[C]
   rw[fY C,E];rfl
def uz(d:Int):Bool:=aK d (-2) 5
def eF(r:cZ):Bool:=r.aJ.all uz&&(aK (r.aJ.length:Int) 1 8&&aK r.wait 1 10000)
def LS(r:cZ)(hl:r.aJ.length<1073741824):As r=some (eF r):=by
 unfold As eF cc;have e:=gQ (step:=KM) r.aJ uz (λi=>(((),r.aJ,(r.aJ.length:Int),(i:Int),()),((r.aJ,r.wait,r.dN,()),()))) (.inl ((false,()),())) (.inr (.inl (((),()),((r.aJ,r.wait,r.dN,()),())))) aS (λk h=>by
  unfold KM aA bq xG xI;simp (disch:=omega) [h,bI,dJ,uz];cases aK r.aJ[k] (-2) 5<;>rfl) (by unfold KM aA bq xG xI;simp) (bM hl)
 rw[bT]at e;rw[e];cases r.aJ.all uz<;>simp[dJ];cases aK (r.aJ.length:Int) 1 8<;>rfl
def RL(r:cZ)(hl:r.aJ.length<1073741824):Co r=some (eF r):=by
 unfold Co eF cc;have e:=gQ (step:=JC) r.aJ uz (λi=>(((),(i:Int),()),((r.aJ,r.wait,r.dN,()),()))) (.inl ((false,()),())) (.inr (.inl (((),()),((r.aJ,r.wait,r.dN,()),())))) aS (λk h=>by
  unfold JC aA bq xG xI;simp (disch:=omega) [h,bI,eJ,uz];cases aK r.aJ[k] (-2) 5<;>rfl) (by unfold JC aA bq xG xI;simp) (bM hl)
 rw[bT]at e;rw[e];cases r.aJ.all uz<;>simp[eJ];cases aK (r.aJ.length:Int) 1 8<;>rfl
def gG{T:Type}(p:T->Bool)(l:aa T):Int:=match l.findIdx? p with
 |some i=>(i:Int)
 |none=>-1
def vR{α β T:Type}{step:α->aj (α⊕β)}(l:aa T)(p:T->Bool)(S:Nat->α)(I:Nat->β)(z:β)(fuel:Nat)(O:∀ k (h:k<l.length),step (S k)=some (bif p l[k]then .inr (I k)else .inl (S (k+1))))(Q:step (S l.length)=some (.inr z))(C:l.length<fuel):
  iter step fuel (S 0)=some (match l.findIdx? p with|some i=>I i|none=>z):=by
 have key:∀ (n i fuel:Nat),i+n=l.length->n<fuel->(∀ j (h:j<l.length),j<i->p l[j]=false)->iter step fuel (S i)=some (match l.findIdx? p with | some i=>I i | none=>z):=by
  intro n
  induction n with
  | zero=>
   intro i fuel hi C E
   match fuel,C with
   | f+1,_=>
    have:i=l.length:=by omega
    subst this;have e:l.findIdx? p=none:=by
     rw[List.findIdx?_eq_none_iff];intro x U;obtain⟨j,D,rfl⟩:=ju.1 U;exact E j D D
    unfold iter;rw[Q,e]
  | succ n Y=>
   intro i fuel hi C E
   match fuel,C with
   | f+1,C=>
    have J:i<l.length:=by omega
    unfold iter;rw[O i J];cases L:p l[i]with
    | true=>
     have e:l.findIdx? p=some i:=by
      rw[l5]
      refine⟨J,L,λj D=>?_⟩
      rw[E j (by omega) D];simp
     rw[e];rfl
    | false=>
     simp only[aq]
     refine Y (i+1) f (by omega) (by omega) λj D Z=>?_
     by_cases e:j=i
     ·subst e;exact L
     ·exact E j D (by omega)
 exact key l.length 0 fuel (by omega) C λj _ h=>by omega
def LU{T:Type}{p:T->Bool}{l:aa T}{i:Nat}(h:i<l.length)(I:p l[i]=true):(gG p l != (i:Int))=(l.take i).any p:=by
 unfold gG;cases C:(l.take i).any p with
 | false=>
  have e:l.findIdx? p=some i:=by
   rw[l5]
   refine⟨h,I,λj D=>?_⟩
   have:=kK.1 C l[j] (ju.2 ⟨j,by simp;omega,by simp⟩);exact this
  rw[e];simp
 | true=>
  obtain⟨x,J,E⟩:=List.any_eq_true.1 C;obtain⟨j,D,rfl⟩:=ju.1 J;rw[fF]at D;cases L:l.findIdx? p with
  |none=>simp
  | some k=>
   obtain⟨Q,U,O⟩:=l5.1 L;have:k≠i:=by
    rintro rfl;have:=O j (by omega);rw[List.getElem_take]at E;exact this E
   simp only;simp;omega
def RM(x:Int):Bool:=aK x 0 4294967295
def qa(n:Int)(r:aX):Bool:=aK r.id 1 100000&&(aK r.dB 0 3&&(decide (r.line >= 0)&&(decide (r.line<n)&&(RM r.data&&((r.write ||r.data==0)&&aK r.at_ 0 1000000)))))
def axy(n:Int)(r:aX):QC n r=some (qa n r):=by
 unfold QC qa CH RM;simp only[dJ,au];cases aK r.id 1 100000<;>cases aK r.dB 0 3<;>cases decide (r.line >= 0)<;>cases decide (r.line<n)<;>cases aK r.data 0 4294967295<;>cases r.write<;>cases r.data==0<;>rfl
def axz(n:Int)(r:aX):O6 n r=some (qa n r):=by
 unfold O6 qa I8 RM;simp only[eJ,au];cases aK r.id 1 100000<;>cases aK r.dB 0 3<;>cases decide (r.line >= 0)<;>cases decide (r.line<n)<;>cases aK r.data 0 4294967295<;>cases r.write<;>cases r.data==0<;>rfl
def fk(x y:aX):Bool:=decide (x.at_<y.at_) ||(x.at_==y.at_&&decide (x.id<y.id))
def aiL(x y:aX):QB x y=some (fk x y):=by
 unfold QB fk;cases decide (x.at_<y.at_)<;>cases x.at_==y.at_<;>rfl
def aiM(x y:aX):O7 x y=some (fk x y):=aiL x y
def YZ(l:aa aX)(id:Int)(hl:l.length<1073741824):Ja l id=some (gG (λr=>r.id==id) l):=by
 unfold Ja gG cc;have e:=vR (step:=I9) l (λr=>r.id==id) (λi=>((l,id,(i:Int),()),())) (λi=>.inl (((i:Int),()),())) (.inr (.inl ((),()))) aS (λk h=>by
  unfold I9 aA bq xG xI;simp (disch:=omega) [h,bI];cases l[k].id==id<;>rfl) (by unfold I9 aA bq xG xI;simp) (bM hl)
 rw[bT]at e;rw[e];cases l.findIdx? (λr=>r.id==id)<;>rfl
def r9(n:Int)(q:aa aX)(i:Nat):Bool:=match q[i]? with
 |some r=>qa n r&&((i==0 ||(match q[i-1]? with|some x=>fk x r|none=>false)) && !((q.take i).any λx=>x.id==r.id))
 |none=>false
def Y0{n:Int}{q:aa aX}(h:0<q.length):r9 n q 0=qa n q[0]:=by
 unfold r9;rw[bO h];simp
def LV{n:Int}{q:aa aX}{i:Nat}(h:i+1<q.length):r9 n q (i+1)=(qa n q[i+1]&&(fk q[i] q[i+1] && !((q.take (i+1)).any λx=>x.id==q[i+1].id))):=by
 unfold r9;rw[bO h];simp only[Nat.add_sub_cancel];rw[bO (by omega)];simp
def iJ(n:Int)(q:aa aX):Bool:=(List.range q.length).all (r9 n q)&&decide ((q.length:Int)<=12)
def aiN(n:Int)(q:aa aX):xx n q=some (iJ n q):=by
 unfold xx iJ cc;by_cases c:(q.length:Int)<=12
 ·rw[aW (show ¬ (q.length:Int) > 12 by omega),aq,aP c,Bool.and_true];have e:=gQ (step:=Jb) (List.range q.length) (r9 n q) (λi=>((n,q,(i:Int),()),())) (.inl ((false,()),())) (.inr (.inl ((),()))) aS (λk h=>by
   rw[cY]at h;rw[jI];unfold Jb aA bq xG xI;dsimp only;rw[aP,ak,az ⟨by omega,by omega⟩];simp only[bu,axz,au];cases k with
   | zero=>
    rw[Y0 h];cases qa n q[0]with
    |false=>rfl
    | true=>
     simp only[bB,aq,ak];rw[aW,aq,az ⟨by omega,h⟩,YZ _ _ (by omega),au,LU h (by simp)];simp;rfl
   | succ k=>
    rw[LV h];cases qa n q[k+1]with
    |false=>rfl
    | true=>
     simp only[bB,aq,cr];have C:W6 (((k+1:Nat):Int)-1)=(k:Int):=by rw[aR];omega
     simp only[C,bu];rw[aP,ak,az ⟨by omega,by omega⟩,az ⟨by omega,h⟩,aiM,au];cases fk q[k] q[k+1]with
     |false=>rfl
     | true=>
      simp only[bB,aq,cr];rw[az ⟨by omega,h⟩,YZ _ _ (by omega),au,LU h (by simp),bI];cases (q.take (k+1)).any λx=>x.id==q[k+1].id<;>rfl) (by
   rw[cY];unfold Jb aA bq xG xI;dsimp only;rw[aW,aq]) (by rw[cY];exact bM)
  rw[bT]at e
  refine(bF (λo=>Option.bind o _) e).trans ?_
  rw[au];cases (List.range q.length).all (r9 n q)<;>rfl
 ·rw[aP (show (q.length:Int) > 12 by omega),ak,aW c,Bool.and_false]
def axA(n:Int)(q:aa aX){i:Nat}(h:i<q.length)(hl:q.length<1073741824):
  iter Fu aS ((n,q,(),q,(q.length:Int),(i:Int),((q.take i).drop 0),(((q.take i).drop 0).length:Int),(0:Int),()),((q[i].id,q[i].dB,q[i].line,q[i].write,q[i].data,q[i].at_,()),()))=some (bif (q.take i).any (λx=>x.id==q[i].id)then .inl ((false,()),())else .inr (.inl ((n,q,q,(q.length:Int),(i:Int),()),()))):=by
 rw[List.drop_zero];have hlen:(q.take i).length=i:=by rw[fF];omega
 generalize C:q[i]=r;generalize D:q.take i=t at *
 have e:=gQ (step:=Fu) t (λx=>!(x.id==r.id)) (λj=>((n,q,(),q,(q.length:Int),(i:Int),t,(t.length:Int),(j:Int),()),((r.id,r.dB,r.line,r.write,r.data,r.at_,()),()))) (.inl ((false,()),())) (.inr (.inl ((n,q,q,(q.length:Int),(i:Int),()),()))) aS (λk h=>by
  unfold Fu aA bq xG xI;dsimp only;rw[aP,ak,az ⟨by omega,by omega⟩];simp only[bu];rw[bI];cases t[k].id==r.id<;>rfl) (by
  unfold Fu aA bq xG xI;dsimp only;rw[aW,aq]) (bM)
 rw[bT]at e;rw[e];have:t.all (λx=>!(x.id==r.id)) = !t.any λx=>x.id==r.id:=by rw[List.any_eq_not_all_not,Bool.not_not]
 rw[this];cases t.any λx=>x.id==r.id<;>rfl
def axB(n:Int)(q:aa aX)(hl:q.length<1073741824):QD n q=some (iJ n q):=by
 unfold QD iJ cc;have e:=gQ (step:=KR) (List.range q.length) (r9 n q) (λi=>((n,q,q,(q.length:Int),(i:Int),()),())) (.inl ((false,()),())) (.inr (.inl ((q,()),()))) aS (λk h=>by
   rw[cY]at h;rw[jI];unfold KR aA bq xG xI cc;dsimp only;rw[aP,ak,az ⟨by omega,by omega⟩];simp only[bu,axy,au];have C:=axA n q h hl;cases k with
   | zero=>
    rw[Y0 h];cases qa n q[0]with
    |false=>rfl
    | true=>
     simp only[bB,aq,ak];rw[aW,aq,br ⟨by omega,by omega,by omega⟩]
     refine(bF (λo=>Option.bind o _) C).trans ?_
     simp;rfl
   | succ k=>
    rw[LV h];cases qa n q[k+1]with
    |false=>rfl
    | true=>
     simp only[bB,aq,cr];have D:W6 (((k+1:Nat):Int)-1)=(k:Int):=by rw[aR];omega
     simp only[D,bu];rw[aP,ak,az ⟨by omega,by omega⟩,aiL,au];cases fk q[k] q[k+1]with
     |false=>rfl
     | true=>
      simp only[bB,aq,cr];rw[br ⟨by omega,by omega,by omega⟩]
      refine(bF (λo=>Option.bind o _) C).trans ?_
      rw[au];cases (q.take (k+1)).any λx=>x.id==q[k+1].id with
      |true=>rfl
      | false=>
       simp only[aq,Sum.elim_inr,dY];rw[bI];rfl) (by
   rw[cY];unfold KR aA bq xG xI cc;dsimp only;rw[aW,aq]) (by rw[cY];exact bM)
 rw[bT]at e
 refine(bF (λo=>Option.bind o _) e).trans ?_
 rw[au];cases (List.range q.length).all (r9 n q)<;>rfl
def gR(p:eT):Bool:=aK p.state 0 2&&(aK p.since 0 1000000&&aK p.idle 0 1000000)
def RN(p:eT):CI p=some (gR p):=by
 unfold CI gR;simp only[dJ,au];cases aK p.state 0 2<;>cases aK p.since 0 1000000<;>rfl
def Y1(p:eT):xF p=some (gR p):=by
 unfold xF gR;simp only[eJ,au];cases aK p.state 0 2<;>cases aK p.since 0 1000000<;>rfl
def vS(e:cv):Bool:=aK e.line 0 1023&&((e.code==1 ||e.code==2)&&aK e.times 1 999)
def je(e x:cv):Bool:=x.line==e.line&&x.code==e.code
def CZ(l:aa cv)(i:Nat):Bool:=match l[i]? with
 |some e=>vS e && !((l.take i).any (je e))
 |none=>false
def RO{l:aa cv}{i:Nat}(h:i<l.length):CZ l i=(vS l[i] && !((l.take i).any (je l[i]))):=by
 unfold CZ;rw[bO h]
def kV(l:aa cv):Bool:=(List.range l.length).all (CZ l)&&decide ((l.length:Int)<=6)
def aiO(l:aa cv)(e:cv)(hl:l.length<1073741824):JK l e.line e.code=some (gG (je e) l):=by
 unfold JK gG cc;have e:=vR (step:=JJ) l (je e) (λi=>((l,e.line,e.code,(i:Int),()),())) (λi=>.inl (((i:Int),()),())) (.inr (.inl ((),()))) aS (λk h=>by
  unfold JJ je aA bq xG xI;dsimp only;rw[aP,ak,az ⟨by omega,by omega⟩,az ⟨by omega,by omega⟩];simp only[bu];rw[bI];cases l[k].line==e.line<;>cases l[k].code==e.code<;>rfl) (by
  unfold JJ aA bq xG xI;dsimp only;rw[aW,aq]) (bM hl)
 rw[bT]at e;rw[e];cases l.findIdx? (je _)<;>rfl
def axC(l:aa cv):PI l=some (kV l):=by
 unfold PI kV cc;by_cases c:(l.length:Int)<=6
 ·rw[aW (show ¬ (l.length:Int) > 6 by omega),aq,aP c,Bool.and_true];have e:=gQ (step:=JL) (List.range l.length) (CZ l) (λi=>((l,(i:Int),()),())) (.inl ((false,()),())) (.inr (.inl ((),()))) aS (λk h=>by
   rw[cY]at h;rw[jI,RO h];unfold JL E4 vS aA bq xG xI;dsimp only;rw[aP,ak,az ⟨by omega,by omega⟩,az ⟨by omega,by omega⟩,az ⟨by omega,by omega⟩];simp only[bu,eJ,au];rw[aiO _ _ (by omega),au,LU h (by simp[je]),bI];cases aK l[k].line 0 1023<;>cases l[k].code==1<;>cases l[k].code==2<;>cases aK l[k].times 1 999<;>cases (l.take k).any (je l[k])<;>rfl) (by
   rw[cY];unfold JL aA bq xG xI;dsimp only;rw[aW,aq]) (by rw[cY];exact bM)
  rw[bT]at e
  refine(bF (λo=>Option.bind o _) e).trans ?_
  rw[au];cases (List.range l.length).all (CZ l)<;>rfl
 ·rw[aP (show (l.length:Int) > 6 by omega),ak,aW c,Bool.and_false]
def axD(l:aa cv){i:Nat}(h:i<l.length)(hl:l.length<1073741824):
  iter Fv aS ((l,(),l,(l.length:Int),(i:Int),((l.take i).drop 0),(((l.take i).drop 0).length:Int),(0:Int),()),((l[i].line,l[i].code,l[i].times,()),()))=some (bif (l.take i).any (je l[i])then .inl ((false,()),())else .inr (.inl ((l,l,(l.length:Int),(i:Int),()),()))):=by
 rw[List.drop_zero];have hlen:(l.take i).length=i:=by rw[fF];omega
 generalize C:l[i]=r;generalize D:l.take i=t at *
 have e:=gQ (step:=Fv) t (λx=>!(je r x)) (λj=>((l,(),l,(l.length:Int),(i:Int),t,(t.length:Int),(j:Int),()),((r.line,r.code,r.times,()),()))) (.inl ((false,()),())) (.inr (.inl ((l,l,(l.length:Int),(i:Int),()),()))) aS (λk h=>by
  unfold Fv je aA bq xG xI;dsimp only;rw[aP,ak,az ⟨by omega,by omega⟩];simp only[bu];rw[bI,BEq.comm (a:=r.line),BEq.comm (a:=r.code)];cases t[k].line==r.line<;>cases t[k].code==r.code<;>rfl) (by
  unfold Fv aA bq xG xI;dsimp only;rw[aW,aq]) (bM)
 rw[bT]at e;rw[e];have:t.all (λx=>!(je r x)) = !t.any (je r):=by rw[List.any_eq_not_all_not,Bool.not_not]
 rw[this];cases t.any (je r)<;>rfl
def aiP(l:aa cv)(hl:l.length<1073741824):KT l=some (kV l):=by
 unfold KT kV cc;have e:=gQ (step:=KS) (List.range l.length) (CZ l) (λi=>((l,l,(l.length:Int),(i:Int),()),())) (.inl ((false,()),())) (.inr (.inl ((l,()),()))) aS (λk h=>by
   rw[cY]at h;rw[jI,RO h];have C:=axD l h hl;unfold KS vS aA bq xG xI cc;dsimp only;rw[aP,ak,az ⟨by omega,by omega⟩];simp only[bu,dJ,au,bne];rw[br ⟨by omega,by omega,by omega⟩];rw[show (0:Int).toNat=0 from rfl,C];cases aK l[k].line 0 1023<;>cases l[k].code==1<;>cases l[k].code==2<;>cases aK l[k].times 1 999<;>cases (l.take k).any (je l[k])<;>first|rfl|(simp only[ak,aq,bB,gU,au,Sum.elim_inr,dY];rw[bI];rfl)) (by
   rw[cY];unfold KS aA bq xG xI cc;dsimp only;rw[aW,aq]) (by rw[cY];exact bM)
 rw[bT]at e
 refine(bF (λo=>Option.bind o _) e).trans ?_
 rw[au];cases (List.range l.length).all (CZ l)<;>rfl
def RQ(l:aa Int)(x:Int)(hl:l.length<1073741824):CF l x=some (gG (λe=>x==e) l):=by
 unfold CF gG;have e:=vR (step:=KO) l (λe=>x==e) (λi=>((l,x,(l.length:Int),(i:Int),()),())) (λi=>.inl (((i:Int),()),())) (.inr (.inl ((),()))) aS (λk h=>by
  unfold KO aA bq xG xI;dsimp only;rw[aP,ak,az ⟨by omega,by omega⟩];simp only[bu];rw[bI];cases x==l[k]<;>rfl) (by
  unfold KO aA bq xG xI;dsimp only;rw[aW,aq]) (bM hl)
 rw[bT]at e;rw[e];cases l.findIdx? (λe=>x==e)<;>rfl
def C0(t:cx)(i:Nat):Bool:=match t.rows[i]?,t.counts[i]? with
 |some r,some c=>aK r (-1) 15&&(aK c t.c7 100000&&((r != -1 ||c==0)&&(r == -1 ||!((t.rows.take i).any λx=>r==x))))
 |_,_=>false
def RR{t:cx}{i:Nat}(h:i<t.rows.length)(C:i<t.counts.length):C0 t i=(aK t.rows[i] (-1) 15&&(aK t.counts[i] t.c7 100000&&((t.rows[i] != -1 || t.counts[i]==0)&&(t.rows[i] == -1 || !((t.rows.take i).any λx=>t.rows[i]==x))))):=by
 unfold C0;rw[bO h,bO C]
def jf(t:cx):Bool:=aK (t.rows.length:Int) 1 16&&((t.rows.length:Int)==(t.counts.length:Int)&&(aK t.c7 0 100000&&(List.range t.rows.length).all (C0 t)))
def Y2(t:cx):At t=some (jf t):=by
 unfold At jf cc;simp only[dJ,au];cases D:aK (t.rows.length:Int) 1 16 with
 |false=>rfl
 | true=>
  have D:=bx.1 D;by_cases C:(t.rows.length:Int)=(t.counts.length:Int)
  ·simp only[C,bne_self_eq_false,kM,bB,aq,cr];cases L:aK t.c7 0 100000 with
   |false=>rfl
   | true=>
    have e:=gQ (step:=KP) (List.range t.rows.length) (C0 t) (λi=>(((),t.rows,(t.rows.length:Int),(i:Int),()),((t.rows,t.counts,t.c7,()),()))) (.inl ((false,()),())) (.inr (.inl ((),()))) aS (λk h=>by
     rw[cY]at h;have E:k<t.counts.length:=by omega
     rw[jI,RR h E];unfold KP aA bq xG xI;dsimp only;rw[aP,ak,az ⟨by omega,by omega⟩,az ⟨by omega,by omega⟩,az ⟨by omega,by omega⟩];simp only[bu,dJ,au,RQ _ _ (show t.rows.length<1073741824 by omega)];rw[LU (p:=λe=>t.rows[k]==e) h (by simp),bI];simp only[bne];cases aK t.rows[k] (-1) 15<;>cases aK t.counts[k] t.c7 100000<;>cases t.rows[k] == -1<;>cases t.counts[k]==0<;>cases (t.rows.take k).any (λe=>t.rows[k]==e)<;>rfl) (by
     rw[cY];unfold KP aA bq xG xI;dsimp only;rw[aW,aq]) (by rw[cY];exact bM)
    rw[bT,C]at e;simp only[bB,aq,cr]
    refine(bF (λo=>Option.bind o _) e).trans ?_
    rw[au];cases (List.range t.rows.length).all (C0 t)<;>rfl
  ·have I:((t.rows.length:Int)==(t.counts.length:Int))=false:=by simp[C]
   have J:((t.counts.length:Int) != (t.rows.length:Int))=true:=fY λh=>C h.symm
   rw[I,J];rfl
def axE(t:cx){i:Nat}(h:i<t.rows.length)(hl:t.rows.length<1073741824):
  iter EU aS (((),(i:Int),(0:Int),()),((t.rows,t.counts,t.c7,()),()))=some (bif decide (t.rows[i] >= 0)&&(t.rows.take i).any (λx=>t.rows[i]==x)then .inl ((false,()),())else .inr (.inl (((),(i:Int),()),((t.rows,t.counts,t.c7,()),())))):=by
 have hlen:(t.rows.take i).length=i:=by rw[fF];omega
 have e:=gQ (step:=EU) (t.rows.take i) (λx=>!(decide (t.rows[i] >= 0)&&t.rows[i]==x)) (λj=>(((),(i:Int),(j:Int),()),((t.rows,t.counts,t.c7,()),()))) (.inl ((false,()),())) (.inr (.inl (((),(i:Int),()),((t.rows,t.counts,t.c7,()),())))) aS (λk C=>by
  rw[hlen]at C;unfold EU aA bq xG xI;dsimp only;rw[aP,ak,az ⟨by omega,by omega⟩,az ⟨by omega,by omega⟩,az ⟨by omega,by omega⟩];simp only[bu,List.getElem_take];rw[bI,BEq.comm (a:=t.rows[k])];cases decide (t.rows[i] >= 0)<;>cases t.rows[i]==t.rows[k]<;>rfl) (by
  rw[hlen];unfold EU aA bq xG xI;dsimp only;rw[aW,aq]) (bM)
 rw[bT]at e;rw[e];have:(t.rows.take i).all (λx=>!(decide (t.rows[i] >= 0)&&t.rows[i]==x)) = !(decide (t.rows[i] >= 0)&&(t.rows.take i).any (λx=>t.rows[i]==x)):=by
  cases decide (t.rows[i] >= 0)with
  |false=>simp
  | true=>
   simp only[cr];rw[List.any_eq_not_all_not,Bool.not_not]
 rw[this];cases (decide (t.rows[i] >= 0)&&(t.rows.take i).any (λx=>t.rows[i]==x))<;>rfl
def aiQ(t:cx):Js t=some (jf t):=by
 unfold Js jf cc;simp only[eJ,au];cases D:aK (t.rows.length:Int) 1 16 with
 |false=>rfl
 | true=>
  have D:=bx.1 D;by_cases C:(t.rows.length:Int)=(t.counts.length:Int)
  ·simp only[C,bne_self_eq_false,kM,bB,aq,cr];cases Q:aK t.c7 0 100000 with
   |false=>rfl
   | true=>
    have e:=gQ (step:=Jr) (List.range t.rows.length) (C0 t) (λi=>(((),(i:Int),()),((t.rows,t.counts,t.c7,()),()))) (.inl ((false,()),())) (.inr (.inl ((),()))) aS (λk h=>by
     rw[cY]at h;have J:k<t.counts.length:=by omega
     have L:=axE t h (by omega);rw[jI,RR h J];unfold Jr aA bq xG xI cc;dsimp only;rw[aP,ak,az ⟨by omega,by omega⟩,az ⟨by omega,by omega⟩,az ⟨by omega,by omega⟩,az ⟨by omega,by omega⟩];simp only[bu,eJ,au];rw[L,au];cases E:aK t.rows[k] (-1) 15 with
     |false=>rfl
     | true=>
      have E:=bx.1 E;cases aK t.counts[k] t.c7 100000 with
      |false=>rfl
      | true=>
       simp only[bB,aq,cr,bne];by_cases I:t.rows[k] = -1
       ·rw[aP (show t.rows[k]<0 by omega),aW (show ¬ t.rows[k] >= 0 by omega),show (t.rows[k] == -1)=true by simp[I]];simp only[ak,aq,jJ,Sum.elim_inr,dY];rw[bI];cases t.counts[k]==0<;>rfl
       ·rw[aW (show ¬ t.rows[k]<0 by omega),aP (show t.rows[k] >= 0 by omega),show (t.rows[k] == -1)=false by simp[I]];simp only[ak,aq,cr];cases (t.rows.take k).any λx=>t.rows[k]==x with
        |true=>rfl
        | false=>
         simp only[aq,Sum.elim_inr,dY];rw[bI];rfl) (by
     rw[cY];unfold Jr aA bq xG xI cc;dsimp only;rw[aW,aq]) (by rw[cY];exact bM)
    rw[bT]at e;simp only[bB,aq,cr]
    refine(bF (λo=>Option.bind o _) e).trans ?_
    rw[au];cases (List.range t.rows.length).all (C0 t)<;>rfl
  ·have O:((t.rows.length:Int)==(t.counts.length:Int))=false:=by simp[C]
   rw[O,fY C];rfl
def w9(g:aO):W6 ((9:Int)*(W6 (aT g+(1:Int))))=9*(aT g+1):=by
 have:=eY g;rw[aR (n:=aT g+1),aR]
def LW(k:Int):xK k=some (aK k 1 5):=by
 unfold xK;rw[dJ];rfl
def axF(n:Int)(u:Bool)(k:Int):CK n u k=some (bif u then aK n 0 (W6 (k-1))else n==0):=by
 unfold CK;rw[dJ];cases u<;>rfl
def oR(g:aO)(i:Nat):Bool:=decide ((i:Int) / 9<aT g)==decide ((i:Int) % 9+1<=5)
def axG(g:aO){i:Nat}(hi:i<1000):Ph g (i:Int)=some (oR g i):=by
 unfold Ph oR;rw[oO,au,qh (by omega),qg (by omega),aR,aR,BEq.comm]
def axH(g:aO){i:Nat}(hi:i<1000):∃ c,CD g (i:Int)=some (c,oR g i):=by
 unfold CD oR;rw[oN,au,qh (by omega),qg (by omega),aR,aR,LW,au];have:aK ((i:Int) % 9+1) 1 5=decide ((i:Int) % 9+1<=5):=by
  rw[Bool.eq_iff_iff];simp[aK];omega
 rw[this];cases decide ((i:Int) / 9<aT g)<;>exact⟨_,rfl⟩
def C1(g:aO)(l:aa Int)(i:Nat):Bool:=match l[i]? with
 |some e=>aK e (-1) 1000000&&(oR g i ||e == -1)
 |none=>false
def LX{g:aO}{l:aa Int}{i:Nat}(h:i<l.length):C1 g l i=(aK l[i] (-1) 1000000&&(oR g i || l[i] == -1)):=by
 unfold C1;rw[bO h]
def oS(l:aa Int)(i:Nat):Bool:=match l[i]? with
 |some e=>aK e 0 1000000&&(i==0 ||(match l[i-1]? with|some x=>!(decide (x >= e))|none=>false))
 |none=>false
def LY{l:aa Int}(h:0<l.length):oS l 0=aK l[0] 0 1000000:=by
 unfold oS;rw[bO h];simp
def F2{l:aa Int}{i:Nat}(h:i+1<l.length):oS l (i+1)=(aK l[i+1] 0 1000000 && !(decide (l[i] >= l[i+1]))):=by
 unfold oS;rw[bO h];simp only[Nat.add_sub_cancel];rw[bO (by omega)];simp
def kW(g:aO)(r:dF):Bool:=cD g&&((r.last.length:Int)==9*(aT g+1)&&(!(decide ((r.bg.length:Int) > 4))&&((List.range r.last.length).all (C1 g r.last)&&(List.range r.bg.length).all (oS r.bg))))
def Y3(g:aO)(r:dF):Fq g r=some (kW g r):=by
 unfold Fq kW cc;rw[xT,au,oN];cases L:cD g with
 |false=>rfl
 | true=>
  simp only[bB,aq,au,cr,w9];by_cases C:(r.last.length:Int)=9*(aT g+1)
  ·have O:=eY g;rw[C,bne_self_eq_false,aq,kM,cr,<-C];cases D:decide ((r.bg.length:Int) > 4)with
   |true=>rfl
   | false=>
    have D:=of_decide_eq_false D;have l1:=gQ (step:=KF) (List.range r.last.length) (C1 g r.last) (λi=>(((),(),r.last,(r.last.length:Int),(i:Int),()),((g.cq,g.aC,g.rows,g.aN,()),(r.last,r.bg,()),()))) (.inl ((false,()),())) (.inr (.inl (((),()),((r.last,r.bg,()),())))) aS (λk h=>by
     rw[cY]at h;obtain⟨c,E⟩:=axH g (i:=k) (by omega);rw[jI,LX h];unfold KF aA bq xG xI;dsimp only;rw[aP,ak,az ⟨by omega,by omega⟩];simp only[bu,dJ,au,ni,E,bne];rw[bI];cases aK r.last[k] (-1) 1000000<;>cases oR g k<;>cases r.last[k] == -1<;>rfl) (by
     rw[cY];unfold KF aA bq xG xI;dsimp only;rw[aW,aq]) (by rw[cY];exact bM)
    have l2:=gQ (step:=KG) (List.range r.bg.length) (oS r.bg) (λi=>(((),r.bg,(r.bg.length:Int),(i:Int),()),((r.last,r.bg,()),()))) (.inl ((false,()),())) (.inr (.inl ((),()))) aS (λk h=>by
     rw[cY]at h;rw[jI];unfold KG aA bq xG xI;dsimp only;rw[aP,ak,az ⟨by omega,by omega⟩];simp only[bu,dJ,au];cases k with
     | zero=>
      rw[LY h];cases aK r.bg[0] 0 1000000 with
      |false=>rfl
      | true=>
       rw[aW];rfl
     | succ k=>
      rw[F2 h];have I:W6 (((k+1:Nat):Int)-1)=(k:Int):=by rw[aR];omega
      simp only[I,bu];rw[aP (show ((k+1:Nat):Int) > 0 by omega),az ⟨by omega,by omega⟩,bI];cases aK r.bg[k+1] 0 1000000<;>cases decide (r.bg[k] >= r.bg[k+1])<;>rfl) (by
     rw[cY];unfold KG aA bq xG xI;dsimp only;rw[aW,aq]) (by rw[cY];exact bM)
    rw[bT]at l1 l2;simp only[gU,aq,cr]
    refine(bF (λo=>Option.bind o _) l1).trans ?_
    rw[au];cases (List.range r.last.length).all (C1 g r.last)with
    |false=>rfl
    | true=>
     simp only[ak,Sum.elim_inr,dY,cr]
     refine(bF (λo=>Option.bind o _) l2).trans ?_
     rw[au];cases (List.range r.bg.length).all (oS r.bg)<;>rfl
  ·have J:((r.last.length:Int)==9*(aT g+1))=false:=by simp[C]
   rw[fY C,J];rfl
def axI(g:aO)(r:dF):Pj g r=some (kW g r):=by
 unfold Pj kW cc;rw[F1,au,oO];cases J:cD g with
 |false=>rfl
 | true=>
  simp only[bB,aq,au,cr,w9];by_cases C:(r.last.length:Int)=9*(aT g+1)
  ·have L:=eY g;rw[C,bne_self_eq_false,aq,kM,cr];cases D:decide ((r.bg.length:Int) > 4)with
   |true=>rfl
   | false=>
    have D:=of_decide_eq_false D;have l1:=gQ (step:=Jl) (List.range r.last.length) (C1 g r.last) (λi=>(((),(),(i:Int),()),((g.cq,g.aC,g.rows,g.aN,()),(r.last,r.bg,()),()))) (.inl ((false,()),())) (.inr (.inl (((),()),((r.last,r.bg,()),())))) aS (λk h=>by
     rw[cY]at h;rw[jI,LX h];unfold Jl aA bq xG xI;dsimp only;rw[aP,ak,az ⟨by omega,by omega⟩,az ⟨by omega,by omega⟩];simp only[bu,eJ,au,ni,axG g (show k<1000 by omega),bne];rw[bI];cases aK r.last[k] (-1) 1000000<;>cases oR g k<;>cases r.last[k] == -1<;>rfl) (by
     rw[cY];unfold Jl aA bq xG xI;dsimp only;rw[aW,aq]) (by rw[cY];exact bM)
    have l2:=gQ (step:=Jm) (List.range r.bg.length) (oS r.bg) (λi=>(((),(i:Int),()),((r.last,r.bg,()),()))) (.inl ((false,()),())) (.inr (.inl ((),()))) aS (λk h=>by
     rw[cY]at h;rw[jI];unfold Jm aA bq xG xI;dsimp only;rw[aP,ak,az ⟨by omega,by omega⟩];simp only[bu,eJ,au];cases k with
     | zero=>
      rw[LY h];cases aK r.bg[0] 0 1000000 with
      |false=>rfl
      | true=>
       rw[aW];rfl
     | succ k=>
      rw[F2 h];have E:W6 (((k+1:Nat):Int)-1)=(k:Int):=by rw[aR];omega
      simp only[E,bu];rw[aP (show ((k+1:Nat):Int) > 0 by omega),az ⟨by omega,by omega⟩,az ⟨by omega,by omega⟩,bI];cases aK r.bg[k+1] 0 1000000<;>cases decide (r.bg[k] >= r.bg[k+1])<;>rfl) (by
     rw[cY];unfold Jm aA bq xG xI;dsimp only;rw[aW,aq]) (by rw[cY];exact bM)
    rw[bT]at l1 l2;simp only[gU,aq,cr]
    refine(bF (λo=>Option.bind o _) l1).trans ?_
    rw[au];cases (List.range r.last.length).all (C1 g r.last)with
    |false=>rfl
    | true=>
     simp only[ak,Sum.elim_inr,dY,cr]
     refine(bF (λo=>Option.bind o _) l2).trans ?_
     rw[au];cases (List.range r.bg.length).all (oS r.bg)<;>rfl
  ·have I:((r.last.length:Int)==9*(aT g+1))=false:=by simp[C]
   rw[fY C,I];rfl
def axJ(l:aa Int)(x:Int)(hl:l.length<1073741824):P8 l x=some (l.any λe=>e==x):=by
 unfold P8 cc;have e:=gQ (step:=Kf) l (λe=>!(e==x)) (λi=>((l,x,(i:Int),()),())) (.inl ((true,()),())) (.inr (.inl ((),()))) aS (λk h=>by
  unfold Kf aA bq xG xI;dsimp only;rw[aP,ak,az ⟨by omega,by omega⟩];simp only[bu];rw[bI];cases l[k]==x<;>rfl) (by
  unfold Kf aA bq xG xI;dsimp only;rw[aW,aq]) (bM hl)
 rw[bT]at e;rw[e];have:l.all (λe=>!(e==x)) = !l.any λe=>e==x:=by rw[List.any_eq_not_all_not,Bool.not_not]
 rw[this];cases l.any λe=>e==x<;>rfl
def axK(l:aa Int)(x:Int)(hl:l.length<1073741824):Qr l x=some (l.count x:Int):=by
 unfold Qr bw;have e:=cL (step:=Kv) l.length (λi=>((x,((l.take i).count x:Int),l,(l.length:Int),(i:Int),()),())) (.inl (((l.count x:Int),()),())) aS (λk h=>by
  unfold Kv aA xG xI;have C:(l.take k).count x<=k:=Nat.le_trans List.count_le_length (by rw[fF];omega);dsimp only;rw[aP,ak,az ⟨by omega,by omega⟩];simp only[bu];rw[List.take_succ_eq_append_getElem h,List.count_append,List.count_singleton,bI,bI];cases l[k]==x<;>rfl) (by
  unfold Kv aA xG xI;dsimp only;rw[aW,aq,iA]) (bM hl)
 rw[bT,List.take_zero,List.count_nil]at e;rw[bT]at e;rw[e];rfl
def aiR{x:Int}:∀ (l:aa Int),(∀ j (h:j<l.length),l[j]=x->x ∉ l.take j)->l.count x<=1
 |[],_=>by simp
 | y :: ys,h=>by
  rw[List.count_cons];by_cases e:y=x
  ·have:x ∉ ys:=by
    intro C;obtain⟨j,E,D⟩:=ju.1 C;refine h (j+1) (by simp;omega) (by simpa using D) ?_;rw[List.take_succ_cons,e];exact List.mem_cons_self
   rw[List.count_eq_zero.2 this];split<;>omega
  ·have:=aiR ys λj E D C=>h (j+1) (by simp;omega) (by simpa using D) (by rw[List.take_succ_cons];exact List.mem_cons_of_mem _ C)
   have hb:(y==x)=false:=by simp[e]
   rw[hb]
   simpa using this
def axL{x:Int}:∀ (l:aa Int) (j:Nat) (h:j<l.length),l[j]=x->x∈l.take j->2<=l.count x:=by
 intro l j h e C;have D:1<=(l.take j).count x:=List.count_pos_iff.2 C;have E:1<=(l.drop j).count x:=List.count_pos_iff.2 (by rw[<-e];exact ju.2 ⟨0,by simp;omega,by simp⟩);have:l.count x=(l.take j).count x+(l.drop j).count x:=by rw[<-List.count_append,List.take_append_drop]
 omega
def qW(R M:Int)(L:aa Int)(j:Nat):Bool:=match L[j]? with
 |some e=>e==(j:Int) ||(aK e R M && !(decide ((L.count e:Int) > 1)))
 |none=>false
def uA(R M:Int)(L:aa Int)(j:Nat):Bool:=match L[j]? with
 |some e=>e==(j:Int) ||(aK e R M && !((L.take j).any λx=>x==e))
 |none=>false
def Y4(R M:Int)(L:aa Int)(hR:(L.length:Int)=R):(List.range L.length).all (qW R M L)=(List.range L.length).all (uA R M L):=by
 rw[Bool.eq_iff_iff,cE,cE];simp only[eV];constructor
 ·intro h j D;have:=h j D;unfold qW at this;unfold uA;rw[bO D]at *
  simp only[ei,aM,gy,od]at *
  rcases this with C|⟨C,T⟩
  ·exact .inl C
  ·refine .inr ⟨C,?_⟩;rw[kK];intro x I J;have J:x=L[j]:=by simpa using J
   have:=axL L j D rfl (J ▸ I);omega
 ·intro h j D;have:=h j D;unfold uA at this;unfold qW;rw[bO D]at *
  simp only[ei,aM,gy,od]at *
  rcases this with C|⟨C,T⟩
  ·exact .inl C
  ·refine .inr ⟨C,?_⟩;have Y:=(bx.1 C).1;have:=aiR (x:=L[j]) L λk O e I=>by
    have E:=h k O;unfold uA at E;rw[bO O]at E;simp only[ei,aM,gy]at E;rcases E with Q|⟨_,U⟩
    ·have Q:L[k]=(k:Int):=by simpa using Q
     omega
    ·have:=kK.1 U L[j] I;rw[e]at this;simp at this
   omega
def gN(m:aa Int)(R b:Nat):aa Int:=(m.take ((b+1)*R)).drop (b*R)
def F3(m:aa Int)(R b:Nat):gN m R b=(m.drop (b*R)).take R:=by
 unfold gN;rw[List.drop_take,gH,Nat.add_sub_cancel_left]
def C2{m:aa Int}{R b:Nat}(h:(b+1)*R<=m.length):(gN m R b).length=R:=by
 rw[F3,fF,List.length_drop];rw[gH]at h;omega
def AG{C R b j:Nat}(hb:b<C)(D:j<=R):b*R+j<=C*R:=by
 have:(b+1)*R<=C*R:=iN R hb;rw[gH]at this;omega
def LZ(R:Nat)(M:Int)(m:aa Int)(i:Nat):Bool:=match m[i]? with
 |some e=>e==((i % R:Nat):Int) ||(aK e (R:Int) M && !(((m.take i).drop (i / R*R)).any λx=>x==e))
 |none=>false
def aiS{R:Nat}{M:Int}{m:aa Int}{b j:Nat}(C:j<R):LZ R M m (b*R+j)=uA (R:Int) M (gN m R b) j:=by
 unfold LZ uA;have D:(b*R+j) % R=j:=by rw[Nat.mul_comm,Nat.mul_add_mod,Nat.mod_eq_of_lt C]
 have E:(b*R+j) / R=b:=by rw[Nat.mul_comm,Nat.mul_add_div (by omega),Nat.div_eq_of_lt C,Nat.add_zero]
 have I:(gN m R b)[j]?=m[b*R+j]?:=by rw[F3,List.getElem?_take_of_lt C,List.getElem?_drop]
 have J:(gN m R b).take j=(m.take (b*R+j)).drop (b*R):=by rw[F3,List.take_take,List.drop_take,Nat.add_sub_cancel_left,Nat.min_eq_left (Nat.le_of_lt C)]
 (rw[D,E,I,J])<;>rfl
def aiT{n:Nat}(h:n<4611686018427387904):W6 (n:Int)=(n:Int):=aR
def axM(R D:Nat)(hR:0<R)(M:Int)(m:aa Int):(List.range (D*R)).all (LZ R M m)=(List.range D).all λb=>(List.range R).all (uA (R:Int) M (gN m R b)):=by
 rw[Bool.eq_iff_iff,cE,cE];simp only[eV,cE];constructor
 ·intro h b hb j C;rw[<-aiS C];refine h _ ?_;have:=AG (R:=R) hb (show j+1<=R from C);omega
 ·intro h i hi;have hb:i / R<D:=Nat.div_lt_of_lt_mul (by rw[Nat.mul_comm];exact hi);have C:i % R<R:=Nat.mod_lt _ hR;have e:i / R*R+i % R=i:=by rw[Nat.mul_comm];exact Nat.div_add_mod i R
  have:=h _ hb _ C;rw[<-aiS C,e]at this;exact this
def kX(g:aO)(s:dG):Bool:=jD g s.bP&&((s.map.length:Int)==((aT g).toNat*(g.rows-s.bP).toNat:Nat)&&(List.range (aT g).toNat).all λb=>(List.range (g.rows-s.bP).toNat).all (qW (g.rows-s.bP) (g.rows-1) (gN s.map (g.rows-s.bP).toNat b)))
def aiU{g:aO}{s:dG}{R C b:Nat}(hR:g.rows-s.bP=(R:Int))(D:R<=16)(E:C<=8)(hb:b<C)(hl:s.map.length=C*R):Fi g s (b:Int)=some (b*R,(b+1)*R):=by
 have O:C*R<=8*16:=Nat.mul_le_mul E D;have Q:b*R+R<=C*R:=AG hb (eB R);have I:W6 (g.rows-s.bP)=(R:Int):=by rw[hR];exact aR
 have J:W6 ((b:Int)*(R:Int))=((b*R:Nat):Int):=by rw[<-Int.natCast_mul];exact aR
 have L:W6 (((b+1:Nat):Int)*(R:Int))=(((b+1)*R:Nat):Int):=by
  rw[<-Int.natCast_mul];exact aR (by omega) (by rw[gH];omega)
 unfold Fi;rw[I,bI,J,L,gH,br ⟨by omega,by omega,by omega⟩];simp only[bu]
def axN{g:aO}{s:dG}(R b:Int)(L:aa Int)(C:cD g=true)(D:L.length<1073741824):
  iter Fj aS (((),(),R,b,L,L,(L.length:Int),(0:Int),()),((g.cq,g.aC,g.rows,g.aN,()),(s.bP,s.map,()),()))=some (bif (List.range L.length).all (qW R (g.rows-1) L)then .inr (.inl (((),(),R,b,()),((g.cq,g.aC,g.rows,g.aN,()),(s.bP,s.map,()),())))else .inl ((false,()),())):=by
 have E:=fA C;have e:=gQ (step:=Fj) (List.range L.length) (qW R (g.rows-1) L) (λi=>(((),(),R,b,L,L,(L.length:Int),(i:Int),()),((g.cq,g.aC,g.rows,g.aN,()),(s.bP,s.map,()),()))) (.inl ((false,()),())) (.inr (.inl (((),(),R,b,()),((g.cq,g.aC,g.rows,g.aN,()),(s.bP,s.map,()),())))) aS (λk h=>by
  rw[cY]at h;rw[jI];unfold Fj qW aA bq xG xI;dsimp only;rw[aP,ak,az ⟨by omega,by omega⟩,bO h];simp only[bu,dJ,au,axK _ _ D,bne];rw[bI,aR (n:=g.rows-1)];cases L[k]==(k:Int)<;>cases aK L[k] R (g.rows-1)<;>cases decide ((L.count L[k]:Int) > 1)<;>rfl) (by
  rw[cY];unfold Fj aA bq xG xI;dsimp only;rw[aW,aq]) (by rw[cY];exact bM)
 rw[bT]at e;exact e
def aiV(g:aO)(s:dG):Kx g s=some (kX g s):=by
 unfold Kx kX cc;rw[aiA,au,RH];cases D:jD g s.bP with
 |false=>rfl
 | true=>
  obtain⟨I,s0,s2,A8,RS⟩:=RG D;have J:=eY g;have L:((th g s.bP).1.map.length:Int)=(((aT g).toNat*(g.rows-s.bP).toNat:Nat):Int):=by
   unfold th;rw[D,ak,YQ]
  rw[L];obtain⟨C,hb⟩:=fy J.1;obtain⟨R,hR⟩:=fy (show 0<=g.rows-s.bP by omega);rw[hb,hR];simp only[bu,bB,aq,cr];by_cases hl:(s.map.length:Int)=((C*R:Nat):Int)
  ·have E:s.map.length=C*R:=by omega
   rw[hl,bne_self_eq_false,aq,kM,cr];have O:W6 (R:Int)=(R:Int):=aR;have e:=gQ (step:=Kw) (List.range C) (λb=>(List.range R).all (qW (R:Int) (g.rows-1) (gN s.map R b))) (λi=>(((),(),(R:Int),(i:Int),()),((g.cq,g.aC,g.rows,g.aN,()),(s.bP,s.map,()),()))) (.inl ((false,()),())) (.inr (.inl ((),()))) aS (λk h=>by
    rw[cY]at h;rw[jI];have Q:=AG (R:=R) h (eB R);have hlen:(gN s.map R k).length=R:=C2 (by rw[gH,E];exact Q);have T:=axN (g:=g) (s:=s) (R:Int) (k:Int) (gN s.map R k) I (by omega);unfold Kw aA bq xG cc;dsimp only;rw[ni,oN,au,hb,aP,ak];have U:Fi g (⟨s.bP,s.map⟩:dG) (k:Int)=some (k*R,(k+1)*R):=aiU (s:=⟨s.bP,s.map⟩) hR (by omega) (by omega) h E;rw[U,au];have Y:(Nat.ble (k*R) ((k+1)*R)&&Nat.ble ((k+1)*R) s.map.length)=true:=by
     rw[aM];exact⟨iP (by rw[gH];omega),iP (by rw[gH];omega)⟩
    rw[Y,ak]
    refine(bF (λo=>Option.bind o _) T).trans ?_
    rw[au,hlen];cases (List.range R).all (qW (R:Int) (g.rows-1) (gN s.map R k))with
    |false=>rfl
    | true=>
     simp only[ak,Sum.elim_inr,dY];rw[bI]) (by
    rw[cY];unfold Kw aA bq xG cc;dsimp only;rw[ni,oN,au,hb,aW,aq]) (by rw[cY];exact bM)
   rw[bT]at e;rw[O]
   refine(bF (λo=>Option.bind o _) e).trans ?_
   rw[au];cases (List.range C).all λb=>(List.range R).all (qW (R:Int) (g.rows-1) (gN s.map R b))<;>rfl
  ·have Z:((s.map.length:Int)==((C*R:Nat):Int))=false:=by simp only[beq_eq_false_iff_ne];exact hl
   rw[fY hl,Z];rfl
def axO(g:aO)(s:dG):P9 g s=some (kX g s):=by
 unfold P9 kX cc;rw[YR,au,RH];cases I:jD g s.bP with
 |false=>rfl
 | true=>
  obtain⟨J,s0,s2,A8,RS⟩:=RG I;have L:=eY g;have gb:=fA J;obtain⟨C,hb⟩:=fy L.1;obtain⟨R,hR⟩:=fy (show 0<=g.rows-s.bP by omega);have hm:C*R<=8*16:=Nat.mul_le_mul (by omega) (by omega);have O:W6 (R:Int)=(R:Int):=aR;have hmul:W6 ((C:Int)*(R:Int))=((C*R:Nat):Int):=by rw[<-Int.natCast_mul];exact aR
  rw[oO,au,hb,hR,O,hmul];simp only[bu,bB,aq,cr];by_cases hl:(s.map.length:Int)=((C*R:Nat):Int)
  ·have Q:s.map.length=C*R:=by omega
   rw[hl,bne_self_eq_false,aq,kM,cr];have e:=gQ (step:=Kg) (List.range (C*R)) (LZ R (g.rows-1) s.map) (λi=>(((),(),(R:Int),(i:Int),()),((g.cq,g.aC,g.rows,g.aN,()),(s.bP,s.map,()),()))) (.inl ((false,()),())) (.inr (.inl ((),()))) aS (λk h=>by
    rw[cY]at h;rw[jI];have T:k<s.map.length:=by omega
    have U:(k:Int).tmod (R:Int)=((k % R:Nat):Int):=(Int.ofNat_tmod k R).symm;have Y:(k:Int).tdiv (R:Int)=((k / R:Nat):Int):=(Int.ofNat_tdiv k R).symm;have Z:k / R<=k:=Nat.div_le_self k R;have E:k / R*R<=k:=Nat.div_mul_le_self k R;have w1:W6 (((k / R:Nat):Int))=((k / R:Nat):Int):=aiT (Nat.lt_of_le_of_lt Z (by omega));have w2:W6 (((k / R:Nat):Int)*(R:Int))=((k / R*R:Nat):Int):=by rw[<-Int.natCast_mul];exact aiT (Nat.lt_of_le_of_lt E (by omega))
    unfold Kg LZ aA bq xG xI;rw[bO T];dsimp only;rw[aP,ak,az ⟨by omega,by omega⟩,bE,az ⟨by omega,by omega⟩,bE,U,Y,w1,w2,br ⟨Int.natCast_nonneg _,Int.ofNat_le.2 E,by omega⟩,az ⟨by omega,by omega⟩];simp only[bu,eJ,au];rw[axJ _ _ (by rw[List.length_drop,fF];omega),au,bI,aR (n:=g.rows-1)];cases s.map[k]==((k % R:Nat):Int)<;>cases aK s.map[k] (R:Int) (g.rows-1)<;>cases ((s.map.take k).drop (k / R*R)).any (λx=>x==s.map[k])<;>rfl) (by
    rw[cY];unfold Kg aA bq xG xI;dsimp only;rw[aW,aq]) (by rw[cY];exact bM)
   rw[bT]at e
   refine(bF (λo=>Option.bind o _) e).trans ?_
   rw[au,axM R C (by omega)];have hAB:((List.range C).all λb=>(List.range R).all (uA (R:Int) (g.rows-1) (gN s.map R b)))=(List.range C).all λb=>(List.range R).all (qW (R:Int) (g.rows-1) (gN s.map R b)):=by
    rw[Bool.eq_iff_iff,cE,cE]
    refine forall_congr' λb=>?_
    refine imp_congr_right λD=>?_
    have D:=eV.1 D;have hk:=AG (R:=R) D (eB R);have hlen:(gN s.map R b).length=R:=C2 (by rw[gH,Q];exact hk);have:=Y4 (R:Int) (g.rows-1) (gN s.map R b) (by rw[hlen]);rw[hlen]at this;rw[this]
   rw[hAB];cases (List.range C).all λb=>(List.range R).all (qW (R:Int) (g.rows-1) (gN s.map R b))<;>rfl
  ·have e2:((s.map.length:Int)==((C*R:Nat):Int))=false:=by simp only[beq_eq_false_iff_ne];exact hl
   rw[fY hl,e2];rfl
def dW(g:aO)(s:dG):aO:=bif kX g s then ⟨g.cq,g.aC,W6 (g.rows-s.bP),g.aN⟩else ⟨0,0,0,0⟩
def Y5(g:aO)(s:dG):Fk g s=some (dW g s):=by
 unfold Fk dW;rw[aiV,au];cases kX g s<;>rfl
def AH(c:av):av:=c
def fT(a x:aL):Bool:=x.ax==a.ax&&(x.row==a.row&&(x.bR==a.bR&&true))
def aiW(l:aa aL)(a:aL)(hl:l.length<1073741824):Jp l a=some (gG (fT a) l):=by
 unfold Jp gG cc;have e:=vR (step:=Jo) l (fT a) (λi=>((l,(),(i:Int),()),((a.ax,a.row,a.bR,()),()))) (λi=>.inl (((i:Int),()),())) (.inr (.inl ((),()))) aS (λk h=>by
  unfold Jo fT aA bq xG xI;dsimp only;rw[aP,ak,az ⟨by omega,by omega⟩];simp only[bu];rw[bI];cases (l[k].ax==a.ax&&(l[k].row==a.row&&(l[k].bR==a.bR&&true)))<;>rfl) (by
  unfold Jo aA bq xG xI;dsimp only;rw[aW,aq]) (bM hl)
 rw[bT]at e;rw[e];cases l.findIdx? (fT a)<;>rfl
def aiX(l:aa aL)(a:aL)(hl:l.length<1073741824):Ft l a=some (gG (fT a) l):=by
 unfold Ft gG;have e:=vR (step:=KQ) l (fT a) (λi=>((l,(),(l.length:Int),(i:Int),()),((a.ax,a.row,a.bR,()),()))) (λi=>.inl (((i:Int),()),())) (.inr (.inl ((),()))) aS (λk h=>by
  unfold KQ fT aA bq xG xI;dsimp only;rw[aP,ak,az ⟨by omega,by omega⟩];simp only[bu];rw[bI,BEq.comm (a:=a.ax),BEq.comm (a:=a.row),BEq.comm (a:=a.bR)];cases (l[k].ax==a.ax&&(l[k].row==a.row&&(l[k].bR==a.bR&&true)))<;>rfl) (by
  unfold KQ aA bq xG xI;dsimp only;rw[aW,aq]) (bM hl)
 rw[bT]at e;rw[e];cases l.findIdx? (fT a)<;>rfl
def partAt(c:av)(i:Nat):Bool:=match c.bK[i]?,c.guard[i]? with
 |some t,some x=>jf t&&aK x 3 1000
 |_,_=>false
def AI(c:av)(i:Nat):Bool:=match c.pending[i]? with
 |some a=>dL c.config.ay a&&(a.bR==0 && !((c.pending.take i).any (fT a)))
 |none=>false
def tj(c:av):Bool:=(c.aQ.aJ.length:Int)==aT c.config.ay&&((c.bK.length:Int)==aT c.config.ay&&((c.guard.length:Int)==aT c.config.ay&&(!(decide ((c.pending.length:Int) > 128))&&((List.range c.bK.length).all (partAt c)&&(List.range c.pending.length).all (AI c)))))
def aiY(c:av)(G:(Int×Int×Int×Int×af))(n i:Int):Qy (((),(),n,i,()),(AH c,G,()))=(bif (decide (i<n))then if C:0<=i/\i.toNat<c.bK.length then (At (c.bK[i.toNat]'C.2)).bind λD=>bif (!D)then some (.inr (.inl ((false,()),())))else if E:0<=i/\i.toNat<c.guard.length then (cK (c.guard[i.toNat]'E.2) (3:Int) (1000:Int)).bind λI=>bif (!I)then some (.inr (.inl ((false,()),())))else some (.inl (((),(),n,(W6 (i+(1:Int))),()),(AH c,G,())))else none else none else some (.inr (.inr (.inl (((),(),()),(AH c,G,())))))):=rfl
def aiZ(c:av)(g:aO)(l:aa aL)(n i:Int):Qz (((),(),l,n,i,()),(AH c,(g.cq,g.aC,g.rows,g.aN,()),()))=(bif (decide (i<n))then if C:0<=i/\i.toNat<l.length then (CG g (l[i.toNat]'C.2)).bind λD=>bif (!D)then some (.inr (.inl ((false,()),())))else bif ((l[i.toNat]'C.2).bR != (0:Int))then some (.inr (.inl ((false,()),())))else (Ft c.pending (l[i.toNat]'C.2)).bind λE=>bif (E != i)then some (.inr (.inl ((false,()),())))else some (.inl (((),(),l,n,(W6 (i+(1:Int))),()),(AH c,(g.cq,g.aC,g.rows,g.aN,()),())))else none else some (.inr (.inr (.inl ((),()))))):=rfl
def axP(c:av)(L:c.aQ.aJ.length<1073741824):QA c=some (eF c.aQ&&tj c):=by
 unfold QA tj cc;rw[oN,au,LS _ L,au];cases eF c.aQ with
 |false=>rfl
 |true=>
 simp only[bB,aq,cr];have b1:=eY c.config.ay;by_cases C:(c.aQ.aJ.length:Int)=aT c.config.ay
 ·by_cases D:(c.bK.length:Int)=aT c.config.ay
  ·by_cases E:(c.guard.length:Int)=aT c.config.ay
   ·have O:((c.aQ.aJ.length:Int) != aT c.config.ay)=false:=by simp[C]
    have Q:((c.bK.length:Int) != aT c.config.ay)=false:=by simp[D]
    have T:((c.guard.length:Int) != aT c.config.ay)=false:=by simp[E]
    have U:((c.aQ.aJ.length:Int)==aT c.config.ay)=true:=by simp[C]
    have Y:((c.bK.length:Int)==aT c.config.ay)=true:=by simp[D]
    have Z:((c.guard.length:Int)==aT c.config.ay)=true:=by simp[E]
    rw[O,Q,T,U,Y,Z];simp only[aq,cr];cases I:decide ((c.pending.length:Int) > 128)with
    |true=>rfl
    | false=>
     have I:=of_decide_eq_false I;have l1:=gQ (step:=Qy) (List.range c.bK.length) (partAt c) (λi=>(((),(),(c.bK.length:Int),(i:Int),()),(AH c,(c.config.ay.cq,c.config.ay.aC,c.config.ay.rows,c.config.ay.aN,()),()))) (.inl ((false,()),())) (.inr (.inl (((),(),()),(AH c,(c.config.ay.cq,c.config.ay.aC,c.config.ay.rows,c.config.ay.aN,()),())))) aS (λk h=>by
      rw[cY]at h;rw[jI,aiY,aP,ak,az ⟨by omega,by omega⟩,az ⟨by omega,by omega⟩];simp only[bu,Y2,dJ,au];unfold partAt;rw[bO h,bO (show k<c.guard.length by omega),bI];simp only;cases jf c.bK[k]<;>cases aK (c.guard[k]'(by omega)) 3 1000<;>rfl) (by
      rw[cY,aiY,aW,aq]) (by rw[cY];exact bM)
     have l2:=gQ (step:=Qz) (List.range c.pending.length) (AI c) (λi=>(((),(),c.pending,(c.pending.length:Int),(i:Int),()),(AH c,(c.config.ay.cq,c.config.ay.aC,c.config.ay.rows,c.config.ay.aN,()),()))) (.inl ((false,()),())) (.inr (.inl ((),()))) aS (λk h=>by
      rw[cY]at h;rw[jI,aiZ,aP,ak,az ⟨by omega,by omega⟩];simp only[bu,YD,au,aiX _ _ (show c.pending.length<1073741824 by omega),bne];have J:=LU (p:=fT c.pending[k]) h (by simp[fT]);rw[bne]at J;rw[J];unfold AI;rw[bO h,bI];simp only;cases dL c.config.ay c.pending[k]<;>cases c.pending[k].bR==0<;>cases (c.pending.take k).any (fT c.pending[k])<;>rfl) (by
      rw[cY,aiZ,aW,aq]) (by rw[cY];exact bM)
     rw[bT]at l1 l2;simp only[gU,aq,cr]
     refine(bF (λo=>Option.bind o _) l1).trans ?_
     rw[au];cases (List.range c.bK.length).all (partAt c)with
     |false=>rfl
     | true=>
      simp only[ak,Sum.elim_inr,dY,cr]
      refine(bF (λo=>Option.bind o _) l2).trans ?_
      rw[au];cases (List.range c.pending.length).all (AI c)<;>rfl
   ·simp[C,D,fY E,E]
  ·simp[C,fY D,D]
 ·simp[fY C,C]
def qX(n:Int)(u:Bool)(k:Int):Bool:=bif u then aK n 0 (k-1)else n==0
def dP(g:aO)(c:aH):Bool:=cD g&&(aK c.kind 1 9&&(qX c.ax (aK c.kind 1 5) (aT g)&&(qX c.row (c.kind==1) g.rows&&qX c.bR (c.kind==2 ||c.kind==3) g.aN)))
def axQ(k:Int):QI k=some (k==1):=by
 unfold QI;rfl
def axR(k:Int):QJ k=some (k==2 || k==3):=by
 unfold QJ;cases k==2<;>rfl
def Y6{n k:Int}(u:Bool)(h:-1000<k/\k<1000):CK n u k=some (qX n u k):=by
 rw[axF,aR];rfl
def Y7(g:aO)(c:aH):FC g c=some (dP g c):=by
 unfold FC dP;rw[xT,au];cases C:cD g with
 |false=>rfl
 | true=>
  have D:=eY g;have E:=fA C;unfold Ya;simp only[ak,oN,au,dJ,LW,axQ,axR,Y6 _ (show -1000<aT g/\aT g<1000 by omega),Y6 _ (show -1000<g.rows/\g.rows<1000 by omega),Y6 _ (show -1000<g.aN/\g.aN<1000 by omega),cr];cases aK c.kind 1 9<;>cases qX c.ax (aK c.kind 1 5) (aT g)<;>cases qX c.row (c.kind==1) g.rows<;>rfl
def axS(k:Int):Je k=some (aK k 1 5,k==1,(k==2 || k==3)):=by
 obtain⟨y,e,h⟩:=axm k;rw[e,h]
def L0(c:aH):Bool:=(aK c.kind 1 5 ||c.ax==0)&&((c.kind==1 ||c.row==0)&&(((c.kind==2 ||c.kind==3) ||c.bR==0)&&(aK c.kind 1 9&&(aK c.ax 0 7&&(aK c.row 0 15&&aK c.bR 0 7)))))
def axT(c:aH):Pa c=some (L0 c):=by
 unfold Pa L0;simp only[axS,au,eJ,bne];cases aK c.kind 1 5<;>cases c.ax==0<;>cases c.kind==1<;>cases c.row==0<;>cases (c.kind==2 ||c.kind==3)<;>cases c.bR==0<;>cases aK c.kind 1 9<;>cases aK c.ax 0 7<;>cases aK c.row 0 15<;>rfl
def ai0(g:aO)(c:aH):Jf g c=some (dP g c):=by
 unfold Jf;rw[axT,au,YE,au];have key:(L0 c&&dL g ⟨c.ax,c.row,c.bR⟩)=dP g c:=by
  unfold dP dL;cases D:cD g with
  |false=>simp
  | true=>
   have I:=eY g;have J:=fA D;rw[Bool.eq_iff_iff];simp only[L0,qX,aM,ei,fz,bx,cr];constructor
   ·rintro⟨⟨h1,h2,h3,C,L,O,Q⟩,⟨T,U⟩,Y⟩;refine⟨C,?_,?_,?_⟩
    ·cases hu:aK c.kind 1 5 with
     |true=>simp only[ak,bx];omega
     | false=>simp only[aq,fz];rcases h1 with h1 | h1
              ·exact absurd (bx.2 h1) (by rw[hu];simp)
              ·exact h1
    ·cases hu:c.kind==1 with
     |true=>simp only[ak,bx];omega
     | false=>simp only[aq,fz];rcases h2 with h2 | h2
              ·rw[h2]at hu;cases hu
              ·exact h2
    ·cases hu:(c.kind==2 || c.kind==3)with
     |true=>simp only[ak,bx];omega
     | false=>simp only[aq,fz];rcases h3 with (h3 | h3) | h3
              ·rw[h3]at hu;cases hu
              ·rw[h3]at hu;cases hu
              ·exact h3
   ·rintro⟨h1,h2,h3,C⟩;have f1:(1<=c.kind/\c.kind<=5\/c.ax=0)/\0<=c.ax/\c.ax<=aT g-1:=by
     cases hu:aK c.kind 1 5 with
     |true=>rw[hu,ak,bx]at h2;exact⟨.inl (bx.1 hu),h2⟩
     |false=>rw[hu,aq,fz]at h2;have:=LG D;exact⟨.inr h2,by omega⟩
    have f2:(c.kind=1\/c.row=0)/\0<=c.row/\c.row<=g.rows-1:=by
     cases hu:c.kind==1 with
     |true=>rw[hu,ak,bx]at h3;exact⟨.inl (by simpa using hu),h3⟩
     |false=>rw[hu,aq,fz]at h3;exact⟨.inr h3,by omega⟩
    have E:((c.kind=2\/c.kind=3)\/c.bR=0)/\0<=c.bR/\c.bR<=g.aN-1:=by
     cases hu:(c.kind==2 ||c.kind==3)with
     |true=>rw[hu,ak,bx]at C;exact⟨.inl (by simpa using hu),C⟩
     |false=>rw[hu,aq,fz]at C;exact⟨.inr C,by omega⟩
    exact⟨⟨f1.1,f2.1,E.1,h1,by omega,by omega,by omega⟩,⟨by omega,by omega⟩,by omega⟩
 rw[<-key];cases L0 c<;>rfl
def C3{g:aO}{c:aH}(h:dP g c=true):cD g=true/\(1<=c.kind/\c.kind<=9)/\(c.kind<=5->0<=c.ax/\c.ax<aT g)/\(5<c.kind->c.ax=0):=by
 simp only[dP,aM,bx]at h
 refine⟨h.1,h.2.1,λD=>?_,λD=>?_⟩
 ·have:=h.2.2.1;rw[qX,show aK c.kind 1 5=true from bx.2 ⟨h.2.1.1,D⟩,ak,bx]at this;omega
 ·have:=h.2.2.1;have C:aK c.kind 1 5=false:=by
   cases C:aK c.kind 1 5 with
   |false=>rfl
   |true=>have:=bx.1 C;omega
  rw[qX,C,aq,fz]at this;exact this
def kinds{k:Int}(h:1<=k/\k<=9):k=1\/k=2\/k=3\/k=4\/k=5\/k=6\/k=7\/k=8\/k=9:=by omega
def js(r:cM)(b:Int):fC:=r.aC.getD b.toNat ⟨false,0⟩
def n5(r:cM)(c:aH):Bool:=
 bif c.kind==1 ||c.kind==5 then r.bh==0 && !(js r c.ax).open_ else
 bif c.kind==2 ||c.kind==3 ||c.kind==4 then r.bh==0&&(js r c.ax).open_ else
 bif c.kind==6 then r.bh==0 else
 bif c.kind==8 then r.bh==0&&r.aC.all (λb=>!b.open_)else
 bif c.kind==7 then r.bh==1 else r.bh==2
def fU(r:cM)(c:aH):cM:=
 bif c.kind==1 then ⟨r.aC.set c.ax.toNat ⟨true,c.row⟩,r.bh⟩else
 bif c.kind==4 then ⟨r.aC.set c.ax.toNat ⟨false,0⟩,r.bh⟩else
 bif c.kind==6 then ⟨r.aC,1⟩else
 bif c.kind==8 then ⟨r.aC,2⟩else
 bif c.kind==7 ||c.kind==9 then ⟨r.aC,0⟩else r
def ai1{r:cM}{b:Int}(h:b.toNat<r.aC.length):r.aC[b.toNat]=js r b:=by
 simp[js,h]
def ai2(r:cM):(((opens 0 r.aC).length:Int)==0)=r.aC.all λb=>!b.open_:=by
 rw[<-aiJ 0 r.aC,Bool.eq_iff_iff];simp only[fz];omega
def ai3(r:cM)(h:r.aC.length<1073741823):Jg r=some (opens 0 r.aC):=by
 unfold Jg bw;have e:=vN (step:=ET) (λi=>(((),(),(i:Int),()),((r.aC,r.bh,()),opens 0 (r.aC.take i),()))) (z:=.inl (((),()),(opens 0 r.aC,()))) r.aC.length 0 aS (λk _ C=>?_) ?_ (by unfold aS;omega)
 ·have e:iter ET aS (((),(),(0:Int),()),((r.aC,r.bh,()),([]:aa Int),()))=_:=e;rw[e];rfl
 ·have C:k<r.aC.length:=by omega
  unfold ET aA xG xI;dsimp only;have D:decide ((k:Int)<(r.aC.length:Int))=true:=aP;have E:0<=(k:Int)/\(k:Int).toNat<r.aC.length:=⟨by omega,by simpa using C⟩
  have hl:=Rt 0 (r.aC.take k);rw[fF]at hl;have I:bD ((opens 0 (r.aC.take k)).length+([(k:Int)]:aa Int).length)=true:=by
   unfold bD;refine aP ?_;simp;omega
  rw[D,ak,az E,vO,p7 C,YH];simp only[bu,opens,fF,fo,Nat.min_eq_left (Nat.le_of_lt C)];cases r.aC[k].open_ with
  |true=>rw[ak,I];rfl
  |false=>rw[aq,aq,List.append_nil]
 ·rw[fo];unfold ET aA xG xI;dsimp only;have D:decide ((r.aC.length:Int)<(r.aC.length:Int))=false:=aW;rw[D,aq,iA]
def axU{r:cM}{c:aH}(C:1<=c.kind/\c.kind<=9)(hb:c.kind<=5->0<=c.ax/\c.ax.toNat<r.aC.length)(hl:r.aC.length<1073741823):Pb r c=some (n5 r c):=by
 unfold Pb n5 xI;rcases kinds C with h|h|h|h|h|h|h|h|h
 case inr.inr.inr.inr.inr.inr.inr.inl=>simp[h,ai3 r hl,ai2];cases r.bh==0<;>rfl
 all_goals (try (have hb:=hb (by omega)))<;>simp[h,hb,ai1]<;>(cases r.bh==0<;>rfl)
def Y8(g:aO)(r:cM)(c:aH):KZ g r c=some (nq g r&&(dP g c&&n5 r c)):=by
 unfold KZ xI;rw[aiK,au];cases C:nq g r with
 |false=>rfl
 | true=>
  rw[Y7,au];cases D:dP g c with
  |false=>rfl
  | true=>
   obtain⟨I,E,hb,_⟩:=C3 D;have hlen:(r.aC.length:Int)=aT g:=by
    simp only[nq,aM,fz]at C;exact C.2.1
   have J:=eY g;have hb:c.kind<=5->0<=c.ax/\c.ax.toNat<r.aC.length:=λh=>by have:=hb h;omega
   have hl:r.aC.length<1073741823:=by omega
   simp only[bB,aq,cr];unfold n5;rcases kinds E with h|h|h|h|h|h|h|h|h
   case inr.inr.inr.inr.inr.inr.inr.inl=>simp[h,Ru r hl,ai2];cases r.bh==0<;>rfl
   all_goals (try (have hb:=hb (by omega)))<;>simp[h,hb,ai1]<;>(cases r.bh==0<;>rfl)
def nt(g:aO)(r:cM)(c:aH):Bool:=nq g r&&(dP g c&&n5 r c)
def Y9(g:aO)(r:cM)(c:aH):cM×Bool:=bif nt g r c then (fU r c,true)else (r,false)
def C4{g:aO}{r:cM}{c:aH}(h:nt g r c=true):cD g=true/\(r.aC.length:Int)=aT g/\(1<=c.kind/\c.kind<=9)/\(c.kind<=5->0<=c.ax/\c.ax.toNat<r.aC.length):=by
 simp only[nt,aM]at h;obtain⟨D,E,hb,_⟩:=C3 h.2.1;have C:=h.1;simp only[nq,aM,fz]at C;exact⟨D,C.2.1,E,λh=>by have:=hb h;omega⟩
def axV(r:cM)(h:r.aC.length<1073741824):Fx r=some r:=by
 unfold Fx xA xZ;rw[show ([]:aa fC).length+r.aC.length=r.aC.length by simp,cP h];rfl
def axW(g:aO)(r:cM)(c:aH)(h:r.aC.length<1073741824):K3 g r c=some (Y9 g r c):=by
 unfold K3 Y9 xL;rw[axV r h,au,Y8,au];change (bif !(nt g r c)then _ else _)=_;cases C:nt g r c with
 |false=>rfl
 | true=>
  obtain⟨E,hlen,D,hb⟩:=C4 C;simp only[bB,aq,ak];unfold fU;rcases kinds D with h|h|h|h|h|h|h|h|h<;>(try (have hb:=hb (by omega)))<;>simp[h,hb]
def RT(g:aO):cM:=⟨List.replicate (aT g).toNat ⟨false,0⟩,0⟩
def axX(g:aO):OX g=some (RT g):=by
 have C:=eY g;unfold OX RT;rw[oO,au,br ⟨by omega,by omega,by omega⟩]
def ai4(r:cM)(c:aH):(fU r c).aC.length=r.aC.length:=by
 unfold fU;cases c.kind==1<;>cases c.kind==4<;>cases c.kind==6<;>cases c.kind==8<;>cases (c.kind==7 ||c.kind==9)<;>simp
def xY(t:dc)(a b:Int):Int:=
 bif a==1 then (bif b==2 ||b==3 then t.jX else bif b==4 then t.gI else bif b==1 ||b==5 then W6 (t.gI+t.rp)else 0)else
 bif a==2 then (bif b==4 then t.jK else bif b==1 ||b==5 then W6 (t.jK+t.rp)else 0)else
 bif a==3 then (bif b==4 then t.wr else bif b==1 ||b==5 then W6 (t.wr+t.rp)else 0)else
 bif a==4 then (bif b==1 ||b==5 then t.rp else 0)else
 bif a==5 then (bif b==1 ||b==5 then t.pq else 0)else 0
def ya(t:dc)(a b:Int)(C:Bool):Int:=
 bif a==7 then t.xp else bif a==9 then t.xs else
 bif (a==6&&b==7) ||(a==8&&b==9)then t.qi else
 bif a==1&&b==1 then (bif C then t.jY else t.nE)else
 bif (a==2&&b==2) ||(a==3&&b==3)then (bif C then t.nH else t.nG)else
 bif a==3&&b==2 then (bif C then t.pn else t.pg)else
 bif a==2&&b==3 then t.sx else
 bif a==5&&b==5 then t.jY else
 bif a==2&&b==6 then t.jK else bif a==3&&b==6 then t.wr else
 bif b==8 then xY t a 1 else 0
def axY(t:dc){a b:Int}(C:1<=a/\a<=9)(hb:1<=b/\b<=9):QK t a b=some (xY t a b):=by
 rcases kinds C with rfl|rfl|rfl|rfl|rfl|rfl|rfl|rfl|rfl<;>rcases kinds hb with rfl|rfl|rfl|rfl|rfl|rfl|rfl|rfl|rfl<;>kernel_rfl
def Za(t:dc){a b:Int}(C:Bool)(D:1<=a/\a<=9)(hb:1<=b/\b<=9):QL t a b C=some (ya t a b C):=by
 cases C<;>rcases kinds D with rfl|rfl|rfl|rfl|rfl|rfl|rfl|rfl|rfl<;>rcases kinds hb with rfl|rfl|rfl|rfl|rfl|rfl|rfl|rfl|rfl<;>kernel_rfl
def ai5{t:dc}(C:jr t=true){a b:Int}(D:1<=a/\a<=9)(hb:1<=b/\b<=9):Jh t a b=some (xY t a b):=by
 unfold Jh;rw[RE,au,C,bB,aq];rcases kinds D with rfl|rfl|rfl|rfl|rfl|rfl|rfl|rfl|rfl<;>rcases kinds hb with rfl|rfl|rfl|rfl|rfl|rfl|rfl|rfl|rfl<;>kernel_rfl
def Zb{t:dc}(E:jr t=true){a b:Int}(D:Bool)(C:1<=a/\a<=9)(hb:1<=b/\b<=9):Ji t a b D=some (ya t a b D):=by
 unfold Ji;dsimp only;rw[RE,au,E,bB,aq,eJ,au,bx.2 C,bB,aq,eJ,au,bx.2 hb,bB];by_cases I:b=8/\a≠7/\a≠9
 ·obtain⟨rfl,J,L⟩:=I;have e:=ai5 E C (b:=1) (by omega);rcases kinds C with rfl|rfl|rfl|rfl|rfl|rfl|rfl|rfl|rfl<;>first|exact absurd rfl J|exact absurd rfl L|simp[e,ya]
 ·cases D<;>rcases kinds C with rfl|rfl|rfl|rfl|rfl|rfl|rfl|rfl|rfl<;>rcases kinds hb with rfl|rfl|rfl|rfl|rfl|rfl|rfl|rfl|rfl<;>first|exact absurd ⟨rfl,by omega,by omega⟩ I|kernel_rfl
def L1(a b:aH):Bool:=aK a.kind 1 5&&aK b.kind 1 5
def L2(g:aO)(a b:aH):Bool:=L1 a b&&(W6 (a.ax.tdiv g.aC)==W6 (b.ax.tdiv g.aC))
def vT(g:aO)(t:dc)(a b:aH):Int:=
 bif L1 a b&&a.ax==b.ax then max (max 1 (ya t a.kind b.kind (L2 g a b))) (xY t a.kind b.kind)else max 1 (ya t a.kind b.kind (L2 g a b))
def AJ(x y:Int):(if x > y then x else y)=max x y:=by
 rw[Int.max_def];split<;>split<;>omega
def ai6{g:aO}{b:Int}(h:0<=b/\b<aT g)(C:cD g=true):K0 g b=some (W6 (b.tdiv g.aC)):=by
 have D:=eY g;have E:=fA C;unfold K0;rw[oN,au,dJ,au,aR,bx.2 ⟨h.1,by omega⟩,bB,aq,bE]
def L3{k:Int}(h:1<=k/\k<=9):aK k 1 5=decide (k<=5):=by
 unfold aK;rw[aP h.1,cr]
def axZ{g:aO}(t:dc){a b:aH}(E:cD g=true)(C:1<=a.kind/\a.kind<=9)(D:1<=b.kind/\b.kind<=9)(I:a.kind<=5->0<=a.ax/\a.ax<aT g)(J:b.kind<=5->0<=b.ax/\b.ax<aT g):K1 g t a b=some (vT g t a b):=by
 unfold K1 vT L2 L1;simp only[LW,au];cases L:aK a.kind 1 5 with
 | false=>
  simp only[aq,jJ];rw[Za t false C D,au,AJ,Int.max_comm]
 | true=>
  cases O:aK b.kind 1 5 with
  | false=>
   simp only[ak,aq,Bool.and_false,jJ];rw[Za t false C D,au,AJ,Int.max_comm]
  | true=>
   have Q:=bx.1 L;have T:=bx.1 O;simp only[ak,cr,Bool.and_self];rw[ai6 (I Q.2) E,au,ai6 (J T.2) E,au,Za t _ C D,au,axY t C D];cases a.ax==b.ax with
   |false=>simp only[aq,AJ,Int.max_comm]
   | true=>
    simp only[ak,au,AJ];rw[Int.max_comm (xY _ _ _),Int.max_comm (ya _ _ _ _)]
def ax0{g:aO}{t:dc}{a b:aH}(I:cD g=true)(E:jr t=true)(C:1<=a.kind/\a.kind<=9)(D:1<=b.kind/\b.kind<=9):Ad g t a b=some (vT g t a b):=by
 have J:=fA I;unfold Ad vT L2 L1;rw[L3 C,L3 D];cases decide (a.kind<=5)with
 | false=>
  simp only[aq,jJ];rw[Zb E false C D,au,AJ]
 | true=>
  cases decide (b.kind<=5)with
  | false=>
   simp only[ak,aq,Bool.and_false,jJ];rw[Zb E false C D,au,AJ]
  | true=>
   simp only[ak,cr,Bool.and_self];rw[bE,bE,Zb E _ C D,au,ai5 E C D];cases a.ax==b.ax with
   |false=>simp only[aq,AJ]
   | true=>
    simp only[ak,au,AJ];rw[Int.max_comm (xY _ _ _),<-Int.max_assoc]
def Zc{t:dc}(h:jr t=true):∀ x∈qV t,1<=x/\x<=64:=by
 simp only[jr,aM,cE]at h;exact λx C=>bx.1 (h.1 x C)
def ai7{t:dc}(h:jr t=true)(a b:Int):0<=xY t a b/\xY t a b<=128:=by
 have hb:=Zc h;simp only[qV,fQ,List.not_mem_nil,or_false,forall_eq_or_imp,forall_eq]at hb;obtain⟨C,D,E,I,J,L,O,Q,T,U,Y,Z,kf,lG,kN,jL,pF⟩:=hb;unfold xY;rw[aR (n:=t.gI+t.rp),aR (n:=t.jK+t.rp),aR (n:=t.wr+t.rp)];cases a==1<;>cases a==2<;>cases a==3<;>cases a==4<;>cases a==5<;>cases b==4<;>cases (b==2 ||b==3)<;>cases (b==1 ||b==5)<;>simp only[ak,aq]<;>omega
def ax1{c:Bool}{x y a b:Int}(C:a<=x/\x<=b)(D:a<=y/\y<=b):a<=(bif c then x else y)/\(bif c then x else y)<=b:=by
 cases c
 ·exact D
 ·exact C
def ax2{t:dc}(h:jr t=true)(a b:Int)(n:Bool):0<=ya t a b n/\ya t a b n<=128:=by
 have hb:=Zc h;simp only[qV,fQ,List.not_mem_nil,or_false,forall_eq_or_imp,forall_eq]at hb;obtain⟨D,E,I,J,L,O,Q,T,U,Y,Z,ke,kf,lG,kN,jL,pF⟩:=hb;have C:=ai7 h a 1;unfold ya
 repeat' (first|exact C|refine ax1 ?_ ?_|omega)
def jt(g:aO)(c:aH):Int:=9*(bif aK c.kind 1 5 then c.ax else aT g)+c.kind-1
def Zd{g:aO}{c:aH}(h:dP g c=true):0<=jt g c/\jt g c<9*(aT g+1):=by
 obtain⟨C,D,hb,_⟩:=C3 h;have E:=eY g;unfold jt;cases hu:aK c.kind 1 5 with
 |true=>have:=bx.1 hu;have:=hb this.2;simp only[ak];omega
 |false=>simp only[aq];omega
def ax3{g:aO}{c:aH}(h:dP g c=true):QS g c=some (jt g c):=by
 obtain⟨C,D,hb,_⟩:=C3 h;have E:=eY g;unfold QS jt;simp only[oN,au,LW];cases hu:aK c.kind 1 5 with
 | true=>
  have:=bx.1 hu;have:=hb this.2;simp only[ak];rw[aR (n:=9*c.ax),aR (n:=9*c.ax+c.kind),aR]
 | false=>
  simp only[aq];rw[aR (n:=9*aT g),aR (n:=9*aT g+c.kind),aR]
def ai8(r:dF)(C:r.last.length<1073741824)(D:r.bg.length<1073741824):Fy r=some r:=by
 unfold Fy xA xZ;rw[show ([]:aa Int).length+r.last.length=r.last.length by simp,cP C,show ([]:aa Int).length+r.bg.length=r.bg.length by simp,cP D];rfl
def ai9(r:dF)(C:r.last.length<1073741824)(D:r.bg.length<1073741824):uk r=some r:=ai8 r C D
def C5(r:dF)(x:Int):Bool:=match r.bg.getLast? with
 |some y=>decide (x<=y)
 |none=>false
def C6(l:aa Int)(x:Int):aa Int:=(l++[x]).drop (l.length+1-4)
def uB(g:aO)(r:dF)(e:fG):dF:=
 bif kW g r&&(dP g e.cmd&&(aK e.at_ 0 1000000 && !(e.cmd.kind==1&&C5 r e.at_)))then ⟨r.last.set (jt g e.cmd).toNat e.at_,bif e.cmd.kind==1 then C6 r.bg e.at_ else r.bg⟩else r
def RU{g:aO}{r:dF}(h:kW g r=true):cD g=true/\(r.last.length:Int)=9*(aT g+1)/\r.bg.length<=4:=by
 simp only[kW,aM,fz,gy,od]at h;exact⟨h.1,h.2.1,by omega⟩
def aja{l:aa Int}(h:0<l.length)(C:(W6 ((l.length:Int)-1)).toNat<l.length)(hl:l.length<1073741824):l.getLast?=some (l[(W6 ((l.length:Int)-1)).toNat]'C):=by
 have e:(W6 ((l.length:Int)-1)).toNat=l.length-1:=by rw[aR];omega
 simp only[e];rw[List.getLast?_eq_getElem?,bO (by omega)]
def ax4(g:aO)(r:dF)(e:fG)(L:r.last.length<1073741824)(O:r.bg.length<1073741824):QT g r e=some (uB g r e):=by
 unfold QT uB xA xI xL xZ;rw[ai8 r L O,au,Y3,au];cases Q:kW g r with
 |false=>rfl
 | true=>
  simp only[bB,aq,cr];rw[Y7,au];cases D:dP g e.cmd with
  |false=>rfl
  | true=>
   simp only[bB,aq,cr];rw[dJ,au];cases U:aK e.at_ 0 1000000 with
   |false=>rfl
   | true=>
    obtain⟨Y,hl,Z⟩:=RU Q;have E:=Zd D;have b1:=eY g;simp only[bB,aq,cr,ax3 D,au];cases hk:(e.cmd.kind==1)with
    | false=>
     simp only[aq,jJ,gU,ak];rw[az ⟨E.1,by omega⟩,az]
    | true=>
     have tl:∀ (A B:aj dF),(if ke:0<=jt g e.cmd/\(jt g e.cmd).toNat<r.last.length then if kf:(jt g e.cmd).toNat<r.last.length then (bif bD (r.bg.length+([e.at_]:aa Int).length)then if 0<=(if W6 (((r.bg++[e.at_]).length:Int)-4) > 0 then W6 (((r.bg++[e.at_]).length:Int)-4)else 0)/\(if W6 (((r.bg++[e.at_]).length:Int)-4) > 0 then W6 (((r.bg++[e.at_]).length:Int)-4)else 0)<=((r.bg++[e.at_]).length:Int)/\((r.bg++[e.at_]).length:Int)<=((r.bg++[e.at_]).length:Int)then bif bD (([]:aa Int).length+(((r.bg++[e.at_]).take (((r.bg++[e.at_]).length:Int).toNat)).drop ((if W6 (((r.bg++[e.at_]).length:Int)-4) > 0 then W6 (((r.bg++[e.at_]).length:Int)-4)else 0).toNat)).length)then some (⟨(r.last.set (jt g e.cmd).toNat e.at_),(([]:aa Int)++(((r.bg++[e.at_]).take (((r.bg++[e.at_]).length:Int).toNat)).drop ((if W6 (((r.bg++[e.at_]).length:Int)-4) > 0 then W6 (((r.bg++[e.at_]).length:Int)-4)else 0).toNat)))⟩:dF)else none else none else none)else A else B)=some ⟨r.last.set (jt g e.cmd).toNat e.at_,C6 r.bg e.at_⟩:=by
      intro A B;have I:(r.bg++[e.at_]).length=r.bg.length+1:=by simp
      have T:(if W6 (((r.bg.length+1:Nat):Int)-4) > 0 then W6 (((r.bg.length+1:Nat):Int)-4)else 0)=((r.bg.length+1-4:Nat):Int):=by
       rw[aR];split<;>omega
      rw[az ⟨E.1,by omega⟩,az,cP (by simp;omega),ak,I,T,br ⟨by omega,by omega,by omega⟩,cP (by simp;omega),ak];unfold C6;simp only[bu,jH];rw[<-I,iA]
     simp only[ak,cr];unfold C5;by_cases C:0<r.bg.length
     ·have J:(W6 ((r.bg.length:Int)-1))=((r.bg.length-1:Nat):Int):=by rw[aR];omega
      have hi:(W6 ((r.bg.length:Int)-1)).toNat<r.bg.length:=by rw[J];omega
      rw[aP (show (r.bg.length:Int) > 0 by omega),ak,az ⟨by rw[J];omega,hi⟩,aja C hi (by omega)];dsimp only;cases decide (e.at_<=r.bg[(W6 ((r.bg.length:Int)-1)).toNat])with
      |true=>rfl
      | false=>
       simp only[aq,gU,ak];exact tl _ _
     ·have C:r.bg=[]:=List.eq_nil_of_length_eq_zero (by omega);rw[aW (by rw[C];simp),aq];rw[show r.bg.getLast?=none by rw[C];rfl];simp only[gU,ak];exact tl _ _
def ax5(g:aO)(r:dF)(e:fG)(U:r.last.length<1073741824)(Y:r.bg.length<1073741824):Pm g r e=some (uB g r e):=by
 unfold Pm uB xA xI xL xZ;rw[ai9 r U Y,au,axI,au];cases Z:kW g r with
 |false=>rfl
 | true=>
  simp only[bB,aq,cr];rw[ai0,au];cases J:dP g e.cmd with
  |false=>rfl
  | true=>
   simp only[bB,aq,cr];rw[eJ,au];cases ha:aK e.at_ 0 1000000 with
   |false=>rfl
   | true=>
    obtain⟨hg,hl,h4⟩:=RU Z;obtain⟨_,C7,hb,_⟩:=C3 J;have hp:=Zd J;have b1:=eY g;have pl:jt g e.cmd=bif decide (e.cmd.kind<=5)then 9*e.cmd.ax+e.cmd.kind-1 else 9*aT g+e.cmd.kind-1:=by
     unfold jt;rw[L3 C7];cases decide (e.cmd.kind<=5)<;>rfl
    have L:decide (e.cmd.kind<=5)=true->W6 (W6 (W6 (9*e.cmd.ax)+e.cmd.kind)-1)=jt g e.cmd:=by
     intro C;have:=hb (of_decide_eq_true C);rw[aR (n:=9*e.cmd.ax),aR (n:=9*e.cmd.ax+e.cmd.kind),aR,pl,C];rfl
    have hW2:decide (e.cmd.kind<=5)=false->W6 (W6 (W6 (9*aT g)+e.cmd.kind)-1)=jt g e.cmd:=by
     intro C;rw[aR (n:=9*aT g),aR (n:=9*aT g+e.cmd.kind),aR,pl,C];rfl
    have E:∀l:aa Int,l.length<1073741824->uk ⟨r.last.set (jt g e.cmd).toNat e.at_,l⟩=some ⟨r.last.set (jt g e.cmd).toNat e.at_,l⟩:=λl Bi=>ai9 _ (by simp;omega) Bi
    have D:0<=jt g e.cmd/\(jt g e.cmd).toNat<r.last.length:=⟨hp.1,by omega⟩
    have o1:bD (([]:aa Int).length+r.bg.length)=true:=cP (by simp;omega);have o2:bD ((([]:aa Int)++r.bg).length+([e.at_]:aa Int).length)=true:=cP (by simp;omega);have O:((([]:aa Int)++r.bg)++([e.at_]:aa Int)).length=r.bg.length+1:=by simp
    have Q:(bif decide ((((r.bg.length+1:Nat):Int)) > 4)then if 0<=(1:Int)/\(1:Int)<=((r.bg.length+1:Nat):Int)/\((r.bg.length+1:Nat):Int)<=((r.bg.length+1:Nat):Int)then (uk (⟨r.last.set (jt g e.cmd).toNat e.at_,(((([]:aa Int)++r.bg)++([e.at_]:aa Int)).take (((r.bg.length+1:Nat):Int).toNat)).drop ((1:Int).toNat)⟩:dF)).bind λjR=>some jR else none else (uk (⟨r.last.set (jt g e.cmd).toNat e.at_,((([]:aa Int)++r.bg)++([e.at_]:aa Int))⟩:dF)).bind λlQ=>some lQ)=some ⟨r.last.set (jt g e.cmd).toNat e.at_,C6 r.bg e.at_⟩:=by
     have et:((([]:aa Int)++r.bg)++([e.at_]:aa Int)).take (((r.bg.length+1:Nat):Int).toNat)=r.bg++[e.at_]:=by
      rw[bu,<-O,iA,jH]
     rw[et];unfold C6;by_cases h5:4<=r.bg.length
     ·rw[aP,ak,br ⟨by omega,by omega,by omega⟩,E _ (by simp;omega),au,show r.bg.length+1-4=1 by omega];rfl
     ·rw[aW,aq,E _ (by simp;omega),au,show r.bg.length+1-4=0 by omega];rfl
    simp only[bB,aq,cr,oO,au];cases hk:(e.cmd.kind==1)with
    | false=>
     cases C:decide (e.cmd.kind<=5)with
     | true=>
      simp only[aq,jJ,gU,ak,L C];rw[az D,az D.2,E _ (by omega),au]
     | false=>
      simp only[aq,jJ,gU,ak,hW2 C];rw[az D,az D.2,E _ (by omega),au]
    | true=>
     have C:decide (e.cmd.kind<=5)=true:=by
      have:e.cmd.kind=1:=by simpa using hk
      exact aP
     simp only[ak,cr,C,L C,o1,o2,O];unfold C5;by_cases I:0<r.bg.length
     ·have T:(W6 ((r.bg.length:Int)-1))=((r.bg.length-1:Nat):Int):=by rw[aR];omega
      have hi:(W6 ((r.bg.length:Int)-1)).toNat<r.bg.length:=by rw[T];omega
      rw[aP (show (r.bg.length:Int) > 0 by omega),ak,az ⟨by rw[T];omega,hi⟩,aja I hi (by omega)];dsimp only;rw[show decide (r.bg[(W6 ((r.bg.length:Int)-1)).toNat] >= e.at_)=decide (e.at_<=r.bg[(W6 ((r.bg.length:Int)-1)).toNat])from rfl];cases decide (e.at_<=r.bg[(W6 ((r.bg.length:Int)-1)).toNat])with
      |true=>rfl
      | false=>
       simp only[aq,gU,ak];rw[az D,az D.2];exact Q
     ·have I:r.bg=[]:=List.eq_nil_of_length_eq_zero (by omega);rw[aW (by rw[I];simp),aq];rw[show r.bg.getLast?=none by rw[I];rfl];simp only[gU,ak];rw[az D,az D.2];exact Q
def Ze{t:dc}(C:jr t=true)(g:aO)(a b:aH):1<=vT g t a b/\vT g t a b<=128:=by
 have D:=ax2 C a.kind b.kind (L2 g a b);have E:=ai7 C a.kind b.kind;unfold vT;cases L1 a b&&a.ax==b.ax<;>simp only[ak,aq]<;>omega
def ajb{t:dc}(C:jr t=true):1<=t.lu/\t.lu<=64:=Zc C _ (by simp[qV])
def Zf{T:Type}{p:T->Bool}{l:aa T}{i:Nat}{x:T}(h:l.all p=true)(D:p x=true):(l.set i x).all p=true:=by
 rw[cE]at h ⊢;intro y C;rcases List.mem_or_eq_of_mem_set C with C|rfl
 ·exact h y C
 ·exact D
def vU{g:aO}{r:cM}(h:nq g r=true):cD g=true/\(r.aC.length:Int)=aT g/\(0<=r.bh/\r.bh<=2)/\r.aC.all (AF g)=true/\(r.bh=2->(r.aC.all λb=>!b.open_)=true):=by
 simp only[nq,aM,fz,bx,ei,bne_iff_ne]at h;exact⟨h.1,h.2.1,h.2.2.1,h.2.2.2.1,λe=>h.2.2.2.2.resolve_left (λC=>C e)⟩
def F4{g:aO}{r:cM}(C:cD g=true)(D:(r.aC.length:Int)=aT g)(E:0<=r.bh/\r.bh<=2)(I:r.aC.all (AF g)=true)(J:r.bh=2->(r.aC.all λb=>!b.open_)=true):nq g r=true:=by
 simp only[nq,aM,fz,bx,ei,bne_iff_ne];refine⟨C,D,E,I,?_⟩;by_cases e:r.bh=2
 ·exact .inr (J e)
 ·exact .inl e
def ajc{g:aO}{r:cM}{c:aH}(I:nq g r=true)(J:dP g c=true)(D:n5 r c=true):nq g (fU r c)=true:=by
 obtain⟨C,hlen,T,E,U⟩:=vU I;obtain⟨_,L,hb,_⟩:=C3 J;have Y:=fA C;have O:c.kind=1->0<=c.row/\c.row<=g.rows-1:=by
  intro h;simp only[dP,aM]at J;have:=J.2.2.2.1;rw[qX,h]at this
  simpa [bx]using this
 rcases kinds L with h|h|h|h|h|h|h|h|h
 ·have e:fU r c=⟨r.aC.set c.ax.toNat ⟨true,c.row⟩,r.bh⟩:=by simp[fU,h]
  have Q:r.bh=0:=by simp[n5,h]at D;exact D.1
  rw[e];exact F4 C (by simpa using hlen) (by omega) (Zf E (by simp only[AF,aM,bx];exact⟨O h,by simp⟩)) (λe=>by simp only at e;omega)
 ·have e:fU r c=r:=by simp[fU,h]
  rw[e];exact I
 ·have e:fU r c=r:=by simp[fU,h]
  rw[e];exact I
 ·have e:fU r c=⟨r.aC.set c.ax.toNat ⟨false,0⟩,r.bh⟩:=by simp[fU,h]
  have Q:r.bh=0:=by simp[n5,h]at D;exact D.1
  rw[e];exact F4 C (by simpa using hlen) (by omega) (Zf E (by simp only[AF,aM,bx];exact⟨by omega,by simp⟩)) (λe=>by simp only at e;omega)
 ·have e:fU r c=r:=by simp[fU,h]
  rw[e];exact I
 ·have e:fU r c=⟨r.aC,1⟩:=by simp[fU,h]
  rw[e];exact F4 C hlen (by simp) E (λe=>by simp at e)
 ·have e:fU r c=⟨r.aC,0⟩:=by simp[fU,h]
  rw[e];exact F4 C hlen (by simp) E (λe=>by simp at e)
 ·have e:fU r c=⟨r.aC,2⟩:=by simp[fU,h]
  rw[e];exact F4 C hlen (by simp) E (λ_=>by simp[n5,h]at D;simpa using D.2)
 ·have e:fU r c=⟨r.aC,0⟩:=by simp[fU,h]
  rw[e];exact F4 C hlen (by simp) E (λe=>by simp at e)
def uC(n k:Nat):aa Int:=List.replicate k (-1)++List.replicate (n-k) 0
def ax6{n k:Nat}(h:k<=n):(uC n k).length=n:=by
 unfold uC;simp;omega
def ax7{n k:Nat}(h:k<n):(uC n k).set k (-1)=uC n (k+1):=by
 obtain⟨m,rfl⟩:∃m,n=k+1+m:=⟨n-k-1,by omega⟩
 unfold uC;rw[show k+1+m-k=m+1 by omega,show k+1+m-(k+1)=m by omega,List.set_append_right _ _ (by simp),mO,Nat.sub_self,List.replicate_succ,List.set_cons_zero,List.replicate_succ',List.append_assoc];rfl
def ax8(n:Nat):uC n 0=List.replicate n 0:=by simp[uC]
def ax9(n:Nat):uC n n=List.replicate n (-1):=by simp[uC]
def ajd(n:Nat)(C:n<1073741824):I5 (n:Int)=some (List.replicate n (-1)):=by
 have e:=cL (step:=I4) n (λi=>(((n:Int),(),(i:Int),()),(uC n i,()))) (.inl (((),()),(uC n n,()))) aS (λk h=>by
  have hl:=ax6 (show k<=n by omega);unfold I4 aA xG xL;dsimp only;rw[aP,ak,az ⟨by omega,by omega⟩,az,bI,bu,ax7 h]) (by
  unfold I4 aA xG xL;dsimp only;rw[aW,aq]) (bM)
 unfold I5 bw;rw[br ⟨by omega,by omega,by omega⟩,bu];rw[ax8,ax9,bT]at e;exact(bF (λo=>Option.bind o _) e).trans rfl
def RX(g:aO):dF:=⟨List.replicate (9*(aT g+1)).toNat (-1),[]⟩
def aya{g:aO}(C:cD g=true):O1 g=some (RX g):=by
 have hb:=eY g;obtain⟨n,D⟩:∃n:Nat,9*(aT g+1)=(n:Int):=⟨(9*(aT g+1)).toNat,by omega⟩
 unfold O1 RX;rw[F1,au,C,bB,aq,oO,au,w9,D,ajd n (by omega),au,bu]
def ayb(g:aO)(r:dF)(e:fG):(uB g r e).last.length=r.last.length/\(r.bg.length<=4->(uB g r e).bg.length<=4):=by
 unfold uB;cases (kW g r&&(dP g e.cmd&&(aK e.at_ 0 1000000 && !(e.cmd.kind==1&&C5 r e.at_))))with
 |false=>exact⟨rfl,id⟩
 | true=>
  refine⟨by simp,λh=>?_⟩
  simp only[ak];cases e.cmd.kind==1 with
  |false=>exact h
  | true=>
   simp only[ak,C6,List.length_drop,o8,iz];omega
def RY(x:dS):Prop:=(x.weights.length<=1048576)
def place(l:aa aX)(id:Int):Int:=match l.findIdx? (λr=>r.id==id)with
 |some i=>(i:Int)
 |none=>-1
def ayc(l:aa (Int×Bool))(k j:Int):mA (mZ l k true) j=(j==k || mA l j):=by
 induction l with
 | nil=>
  simp only[mZ,mA];cases (j==k)<;>rfl
 | cons p ps D=>
  simp only[mZ];cases C:(k==p.1)with
  | true=>
   have e:k=p.1:=by simpa using C
   rw[ak];simp only[mA];rw[<-e];cases (j==k)<;>rfl
  | false=>
   rw[aq];simp only[mA];rw[D];cases E:(j==p.1)with
   | true=>
    have e:j=p.1:=by simpa using E
    have I:(j==k)=false:=by
     rw[e];cases hb:(p.1==k)with
     |false=>rfl
     | true=>
      have J:p.1=k:=by simpa using hb
      rw[J,kM]at C;cases C
    rw[I];rfl
   |false=>rfl
def ir(g:aO)(a:aL):Nat:=(qT g a).toNat
def L4{g:aO}{a:aL}(h:dL g a=true):qT g a=(ir g a:Int)/\(ir g a:Int)<dK g:=by
 have:=YF h;unfold ir;omega
def ep.lt{g:aO}{B:Int}{a:dx}(C:ep g B a){at_:aL}(h:dL g at_=true):ir g at_<a.cells.length:=by
 have:=L4 h;have:=C.cells;omega
def ep.AK{g:aO}{B:Int}{a:dx}(C:ep g B a)(k:Nat){c:bZ}(D:Sy c.symbols):ep g B ⟨a.cells.set k c,a.bC,a.bz⟩:=
 ⟨by simp[C.cells],Sy.bV C.syms D,C.bC,C.bz,C.AB,C.iH⟩
def lS(R row:Int):aa Int:=(bif decide (0<row)then [row-1]else [])++(bif decide (row<R-1)then [row+1]else [])
def Zg{R row:Int}(J:2<=R)(L:R<=16)(O:0<=row)(Q:row<R):FE R row=some (lS R row):=by
 unfold FE lS xA xZ;have C:aK R 2 16=true:=by rw[bx];omega
 have D:aK row 0 (R-1)=true:=by rw[bx];omega
 rw[dJ,au,C,aR (n:=R-1),dJ,aR (n:=row-1),aR (n:=row+1)];by_cases E:0<row<;>by_cases I:row<R-1<;>simp[D,E,I,bD]
def aje{R row:Int}(I:0<=row)(J:row<R):∀ n∈lS R row,0<=n/\n<R:=by
 intro n C;unfold lS at C;by_cases D:0<row<;>by_cases E:row<R-1<;>simp[D,E]at C<;>omega
def ayd(R row:Int):(lS R row).length<=2:=by
 unfold lS;by_cases C:0<row<;>by_cases D:row<R-1<;>simp[C,D]
def aye{R row k:Int}{i:Nat}(hi:k+row=(i:Int))(J:0<=k)(L:0<=row)(H:aa Int):(lS R row).foldl (λh n=>p9 (k+n).toNat h) (H.set i 0)=vQ R row i H:=by
 unfold lS vQ AD;have C:(k+(row-1)).toNat=i-1:=by omega
 have D:(k+(row+1)).toNat=i+1:=by omega
 by_cases E:0<row<;>by_cases I:row<R-1<;>simp[E,I,C,D]
def ajf(k:Int):∀ (l:aa Int) (H:aa Int),(l.foldl (λh n=>p9 (k+n).toNat h) H).length=H.length
 |[],H=>rfl
 |x::l,H=>by rw[List.foldl_cons,ajf k l,LP]
def ajg(k:Int):∀ (l:aa Int) (H:aa Int),(∀ x∈H,0<=x/\x<=100000)->∀ x∈l.foldl (λh n=>p9 (k+n).toNat h) H,0<=x/\x<=100000
 |[],H,h=>h
 |x::l,H,h=>by rw[List.foldl_cons];exact ajg k l _ (RC h)
def ayf{g:aO}(D:cD g=true){B:Int}{a:dx}(C:ep g B a)(hB:B<=100000){n:Int}(J:0<=n)(L:n<=100000):Ls g a n=some ⟨a.cells,a.bC.map (nj n),a.bz⟩:=by
 have O:=p6 g;have Q:=C.bC;have E:aK n 0 100000=true:=by rw[bx];omega
 unfold Ls bw;rw[C.copy,au,C.ok D hB,au,dJ,au,E];have e:=cL (step:=Lr) a.bC.length (λi=>((n,(),(),(a.bC.length:Int),(i:Int),()),(((),(),(),()),((),(),(),()),([]:aa bZ),([]:aa Int),([]:aa Int),a.cells,upto (nj n) a.bC i,a.bz,()))) (.inl (((),(),()),(((),(),(),()),((),(),(),()),([]:aa bZ),([]:aa Int),([]:aa Int),a.cells,a.bC.map (nj n),a.bz,()))) aS (λk h=>by
  unfold Lr aA xG xL;have T:=C.AB _ (cO h);have I:=F0 (nj n) a.bC k h;have D:=FZ (nj n) a.bC k h (by rw[AA];exact h);simp (disch:=omega) [AA,h,D,aR];rw[<-I];rfl) (by unfold Lr aA xG xL;simp[FY]) (bM)
 rw[bT,FX]at e;simp only[bB,aq];rw[e];rfl
def ayg(y:Int):0<=bits .and .i64 y 15/\bits .and .i64 y 15<=15:=by
 have e:bits .and .i64 y 15=IntKind.wrap .i64 ((BitVec.ofInt 64 y &&& BitVec.ofInt 64 15).toNat:Int):=rfl;have h:(BitVec.ofInt 64 y &&& BitVec.ofInt 64 15).toNat<=15:=by
  rw[BitVec.toNat_and];exact Nat.le_trans Nat.and_le_right (by decide)
 rw[e,IntKind.wrap_i64];omega
def ajh{n:Int}(C:0<=n)(D:n<18446744073709551616):IntKind.u64.wrap n=n:=by
 have:IntKind.u64.wrap n=n % 18446744073709551616:=rfl;rw[this];omega
def lg(a:Nat):Nat:=(14688061253356765440 / 2 ^ (4*a)) % 16
def okB(C s1 s2 i:Nat):Bool:=!Nat.beq C 0&&(Nat.beq (gm C (pw i)) s1&&Nat.beq (gm s1 (pw i)) s2)
def loc(C s1 s2:Nat):aj Nat:=(List.range 11).find? (okB C s1 s2)
def F5:aj Nat->Nat
 |some n=>n
 |none=>99
def ayh:(jq λa=>Nat.beq a 0 ||Q2 (Int.ofNat a)==some (Int.ofNat (lg a)))=true:=by kernel_rfl
def aji:(jq λC=>jq λs1=>jq λs2=>bif Nat.beq C 0 || Nat.beq s1 0 then Nat.beq (F5 (loc C s1 s2)) 99 else
  (λx=>!Nat.beq x 0&&Nat.beq (F5 (loc C s1 s2)) (bif Nat.blt (lg x) 11&&Nat.beq (gm s1 x) s2 then lg x else 99)) (gm s1 (iv C)))=true:=by kernel_rfl
def ayi:((List.range 11).all λn=>EX 2 (Int.ofNat n)==some (Int.ofNat (pw n)))=true:=by kernel_rfl
def L5{n:Nat}(h:n<11):EX 2 (n:Int)=some (pw n:Int):=eq_of_beq (cE.1 ayi n (eV.2 h))
def ayj:((List.range 11).all λi=>(List.range 3).all λj=>Nat.beq (gm (pw (i*j)) (pw i)) (pw (i*(j+1))))=true:=by kernel_rfl
def ayk{i j:Nat}(hi:i<11)(C:j<3):gm (pw (i*j)) (pw i)=pw (i*(j+1)):=ck (cE.1 (cE.1 ayj i (eV.2 hi)) j (eV.2 C))
def uD(w:aa Nat)(i:Nat):aa Int:=[(bQ w 0 i:Int),(bQ w 1 i:Int),(bQ w 2 i:Int)]
def Zh(w:aa Nat)(i:Nat):Nat->aa Int
 |0=>[(bQ w 0 i:Int),(bQ w 1 i:Int),(bQ w 2 i:Int)]
 |1=>[(bQ w 0 (i+1):Int),(bQ w 1 i:Int),(bQ w 2 i:Int)]
 |2=>[(bQ w 0 (i+1):Int),(bQ w 1 (i+1):Int),(bQ w 2 i:Int)]
 |_=>[(bQ w 0 (i+1):Int),(bQ w 1 (i+1):Int),(bQ w 2 (i+1):Int)]
def ayl{w:aa Nat}(L:dM w)(hl:w.length=11){i:Nat}(hi:i<11):iter E2 aS ((bf w,(),(i:Int),(1:Int),(pw i:Int),(0:Int),()),(uD w i,()))=some (.inl ((bf w,(),(i:Int),()),(uD w (i+1),()))):=by
 have J:i<(bf w).length:=by rw[fS];omega
 have O:(bf w)[i]=((w.getD i 0:Nat):Int):=uy J;have Q:=L.get i;have D:∀ j,bits .xor .i64 ((bQ w j i:Nat):Int) ((gm (w.getD i 0) (pw (i*j)):Nat):Int)=((bQ w j (i+1):Nat):Int):=λj=>by
  rw[r7 (r8 w j i) (gv _ _)];rfl
 have E:=λj=>LJ Q (uw (i*j))
 have C:∀ j,j<3->ur ((pw (i*j):Nat):Int) ((pw i:Nat):Int)=some ((pw (i*(j+1)):Nat):Int):=λj I=>by
  rw[LJ (uw (i*j)) (uw i),ayk hi I]
 generalize bf w=W at *
 generalize w.getD i 0=c at *
 have e:=cL (step:=E2) 3 (λj=>((W,(),(i:Int),(pw (i*j):Int),(pw i:Int),(j:Int),()),(Zh w i j,()))) (.inl ((W,(),(i:Int),()),(uD w (i+1),()))) aS (λj I=>by
  have E:=E j;have C:=C j I;have D:=D j;generalize pw (i*(j+1))=a at C ⊢;generalize pw (i*j)=d at E C D ⊢;unfold E2 aA xG xI xL;rcases(by omega:j=0\/j=1\/j=2)with rfl|rfl|rfl<;>simp[Zh,J,O,E,C,D]<;>rfl) (by unfold E2 aA xG xI xL;simp[Zh,uD]) (bM)
 have T:pw (i*0)=1:=by rw[Nat.mul_zero];rfl
 rw[bT,T]at e;exact e
def aym{w:aa Nat}(C:dM w)(hl:w.length=11):PC (bf w)=some (uD w 11):=by
 have D:=(LN C hl).ok;unfold PC bw;rw[Ry _ _ (by rw[fS];omega),D,au];have e:=cL (step:=JH) 11 (λi=>((bf w,(),(i:Int),()),(uD w i,()))) (.inl (((),()),(uD w 11,()))) aS (λi hi=>by
  have E:i<w.length:=by omega
  unfold JH aA xG bw;simp (disch:=omega) [fS,E,L5 hi,ayl C hl hi,bI]) (by unfold JH aA xG bw;simp[fS,hl]) (bM)
 rw[bT]at e;have I:(List.replicate (3:Int).toNat (0:Int))=uD w 0:=rfl;simp only[bB,aq];rw[I,e];rfl
def n6(w:aa Nat):Bool:=Nat.beq (bQ w 0 11) 0&&(Nat.beq (bQ w 1 11) 0&&Nat.beq (bQ w 2 11) 0)
def fV(w:aa Nat):aa Nat×Int×Int:=bif n6 w then (w,0,-1)else match loc (bQ w 0 11) (bQ w 1 11) (bQ w 2 11)with
 |some k=>(w.set k (w.getD k 0 ^^^ bQ w 0 11),1,(k:Int))
 |none=>(w,2,-1)
def C8(n m:Nat):((n:Int)==(m:Int))=Nat.beq n m:=by
 cases h:Nat.beq n m with
 |true=>obtain rfl:=ck h;simp
 | false=>
  have:n≠m:=by rintro rfl;simp at h
  simp;omega
def ayn{C s1 s2:Nat}(h:loc C s1 s2=none):∀ i,i<11->okB C s1 s2 i=false:=by
 intro i hi;have:=List.find?_eq_none.1 h i (eV.2 hi)
 simpa using this
def RZ{D s1 s2 k:Nat}(h:loc D s1 s2=some k):k<11/\okB D s1 s2 k=true/\∀ i,i<k->okB D s1 s2 i=false:=by
 refine⟨eV.1 (List.mem_of_find?_eq_some h),List.find?_some h,λi hi=>?_⟩
 obtain⟨Q,l1,l2,E,J⟩:=List.find?_eq_some_iff_append.1 h;have L:l1.length=k/\l1=List.range k:=by
  have C:(List.range 11)[l1.length]?=some k:=by rw[E];simp
  have O:l1.length<11:=by have:=bF List.length E;simp at this;omega
  rw[List.getElem?_range O]at C;injection C with C;refine⟨C,?_⟩;have I:(List.range 11).take l1.length=l1:=by rw[E];simp
  rw[List.take_range,Nat.min_eq_left (by omega),C]at I;exact I.symm
 have:=J i (by rw[L.2];exact eV.2 hi)
 simpa using this
def ayo{w:aa Nat}(O:dM w)(hl:w.length=11):PD (bf w)=some (bf (fV w).1,(fV w).2.1,(fV w).2.2):=by
 have hs:=(LN O hl).ok;have ho:bD w.length=true:=cP;have U:∀n:Nat,((n:Int)==(0:Int))=Nat.beq n 0:=λn=>C8 n 0
 have Y:=r8 w 0 11;have vB:=r8 w 1 11;unfold PD E3 xA cc xZ xI;rw[Ry _ _ (by rw[fS];omega),hs,au,aym O hl];have Z:E3 (uD w 11)=some (n6 w):=by
  unfold E3 n6 xI;cases h1:Nat.beq (bQ w 0 11) 0<;>cases h2:Nat.beq (bQ w 1 11) 0<;>simp[uD,U,h1,h2]
 have E:∀i (h:i<(bf w).length),(bf w)[i]=((w.getD i 0:Nat):Int):=λi h=>uy h
 have D:∀ k,(bf w).set k (bits .xor .i64 ((w.getD k 0:Nat):Int) ((bQ w 0 11:Nat):Int))=bf (w.set k (w.getD k 0 ^^^ bQ w 0 11)):=λk=>by
  rw[r7 (O.get k) Y,Rx]
 have hlen:(bf w).length=11:=by rw[fS,hl]
 unfold E3 xI at Z;unfold fV n6 at *
 simp only[bB,aq,au];rw[Z,au,cP (by simp[hlen])];cases hz:(Nat.beq (bQ w 0 11) 0&&(Nat.beq (bQ w 1 11) 0&&Nat.beq (bQ w 2 11) 0))with
 |true=>simp
 | false=>
  simp only[aq,ak,jH];unfold uD;generalize hW:bf w=W at E D hlen ⊢;generalize hg0:bQ w 0 11=C at *
  generalize WT:bQ w 1 11=s1 at *
  generalize DS:bQ w 2 11=s2 at *
  have step:∀ i:Nat,i<11->Cp (((),(),(i:Int),()),(W,[(C:Int),(s1:Int),(s2:Int)],()))=some (bif okB C s1 s2 i then .inr (.inl (((),1,(i:Int),()),(bf (w.set i (w.getD i 0 ^^^ C)),())))else .inl (((),(),((i+1:Nat):Int),()),(W,[(C:Int),(s1:Int),(s2:Int)],()))):=by
   intro i hi;have dZ:i<W.length:=by omega
   have I:(i:Int)<11:=by omega
   have Q:=LJ Y (uw i);have m2:=LJ vB (uw i);have E:=E i dZ;have D:=D i;generalize w.getD i 0=c at E D ⊢;generalize bf (w.set i (c ^^^ C))=R at D ⊢;unfold Cp okB aA bq xG xL;have J:((C:Int) != (0:Int)) = !Nat.beq C 0:=by rw[bne,U]
   cases L:Nat.beq C 0 with
   |true=>simp (disch:=omega) [I,L5 hi,J,L,bI]
   | false=>
    cases T:Nat.beq (gm C (pw i)) s1 with
    |false=>simp (disch:=omega) [I,L5 hi,J,L,Q,C8,T,bI]
    | true=>
     cases q2:Nat.beq (gm s1 (pw i)) s2 with
     |false=>simp (disch:=omega) [I,L5 hi,J,L,Q,m2,C8,T,q2,bI]
     |true=>simp (disch:=omega) [I,L5 hi,J,L,Q,m2,C8,T,q2,dZ,E,D]
  cases D4:loc C s1 s2 with
  | none=>
   have hn:=ayn D4;have e:=cL (step:=Cp) 11 (λi=>(((),(),(i:Int),()),(W,[(C:Int),(s1:Int),(s2:Int)],()))) (.inr (.inl (((),()),(W,())))) aS (λi hi=>by rw[step i hi,hn i hi];rfl) (by unfold Cp aA bq xG xL;simp) (bM);rw[bT]at e;rw[e];simp only[Option.bind_some,Sum.elim_inr,dY];rw[hW]
  | some k=>
   obtain⟨hk,jc,hlo⟩:=RZ D4;have e:=cL (step:=Cp) k (λi=>(((),(),(i:Int),()),(W,[(C:Int),(s1:Int),(s2:Int)],()))) (.inl (((),1,(k:Int),()),(bf (w.set k (w.getD k 0 ^^^ C)),()))) aS (λi hi=>by rw[step i (by omega),hlo i hi];rfl) (by rw[step k hk,jc];rfl) (bM);rw[bT]at e;rw[e];rfl
def ajj{C s1 s2:Nat}(D:C<16)(E:s1<16)(I:s2<16)(h:C=0\/s1=0):loc C s1 s2=none:=by
 have t:=gE (gE (gE aji D) E) I;have J:(Nat.beq C 0 ||Nat.beq s1 0)=true:=by rcases h with rfl|rfl<;>simp
 dsimp only at t;rw[J,ak]at t;have t:=ck t;cases hl:loc C s1 s2 with
 |none=>rfl
 | some k=>
  rw[hl]at t;have:=(RZ hl).1;simp only[F5]at t;omega
def ayp{C s1 s2:Nat}(E:C<16)(I:s1<16)(J:s2<16)(L:C≠0)(O:s1≠0):gm s1 (iv C)≠0/\loc C s1 s2=bif Nat.blt (lg (gm s1 (iv C))) 11&&Nat.beq (gm s1 (gm s1 (iv C))) s2 then some (lg (gm s1 (iv C)))else none:=by
 have t:=gE (gE (gE aji E) I) J;have c0:Nat.beq C 0=false:=by cases h:Nat.beq C 0 with|false=>rfl|true=>exact absurd (ck h) L
 have Q:Nat.beq s1 0=false:=by cases h:Nat.beq s1 0 with|false=>rfl|true=>exact absurd (ck h) O
 dsimp only at t;rw[c0,Q,Bool.or_false,aq,aM]at t;obtain⟨D,t2⟩:=t;have t2:=ck t2;refine⟨(by rintro e;rw[e]at D;cases D),?_⟩;cases hb:(Nat.blt (lg (gm s1 (iv C))) 11&&Nat.beq (gm s1 (gm s1 (iv C))) s2)with
 | true=>
  rw[hb,ak]at t2;rw[aM]at hb;have T:lg (gm s1 (iv C))<11:=cI hb.1;cases hl:loc C s1 s2 with
  |none=>rw[hl]at t2;simp only[F5]at t2;omega
  |some k=>rw[hl]at t2;simp only[F5]at t2;rw[t2];rfl
 | false=>
  rw[hb,aq]at t2;cases hl:loc C s1 s2 with
  |none=>rfl
  | some k=>
   have:=(RZ hl).1;rw[hl]at t2;simp only[F5]at t2;omega
def ayq{a:Nat}(h:a<16)(C:a≠0):CN (a:Int)=some (iv a:Int):=by
 have t:=gE aw3 h;rw[ei]at t;rcases t with t|t
 ·exact absurd (ck t) C
 ·exact eq_of_beq t
def ayr{a:Nat}(h:a<16)(C:a≠0):Q2 (a:Int)=some (lg a:Int):=by
 have t:=gE ayh h;rw[ei]at t;rcases t with t|t
 ·exact absurd (ck t) C
 ·exact eq_of_beq t
def ajk{w:aa Nat}(Z:dM w)(hl:w.length=11):Ld (bf w)=some (bf (fV w).1,(fV w).2.1,(fV w).2.2):=by
 have ho:bD (([]:aa Int).length+(bf w).length)=true:=cP (by simp[fS,hl]);have h0:∀n:Nat,((n:Int)==(0:Int))=Nat.beq n 0:=λn=>C8 n 0
 have E:=r8 w 0 11;have I:=r8 w 1 11;have gz:=r8 w 2 11;have J:∀i (h:i<(bf w).length),(bf w)[i]=((w.getD i 0:Nat):Int):=λi h=>uy h
 have C:∀ k,(bf w).set k (bits .xor .i64 ((w.getD k 0:Nat):Int) ((bQ w 0 11:Nat):Int))=bf (w.set k (w.getD k 0 ^^^ bQ w 0 11)):=λk=>by
  rw[r7 (Z.get k) E,Rx]
 have hlen:(bf w).length=11:=by rw[fS,hl]
 unfold Ld xA xC xL xZ;rw[YJ Z hl,au,awZ Z hl,ho];have ays:jn [((bQ w 0 11:Nat):Int),((bQ w 1 11:Nat):Int),((bQ w 2 11:Nat):Int)]=false:=rfl;rw[ays,aq,ak,au];unfold fV n6;cases hz:(Nat.beq (bQ w 0 11) 0&&(Nat.beq (bQ w 1 11) 0&&Nat.beq (bQ w 2 11) 0))with
 |true=>simp
 | false=>
  simp only[aq,jH];generalize O:bf w=W at J C hlen ⊢;generalize hg0:bQ w 0 11=D at *
  generalize WT:bQ w 1 11=s1 at *
  generalize DS:bQ w 2 11=s2 at *
  have Q:∀n:Nat,((n:Int) != (0:Int)) = !Nat.beq n 0:=λn=>by rw[bne,h0]
  by_cases L:D=0
  ·rw[ajj E I gz (.inl L)];subst L;simp[O]
  ·have c0:Nat.beq D 0=false:=by cases h:Nat.beq D 0 with | false=>rfl | true=>exact absurd (ck h) L
   by_cases T:s1=0
   ·rw[ajj E I gz (.inr T)];subst T;simp[Q,c0,O]
   ·have c1:Nat.beq s1 0=false:=by cases h:Nat.beq s1 0 with | false=>rfl | true=>exact absurd (ck h) T
    obtain⟨nx,D4⟩:=ayp E I gz L T;have e1:=ayq E L;have e2:=CV I (aw2 D);rw[D4];generalize hx:gm s1 (iv D)=x at *
    have ajl:x<16:=by rw[<-hx];exact gv _ _
    have e3:=ayr ajl nx;have e4:=CV I ajl;generalize hn:lg x=n at *
    by_cases q1:n<11
    ·have U:Nat.blt n 11=true:=iP q1;have Y:(n:Int)<11:=by omega
     have dZ:n<W.length:=by omega
     have J:=J n dZ;have C:=C n;cases q2:Nat.beq (gm s1 x) s2 with
     | true=>
      simp only[U,cr,ak];generalize w.getD n 0=c at J C ⊢;generalize bf (w.set n (c ^^^ D))=R at C ⊢;simp[Q,c0,c1,e1,e2,e3,e4,Y,C8,q2,dZ,J,C]
     | false=>
      simp only[U,cr,aq];simp[Q,c0,c1,e1,e2,e3,e4,Y,C8,q2,O]
    ·have U:Nat.blt n 11=false:=by
      cases h:Nat.blt n 11 with
      |false=>rfl
      |true=>exact absurd (cI h) (by omega)
     have Y:¬ (n:Int)<11:=by omega
     simp only[U,jJ,aq];simp[Q,c0,c1,e1,e2,e3,Y,O]
def C9{w:aa Nat}(C:dM w)(hl:w.length=11):(fV w).1.length=11/\dM (fV w).1/\((fV w).2.1=0\/(fV w).2.1=1\/(fV w).2.1=2):=by
 have D:=r8 w 0 11;unfold fV;cases n6 w with
 |true=>exact⟨hl,C,.inl rfl⟩
 | false=>
  simp only[aq];cases loc (bQ w 0 11) (bQ w 1 11) (bQ w 2 11)with
  |none=>exact⟨hl,C,.inr (.inr rfl)⟩
  |some k=>exact⟨by simp[hl],C.set (mK (C.get k) D),.inr (.inl rfl)⟩
def ayt:(jq λa=>(List.range 11).all λk=>Nat.beq (gm (gm a (pw k)) (pw k)) (gm a (pw (k*2))))=true:=by kernel_rfl
def ayu{w:aa Nat}(O:dM w)(hl:w.length=11)(h:(fV w).2.1≠2):n6 (fV w).1=true:=by
 unfold fV at h ⊢;cases E:n6 w with
 |true=>rw[ak];exact E
 | false=>
  rw[E,aq]at h;simp only[aq];cases I:loc (bQ w 0 11) (bQ w 1 11) (bQ w 2 11)with
  |none=>rw[I]at h;exact absurd rfl h
  | some k=>
   obtain⟨J,C,_⟩:=RZ I;have D:=r8 w 0 11;simp only[okB,aM]at C;have L:=ck C.2.1;have Q:=ck C.2.2;have u:=λj=>air O hl D J j
   have T:gm (bQ w 0 11) (pw (k*0))=bQ w 0 11:=by rw[Nat.mul_zero];exact awX D
   have U:gm (bQ w 0 11) (pw (k*2))=bQ w 2 11:=by
    rw[<-ck (cE.1 (gE ayt D) k (eV.2 J)),L,Q]
   simp only[n6,aM];rw[u 0,u 1,u 2,T,Nat.mul_one,L,U,Nat.xor_self,Nat.xor_self,Nat.xor_self];exact⟨rfl,rfl,rfl⟩
def ayv{w:aa Nat}(C:dM w)(hl:w.length=11):Q4 (bf w)=some (bf (w.drop 3)):=by
 unfold Q4 xA xZ;have c0:((w.length:Int)==(11:Int))=true:=by rw[hl];rfl
 have D:(bf w).length=11:=by rw[fS,hl]
 rw[YI C (by omega),au,c0,show (!true)=false from rfl,aq,D,br (by decide)];have e:((bf w).take ((11:Nat):Int).toNat).drop (3:Int).toNat=bf (w.drop 3):=by
  show ((bf w).take 11).drop 3=_;rw[List.take_of_length_le (by omega)];exact(List.map_drop ..).symm
 have E:bD (([]:aa Int).length+(bf (w.drop 3)).length)=true:=by
  rw[fS,List.length_drop,hl];rfl
 rw[e,E,ak];rfl
def AL(x:gi):Prop:=RY x.bU/\RY x.next
def ajm(x:cM):Prop:=(x.aC.length<=1048576)
def ayw(x:dF):Prop:=(x.last.length<=1048576)/\(x.bg.length<=1048576)
def Zi(x:bZ):Prop:=(x.symbols.length<=1048576)
def R0(x:dx):Prop:=(x.cells.length<=1048576/\∀y∈x.cells,Zi y)/\(x.bC.length<=1048576)/\(x.bz.length<=1048576)
def ayx(x:dG):Prop:=(x.map.length<=1048576)
def AM(x:cZ):Prop:=(x.aJ.length<=1048576)
def kE(x:cx):Prop:=(x.rows.length<=1048576)/\(x.counts.length<=1048576)
def c8(x:av):Prop:=AL x.box/\ajm x.aY/\ayw x.ready/\R0 x.array/\ayx x.spare/\AM x.aQ/\(x.bK.length<=1048576/\∀y∈x.bK,kE y)/\(x.guard.length<=1048576)/\(x.pending.length<=1048576)/\(x.queue.length<=1048576)/\(x.shares.length<=1048576)/\(x.errors.length<=1048576)/\(x.trace.length<=1048576)/\(x.cy.length<=1048576)
def lT(c:eX)(p:dS):Bool:=(s7 c p).getD false
def L6(c:eX)(p:dS)(hl:p.weights.length<1073741823):s7 c p=some (lT c p):=by
 obtain⟨b,e,_⟩:=YY c p hl;unfold lT;rw[e];rfl
def ajn(c:eX)(p:dS)(hl:p.weights.length<1073741823):Cg c p=some (lT c p):=by
 obtain⟨b,e,C,_⟩:=axx c p hl;unfold lT;rw[e,C];rfl
def ba1(a x:Bool):(bif a then some x else some false)=some (a&&x):=by cases a<;>rfl
def ba2(a x:Bool):(bif !a then some false else some x)=some (a&&x):=by cases a<;>rfl
def ba3(a b:Int)(x:Bool):(bif a != b then some false else some x)=some (a==b&&x):=by
 rw[bne];cases a==b<;>rfl
theorem ba4(p:Prop)[Decidable p](x:Bool):(bif decide p then some false else some x)=some (!decide p&&x):=by cases decide p<;>rfl
def dA(c:av):Bool:=
 lT c.config c.box.bU&&(lT c.config c.box.next&&(aK c.now 0 1000000&&(nq c.config.ay c.aY&&(kW c.config.ay c.ready&&(nh c.config.ay c.array&&(kX c.config.ay c.spare&&(c.spare.bP==c.config.bP&&((eF c.aQ&&tj c)&&(iJ (dK (dW c.config.ay c.spare)) c.queue&&(gF c.shares&&((c.shares.length:Int)==4&&(jS c.drain&&(gR c.bh&&(c.bh.state==c.aY.bh&&(!decide (c.bh.since > c.now)&&(aK c.cU.every 1 100000&&(aK c.cU.wait 1 c.cU.every&&(aK c.cU.next 0 (W6 (dK c.config.ay-1))&&(kV c.errors&&(decide ((c.trace.length:Int)<=2000)&&decide ((c.cy.length:Int)<=400)))))))))))))))))))))
def F6(c:av)(C:c8 c):Au c=some (dA c):=by
 obtain⟨⟨D,E⟩,Q,⟨T,U⟩,⟨⟨Y,I⟩,Z,z8⟩,z9,J,⟨jE,aCe⟩,jg,jh,iK,jT,z16,z17,z18⟩:=C;unfold RY at D E;have L:∀ x∈c.array.cells,x.symbols.length<1073741824:=λx O=>by
  have:=I x O;unfold Zi at this;omega
 unfold AM at J;unfold Au dA;simp only[L6 _ _ (show c.box.bU.weights.length<1073741823 by omega),L6 _ _ (show c.box.next.weights.length<1073741823 by omega),dJ,aiK,Y3,aiz _ _ L,aiV,axP _ (show c.aQ.aJ.length<1073741824 by omega),Y5,LH,axB _ _ (show c.queue.length<1073741824 by omega),LR _ (show c.shares.length<1073741824 by omega),RJ,RN,aiP _ (show c.errors.length<1073741824 by omega),au,ba1,ba2,ba3,ba4]
def ajo{g:aO}{a:dx}(h:nh g a=true):cD g=true/\(a.bC.length:Int)=gu g/\(a.bz.length:Int)=gu g:=by
 simp only[nh,aM,gf]at h;exact⟨h.1,h.2.2.1,h.2.2.2.1⟩
def ajp(p:dS):Prop:=(0<=p.eP/\p.eP<=1)/\(0<=p.cap/\p.cap<=200)/\(0<=p.low/\p.low<=2)/\(p.low<p.high/\p.high<=6)/\(∃(i:Nat) (w:Int),i<4/\1<=w/\w<=4/\p.weights=[1,1,1,1].set i w)/\(5<=p.eA.down/\p.eA.down<=24)/\(60<=p.eA.sleep/\p.eA.sleep<=119)
def yb(p:dS):Prop:=ajp p/\8<=p.eK/\p.eK<=17
def ayy{b:aa Int}{c:bN}(L:kC b c):Dr b (Qg c) ajp:=by
 unfold Qg xL;rw[L.eq];show Dr b (Option.bind (some _) _) _;rw[au]
 refine(fB L 2).bind λx1 k1 O Q=>?_
 dsimp only;rw[Q.eta]
 refine(Rz Q _ (by decide)).bind λT k2 h2 U=>?_
 dsimp only;rw[U.eta]
 refine(fB U 6).bind λx3 k3 Y Z=>?_
 dsimp only;rw[Z.eta]
 refine(fB Z 3).bind λC k4 D vu=>?_
 dsimp only;rw[vu.eta]
 refine(fB vu 4).bind λE k5 h5 BZ=>?_
 dsimp only;rw[BZ.eta]
 refine(fB BZ 4).bind λx6 k6 h6 L7=>?_
 dsimp only;rw[L7.eta]
 refine(fB L7 4).bind λx7 k7 h7 L8=>?_
 have a1:=O.2.2 (by omega);have a3:=Y.2.2 (by omega);have a4:=D.2.2 (by omega);have a5:=h5.2.2 (by omega);have a6:=h6.2.2 (by omega);have a7:=h7.2.2 (by omega);have b3:=Y.1;have b4:=D.1;have b5:=h5.1;have b6:=h6.1;have b7:=h7.1;have hl:x6.toNat<([1,1,1,1]:aa Int).length:=by simp only[lY,List.length_nil];omega
 dsimp only;rw[az ⟨b6,hl⟩,az hl,L8.eta]
 refine(fB L8 20).bind λI k8 h8 hk8=>?_
 dsimp only;rw[hk8.eta]
 refine(fB hk8 60).bind λJ k9 h9 C7=>?_
 dsimp only;rw[C7.eta];have a8:=h8.2.2 (by omega);have a9:=h9.2.2 (by omega);have b8:=h8.1;have b9:=h9.1;rw[aR (n:=3+x3),aR (n:=C+1),aR (n:=C+1+E),aR (n:=1+x7),aR (n:=5+I),aR (n:=60+J)];simp only[fQ,List.not_mem_nil,or_false]at h2;refine Dr.pure C7 ⟨⟨O.1,by show x1<=_;omega⟩,⟨by show 0<=T;omega,by show T<=_;omega⟩,⟨D.1,by show C<=_;omega⟩,⟨by show C<C+1+E;omega,by show C+1+E<=_;omega⟩,⟨x6.toNat,1+x7,by omega,by omega,by omega,rfl⟩,⟨by show 5<=5+I;omega,by show 5+I<=_;omega⟩,⟨by show 60<=60+J;omega,by show 60+J<=_;omega⟩⟩
def ajq{b:aa Int}{c:bN}(C:kC b c):Dr b (Km c) yb:=by
 unfold Km;rw[C.eq]
 refine(ayy C).bind λO Q L D=>?_
 dsimp only;rw[D.eta]
 refine(fB D 10).bind λE T I J=>?_
 dsimp only;rw[J.eta];have U:=I.2.2 (by omega);have Y:=I.1;rw[aR];exact Dr.pure J ⟨L,by show 8<=8+E;omega,by show 8+E<=_;omega⟩
def ayz{b:aa Int}{c:bN}(C:kC b c):Dr b (OQ c) λg=>g.cq=1/\1<=g.aC/\g.aC<=2/\1<=g.aN/\g.aN<=2:=by
 unfold OQ;rw[C.eq]
 refine(fB C 2).bind λD U E I=>?_
 dsimp only;rw[I.eta]
 refine(fB I 3).bind λY Z J L=>?_
 dsimp only;rw[L.eta]
 refine(fB L 2).bind λO k3 Q T=>?_
 dsimp only;rw[T.eta];have a1:=E.2.2 (by omega);have a2:=J.2.2 (by omega);have a3:=Q.2.2 (by omega);have b1:=E.1;have b2:=J.1;have b3:=Q.1;rw[aR,aR,aR];exact Dr.pure T ⟨rfl,by show 1<=1+D;omega,by show 1+D<=_;omega,by show 1<=1+O;omega,by show 1+O<=_;omega⟩
def ayA{b:aa Int}{c:bN}(C:kC b c):Dr b (OR c) λm=>0<=m.order/\m.order<=2:=by
 unfold OR;rw[C.eq]
 refine(fB C 3).bind λJ L D E=>?_
 dsimp only;rw[E.eta]
 refine(RB E 2).bind λO Q T I=>?_
 dsimp only;rw[I.eta];have U:=D.2.2 (by omega);exact Dr.pure I ⟨D.1,by show J<=2;omega⟩
def Zj(jK wr:Int):dc:=⟨3,3,7,2,3,10,2,3,jK,wr,4,5,4,12,3,4,16⟩
def R1(g:aO):Prop:=(1<=g.cq/\g.cq<=2)/\(1<=g.aC/\g.aC<=2)/\(4<=g.rows/\g.rows<=6)/\(1<=g.aN/\g.aN<=2)
def vV(x:eX):Prop:=R1 x.ay/\(∃r w:Int,1<=r/\r<=4/\4<=w/\w<=8/\x.cm=Zj r w)/\(0<=x.mapping.order/\x.mapping.order<=2)/\(0<=x.bP/\x.bP<=2)/\(200<=x.interval/\x.interval<=259)/\x.hD=16/\x.dH=⟨6*x.interval,40⟩
def ayB{b:aa Int}{c:bN}(J:kC b c):Dr b (OS c) vV:=by
 unfold OS;rw[J.eq]
 refine(ayz J).bind λg kg hg L=>?_
 dsimp only;rw[L.eta];obtain⟨g1,g2,g3,g4,g5⟩:=hg;show Dr b (Option.bind (some _) _) _;rw[au]
 refine(ayA L).bind λm km O Q=>?_
 dsimp only;rw[Q.eta]
 refine(fB Q 60).bind λC k1 T U=>?_
 dsimp only;rw[U.eta]
 refine(fB U 3).bind λD k2 Y Z=>?_
 dsimp only;rw[Z.eta]
 refine(fB Z 2).bind λE k3 h3 zR=>?_
 dsimp only;rw[zR.eta]
 refine(fB zR 3).bind λx4 k4 h4 vu=>?_
 dsimp only;rw[vu.eta]
 refine(RB vu 3).bind λx5 k5 h5 I=>?_
 dsimp only;rw[I.eta];have a1:=T.2.2 (by omega);have a2:=Y.2.2 (by omega);have a3:=h3.2.2 (by omega);have a4:=h4.2.2 (by omega);have b1:=T.1;have b2:=Y.1;have b3:=h3.1;have b4:=h4.1;have e1:W6 (200+C)=200+C:=aR;have e2:W6 (6*(200+C))=6*(200+C):=aR;have e3:W6 (4+D)=4+D:=aR;have e4:W6 (1+E)=1+E:=aR;rw[e1,e2,e3,e4];have hG:R1 ⟨1+E,g.aC,4+D,g.aN⟩:=⟨⟨by show 1<=1+E;omega,by show 1+E<=2;omega⟩,⟨g2,g3⟩,⟨by show 4<=4+D;omega,by show 4+D<=6;omega⟩,⟨g4,g5⟩⟩
 cases x5 with
 | true=>
  rw[ak]
  refine(fB I 5).bind λx6 k6 h6 L7=>?_
  dsimp only;rw[L7.eta]
  refine(fB L7 4).bind λx7 k7 h7 L8=>?_
  dsimp only;rw[L8.eta];have a6:=h6.2.2 (by omega);have a7:=h7.2.2 (by omega);have b6:=h6.1;have b7:=h7.1;rw[aR (n:=1+x7),aR (n:=4+x6)];exact Dr.pure L8 ⟨hG,⟨1+x7,4+x6,by omega,by omega,by omega,by omega,rfl⟩,O,⟨b4,by show x4<=2;omega⟩,⟨by show 200<=200+C;omega,by show 200+C<=259;omega⟩,rfl,rfl⟩
 |false=>exact Dr.pure I ⟨hG,⟨3,6,by omega,by omega,by omega,by omega,rfl⟩,O,⟨b4,by show x4<=2;omega⟩,⟨by show 200<=200+C;omega,by show 200+C<=259;omega⟩,rfl,rfl⟩
def iW(p:aX->Bool)(q:aa aX):Nat:=(q.findIdx? p).getD q.length
def Zk(p:aX->Bool)(q:aa aX):iW p q<=q.length:=by
 unfold iW;cases h:q.findIdx? p with
 |none=>exact eB _
 | some k=>
  obtain⟨C,_⟩:=l5.1 h;exact Nat.le_of_lt C
def tq(p:aX->Bool)(q:aa aX)(r:aX):aa aX:=(q.take (iW p q)++[r])++q.drop (iW p q)
def ayC(p:aX->Bool)(q:aa aX)(r:aX):(tq p q r).length=q.length+1:=by
 have:=Zk p q;simp[tq];omega
def ayD{p:aX->Bool}{q:aa aX}{i:Nat}(h:i<iW p q)(hi:i<q.length):p q[i]=false:=by
 unfold iW at h;cases C:q.findIdx? p with
 | none=>
  have:=List.findIdx?_eq_none_iff.1 C q[i] (cO hi)
  simpa using this
 | some k=>
  rw[C]at h;obtain⟨_,_,D⟩:=l5.1 C;have:=D i h
  simpa using this
def ayE{p:aX->Bool}{q:aa aX}(h:iW p q<q.length):p q[iW p q]=true:=by
 unfold iW at h;cases C:q.findIdx? p with
 |none=>rw[C]at h;simp at h
 | some k=>
  obtain⟨E,D,_⟩:=l5.1 C;have e:iW p q=k:=by unfold iW;rw[C];rfl
  simp only[e];exact D
def ayF{n:Int}{l:aa aX}(h:iJ n l=true){i j:Nat}(E:i<j)(D:j<l.length):(l[i].id==l[j].id)=false:=by
 unfold iJ at h;rw[aM,cE]at h;have C:=h.1 j (eV.2 D);unfold r9 at C;rw[bO D]at C;simp only[aM,gy,kK]at C;have:=C.2.2 l[i] (ju.2 ⟨i,by simp;omega,by simp⟩)
 simpa using this
def Da(n:Int)(q:aa aX)(r:aX):aa aX×Bool:=bif iJ n q&&iJ n (tq (λx=>fk r x) q r)then (tq (λx=>fk r x) q r,true)else (q,false)
def ajr(r:aX):(⟨r.id,r.dB,r.line,r.write,r.data,r.at_⟩:aX)=r:=rfl
def nu(r:aX)(q:aa aX)(i:Nat):aa aX:=if iW (λx=>fk r x) q<i then (q.take (iW (λx=>fk r x) q)++[r])++(q.take i).drop (iW (λx=>fk r x) q)else q.take i
def ajs(r:aX)(q:aa aX)(i:Nat)(h:i<=q.length):(nu r q i).length<=i+1:=by
 have C:=Zk (λx=>fk r x) q;unfold nu;split
 ·simp;omega
 ·simp;omega
def ayG{r:aX}{q:aa aX}{k:Nat}(C:k<q.length)(h:k=iW (λx=>fk r x) q):nu r q (k+1)=(q.take k++[r])++[q[k]]:=by
 unfold nu;rw[br,<-h,p7 C,List.drop_left' (by simp;omega)]
def ayH{r:aX}{q:aa aX}{k:Nat}(C:k<q.length)(h:iW (λx=>fk r x) q<k):nu r q (k+1)=nu r q k++[q[k]]:=by
 unfold nu;rw[br,br h,p7 C,List.drop_append_of_le_length (by simp;omega)];simp only[List.append_assoc]
def ayI{r:aX}{q:aa aX}{k:Nat}(C:k<q.length)(h:k<iW (λx=>fk r x) q):nu r q (k+1)=nu r q k++[q[k]]:=by
 unfold nu;rw[bE,bE,p7 C]
def ayJ(n:Int)(q:aa aX)(r:aX)(hl:q.length<1000000000):O8 n q r=some (Da n q r):=by
 have Q:=Zk (λx=>fk r x) q;unfold O8 xA bw xZ;have e:=cL (step:=Jc) q.length (λi=>((n,q,(),(),decide (iW (λx=>fk r x) q<i),(i:Int),()),((r.id,r.dB,r.line,r.write,r.data,r.at_,()),nu r q i,()))) (.inl ((n,q,(),(),decide (iW (λx=>fk r x) q<q.length),()),((r.id,r.dB,r.line,r.write,r.data,r.at_,()),nu r q q.length,()))) aS (λk h=>by
  have J:=ajs r q k (by omega);unfold Jc aA xG xI;dsimp only;rw[aP (show (k:Int)<(q.length:Int) by omega),ak];by_cases c:iW (λx=>fk r x) q<k
  ·rw[aP c,bB,aq,az ⟨by omega,by omega⟩];simp only[bu];rw[cP (by simp only[iz];omega),ak,bI,ayH h c,aP (show iW (λx=>fk r x) q<k+1 by omega)]
  ·rw[aW c,gU,ak,az ⟨by omega,by omega⟩];simp only[bu];rw[ajr,aiM,au];by_cases E:k=iW (λx=>fk r x) q
   ·have C:fk r q[k]=true:=by
     have:=ayE (p:=λx=>fk r x) (q:=q) (by omega);simp only[<-E]at this;exact this
    have D:nu r q k=q.take k:=by unfold nu;rw[bE c]
    rw[C,ak,cP (by simp only[iz];omega),ak,az ⟨by omega,by omega⟩,cP (by simp only[o8,iz];omega),ak,bI,aP (show iW (λx=>fk r x) q<k+1 by omega),ayG h E,D]
   ·have C:fk r q[k]=false:=ayD (p:=λx=>fk r x) (q:=q) (by omega) h;rw[C,aq,az ⟨by omega,by omega⟩,cP (by simp only[iz];omega),ak,bI,aW (show ¬ iW (λx=>fk r x) q<k+1 by omega),ayI h (by omega)]) (by
  unfold Jc aA xG xI;dsimp only;rw[aW,aq]) (bM)
 have D:nu r q 0=[]:=by
  unfold nu;rw[bE];rfl
 rw[bT,D,aW (show ¬ iW (λx=>fk r x) q<0 by omega)]at e;rw[e,au];simp only[dY];have T:=ayC (λx=>fk r x) q r;have I:∀l:aa aX,l.length<1073741824->bD (([]:aa aX).length+l.length)=true:=λl h=>cP (by simpa using h)
 have key:∀ o:aa aX,o=tq (λx=>fk r x) q r->((xx n q).bind λL=>bif (!L)then bif bD (([]:aa aX).length+q.length)then some ((([]:aa aX)++q),false)else none else (xx n o).bind λO=>bif (!O)then bif bD (([]:aa aX).length+q.length)then some ((([]:aa aX)++q),false)else none else some (o,true))=some (Da n q r):=by
  rintro o rfl;rw[aiN,au];unfold Da;cases U:iJ n q with
  |false=>rw[gU,ak,I q (by omega)];rfl
  | true=>
   rw[bB,aq,aiN,au,cr];cases C:iJ n (tq (λx=>fk r x) q r)with
   |false=>rw[gU,ak,I q (by omega)];rfl
   |true=>rfl
 have J:=ajs r q q.length (eB _);by_cases c:iW (λx=>fk r x) q<q.length
 ·rw[aP c,bB,aq];refine key _ ?_;unfold nu tq;rw[br c,iA]
 ·rw[aW c,gU,ak,cP (by simp only[iz];omega),ak,ajr];refine key _ ?_;unfold nu tq;have:iW (λx=>fk r x) q=q.length:=by omega
  rw[bE c,this,iA,List.drop_length,List.append_nil]
abbrev ayK:=((af×af×af×Int×af)×(av×(Int×Int×Int×Int×Int×Int×Int×Int×Int×Int×Int×Int×Int×Int×Int×Int×Int×Int×Int×Int×Int×Int×Bool×Int×Int×Int×Int×Int×Int×Int×Int×Int×Int×af×Int×Int×Int×Int×Int×Int×Int×af×Int×Int×Bool×Int×af×Int×af×af×af×af×af×Int×af×af×Int×Bool×(aa cx)×(aa Int)×(aa aL)×(aa aX)×(aa cz)×Bool×Int×Int×Int×Int×Int×Int×Int×Int×(aa cv)×(aa fG)×(aa fe)×af)×(aa cx)×(aa Int)×(aa Int)×(aa fC)×(aa Int)×(aa Int)×(aa bZ)×(aa Int)×(aa Int)×(aa Int)×(aa Int)×af))
abbrev ayL:=((af×af×af×(aa cx)×Int×Int×af)×(av×av×(Int×Int×Int×Int×Int×Int×Int×Int×Int×Int×Int×Int×Int×Int×Int×Int×Int×Int×Int×Int×Int×Int×Bool×Int×Int×Int×Int×Int×Int×Int×Int×Int×Int×af×Int×Int×Int×Int×Int×Int×Int×af×Int×Int×Bool×Int×af×Int×af×af×af×af×af×Int×af×af×Int×Bool×af×(aa Int)×(aa aL)×(aa aX)×(aa cz)×Bool×Int×Int×Int×Int×Int×Int×Int×Int×(aa cv)×(aa fG)×(aa fe)×af)×(aa Int)×(aa Int)×(aa fC)×(aa Int)×(aa Int)×(aa bZ)×(aa Int)×(aa Int)×(aa Int)×(aa Int)×(aa cx)×af))
def gW{α:Type}(l:aa α)(h:l.length<=1048577:=by omega):bD (([]:aa α).length+l.length)=true:=cP (by simp;omega)
def Zl(t:cx)(h:kE t):FA t=some t:=by
 unfold FA xA xZ;have C:=h.1;have D:=h.2;rw[gW _,ak,gW _,ak];rfl
def ajt(t:cx)(h:kE t):IX t=some t:=Zl t h
def ayM(s:ayK)(T:aa cx)(C:s.1.2.2.2.1=0)(D:s.2.2.2.1=[])(E:s.2.2.1.2.2.2.2.2.2.2.2.2.2.2.2.2.2.2.2.2.2.2.2.2.2.2.2.2.2.2.2.2.2.2.2.2.2.2.2.2.2.2.2.2.2.2.2.2.2.2.2.2.2.2.2.2.2.2.2.2.2.1=T)(I:T.length<=1048576/\∀ y∈T,kE y):iter EI aS s=some (.inl (((),(),(),()),(s.2.1,s.2.2.1,T,s.2.2.2.2))):=by
 subst E;have e:=cL (step:=EI) (s.2.2.1.2.2.2.2.2.2.2.2.2.2.2.2.2.2.2.2.2.2.2.2.2.2.2.2.2.2.2.2.2.2.2.2.2.2.2.2.2.2.2.2.2.2.2.2.2.2.2.2.2.2.2.2.2.2.2.2.2.2.1).length (λi=>(((),(),(),(i:Int),()),(s.2.1,s.2.2.1,(s.2.2.1.2.2.2.2.2.2.2.2.2.2.2.2.2.2.2.2.2.2.2.2.2.2.2.2.2.2.2.2.2.2.2.2.2.2.2.2.2.2.2.2.2.2.2.2.2.2.2.2.2.2.2.2.2.2.2.2.2.2.1).take i,s.2.2.2.2))) (.inl (((),(),(),()),(s.2.1,s.2.2.1,s.2.2.1.2.2.2.2.2.2.2.2.2.2.2.2.2.2.2.2.2.2.2.2.2.2.2.2.2.2.2.2.2.2.2.2.2.2.2.2.2.2.2.2.2.2.2.2.2.2.2.2.2.2.2.2.2.2.2.2.2.2.1,s.2.2.2.2))) aS (λk h=>by
  unfold EI aA xG xI;dsimp only;rw[aP,ak,az ⟨by omega,by omega⟩];simp only[bu];rw[ajt _ (I.2 _ (cO _)),au,cP (by simp;omega),ak,bI,p7 h]) (by
  unfold EI aA xG xI;dsimp only;rw[aW,aq,iA]) (bM)
 have J:s=(((),(),(),((0:Nat):Int),()),(s.2.1,s.2.2.1,(s.2.2.1.2.2.2.2.2.2.2.2.2.2.2.2.2.2.2.2.2.2.2.2.2.2.2.2.2.2.2.2.2.2.2.2.2.2.2.2.2.2.2.2.2.2.2.2.2.2.2.2.2.2.2.2.2.2.2.2.2.2.1).take 0,s.2.2.2.2)):=by
  rw[List.take_zero,<-D,bT,<-C]
 rw[<-e,<-J]
def ayN(s:ayL)(C:s.1.2.2.2.2.2.1=0)(D:s.1.2.2.2.2.1=(s.1.2.2.2.1.length:Int))(E:s.2.2.2.2.2.2.2.2.2.2.2.2.2.2.1=[])(I:s.1.2.2.2.1.length<=1048576/\∀ y∈s.1.2.2.2.1,kE y):iter FB aS s=some (.inl (((),(),(),()),(s.2.1,s.2.2.1,s.2.2.2.1,s.2.2.2.2.1,s.2.2.2.2.2.1,s.2.2.2.2.2.2.1,s.2.2.2.2.2.2.2.1,s.2.2.2.2.2.2.2.2.1,s.2.2.2.2.2.2.2.2.2.1,s.2.2.2.2.2.2.2.2.2.2.1,s.2.2.2.2.2.2.2.2.2.2.2.1,s.2.2.2.2.2.2.2.2.2.2.2.2.1,s.2.2.2.2.2.2.2.2.2.2.2.2.2.1,s.1.2.2.2.1,s.2.2.2.2.2.2.2.2.2.2.2.2.2.2.2))):=by
 have e:=cL (step:=FB) s.1.2.2.2.1.length (λi=>(((),(),(),s.1.2.2.2.1,(s.1.2.2.2.1.length:Int),(i:Int),()),(s.2.1,s.2.2.1,s.2.2.2.1,s.2.2.2.2.1,s.2.2.2.2.2.1,s.2.2.2.2.2.2.1,s.2.2.2.2.2.2.2.1,s.2.2.2.2.2.2.2.2.1,s.2.2.2.2.2.2.2.2.2.1,s.2.2.2.2.2.2.2.2.2.2.1,s.2.2.2.2.2.2.2.2.2.2.2.1,s.2.2.2.2.2.2.2.2.2.2.2.2.1,s.2.2.2.2.2.2.2.2.2.2.2.2.2.1,s.1.2.2.2.1.take i,s.2.2.2.2.2.2.2.2.2.2.2.2.2.2.2))) (.inl (((),(),(),()),(s.2.1,s.2.2.1,s.2.2.2.1,s.2.2.2.2.1,s.2.2.2.2.2.1,s.2.2.2.2.2.2.1,s.2.2.2.2.2.2.2.1,s.2.2.2.2.2.2.2.2.1,s.2.2.2.2.2.2.2.2.2.1,s.2.2.2.2.2.2.2.2.2.2.1,s.2.2.2.2.2.2.2.2.2.2.2.1,s.2.2.2.2.2.2.2.2.2.2.2.2.1,s.2.2.2.2.2.2.2.2.2.2.2.2.2.1,s.1.2.2.2.1,s.2.2.2.2.2.2.2.2.2.2.2.2.2.2.2))) aS (λk h=>by
  unfold FB aA xG xI;dsimp only;rw[aP,ak,az ⟨by omega,by omega⟩];simp only[bu];rw[Zl _ (I.2 _ (cO _)),au,cP (by simp;omega),ak,bI,p7 h]) (by
  unfold FB aA xG xI;dsimp only;rw[aW,aq,iA]) (bM)
 have J:s=(((),(),(),s.1.2.2.2.1,(s.1.2.2.2.1.length:Int),((0:Nat):Int),()),(s.2.1,s.2.2.1,s.2.2.2.1,s.2.2.2.2.1,s.2.2.2.2.2.1,s.2.2.2.2.2.2.1,s.2.2.2.2.2.2.2.1,s.2.2.2.2.2.2.2.2.1,s.2.2.2.2.2.2.2.2.2.1,s.2.2.2.2.2.2.2.2.2.2.1,s.2.2.2.2.2.2.2.2.2.2.2.1,s.2.2.2.2.2.2.2.2.2.2.2.2.1,s.2.2.2.2.2.2.2.2.2.2.2.2.2.1,s.1.2.2.2.1.take 0,s.2.2.2.2.2.2.2.2.2.2.2.2.2.2.2)):=by
  rw[List.take_zero,<-E,bT,<-C,<-D]
 rw[<-e,<-J]
def aju(l:aa Int)(h:l.length<=1048577):QH l=some l:=by
 cases l with
 |nil=>rfl
 | cons a l=>
  show (bif bD (([]:aa Int).length+(a::l).length)then some (([]:aa Int)++(a::l))else none)=_;rw[gW _ h];rfl
def ayO(l:aa aL)(h:l.length<=1048577):X4 l=some l:=by
 cases l with
 |nil=>rfl
 | cons a l=>
  show (bif bD (([]:aa aL).length+(a::l).length)then some (([]:aa aL)++(a::l))else none)=_;rw[gW _ h];rfl
def ayP(l:aa aX)(h:l.length<=1048577):X5 l=some l:=by
 cases l with
 |nil=>rfl
 | cons a l=>
  show (bif bD (([]:aa aX).length+(a::l).length)then some (([]:aa aX)++(a::l))else none)=_;rw[gW _ h];rfl
def ayQ(l:aa cz)(h:l.length<=1048577):X6 l=some l:=by
 cases l with
 |nil=>rfl
 | cons a l=>
  show (bif bD (([]:aa cz).length+(a::l).length)then some (([]:aa cz)++(a::l))else none)=_;rw[gW _ h];rfl
def ayR(l:aa cv)(h:l.length<=1048577):X7 l=some l:=by
 cases l with
 |nil=>rfl
 | cons a l=>
  show (bif bD (([]:aa cv).length+(a::l).length)then some (([]:aa cv)++(a::l))else none)=_;rw[gW _ h];rfl
def ayS(l:aa fG)(h:l.length<=1048577):X8 l=some l:=by
 cases l with
 |nil=>rfl
 | cons a l=>
  show (bif bD (([]:aa fG).length+(a::l).length)then some (([]:aa fG)++(a::l))else none)=_;rw[gW _ h];rfl
def ayT(l:aa fe)(h:l.length<=1048577):X9 l=some l:=by
 cases l with
 |nil=>rfl
 | cons a l=>
  show (bif bD (([]:aa fe).length+(a::l).length)then some (([]:aa fe)++(a::l))else none)=_;rw[gW _ h];rfl
def Zm(b:gi)(h:AL b):KU b=some b:=by
 have C:b.bU.weights.length<=1048576:=h.1;have D:b.next.weights.length<=1048576:=h.2
 unfold KU Fw xA xZ;rw[gW _,ak,au,gW _,ak];rfl
def Zn(b:gi)(h:AL b):IT b=some b:=Zm b h
def ayU(c:av)(D:c8 c):OV c=some c:=by
 obtain⟨E,I,J,C,L,O,Q,U,Y,Z,jE,jg,jh,iK⟩:=D;have y2:c.aY.aC.length<=1048576:=I;obtain⟨y3,y3'⟩:=J;have y5:c.spare.map.length<=1048576:=L;have y6:c.aQ.aJ.length<=1048576:=O;unfold OV xA bw xZ;rw[Zn _ E,au];unfold Xk uk IW Ce xA xZ;rw[gW _,ak,au,gW _,ak,gW _,ak,au,axd _ (by have:=C.1.1;omega) (by have:=C.2.1;omega) (by have:=C.2.2;omega) (λx T=>by have:x.symbols.length<=1048576:=C.1.2 x T;omega),au,gW _,ak,au,gW _,ak,au]
 refine(bF (λo=>Option.bind o _) (ayM _ c.bK rfl rfl rfl Q)).trans ?_
 rw[au];simp only[dY];rw[gW c.guard,ak,gW c.pending,ak,gW c.queue,ak,gW c.shares,ak,gW c.errors,ak,gW c.trace,ak,gW c.cy,ak];rfl
def Zo(c:av)(D:c8 c):KW c=some c:=by
 obtain⟨E,I,J,C,L,O,Q,U,Y,Z,jE,jg,jh,iK⟩:=D;have y2:c.aY.aC.length<=1048576:=I;obtain⟨y3,y3'⟩:=J;have y5:c.spare.map.length<=1048576:=L;have y6:c.aQ.aJ.length<=1048576:=O;unfold KW bw;rw[Zm _ E,au];unfold Fx Fy CJ xA xZ;rw[gW _,ak,au,gW _,ak,gW _,ak,au,aiy _ (by have:=C.1.1;omega) (by have:=C.2.1;omega) (by have:=C.2.2;omega) (λx T=>by have:x.symbols.length<=1048576:=C.1.2 x T;omega),au,aju _ (by omega),au,gW _,ak,au]
 refine(bF (λo=>Option.bind o _) (ayN _ rfl rfl rfl Q)).trans ?_
 rw[au];simp only[dY];rw[aju c.guard (by omega),au,ayO c.pending (by omega),au,ayP c.queue (by omega),au,ayQ c.shares (by omega),au,ayR c.errors (by omega),au,ayS c.trace (by omega),au,ayT c.cy (by omega),au];rfl
def c9{α:Type}(p:α->Bool)(q:aa α):Nat:=(q.findIdx? p).getD q.length
def uE{α:Type}(p:α->Bool)(q:aa α):c9 p q<=q.length:=by
 unfold c9;cases h:q.findIdx? p with
 |none=>exact eB _
 | some k=>
  obtain⟨C,_⟩:=l5.1 h;exact Nat.le_of_lt C
def ny{α:Type}{p:α->Bool}{q:aa α}{i:Nat}(h:i<c9 p q)(hi:i<q.length):p q[i]=false:=by
 unfold c9 at h;cases C:q.findIdx? p with
 | none=>
  have:=List.findIdx?_eq_none_iff.1 C q[i] (cO hi)
  simpa using this
 | some k=>
  rw[C]at h;obtain⟨_,_,D⟩:=l5.1 C;have:=D i h
  simpa using this
def qY{α:Type}{p:α->Bool}{q:aa α}(h:c9 p q<q.length):p q[c9 p q]=true:=by
 unfold c9 at h;cases C:q.findIdx? p with
 |none=>rw[C]at h;simp at h
 | some k=>
  obtain⟨E,D,_⟩:=l5.1 C;have e:c9 p q=k:=by unfold c9;rw[C];rfl
  simp only[e];exact D
def L9{α:Type}(p:α->Bool)(q:aa α):q.any p=decide (c9 p q<q.length):=by
 by_cases c:c9 p q<q.length
 ·rw[aP c,List.any_eq_true];exact⟨_,cO c,qY c⟩
 ·rw[aW c,kK];intro x C;obtain⟨i,hi,rfl⟩:=ju.1 C;rw[ny (p:=p) (i:=i) (by omega) hi];simp
def Db(c:av)(r:aX):aX:=⟨r.id,r.dB,r.line,r.write,r.data,c.now⟩
def lU(c:av)(r:aX):aa aX×Bool:=Da (dK (dW c.config.ay c.spare)) c.queue (Db c r)
def tu(c:av)(r:aX):av×Bool:=bif (!dA c) ||((!(lU c r).2) ||(c.cy.any λx=>x.id==r.id))then (c,false)else ({ c with queue:=(lU c r).1 },true)
def ayV(c:av)(h:dA c=true):dK ⟨c.config.ay.cq,c.config.ay.aC,W6 (c.config.ay.rows-c.config.bP),c.config.ay.aN⟩=dK (dW c.config.ay c.spare):=by
 simp only[dA,aM,fz]at h;obtain⟨_,_,_,_,_,_,C,D,_⟩:=h;unfold dW;rw[C,ak,D]
def ayW(c:av)(r:aX)(h:c.queue.length<=1048576):(lU c r).1.length<=1048576:=by
 unfold lU Da;cases C:(iJ (dK (dW c.config.ay c.spare)) c.queue&&iJ (dK (dW c.config.ay c.spare)) (tq (λx=>fk (Db c r) x) c.queue (Db c r)))with
 |false=>exact h
 | true=>
  rw[ak];rw[aM]at C;have:=C.2;unfold iJ at this;rw[aM,gf]at this;have:=this.2;dsimp only;omega
def ayX(c:av)(r:aX)(C:c8 c):c8 (tu c r).1:=by
 unfold tu;cases hb:((!dA c) ||((!(lU c r).2) ||(c.cy.any λx=>x.id==r.id)))with
 |true=>exact C
 | false=>
  obtain⟨D,E,I,J,L,O,Q,T,U,Y,Z,jg,jh,iK⟩:=C;exact⟨D,E,I,J,L,O,Q,T,U,ayW c r Y,Z,jg,jh,iK⟩
def Ma(c:av)(r:aX):Bool×av:=bif (c.cy.any λx=>x.id==r.id)then (false,c)else bif (lU c r).2 then (true,{ c with queue:=(lU c r).1 })else (false,c)
def ayY(c:av)(r:aX)(C:c8 c)(D:dA c=true):O9 c r=some ((Ma c r).1,((Ma c r).2,())):=by
 obtain⟨I,J,L,O,Q,T,U,Y,Z,iq,jE,jg,jh,iK⟩:=C;have hk:=uE (λx:fe=>x.id==r.id) c.cy;unfold O9 Ma cc;rw[L9];have e:=cL (step:=Jd) (c9 (λx:fe=>x.id==r.id) c.cy) (λi=>(((),(),(),(i:Int),()),(c,(r.id,r.dB,r.line,r.write,r.data,r.at_,()),(c.config.ay.cq,c.config.ay.aC,(W6 (c.config.ay.rows-c.config.bP)),c.config.ay.aN,()),()))) (if c9 (λx:fe=>x.id==r.id) c.cy<c.cy.length then .inl ((false,()),(c,()))else .inr (.inl (((),(),(),()),(c,(r.id,r.dB,r.line,r.write,r.data,r.at_,()),(c.config.ay.cq,c.config.ay.aC,(W6 (c.config.ay.rows-c.config.bP)),c.config.ay.aN,()),())))) aS (λk h=>by
  have E:=ny h (by omega);unfold Jd aA bq xG xL;dsimp only;rw[aP,ak,az ⟨by omega,by omega⟩,az];simp only[bu];rw[E,aq,bI]) (by
  unfold Jd aA bq xG xL;dsimp only;by_cases k:c9 (λx:fe=>x.id==r.id) c.cy<c.cy.length
  ·rw[aP,ak,az ⟨by omega,by omega⟩,az,br k];simp only[bu];rw[qY k,ak]
  ·rw[aW,aq,bE k]) (bM)
 rw[bT]at e;rw[e,au];by_cases k:c9 (λx:fe=>x.id==r.id) c.cy<c.cy.length
 ·rw[br k,aP k,dY];rfl
 ·rw[bE k,aW k,Sum.elim_inr,dY,CU,au];dsimp only;rw[ayV c D,ayJ _ _ _ (by omega),au];show (bif (lU c r).2 then some ((lU c r).2,({ c with queue:=(lU c r).1 },()))else some ((lU c r).2,(c,())))=_;cases (lU c r).2<;>rfl
def nb(l:aa UInt8):aa Int:=l.map λb=>(b.toNat:Int)
def cR(c:av)(a:dx):av:=⟨c.config,c.box,c.now,c.aY,c.ready,a,c.spare,c.aQ,c.bK,c.guard,c.pending,c.queue,c.shares,c.drain,c.bh,c.cU,c.errors,c.trace,c.cy⟩
def vW:bZ:=⟨[],false⟩
def Dc(d:bZ):bZ:=⟨(d.symbols.set 0 (bits .xor .i64 (d.symbols.getD 0 0) 5)).set 1 (bits .xor .i64 (d.symbols.getD 1 0) 10),d.iX⟩
def jU(base:Nat):Nat->aa bZ->aa bZ
 |0,cs=>cs
 |n+1,cs=>(jU base n cs).set (base+n) (Dc ((jU base n cs).getD (base+n) vW))
def Mb(base:Nat):∀ (n:Nat) (cs:aa bZ),(jU base n cs).length=cs.length
 |0,_=>rfl
 | n+1,cs=>by
  show ((jU base n cs).set _ _).length=_;rw[iw,Mb base n]
def ayZ{d:bZ}(h:Sy d.symbols):Sy (Dc d).symbols:=by
 have C:0<d.symbols.length:=by rw[h.1];omega
 have l1:1<d.symbols.length:=by rw[h.1];omega
 have I:d.symbols.getD 0 0=d.symbols[0]:=by rw[en,bO C];rfl
 have J:d.symbols.getD 1 0=d.symbols[1]:=by rw[en,bO l1];rfl
 have D:=YM (h.get (k:=0) C) (b:=5) ⟨by omega,by omega⟩;have E:=YM (h.get (k:=1) l1) (b:=10) ⟨by omega,by omega⟩;unfold Dc;rw[I,J];exact(h.set (k:=0) ⟨D.1,D.2.1⟩).set (k:=1) ⟨E.1,E.2.1⟩
def R2{base:Nat}:∀ (n:Nat) {cs:aa bZ},base+n<=cs.length->(∀ c∈cs,Sy c.symbols)->∀ c∈jU base n cs,Sy c.symbols
 |0,cs,_,h=>h
 | n+1,cs,hl,h=>by
  have C:=R2 (base:=base) n (cs:=cs) (by omega) h;have hlen:=Mb base n cs;refine Sy.bV C (ayZ ?_);have hb:base+n<(jU base n cs).length:=by omega
  rw[en,bO hb];exact Sy.mem C hb
def uF(g:aO)(l:lz)(a:dx)(b r:Int):dx:=
 ⟨bif xV l a (b*g.rows+r).toNat then jU ((b*g.rows+r)*g.aN).toNat g.aN.toNat a.cells else a.cells,a.bC.set (b*g.rows+r).toNat 0,vQ g.rows r (b*g.rows+r).toNat a.bz⟩
def Mc{g:aO}(D:cD g=true){b r k:Int}(J:0<=b)(L:b<aT g)(O:0<=r)(Q:r<g.rows)(T:0<=k)(U:k<g.aN):0<=(b*g.rows+r)*g.aN/\(b*g.rows+r)*g.aN+k<dK g/\0<=b*g.rows+r/\b*g.rows+r<gu g:=by
 have er:aT g*g.rows=gu g:=by simp[gu,D]
 obtain⟨r0,E,C⟩:=vM J L O Q;rw[er]at C;obtain⟨Y,q1,I⟩:=vM E C T U;have Z:gu g*g.aN=dK g:=by simp[gu,dK,D]
 rw[Z]at I;exact⟨Y,I,E,C⟩
def ay0{g:aO}(C:cD g=true)(c:av){b r:Int}(hc:(c.array.cells.length:Int)=dK g)(Q:∀ x∈c.array.cells,Sy x.symbols)(E:0<=b)(I:b<aT g)(J:0<=r)(L:r<g.rows):
  iter CL aS (((),b,r,(),(0:Int),()),(c,(g.cq,g.aC,g.rows,g.aN,()),()))=some (.inl (((),b,r,(),()),(cR c ⟨jU ((b*g.rows+r)*g.aN).toNat g.aN.toNat c.array.cells,c.array.bC,c.array.bz⟩,(g.cq,g.aC,g.rows,g.aN,()),()))):=by
 obtain⟨_,_,_,_,g5,g6,g7,g8⟩:=fA C;have b1:=kU g;obtain⟨n,T⟩:=fy (show 0<=g.aN by omega);obtain⟨B,hB⟩:∃B,B=((b*g.rows+r)*g.aN).toNat:=⟨_,rfl⟩
 have U:g.aN.toNat=n:=by omega
 rw[<-hB,U];have l7:B+n<=c.array.cells.length:=by
  have:=Mc C E I J L (show 0<=g.aN-1 by omega) (by omega);omega
 have e:=cL (step:=CL) n (λk=>(((),b,r,(),(k:Int),()),(cR c ⟨jU B k c.array.cells,c.array.bC,c.array.bz⟩,(g.cq,g.aC,g.rows,g.aN,()),()))) (.inl (((),b,r,(),()),(cR c ⟨jU B n c.array.cells,c.array.bC,c.array.bz⟩,(g.cq,g.aC,g.rows,g.aN,()),()))) aS (λk hk=>by
  have Y:dL g ⟨b,r,(k:Int)⟩=true:=vL C E I J L (by dsimp only;omega) (by dsimp only;omega);have Z:qT g ⟨b,r,(k:Int)⟩=((B+k:Nat):Int):=by
   have:=Mc C E I J L (show 0<=(k:Int) by omega) (by omega);unfold qT;rw[Y,ak];dsimp only;omega
  have hlen:=Mb B k c.array.cells;have O:=R2 k (by omega:B+k<=c.array.cells.length) Q;show CL (((),b,r,(),(k:Int),()),(cR c ⟨jU B k c.array.cells,c.array.bC,c.array.bz⟩,(g.cq,g.aC,g.rows,g.aN,()),()))=some (.inl (((),b,r,(),((k+1:Nat):Int),()),(cR c ⟨(jU B k c.array.cells).set (B+k) (Dc ((jU B k c.array.cells).getD (B+k) vW)),c.array.bC,c.array.bz⟩,(g.cq,g.aC,g.rows,g.aN,()),())));generalize jU B k c.array.cells=cs at hlen O;have D:B+k<cs.length:=by omega
  have s1:=Sy.mem O D;have l1:(0:Nat)<cs[B+k].symbols.length:=by rw[s1.1];omega
  have l2:(1:Nat)<cs[B+k].symbols.length:=by rw[s1.1];omega
  have c2:decide ((k:Int)<g.aN)=true:=aP;have BX:cs.getD (B+k) vW=cs[B+k]:=by rw[en,bO D];rfl
  have f0:cs[B+k].symbols.getD 0 0=cs[B+k].symbols[0]:=by rw[en,bO l1];rfl
  have f1:cs[B+k].symbols.getD 1 0=cs[B+k].symbols[1]:=by rw[en,bO l2];rfl
  rw[BX];unfold Dc;rw[f0,f1];unfold CL cR xC aA xG xL xM;dsimp only;rw[c2,ak,ni g,YG,au,Z];generalize B+k=j at D s1 l1 l2;simp (disch:=omega) [D,bI,l1,l2]) (by unfold CL xC aA xG xL xM;simp[T]) (bM)
 exact e
def ay1(c:av){R k:Int}{nb:aa Int}(hl:nb.length<1000)(E:∀ n∈nb,0<=n/\n<R)(O:0<=k)(Q:k+R<=(c.array.bz.length:Int))(T:c.array.bz.length<1000000)(hb:∀ x∈c.array.bz,0<=x/\x<=100000):
  iter Av aS (((),k,(),(nb.length:Int),(0:Int),()),(c,nb,()))=some (.inl ((),(cR c ⟨c.array.cells,c.array.bC,nb.foldl (λh n=>p9 (k+n).toNat h) c.array.bz⟩,()))):=by
 have e:=cL (step:=Av) nb.length (λi=>(((),k,(),(nb.length:Int),(i:Int),()),(cR c ⟨c.array.cells,c.array.bC,(nb.take i).foldl (λh n=>p9 (k+n).toNat h) c.array.bz⟩,nb,()))) (.inl ((),(cR c ⟨c.array.cells,c.array.bC,nb.foldl (λh n=>p9 (k+n).toNat h) c.array.bz⟩,()))) aS (λj h=>by
  have U:=E _ (cO h);have I:=ajf k (nb.take j) c.array.bz;have hB:=ajg k (nb.take j) c.array.bz hb;rw[List.take_succ_eq_append_getElem h,List.foldl_append];simp only[List.foldl_cons,List.foldl_nil];generalize (nb.take j).foldl (λh n=>p9 (k+n).toNat h) c.array.bz=G at I hB;obtain⟨q,D⟩:=fy (show 0<=k+nb[j] by omega);have C:q<G.length:=by omega
  have Y:=hB _ (cO C);have J:W6 (k+nb[j])=(q:Int):=by rw[D];exact aR
  have L:W6 (G[q]+1)=G[q]+1:=aR;rw[D,bu,YP C];unfold Av cR aA xG xL;simp (disch:=omega) [h,J,C,L,bI,nj]) (by unfold Av aA xG xL;simp) (bM)
 rw[bT,List.take_zero,List.foldl_nil]at e;exact e
def Zp{g:aO}(D:cD g=true)(l:lz){B:Int}(hB:0<=B){a:dx}(C:ep g B a){b r:Int}(E:0<=b)(I:b<aT g)(J:0<=r)(L:r<g.rows):ep g B (uF g l a b r):=by
 obtain⟨_,_,_,_,Q,T,U,Y⟩:=fA D;have Z:=kU g;have O:((b*g.rows+r)*g.aN).toNat+g.aN.toNat<=a.cells.length:=by
  have:=Mc D E I J L (show 0<=g.aN-1 by omega) (by omega);have:=C.cells;omega
 unfold uF;refine⟨?_,?_,by simp[C.bC],by simp[axi,C.bz],LO C.AB ⟨by omega,by omega⟩,axk C.iH⟩
 ·dsimp only;cases xV l a (b*g.rows+r).toNat with
  |false=>exact C.cells
  |true=>rw[ak,Mb];exact C.cells
 ·dsimp only;cases xV l a (b*g.rows+r).toNat with
  |false=>exact C.syms
  |true=>rw[ak];exact R2 _ O C.syms
def ajv{g:aO}(Q:cD g=true)(l:lz){B:Int}(c:av)(C:ep g B c.array){b r:Int}(T:0<=b)(U:b<aT g)(D:0<=r)(E:r<g.rows):K5 g l c b r=some ((),(cR c (uF g l c.array b r),())):=by
 obtain⟨_,_,_,_,g5,g6,g7,g8⟩:=fA Q;have b2:=p6 g;have er:aT g*g.rows=gu g:=by simp[gu,Q]
 obtain⟨Y,r1,Z⟩:=vM T U D E;rw[er]at Z;have hk:b*g.rows+g.rows<=gu g:=by
  have:=(vM T U (show 0<=g.rows-1 by omega) (show g.rows-1<g.rows by omega)).2.2;omega
 have a1:=C.bC;have a2:=C.bz;have I:W6 (b*g.rows)=b*g.rows:=aR;have e2:W6 (b*g.rows+r)=b*g.rows+r:=aR;have eL:=ay0 Q c C.cells C.syms T U D E;unfold uF;generalize jU ((b*g.rows+r)*g.aN).toNat g.aN.toNat c.array.cells=cs at eL;obtain⟨i,hi⟩:=fy r1;obtain⟨k,J⟩:∃k,k=b*g.rows:=⟨_,rfl⟩
 rw[<-J]at hi hk I e2 Y r1 Z;unfold K5 bw xL;rw[<-J,I,e2];rw[hi]at Z;rw[hi,bu];have L:i<c.array.bC.length:=by omega
 have O:i<c.array.bz.length:=by omega
 have Vb:QU g l c.array b r=some (xV l c.array i):=by
  unfold QU xI;have Zq:W6 (i:Int)=i:=aR;simp only[<-J,I,hi,Zq];unfold xV;simp only[en,bO L,bO O,Option.getD_some];by_cases h:c.array.bC[i] > l.bC<;>simp[L,O,h]
 rw[Vb,au];have b1:=LO C.iH (k:=i) (v:=0) ⟨by omega,by omega⟩;have Eb:=Zg g5 g6 D E;have rF:=ayd g.rows r;have Zr:∀ cells:aa bZ,iter Av aS (((),k,(),((lS g.rows r).length:Int),(0:Int),()),(cR c ⟨cells,c.array.bC.set i 0,c.array.bz.set i 0⟩,lS g.rows r,()))=some (.inl ((),(cR c ⟨cells,c.array.bC.set i 0,vQ g.rows r i c.array.bz⟩,()))):=λcells=>by
  have:=ay1 (cR c ⟨cells,c.array.bC.set i 0,c.array.bz.set i 0⟩) (R:=g.rows) (k:=k) (nb:=lS g.rows r) (by omega) (aje D E) Y (by simp[cR];omega) (by simp[cR];omega) b1;simp only[cR]at this ⊢;rw[aye hi Y D]at this;exact this
 have h2x:Yj=Av:=rfl;unfold cR at Zr eL ⊢;cases xV l c.array i with
 | false=>
  simp[L,O,Eb,h2x,Zr]
 | true=>
  rw[ak,eL];have Zq:W6 (i:Int)=i:=aR;simp[<-J,I,Zq,hi,L,O,Eb,Zr]
def ay2{g:aO}(C:cD g=true)(c:av){b r:Int}(hc:(c.array.cells.length:Int)=dK g)(Q:∀ x∈c.array.cells,Sy x.symbols)(E:0<=b)(I:b<aT g)(J:0<=r)(L:r<g.rows):
  iter Ag aS (((),r,(),b*g.rows+r,(0:Int),()),(c,(g.cq,g.aC,g.rows,g.aN,()),()))=some (.inl (((),r,(),b*g.rows+r,()),(cR c ⟨jU ((b*g.rows+r)*g.aN).toNat g.aN.toNat c.array.cells,c.array.bC,c.array.bz⟩,(g.cq,g.aC,g.rows,g.aN,()),()))):=by
 obtain⟨_,_,_,_,g5,g6,g7,g8⟩:=fA C;have b1:=kU g;have b2:=p6 g;obtain⟨n,T⟩:=fy (show 0<=g.aN by omega);obtain⟨B,hB⟩:∃B,B=((b*g.rows+r)*g.aN).toNat:=⟨_,rfl⟩
 have U:g.aN.toNat=n:=by omega
 rw[<-hB,U];have l7:B+n<=c.array.cells.length:=by
  have:=Mc C E I J L (show 0<=g.aN-1 by omega) (by omega);omega
 have e:=cL (step:=Ag) n (λk=>(((),r,(),b*g.rows+r,(k:Int),()),(cR c ⟨jU B k c.array.cells,c.array.bC,c.array.bz⟩,(g.cq,g.aC,g.rows,g.aN,()),()))) (.inl (((),r,(),b*g.rows+r,()),(cR c ⟨jU B n c.array.cells,c.array.bC,c.array.bz⟩,(g.cq,g.aC,g.rows,g.aN,()),()))) aS (λk hk=>by
  have Zs:=Mc C E I J L (show 0<=(k:Int) by omega) (by omega);have Y:W6 ((b*g.rows+r)*g.aN)=(b*g.rows+r)*g.aN:=aR;have Z:W6 ((b*g.rows+r)*g.aN+(k:Int))=((B+k:Nat):Int):=by rw[aR];omega
  have hlen:=Mb B k c.array.cells;have O:=R2 k (by omega:B+k<=c.array.cells.length) Q;show Ag (((),r,(),b*g.rows+r,(k:Int),()),(cR c ⟨jU B k c.array.cells,c.array.bC,c.array.bz⟩,(g.cq,g.aC,g.rows,g.aN,()),()))=some (.inl (((),r,(),b*g.rows+r,((k+1:Nat):Int),()),(cR c ⟨(jU B k c.array.cells).set (B+k) (Dc ((jU B k c.array.cells).getD (B+k) vW)),c.array.bC,c.array.bz⟩,(g.cq,g.aC,g.rows,g.aN,()),())));generalize jU B k c.array.cells=cs at hlen O;have D:B+k<cs.length:=by omega
  have s1:=Sy.mem O D;have l1:(0:Nat)<cs[B+k].symbols.length:=by rw[s1.1];omega
  have l2:(1:Nat)<cs[B+k].symbols.length:=by rw[s1.1];omega
  have c2:decide ((k:Int)<g.aN)=true:=aP;have BX:cs.getD (B+k) vW=cs[B+k]:=by rw[en,bO D];rfl
  have f0:cs[B+k].symbols.getD 0 0=cs[B+k].symbols[0]:=by rw[en,bO l1];rfl
  have f1:cs[B+k].symbols.getD 1 0=cs[B+k].symbols[1]:=by rw[en,bO l2];rfl
  rw[BX];unfold Dc;rw[f0,f1];unfold Ag cR xC aA xG xL xM;dsimp only;have t0:(0:Int).toNat=0:=rfl;have t1:(1:Int).toNat=1:=rfl;have p0:(0:Int)<=0:=Int.le_refl 0;have p1:(0:Int)<=1:=by omega
  rw[c2,ak];simp only[Y,Z,bu];have cj:(0:Int)<=((B+k:Nat):Int):=by omega
  simp only[cj,D,p0,p1,t0,t1,l1,l2,and_self,dite_true,iw,List.getElem_set_self,List.set_set,apP];have w:=bI (i:=k);simp only[w,List.getElem_set_ne (show (0:Nat)≠1 by decide)]) (by unfold Ag xC aA xG xL xM;simp[T]) (bM)
 exact e
def ajw{x:Int}(h:0<=x/\x<=100000):(if (100000:Int)<W6 (x+1)then (100000:Int)else W6 (x+1))=nj 1 x:=by
 rw[aR (n:=x+1)];rfl
def R3(C:av)(J D L:Int)(E:aa Int):aj (af×(av×af)):=bif (decide (J<(W6 (L-(1:Int)))))then if T:0<=(W6 (D+(1:Int)))/\(W6 (D+(1:Int))).toNat<E.length then if O:(W6 (D+(1:Int))).toNat<E.length then (let I:=E[(W6 (D+(1:Int))).toNat]'O;if U:0<=(W6 (D+(1:Int)))/\(W6 (D+(1:Int))).toNat<E.length then if Q:(W6 (D+(1:Int))).toNat<E.length then (let Y:=E[(W6 (D+(1:Int))).toNat]'Q;some ((),((⟨C.config,C.box,C.now,C.aY,C.ready,⟨C.array.cells,(C.array.bC.set D.toNat (0:Int)),(E.set (W6 (D+(1:Int))).toNat (if (100000:Int)<(W6 (I+(1:Int)))then (100000:Int)else (W6 (I+(1:Int)))))⟩,C.spare,C.aQ,C.bK,C.guard,C.pending,C.queue,C.shares,C.drain,C.bh,C.cU,C.errors,C.trace,C.cy⟩:av),())))else none else none)else none else none else some ((),((⟨C.config,C.box,C.now,C.aY,C.ready,⟨C.array.cells,(C.array.bC.set D.toNat (0:Int)),E⟩,C.spare,C.aQ,C.bK,C.guard,C.pending,C.queue,C.shares,C.drain,C.bh,C.cU,C.errors,C.trace,C.cy⟩:av),()))
def R4(D:av)(E C I:Int):aj (af×(av×af)):=if U:0<=C/\C.toNat<D.array.bC.length then if L:C.toNat<D.array.bC.length then (let Y:=D.array.bC[C.toNat]'L;if Z:0<=C/\C.toNat<D.array.bz.length then if O:C.toNat<D.array.bz.length then (let e50:=D.array.bz[C.toNat]'O;(bif (decide (E > (0:Int)))then if h51:0<=(W6 (C-(1:Int)))/\(W6 (C-(1:Int))).toNat<(D.array.bz.set C.toNat (0:Int)).length then if Q:(W6 (C-(1:Int))).toNat<(D.array.bz.set C.toNat (0:Int)).length then (let J:=(D.array.bz.set C.toNat (0:Int))[(W6 (C-(1:Int))).toNat]'Q;if h54:0<=(W6 (C-(1:Int)))/\(W6 (C-(1:Int))).toNat<(D.array.bz.set C.toNat (0:Int)).length then if T:(W6 (C-(1:Int))).toNat<(D.array.bz.set C.toNat (0:Int)).length then (let XC:=(D.array.bz.set C.toNat (0:Int))[(W6 (C-(1:Int))).toNat]'T;(R3 D E C I ((D.array.bz.set C.toNat (0:Int)).set (W6 (C-(1:Int))).toNat (if (100000:Int)<(W6 (J+(1:Int)))then (100000:Int)else (W6 (J+(1:Int)))))))else none else none)else none else none else (R3 D E C I (D.array.bz.set C.toNat (0:Int)))))else none else none)else none else none
def ajx{d:av}{R r:Int}{i:Nat}{H:aa Int}(hl:H.length<1000000)(D:r<R-1->i+1<H.length)(E:W6 (R-1)=R-1)(I:∀ x∈H,0<=x/\x<=100000)(hi:i<1000000):R3 d r (i:Int) R H=some ((),(cR d ⟨d.array.cells,d.array.bC.set i 0,bif decide (r<R-1)then p9 (i+1) H else H⟩,())):=by
 have J:W6 ((i:Int)+1)=((i+1:Nat):Int):=bI;unfold R3 cR;rw[E,J];simp only[bu];by_cases C:r<R-1
 ·have q:i+1<H.length:=D C;rw[aP C,ak,ak,az ⟨by omega,q⟩,az q,az ⟨by omega,q⟩,az q,ajw (I _ (cO q)),YP q]
 ·rw[aW C,aq,aq]
def ajy{d:av}{R r:Int}{i:Nat}(E:i<d.array.bC.length)(I:i<d.array.bz.length)(hl:d.array.bz.length<1000000)(Q:0<r->1<=i)(J:r<R-1->i+1<d.array.bz.length)(L:W6 (R-1)=R-1)(T:∀ x∈d.array.bz,0<=x/\x<=100000):R4 d r (i:Int) R=some ((),(cR d ⟨d.array.cells,d.array.bC.set i 0,vQ R r i d.array.bz⟩,())):=by
 have C:=LO T (k:=i) (v:=0) ⟨by omega,by omega⟩;have U:(d.array.bz.set i 0).length=d.array.bz.length:=by simp
 unfold R4 vQ AD;simp only[bu];rw[az ⟨by omega,E⟩,az E,az ⟨by omega,I⟩,az I];obtain⟨H,O⟩:∃H,d.array.bz.set i 0=H:=⟨_,rfl⟩
 rw[O]at C U;simp only[O];by_cases D:0<r
 ·have Y:=Q D;have w1:W6 ((i:Int)-1)=((i-1:Nat):Int):=by rw[aR];omega
  have q:i-1<H.length:=by omega
  simp only[w1,bu];rw[aP D,ak,ak,az ⟨by omega,q⟩,az q,az ⟨by omega,q⟩,az q,ajw (C _ (cO q)),<-YP q];exact ajx (by rw[LP];omega) (λh=>by rw[LP];have:=J h;omega) L (RC C) (by omega)
 ·rw[aW D,aq,aq];exact ajx (by omega) (λh=>by have:=J h;omega) L C (by omega)
def ajz{g:aO}(E:cD g=true)(l:lz){B:Int}(c:av)(C:ep g B c.array){b r:Int}(I:0<=b)(J:b<aT g)(T:0<=r)(U:r<g.rows):Jx g l c b r=some ((),(cR c (uF g l c.array b r),())):=by
 obtain⟨_,_,_,_,g5,g6,g7,g8⟩:=fA E;have b2:=p6 g;have er:aT g*g.rows=gu g:=by simp[gu,E]
 obtain⟨r0,r1,Y⟩:=vM I J T U;rw[er]at Y;have L:r<g.rows-1->b*g.rows+r+1<gu g:=λh=>by
  have:=(vM I J (show 0<=r+1 by omega) (show r+1<g.rows by omega)).2.2;omega
 have O:0<r->1<=b*g.rows+r:=λh=>by omega
 have a1:=C.bC;have a2:=C.bz;have e1:W6 (b*g.rows)=b*g.rows:=aR;have e2:W6 (b*g.rows+r)=b*g.rows+r:=aR;have Z:W6 (g.rows-1)=g.rows-1:=aR;have Q:=ay2 E c C.cells C.syms I J T U;unfold uF;generalize jU ((b*g.rows+r)*g.aN).toNat g.aN.toNat c.array.cells=cs at Q;have hx:Jx g l c b r=(Jq g l c.array (W6 (W6 (b*g.rows)+r))).bind λy1=>bif y1 then (iter Ag aS (((),r,(),W6 (W6 (b*g.rows)+r),(0:Int),()),(c,(g.cq,g.aC,g.rows,g.aN,()),()))).bind (Sum.elim (λD=>R4 D.2.1 D.1.2.1 D.1.2.2.2.1 D.2.2.1.2.2.1) (λz=>nomatch z))else R4 c r (W6 (W6 (b*g.rows)+r)) g.rows:=rfl
 rw[hx,e1,e2];obtain⟨i,hi⟩:=fy r1;rw[hi]at Q O L Y ⊢;rw[bu,axf g l c.array i (by omega) (by omega),au];cases xV l c.array i with
 |false=>exact ajy (d:=c) (r:=r) (R:=g.rows) (i:=i) (by omega) (by omega) (by omega) (λh=>by have:=O h;omega) (λh=>by have:=L h;omega) Z C.iH
 | true=>
  rw[ak,Q,au];exact ajy (d:=cR c ⟨cs,c.array.bC,c.array.bz⟩) (r:=r) (R:=g.rows) (i:=i) (by show i<c.array.bC.length;omega) (by show i<c.array.bz.length;omega) (by show c.array.bz.length<_;omega) (λh=>by have:=O h;omega) (λh=>by show _<c.array.bz.length;have:=L h;omega) Z C.iH
def ay3{c:eX}{p:dS}(hl:p.weights.length<1073741823)(h:lT c p=true):jr c.cm=true:=by
 obtain⟨b,e,C⟩:=YY c p hl;have hb:b=true:=by
  rw[L6 c p hl]at e;injection e with e;rw[<-e,h]
 have:=C hb;simp only[nY,aM]at this;exact this.2.1
def jF(i:Nat):aH:=⟨(i:Int) % 9+1,if (i:Int) % 9+1<=5 then (i:Int) / 9 else 0,0,0⟩
def yc(n m:Int):Int:=if n > m then n else m
def R5(g:aO)(t:dc)(l:aa Int)(c:aH)(m:Int)(i:Nat):Int:=match l[i]? with
 |some n=>bif decide (n<0)then m else yc (n+vT g t (jF i) c) m
 |none=>m
def uG(g:aO)(t:dc)(l:aa Int)(c:aH)(k:Nat):Int:=(List.range k).foldl (R5 g t l c) 0
def tv(g:aO)(t:dc)(r:dF)(c:aH):Int:=
 bif c.kind==1&&(r.bg.length:Int)==4 then yc (r.bg.getD 0 0+t.lu) (uG g t r.last c r.last.length)else uG g t r.last c r.last.length
def Zt(g:aO)(t:dc)(l:aa Int)(c:aH)(k:Nat):uG g t l c (k+1)=R5 g t l c (uG g t l c k) k:=by
 unfold uG;rw[List.range_succ,List.foldl_append];rfl
def Zu{g:aO}{t:dc}{l:aa Int}{c:aH}{m:Int}{i:Nat}(h:i<l.length):R5 g t l c m i=bif decide (l[i]<0)then m else yc (l[i]+vT g t (jF i) c) m:=by
 unfold R5;rw[bO h]
def ay4{a b C:Int}(D:a<=C)(hb:0<=b/\b<=C):0<=yc a b/\yc a b<=C:=by
 unfold yc;split<;>omega
structure F7 (g:aO) (t:dc) (r:dF):Prop where
 tw:cD g=true
 Dd:jr t=true
 len:r.last.length<1000
 last:∀(i:Nat) (h:i<r.last.length),(-1<=r.last[i]/\r.last[i]<=1000000)/\(r.last[i] = -1\/oR g i=true)
 a4:r.bg.length<=4
 act:∀x∈r.bg,0<=x/\x<=1000000
def ay5{g:aO}{t:dc}{r:dF}(E:jr t=true)(h:kW g r=true):F7 g t r:=by
 have hb:=eY g;simp only[kW,aM,cE,eV]at h;obtain⟨I,C,D,J,L⟩:=h;have C:(r.last.length:Int)=9*(aT g+1):=by simpa using C
 have D:¬ (r.bg.length:Int) > 4:=by simpa using D
 refine⟨I,E,by omega,λi hi=>?_,by omega,λx O=>?_⟩
 ·have e:=J i hi;rw[LX hi]at e;simp only[aM,ei]at e;refine⟨bx.1 e.1,?_⟩;rcases e.2 with e2 | e2
  ·exact .inr e2
  ·exact .inl (by simpa using e2)
 ·obtain⟨i,hi,rfl⟩:=ju.1 O;have e:=L i hi;cases i with
  |zero=>rw[LY hi]at e;exact bx.1 e
  |succ i=>rw[F2 hi]at e;simp only[aM]at e;exact bx.1 e.1
def ajA(i:Nat):1<=(jF i).kind/\(jF i).kind<=9:=by
 unfold jF;dsimp only;omega
def ay6{g:aO}{i:Nat}(C:oR g i=true):(jF i).kind<=5->0<=(jF i).ax/\(jF i).ax<aT g:=by
 unfold oR at C;unfold jF;dsimp only;intro h;rw[br h];rw[aP h]at C;have C:(i:Int) / 9<aT g:=by simpa using C
 omega
def ay7{g:aO}{i:Nat}(hi:i<1000)(C:oR g i=true):∃ b,CD g (i:Int)=some (jF i,b):=by
 have I:=C;unfold oR at C;unfold CD jF;rw[oN,au,qh (by omega),qg (by omega),aR,aR,LW,au];cases E:decide ((i:Int) / 9<aT g)with
 | true=>
  rw[E]at C;have D:(i:Int) % 9+1<=5:=by simpa using C
  rw[ak,br D];exact⟨_,rfl⟩
 | false=>
  rw[E]at C;have D:¬ (i:Int) % 9+1<=5:=by
   intro h;rw[aP h]at C;cases C
  rw[aq,bE D];exact⟨_,rfl⟩
def R6{g:aO}{t:dc}{r:dF}(h:F7 g t r)(c:aH):∀ k,k<=r.last.length->0<=uG g t r.last c k/\uG g t r.last c k<=1000128
 |0,_=>⟨Int.le_refl _,by show (0:Int)<=_;omega⟩
 | k+1,D=>by
  have C:=R6 h c k (by omega);rw[Zt,Zu (by omega)];have E:=Ze h.Dd g (jF k) c;have hl:=(h.last k (by omega)).1;cases decide (r.last[k]<0)with
  |true=>exact C
  |false=>exact ay4 (by omega) C
def ay8{g:aO}{t:dc}{r:dF}{c:aH}(h:F7 g t r)(L:dP g c=true):Pd g t r c=some (tv g t r c):=by
 have hb:=λk E=>R6 h c k E
 have Q:1<=c.kind/\c.kind<=9:=by
  simp only[dP,aM]at L;exact bx.1 L.2.1
 have e:=cL (step:=Jk) r.last.length (λi=>(((),(),(),(),uG g t r.last c i,(i:Int),()),((g.cq,g.aC,g.rows,g.aN,()),t,(r.last,r.bg,()),(c.kind,c.ax,c.row,c.bR,()),()))) (.inl (((),(),(),uG g t r.last c r.last.length,()),(t,(r.last,r.bg,()),(c.kind,c.ax,c.row,c.bR,()),()))) aS (λk E=>by
  have Y:=h.len;have Z:=(h.last k E).1;have h3:=hb k (by omega);have D:=Ze h.Dd g (jF k) c;unfold Jk aA xG xI;dsimp only;rw[aP,ak,az ⟨by omega,by omega⟩,bI];simp only[bu];rw[Zt,Zu E];cases hd:decide (r.last[k]<0)with
  |true=>rfl
  | false=>
   have I:Ad g t (jF k) c=some (vT g t (jF k) c):=ax0 h.tw h.Dd (ajA k) Q;have T:W6 ((k:Int).tmod 9+1)=(k:Int) % 9+1:=by rw[qg (by omega),aR]
   have U:W6 ((k:Int).tdiv 9)=(k:Int) / 9:=by rw[qh (by omega),aR]
   unfold jF at I;rw[aq,aq,T,U];by_cases C:(k:Int) % 9+1<=5
   ·rw[br C]at I;rw[aP C,ak,az ⟨by omega,E⟩,ni];show Option.bind (Ad g t _ c) _=_;rw[I,au,aR (n:=r.last[k]+_) (by unfold jF at D;rw[br C]at D;omega) (by unfold jF at D;rw[br C]at D;omega)];unfold jF yc;rw[br C]
   ·rw[bE C]at I;rw[aW C,aq,az ⟨by omega,E⟩,ni];show Option.bind (Ad g t _ c) _=_;rw[I,au,aR (n:=r.last[k]+_) (by unfold jF at D;rw[bE C]at D;omega) (by unfold jF at D;rw[bE C]at D;omega)];unfold jF yc;rw[bE C]) (by
  unfold Jk aA xG xI;dsimp only;rw[aW,aq]) (bM (by have:=h.len;omega))
 rw[bT]at e;unfold Pd tv xI bw
 refine(bF (λo=>Option.bind o _) e).trans ?_
 rw[au];simp only[dY];have hL:=hb r.last.length (eB _);have hf:=ajb h.Dd;cases c.kind==(1:Int)with
 |false=>rfl
 | true=>
  cases O:(r.bg.length:Int)==(4:Int)with
  |false=>rfl
  | true=>
   have O:(r.bg.length:Int)=4:=by simpa using O
   have J:0<r.bg.length:=by omega
   have ha:=h.act _ (cO J);rw[ak,ak,az ⟨by omega,J⟩];show some (if W6 (r.bg[0]+t.lu) > _ then W6 (r.bg[0]+t.lu)else _)=_;rw[aR,en,bO J];rfl
def ay9{g:aO}{t:dc}{r:dF}(h:F7 g t r)(c:aH):0<=tv g t r c:=by
 have C:=R6 h c r.last.length (eB _);unfold tv yc;cases c.kind==1&&(r.bg.length:Int)==4 with
 |false=>exact C.1
 | true=>
  rw[ak];split<;>omega
def aza{g:aO}{t:dc}{r:dF}{c:aH}(h:F7 g t r)(T:kW g r=true)(C:dP g c=true):QM g t r c=some (bif decide (tv g t r c > 1000000)then -1 else tv g t r c):=by
 have hb:=λk D=>R6 h c k D
 have L:(1<=c.kind/\c.kind<=9)/\(c.kind<=5->0<=c.ax/\c.ax<aT g):=by
  simp only[dP,aM]at C
  refine⟨bx.1 C.2.1,λU=>?_⟩
  have E:=C.2.2.1;rw[L3 (bx.1 C.2.1),aP U]at E;have:=bx.1 E;omega
 have e:=cL (step:=K2) r.last.length (λi=>(((),(),(),(),uG g t r.last c i,r.last,(r.last.length:Int),(i:Int),()),((g.cq,g.aC,g.rows,g.aN,()),t,(r.last,r.bg,()),(c.kind,c.ax,c.row,c.bR,()),()))) (.inl (((),(),(),uG g t r.last c r.last.length,()),(t,(r.last,r.bg,()),(c.kind,c.ax,c.row,c.bR,()),()))) aS (λk D=>by
  have E:=h.len;have h2:=(h.last k D).1;have h3:=hb k (by omega);have hg:=Ze h.Dd g (jF k) c;unfold K2 aA xG xI;dsimp only;rw[aP,ak,az ⟨by omega,by omega⟩,bI];simp only[bu];rw[Zt,Zu D];cases Y:decide (r.last[k]<0)with
  |true=>rfl
  | false=>
   have aCf:¬ r.last[k]<0:=by simpa using Y
   have O:oR g k=true:=by
    rcases(h.last k D).2 with h9|h9
    ·omega
    ·exact h9
   obtain⟨b,Z⟩:=ay7 (g:=g) (i:=k) (by omega) O;rw[aq,aq,ni,Z,au];show Option.bind (K1 g t (jF k) c) _=_;rw[axZ t h.tw (ajA k) L.1 (ay6 O) L.2,au,aR (n:=r.last[k]+_)];rfl) (by
  unfold K2 aA xG xI;dsimp only;rw[aW,aq]) (bM (by have:=h.len;omega))
 rw[bT]at e;unfold QM tv xI bw;rw[RD,au,h.Dd,bB,aq,Y3,au,T,bB,aq,Y7,au,C,bB,aq]
 refine(bF (λo=>Option.bind o _) e).trans ?_
 rw[au];simp only[dY];have hL:=hb r.last.length (eB _);have hf:=ajb h.Dd;have I:∀m:Int,(bif decide (m > 1000000)then some (-1:Int)else some m)=some (bif decide (m > 1000000)then -1 else m):=λm=>by cases decide (m > 1000000)<;>rfl
 cases c.kind==(1:Int)with
 |false=>exact I _
 | true=>
  cases Q:(r.bg.length:Int)==(4:Int)with
  |false=>exact I _
  | true=>
   have Q:(r.bg.length:Int)=4:=by simpa using Q
   have J:0<r.bg.length:=by omega
   have ha:=h.act _ (cO J);rw[ak,ak,az ⟨by omega,J⟩];show (bif decide ((if W6 (r.bg[0]+t.lu) > _ then W6 (r.bg[0]+t.lu)else _) > 1000000)then _ else some (if W6 (r.bg[0]+t.lu) > _ then W6 (r.bg[0]+t.lu)else _))=_;rw[aR,en,bO J];exact I _
def dj(c:av)(x:aH):Bool:=n5 c.aY x&&(decide (tv c.config.ay c.config.cm c.ready x<=1000000)&&decide (tv c.config.ay c.config.cm c.ready x<=c.now))
structure Pk (c:av):Prop where
 z:c8 c
 ok:dA c=true
 rk:nq c.config.ay c.aY=true
 rdy:kW c.config.ay c.ready=true
 R:F7 c.config.ay c.config.cm c.ready
 bl:(c.aY.aC.length:Int)=aT c.config.ay
def Pk.of{c:av}(D:c8 c)(h:dA c=true):Pk c:=by
 have L:c.box.bU.weights.length<=1048576:=D.1.1;have I:=h;simp only[dA,aM]at h;obtain⟨J,O,Q,C,E,T,U,Y,Z,h10,R7,ke,kf,lG,kN,jL,pF,rm,rq,uT,wo,wq⟩:=h;have hb:(c.aY.aC.length:Int)=aT c.config.ay:=by
  simp only[nq,aM]at C
  simpa using C.2.1
 exact⟨D,I,C,E,ay5 (ay3 (by omega) J) E,hb⟩
def azb{g:aO}{x:aH}(C:dP g x=true):(1<=x.kind/\x.kind<=9)/\(x.kind<=5->0<=x.ax/\x.ax<aT g):=by
 simp only[dP,aM]at C
 refine⟨bx.1 C.2.1,λE=>?_⟩
 have D:=C.2.2.1;rw[L3 (bx.1 C.2.1),aP E]at D;have:=bx.1 D;omega
def R8{c:av}(h:Pk c){x:aH}(C:dP c.config.ay x=true):Cj c x=some (dj c x):=by
 obtain⟨I,D⟩:=azb C;have hb:=eY c.config.ay;have hl:=h.bl;unfold Cj dj;rw[axU I (λE=>⟨(D E).1,by have:=D E;omega⟩) (by omega),au,ay8 h.R C,au];cases n5 c.aY x with
 |false=>rfl
 | true=>
  cases decide (tv c.config.ay c.config.cm c.ready x<=1000000)<;>rfl
def yd{c:av}(h:Pk c){x:aH}(C:dP c.config.ay x=true):jd c x=some (dj c x):=by
 have I:=ay9 h.R x;unfold jd dj;rw[Y8,au,h.rk,C,cr,cr,aza h.R h.rdy C,au];cases n5 c.aY x with
 |false=>rfl
 | true=>
  rw[bB,aq,cr];by_cases D:tv c.config.ay c.config.cm c.ready x<=1000000
  ·have E:(tv c.config.ay c.config.cm c.ready x != -1)=true:=by rw[bne_iff_ne];omega
   rw[aW,aq,aP D,cr,E,ak]
  ·rw[aP,ak,aW D,jJ];rfl
def cC(i:Nat):aa Int->aa Int
 |[]=>[]
 |d::l=>bif decide (d >= 4)then (i:Int)::cC (i+1) l else cC (i+1) l
def azc(i:Nat)(a b:aa Int):cC i (a++b)=cC i a++cC (i+a.length) b:=by
 induction a generalizing i with
 |nil=>rfl
 | cons d a C=>
  rw[List.cons_append,cC,cC,C (i+1),lY,show i+1+a.length=i+(a.length+1) by omega];cases decide (d >= 4)<;>rfl
def De(i:Nat)(l:aa Int):(cC i l).length<=l.length:=by
 induction l generalizing i with
 |nil=>exact eB _
 | cons d l C=>
  have:=C (i+1);unfold cC;cases decide (d >= 4)<;>simp<;>omega
def Zv{l:aa Int}{i:Nat}(h:i<l.length):cC 0 (l.take (i+1))=bif decide (l[i] >= 4)then cC 0 (l.take i)++[(i:Int)]else cC 0 (l.take i):=by
 rw[p7 h,azc,fF,Nat.min_eq_left (by omega),fo];show _++(bif decide (l[i] >= 4)then (i:Int)::cC (i+1) []else cC (i+1) [])=_;cases decide (l[i] >= 4)with
 |true=>rfl
 |false=>exact List.append_nil _
def ajB{l:aa Int}{i:Nat}{b:Int}(h:b∈cC i l):∃ j:Nat,b=((i+j:Nat):Int)/\j<l.length/\l.getD j 0 >= 4:=by
 induction l generalizing i with
 |nil=>cases h
 | cons d l D=>
  unfold cC at h;have tl:b∈cC (i+1) l->∃ j:Nat,b=((i+j:Nat):Int)/\j<(d :: l).length/\(d :: l).getD j 0 >= 4:=λh=>by
   obtain⟨j,E,I,J⟩:=D h;exact⟨j+1,by rw[E];congr 1;omega,by simpa using I,by simpa using J⟩
  cases C:decide (d >= 4)with
  | true=>
   rw[C,ak]at h;rcases fQ.1 h with rfl|h
   ·exact⟨0,rfl,by simp,by simpa using C⟩
   ·exact tl h
  | false=>
   rw[C,aq]at h;exact tl h
def n7{r:cZ}(h:eF r=true):r.aJ.length<=8/\1<=r.aJ.length:=by
 simp only[eF,aM]at h;have:=bx.1 h.2.1;omega
def Zw{r:cZ}(C:eF r=true):FN r=some (cC 0 r.aJ):=by
 have hl:=n7 C;unfold FN bw;rw[LS _ (by omega),au,C,bB,aq];have e:=cL (step:=Lu) r.aJ.length (λi=>(((),r.aJ,(r.aJ.length:Int),(i:Int),()),(cC 0 (r.aJ.take i),()))) (.inl (((),()),(cC 0 r.aJ,()))) aS (λi h=>by
  have D:=De 0 (r.aJ.take i);rw[fF]at D;unfold Lu aA xG xI;dsimp only;rw[aP,ak,az ⟨by omega,by omega⟩,bI,Zv h];simp only[bu];cases decide (r.aJ[i] >= 4)with
  |true=>rw[ak,ak,iz,cP,ak]
  |false=>rfl) (by
  unfold Lu aA xG xI;dsimp only;rw[aW,aq,iA]) (bM)
 rw[bT]at e
 refine(bF (λo=>Option.bind o _) e).trans ?_
 rfl
def ajC{r:cZ}(C:eF r=true):JN r=some (cC 0 r.aJ):=by
 have hl:=n7 C;unfold JN bw;have e:=cL (step:=JM) r.aJ.length (λi=>(((),(),(i:Int),()),((r.aJ,r.wait,r.dN,()),cC 0 (r.aJ.take i),()))) (.inl (((),()),(cC 0 r.aJ,()))) aS (λi h=>by
  have D:=De 0 (r.aJ.take i);rw[fF]at D;unfold JM aA xG xI;dsimp only;rw[aP,ak,show (⟨r.aJ,r.wait,r.dN⟩:cZ)=r from rfl,RL _ (by omega),au,C,ak,az ⟨by omega,by omega⟩,bI,Zv h];simp only[bu];cases decide (r.aJ[i] >= 4)with
  |true=>rw[ak,ak,iz,cP,ak]
  |false=>rfl) (by
  unfold JM aA xG xI;dsimp only;rw[aW,aq,iA]) (bM)
 rw[bT,List.take_zero]at e
 refine(bF (λo=>Option.bind o _) e).trans ?_
 rfl
def uH(c:av):Bool:=decide ((c.queue.length:Int) > 0) ||(decide ((c.pending.length:Int) > 0) ||decide (((cC 0 c.aQ.aJ).length:Int) > 0))
def ajD{c:av}(C:eF c.aQ=true):Ax c=some (uH c):=by
 unfold Ax uH;rw[Zw C,au];cases decide ((c.queue.length:Int) > 0)<;>cases decide ((c.pending.length:Int) > 0)<;>rfl
def ajE{c:av}(C:eF c.aQ=true):Cv c=some (uH c):=by
 unfold Cv uH;rw[ajC C,au];cases decide ((c.queue.length:Int) > 0)<;>cases decide ((c.pending.length:Int) > 0)<;>rfl
def uI(r:og)(p:eT)(b:Bool):Int:=
 bif b then (bif p.state==1 then 7 else bif p.state==2 then 9 else 0)else bif p.state==0&&decide (p.idle >= r.sleep)then 8 else bif p.state==0&&decide (p.idle >= r.down)then 6 else bif p.state==1&&decide (p.idle >= r.sleep)then 7 else 0
def azd(r:og)(p:eT)(b:Bool)(D:xX r=true)(E:gR p=true):Rf r p b=some (uI r p b):=by
 unfold Rf uI;rw[aiH,au,D,bB,aq,RN,au,E,bB,aq];by_cases C:p.state=0
 ·rw[C];cases b<;>cases decide (p.idle >= r.sleep)<;>cases decide (p.idle >= r.down)<;>rfl
 ·have C:(p.state==0)=false:=by simpa using C
  rw[C];cases b<;>cases p.state==1<;>cases p.state==2<;>cases decide (p.idle >= r.sleep)<;>rfl
def aze(r:og)(p:eT)(b:Bool)(D:xX r=true)(E:gR p=true):PR r p b=some (uI r p b):=by
 unfold PR uI;simp only[aiI,Y1,au,D,E,bB,aq];by_cases C:p.state=0
 ·rw[C];cases b<;>cases decide (p.idle >= r.sleep)<;>cases decide (p.idle >= r.down)<;>rfl
 ·by_cases s1:p.state=1
  ·rw[s1];cases b<;>cases decide (p.idle >= r.sleep)<;>rfl
  ·have C:(p.state==0)=false:=by simpa using C
   have s1:(p.state==1)=false:=by simpa using s1
   simp only[C,s1];cases b<;>cases p.state==2<;>rfl
def azf(r:og)(p:eT)(b:Bool):uI r p b=0\/6<=uI r p b/\uI r p b<=9:=by
 unfold uI;cases b<;>cases p.state==0<;>cases p.state==1<;>cases p.state==2<;>cases decide (p.idle >= r.sleep)<;>cases decide (p.idle >= r.down)<;>decide
def AN(D:Nat->Bool)(v:Nat->Int)(C:Int)(i:Nat):Int:=bif D i&&(decide (C<0) ||decide (v i > v C.toNat))then (i:Int)else C
def gX(C:Nat->Bool)(v:Nat->Int)(k:Nat):Int:=(List.range k).foldl (AN C v) (-1)
def F8(C:Nat->Bool)(v:Nat->Int)(k:Nat):gX C v (k+1)=AN C v (gX C v k) k:=by
 unfold gX;rw[List.range_succ,List.foldl_append];rfl
def vX(C:Nat->Bool)(v:Nat->Int):∀ k,-1<=gX C v k/\gX C v k<k
 |0=>⟨Int.le_refl _,by show (-1:Int)<0;omega⟩
 | k+1=>by
  have D:=vX C v k;rw[F8];unfold AN;cases C k&&(decide (gX C v k<0) ||decide (v k > v (gX C v k).toNat))with
  |true=>rw[ak];omega
  |false=>rw[aq];omega
def Zx(C:Nat->Bool)(v:Nat->Int):∀ k,gX C v k = -1\/C (gX C v k).toNat=true
 |0=>.inl rfl
 | k+1=>by
  have D:=Zx C v k;rw[F8];unfold AN;cases hm:C k with
  |false=>rw[jJ,aq];exact D
  | true=>
   cases decide (gX C v k<0) ||decide (v k > v (gX C v k).toNat)with
   |true=>exact .inr (by rw[cr,ak,bu];exact hm)
   |false=>exact D
def Zy{C:Nat->Bool}(v:Nat->Int){i:Nat}(h:C i=true):∀ k,i<k->0<=gX C v k
 |0,D=>by omega
 | k+1,D=>by
  have hb:=vX C v k;rw[F8];unfold AN;by_cases E:i=k
  ·subst E;rw[h,cr];by_cases I:gX C v i<0
   ·rw[aP I,Bool.true_or,ak];omega
   ·cases decide (gX C v i<0) || decide (v i > v (gX C v i).toNat)with
    |true=>rw[ak];omega
    |false=>rw[aq];omega
  ·have J:=Zy v h k (by omega);cases C k&&(decide (gX C v k<0) || decide (v k > v (gX C v k).toNat))with
   |true=>rw[ak];omega
   |false=>rw[aq];exact J
def tA(l:aa cz)(w:aa Bool):Int:=gX (λi=>w.getD i false) (λi=>(l.getD i ⟨0,0⟩).fL) (min l.length w.length)
def Md(l:aa cz)(w:aa Bool)(hl:l.length<1073741824):FH l w=some (tA l w):=by
 unfold FH tA bw;generalize L:min l.length w.length=n;have e:=cL (step:=Li) n (λi=>((l,w,gX (λi=>w.getD i false) (λi=>(l.getD i ⟨0,0⟩).fL) i,(i:Int),()),())) (.inl ((gX (λi=>w.getD i false) (λi=>(l.getD i ⟨0,0⟩).fL) n,()),())) aS (λi h=>by
  have C:i<l.length:=by omega
  have J:i<w.length:=by omega
  have hb:=vX (λi=>w.getD i false) (λi=>(l.getD i ⟨0,0⟩).fL) i;rw[F8];generalize gX (λi=>w.getD i false) (λi=>(l.getD i ⟨0,0⟩).fL) i=D at hb;unfold Li AN aA xG xI;dsimp only;rw[aP,ak,aP,ak,az ⟨by omega,by omega⟩,bI];simp only[bu,en,bO J,bO C,Option.getD_some];cases w[i]with
  |false=>rfl
  | true=>
   rw[ak,cr];by_cases E:D<0
   ·rw[aP E];rfl
   ·have I:D.toNat<l.length:=by omega
    rw[aW E,aq,az ⟨by omega,C⟩,az ⟨by omega,I⟩,Bool.false_or,bO I,Option.getD_some];cases decide (l[i].fL > l[D.toNat].fL)<;>rfl) (by
  unfold Li aA xG xI;dsimp only;by_cases C:n<l.length
  ·rw[aP,ak,aW,aq]
  ·rw[aW,aq]) (bM)
 rw[bT]at e
 refine(bF (λo=>Option.bind o _) e).trans ?_
 rfl
def azg:Py=FH:=rfl
def tC(s:cz):cz:=⟨s.weight,s.weight⟩
def iL(l:aa cz):aa cz:=l.map tC
def Zz(l:aa cz)(w:aa Bool)(hl:l.length<1073741824):iter FI aS ((w,(),(l.length:Int),(0:Int),()),(l,()))=some (.inl ((w,(),()),(iL l,()))):=by
 have e:=cL (step:=FI) l.length (λi=>((w,(),(l.length:Int),(i:Int),()),(upto tC l i,()))) (.inl ((w,(),()),(iL l,()))) aS (λi h=>by
  have hlen:=AA tC l i;unfold FI aA xG xL;dsimp only;rw[aP,ak,az ⟨by omega,by omega⟩,az,az ⟨by omega,by omega⟩,az,bI];simp only[bu];rw[FZ tC l i h,<-F0 tC l i h];rfl) (by
  unfold FI aA xG xL;dsimp only;rw[aW,aq,FY];rfl) (bM hl)
 rw[bT,FX]at e;exact e
def azh(l:aa cz)(w:aa Bool)(hl:l.length<1073741824):iter EW aS ((w,(),(0:Int),()),(l,()))=some (.inl ((w,(),()),(iL l,()))):=by
 have e:=cL (step:=EW) l.length (λi=>((w,(),(i:Int),()),(upto tC l i,()))) (.inl ((w,(),()),(iL l,()))) aS (λi h=>by
  have hlen:=AA tC l i;unfold EW aA xG xL;dsimp only;rw[aP,ak,az ⟨by omega,by omega⟩,az,az ⟨by omega,by omega⟩,az,bI];simp only[bu];rw[FZ tC l i h,<-F0 tC l i h];rfl) (by
  have hlen:=AA tC l l.length;unfold EW aA xG xL;dsimp only;rw[aW,aq,FY];rfl) (bM hl)
 rw[bT,FX]at e;exact e
def ajF(l:aa cz)(w:aa Bool)(hl:l.length<1073741823):JD l w=qR l w:=by
 unfold JD qR xA xC bw xL xZ;rw[jH,azg,Md l w (by omega),au,LR _ (by omega),aiE _ (by omega),au,au];rw[Zz l w (by omega),azh l w (by omega)];rfl
def ZA{l:aa cz}(w:aa Bool)(hl:l.length<1073741823)(L:gF l=true)(T:l.length=w.length):∃ y t,qR l w=some (y,t)/\y.length=l.length:=by
 unfold qR xA xC bw xL xZ;have hb:=vX (λi=>w.getD i false) (λi=>(l.getD i ⟨0,0⟩).fL) (min l.length w.length);have D:(iL l).length=l.length:=by simp[iL]
 have O:=vX (λi=>w.getD i false) (λi=>((iL l).getD i ⟨0,0⟩).fL) (min (iL l).length w.length);have Q:=Zx (λi=>w.getD i false) (λi=>(l.getD i ⟨0,0⟩).fL) (min l.length w.length);rw[jH,Md l w (by omega),au,LR _ (by omega),au,L,bB,aq,List.length_nil,fo,cP,ak];unfold tA;generalize U:gX (λi=>w.getD i false) (λi=>(l.getD i ⟨0,0⟩).fL) (min l.length w.length)=b at *
 by_cases I:b<0
 ·rw[aP I];exact⟨_,_,rfl,by simp[D]⟩
 ·have C:b.toNat<l.length:=by omega
  rw[aW I,aq,az ⟨by omega,C⟩,az C];dsimp only;cases l[b.toNat].fL==0 with
  | false=>
   rw[aq,az ⟨by omega,C⟩,az C,az ⟨by omega,C⟩,az C];exact⟨_,_,rfl,by simp[D]⟩
  | true=>
   rw[ak,Zz l w (by omega),au];simp only[dY];rw[Md _ w (by omega),au];have J:0<=tA (iL l) w:=Zy _ (i:=b.toNat) (by rcases Q with h|h;exact absurd h (by omega);exact h) _ (by rw[D];omega);have Y:tA (iL l) w<((min (iL l).length w.length:Nat):Int):=O.2;have E:(tA (iL l) w).toNat<(iL l).length:=by omega
   rw[az ⟨J,E⟩,az E,az ⟨J,E⟩,az E];exact⟨_,_,rfl,by simp[D]⟩
def AO(m:ld)(n:Int)(a:aL):aL:=bif m.hash then ⟨(a.ax+a.row) % n,a.row,a.bR⟩else a
def ye(g:aO)(m:ld)(l:Int):aL:=AO m (aT g)
 (bif m.order==0 then ⟨l / g.aN % aT g,l / g.aN / aT g,l % g.aN⟩else bif m.order==1 then ⟨l % aT g,l / aT g / g.aN,l / aT g % g.aN⟩else ⟨l / g.aN / g.rows,l / g.aN % g.rows,l % g.aN⟩)
def F9{l a b:Int}(C:0<=l)(hb:0<b)(h:l<a*b):0<=l / b/\l / b<a/\l / b<=l:=by
 refine⟨Int.ediv_nonneg C (by omega),Int.ediv_lt_of_lt_mul hb h,?_⟩;exact Int.ediv_le_self _ C
def AP{l b:Int}(hb:0<b):0<=l % b/\l % b<b:=⟨Int.emod_nonneg _ (by omega),Int.emod_lt_of_pos _ hb⟩
def ZB{m:ld}{n:Int}{a:aL}(C:0<n)(hb:0<=a.ax/\a.ax<n):0<=(AO m n a).ax/\(AO m n a).ax<n/\(AO m n a).row=a.row/\(AO m n a).bR=a.bR:=by
 unfold AO;cases m.hash with
 |false=>exact⟨hb.1,hb.2,rfl,rfl⟩
 |true=>exact⟨(AP C).1,(AP C).2,rfl,rfl⟩
def ZC{m:ld}{n b r c:Int}(C:0<n)(D:n<=8)(E:0<=b/\b<=100000)(I:0<=r/\r<=100000):(bif m.hash then if n=0 then none else some ((⟨(W6 (b+r)).tmod n,r,c⟩:aL),true)else some ((⟨b,r,c⟩:aL),true))=some (AO m n ⟨b,r,c⟩,true):=by
 unfold AO;cases m.hash with
 |false=>rfl
 |true=>rw[ak,bE,aR,qg (by omega),ak]
def ajG{g:aO}{m:ld}{l:Int}(L:cD g=true)(hm:aK m.order 0 2=true)(D:0<=l)(hl:l<dK g):∀ (f:aj (aL×Bool)),f=(bif (m.order==(0:Int))then if g.aN=0 then none else if g.aN=0 then none else if aT g=0 then none else if g.aN=0 then none else if aT g=0 then none else bif m.hash then if aT g=0 then none else some ((⟨((W6 (((W6 (l.tdiv g.aN)).tmod (aT g))+(W6 ((W6 (l.tdiv g.aN)).tdiv (aT g))))).tmod (aT g)),(W6 ((W6 (l.tdiv g.aN)).tdiv (aT g))),(l.tmod g.aN)⟩:aL),true)else some ((⟨((W6 (l.tdiv g.aN)).tmod (aT g)),(W6 ((W6 (l.tdiv g.aN)).tdiv (aT g))),(l.tmod g.aN)⟩:aL),true)else bif (m.order==(1:Int))then if aT g=0 then none else if aT g=0 then none else if g.aN=0 then none else if aT g=0 then none else if g.aN=0 then none else bif m.hash then if aT g=0 then none else some ((⟨((W6 ((l.tmod (aT g))+(W6 ((W6 (l.tdiv (aT g))).tdiv g.aN)))).tmod (aT g)),(W6 ((W6 (l.tdiv (aT g))).tdiv g.aN)),((W6 (l.tdiv (aT g))).tmod g.aN)⟩:aL),true)else some ((⟨(l.tmod (aT g)),(W6 ((W6 (l.tdiv (aT g))).tdiv g.aN)),((W6 (l.tdiv (aT g))).tmod g.aN)⟩:aL),true)else if g.aN=0 then none else if g.aN=0 then none else if g.rows=0 then none else if g.aN=0 then none else if g.rows=0 then none else bif m.hash then if aT g=0 then none else some ((⟨((W6 ((W6 ((W6 (l.tdiv g.aN)).tdiv g.rows))+((W6 (l.tdiv g.aN)).tmod g.rows))).tmod (aT g)),((W6 (l.tdiv g.aN)).tmod g.rows),(l.tmod g.aN)⟩:aL),true)else some ((⟨(W6 ((W6 (l.tdiv g.aN)).tdiv g.rows)),((W6 (l.tdiv g.aN)).tmod g.rows),(l.tmod g.aN)⟩:aL),true))->f=some (ye g m l,true)/\dL g (ye g m l)=true:=by
 have hb:=eY g;have hp:=LG L;have hL:=kU g;have gb:=fA L;have eL:dK g=aT g*g.rows*g.aN:=by simp[dK,L]
 have A6:aK l 0 (W6 (dK g-1))=true:=by rw[aR];exact bx.2 ⟨D,by omega⟩
 have ho:=bx.1 hm;rw[eL]at hl;have U:¬ aT g=0:=by omega
 have tS:¬ g.aN=0:=by omega
 have mh:¬ g.rows=0:=by omega
 rintro f rfl;simp only[bE U,bE tS,bE mh];unfold ye;by_cases Y:m.order=0
 ·have C:=F9 (a:=aT g*g.rows) D (show 0<g.aN by omega) hl;have E:=F9 (l:=l / g.aN) (a:=g.rows) (b:=aT g) C.1 (by omega) (by rw[Int.mul_comm];exact C.2.1);have O:=AP (l:=l / g.aN) (b:=aT g) (by omega);have a4:=AP (l:=l) (b:=g.aN) (by omega);rw[Y,kM,ak,ak,qh D,qg D,aR (n:=l / g.aN),qh C.1,qg C.1,aR (n:=l / g.aN / aT g)];obtain⟨Q,T,I,J⟩:=ZB (m:=m) (n:=aT g) (a:=⟨l / g.aN % aT g,l / g.aN / aT g,l % g.aN⟩) (by omega) O;refine⟨?_,vL L Q T (by rw[I];exact E.1) (by rw[I];exact E.2.1) (by rw[J];exact a4.1) (by rw[J];exact a4.2)⟩;refine Eq.trans ?_ (ZC (by omega) (by omega) (by omega) (by omega));rw[bE U]
 ·rw[fP Y,aq,aq];by_cases Z:m.order=1
  ·have C:=F9 (a:=g.rows*g.aN) D (show 0<aT g by omega) (by rw[Int.mul_comm,<-Int.mul_assoc];exact hl);have E:=F9 (l:=l / aT g) (a:=g.rows) (b:=g.aN) C.1 (by omega) C.2.1;have O:=AP (l:=l) (b:=aT g) (by omega);have a4:=AP (l:=l / aT g) (b:=g.aN) (by omega);rw[Z,kM,ak,ak,qh D,qg D,aR (n:=l / aT g),qh C.1,qg C.1,aR (n:=l / aT g / g.aN)];obtain⟨Q,T,I,J⟩:=ZB (m:=m) (n:=aT g) (a:=⟨l % aT g,l / aT g / g.aN,l / aT g % g.aN⟩) (by omega) O;refine⟨?_,vL L Q T (by rw[I];exact E.1) (by rw[I];exact E.2.1) (by rw[J];exact a4.1) (by rw[J];exact a4.2)⟩;refine Eq.trans ?_ (ZC (by omega) (by omega) (by omega) (by omega));rw[bE U]
  ·have C:=F9 (a:=aT g*g.rows) D (show 0<g.aN by omega) hl;have E:=F9 (l:=l / g.aN) (a:=aT g) (b:=g.rows) C.1 (by omega) C.2.1;have O:=AP (l:=l / g.aN) (b:=g.rows) (by omega);have a4:=AP (l:=l) (b:=g.aN) (by omega);rw[fP Z,aq,aq,qh D,qg D,aR (n:=l / g.aN),qh C.1,qg C.1,aR (n:=l / g.aN / g.rows)];obtain⟨Q,T,I,J⟩:=ZB (m:=m) (n:=aT g) (a:=⟨l / g.aN / g.rows,l / g.aN % g.rows,l % g.aN⟩) (by omega) ⟨E.1,E.2.1⟩;refine⟨?_,vL L Q T (by rw[I];exact O.1) (by rw[I];exact O.2) (by rw[J];exact a4.1) (by rw[J];exact a4.2)⟩;refine Eq.trans ?_ (ZC (by omega) (by omega) (by omega) (by omega));rw[bE U]
def ajH{g:aO}{m:ld}{l:Int}(C:cD g=true)(D:aK m.order 0 2=true)(E:0<=l)(hl:l<dK g):QN g m l=some (ye g m l,true)/\dL g (ye g m l)=true:=by
 have J:=kU g;have I:aK l 0 (W6 (dK g-1))=true:=by rw[aR];exact bx.2 ⟨E,by omega⟩
 refine ajG C D E hl _ ?_;unfold QN;rw[xT,au,C,bB,aq,YS,au,D,bB,aq,LH,au,dJ,au,I,bB,aq,oN,au]
def azi{g:aO}{m:ld}{l:Int}(E:cD g=true)(C:aK m.order 0 2=true)(D:0<=l)(hl:l<dK g):Pf g m l=some (ye g m l,true):=by
 have J:=kU g;have I:aK l 0 (W6 (dK g-1))=true:=by rw[aR];exact bx.2 ⟨D,by omega⟩
 refine(ajG E C D hl _ ?_).1;unfold Pf;rw[show EM m=some (aK m.order 0 2)from YS m,au,C,bB,aq,CU,au,eJ,au,I,bB,aq,oO,au]
def fl(c:av)(l:Int):aL:=
 let a:=ye (dW c.config.ay c.spare) c.config.mapping l
 ⟨a.ax,c.spare.map.getD (a.ax*(c.config.ay.rows-c.spare.bP)+a.row).toNat 0,a.bR⟩
def Me{g:aO}{s:dG}(h:kX g s=true):dW g s=⟨g.cq,g.aC,g.rows-s.bP,g.aN⟩/\cD g=true/\cD (dW g s)=true/\aT (dW g s)=aT g/\0<=s.bP/\s.bP<=2/\2<=g.rows-s.bP/\g.rows<=16:=by
 have E:=h;simp only[kX,aM]at h;obtain⟨C,I,J,L,O⟩:=RG h.1;have Q:=fA C;have e:dW g s=⟨g.cq,g.aC,g.rows-s.bP,g.aN⟩:=by
  unfold dW;rw[E,ak,aR]
 have D:cD (dW g s)=true:=by
  rw[e];unfold cD;simp only[aM,bx];refine⟨⟨⟨?_,?_⟩,?_⟩,?_⟩<;>omega
 refine⟨e,C,D,?_,I,J,L,O⟩;unfold aT;rw[C,D,e]
def ajI{g:aO}{s:dG}(h:kX g s=true){b r:Int}(hb:0<=b/\b<aT g)(E:0<=r/\r<g.rows-s.bP):(b*(g.rows-s.bP)+r).toNat<s.map.length/\0<=s.map.getD (b*(g.rows-s.bP)+r).toNat 0/\s.map.getD (b*(g.rows-s.bP)+r).toNat 0<g.rows:=by
 obtain⟨_,T,_,_,U,Y,Z,h4⟩:=Me h;have I:=eY g;simp only[kX,aM,fz,cE,eV]at h;obtain⟨_,hl,J⟩:=h;obtain⟨b,rfl⟩:=fy hb.1;obtain⟨r,rfl⟩:=fy E.1;obtain⟨R,hR⟩:=fy (show 0<=g.rows-s.bP by omega);obtain⟨C,L⟩:=fy I.1;rw[hR,L,bu,bu]at hl;have hl:s.map.length=C*R:=by exact_mod_cast hl
 have O:b<C:=by omega
 have D:r<R:=by omega
 have e:((b:Int)*(g.rows-s.bP)+(r:Int)).toNat=b*R+r:=by rw[hR,<-Int.natCast_mul,<-Int.natCast_add,bu]
 have dZ:=AG (R:=R) O (show r+1<=R from D);have hi:b*R+r<s.map.length:=by omega
 have h5:=J b (by omega) r (by omega);rw[e];refine⟨hi,?_⟩;rw[en,bO hi,Option.getD_some];have Q:(gN s.map R b)[r]?=some s.map[b*R+r]:=by rw[F3,List.getElem?_take_of_lt D,List.getElem?_drop,bO hi]
 rw[hR,bu]at h5;unfold qW at h5;rw[Q]at h5;simp only[ei,aM,fz,bx]at h5;rcases h5 with h5|h5
 ·omega
 ·have:=h5.1;omega
def azj{c:av}(h:Pk c)(E:kX c.config.ay c.spare=true)(he:c.spare.bP=c.config.bP)(hm:aK c.config.mapping.order 0 2=true){l:Int}(h0:0<=l)(hl:l<dK (dW c.config.ay c.spare)):vI c l=some (fl c l,true)/\dL c.config.ay (fl c l)=true:=by
 obtain⟨T,U,Y,Z,s1,s2,s3,s4⟩:=Me E;obtain⟨m1,m3⟩:=ajH Y hm h0 hl;obtain⟨_,C,D,I,J,b5,b6⟩:=r6 m3;rw[Z]at D;have gb:=fA U;have hb:=eY c.config.ay;have er:(dW c.config.ay c.spare).rows=c.config.ay.rows-c.spare.bP:=by rw[T]
 have ec:(dW c.config.ay c.spare).aN=c.config.ay.aN:=by rw[T]
 rw[er]at J;rw[ec]at b6;obtain⟨k1,k2,k3⟩:=ajI E ⟨C,D⟩ ⟨I,J⟩;have hmul:=vM C D I J;have hM:=Rr (a:=aT c.config.ay) (b:=c.config.ay.rows-c.spare.bP) (A:=8) (B:=16) hb.1 hb.2 (by omega) (by omega);unfold fl;generalize hA:ye (dW c.config.ay c.spare) c.config.mapping l=A at *
 dsimp only;refine⟨?_,vL U C D k2 k3 b5 b6⟩;unfold vI;rw[Y5,au,m1,au];dsimp only;rw[bB,aq];unfold Ye xI;have hx:QO (dW c.config.ay c.spare) A.ax A.row=some true:=by
  unfold QO;rw[YD,au,vL (a:=⟨A.ax,A.row,0⟩) Y C (by rw[Z];exact D) I (by rw[er];exact J) (Int.le_refl 0) (by rw[ec];show (0:Int)<_;omega)]
 obtain⟨b,hbN⟩:=fy C;obtain⟨r,hrN⟩:=fy I;obtain⟨R,hR⟩:=fy (show 0<=c.config.ay.rows-c.spare.bP by omega);obtain⟨bn,hn⟩:=fy hb.1;have O:c.spare.map.length=bn*R:=by
  simp only[kX,aM,fz]at E;have:=E.2.1;rw[hR,hn,bu,bu]at this
  exact_mod_cast this
 have L:b<bn:=by omega
 have Q:r<R:=by omega
 have dZ:=AG (R:=R) L (show r+1<=R from Q);have azk:=AG (R:=R) L (eB R);have hi:b*R+r<c.spare.map.length:=by omega
 rw[Y5,au,hx,au,bB,aq,hbN,aiU hR (by omega) (by omega) L O,au];have ht:((c.spare.map.take ((b+1)*R)).drop (b*R))=gN c.spare.map R b:=rfl;have me:(gN c.spare.map R b).length=R:=C2 (by rw[O];exact iN R L);have hgx:(gN c.spare.map R b)[r]?=some c.spare.map[b*R+r]:=by rw[F3,List.getElem?_take_of_lt Q,List.getElem?_drop,bO hi]
 have hgy:(gN c.spare.map R b)[r]'(by omega)=c.spare.map[b*R+r]:=by
  have:=bO (l:=gN c.spare.map R b) (i:=r) (by omega);rw[hgx]at this;injection this with this;exact this.symm
 dsimp only;rw[iP (by rw[gH];omega),iP (by rw[gH,O];omega),cr,ak,hrN,az ⟨by omega,by rw[ht,me,bu];exact Q⟩];simp only[bu,ht,hgy,au];rw[hR,<-Int.natCast_mul,<-Int.natCast_add,bu,en,bO hi,Option.getD_some]
def azl{c:av}(h:Pk c)(I:kX c.config.ay c.spare=true)(Y:c.spare.bP=c.config.bP)(J:aK c.config.mapping.order 0 2=true){l:Int}(L:0<=l)(hl:l<dK (dW c.config.ay c.spare)):xz c l=some (fl c l):=by
 obtain⟨C,Z,O,eb,s1,s2,s3,s4⟩:=Me I;obtain⟨m1,m3⟩:=ajH O J L hl;have m2:=azi O J L hl;obtain⟨_,Q,D,T,E,b5,b6⟩:=r6 m3;rw[eb]at D;have gb:=fA Z;have hb:=eY c.config.ay;have er:(dW c.config.ay c.spare).rows=c.config.ay.rows-c.spare.bP:=by rw[C]
 have ec:(dW c.config.ay c.spare).aN=c.config.ay.aN:=by rw[C]
 rw[er]at E;rw[ec]at b6;obtain⟨U,k2,k3⟩:=ajI I ⟨Q,D⟩ ⟨T,E⟩;have hmul:=vM Q D T E;have hM:=Rr (a:=aT c.config.ay) (b:=c.config.ay.rows-c.spare.bP) (A:=8) (B:=16) hb.1 hb.2 (by omega) (by omega);unfold fl;generalize hA:ye (dW c.config.ay c.spare) c.config.mapping l=A at *
 dsimp only;unfold xz xI;have hw:W6 (c.config.ay.rows-c.config.bP)=c.config.ay.rows-c.spare.bP:=by rw[<-Y];exact aR
 have hw1:W6 (A.ax*(c.config.ay.rows-c.spare.bP))=A.ax*(c.config.ay.rows-c.spare.bP):=aR;have hw2:W6 (A.ax*(c.config.ay.rows-c.spare.bP)+A.row)=A.ax*(c.config.ay.rows-c.spare.bP)+A.row:=aR;simp only[hw];rw[<-C,m2,au];simp only[hw1,hw2];rw[az ⟨hmul.2.1,U⟩,en,bO U,Option.getD_some]
def Ga{c:eX}{p:dS}(hl:p.weights.length<1073741823)(h:lT c p=true):nY c=true/\oQ p=true:=by
 obtain⟨b,e,D⟩:=YY c p hl;have hb:b=true:=by
  rw[L6 c p hl]at e;injection e with e;rw[<-e,h]
 subst hb;have C:=D rfl;refine⟨C,?_⟩;unfold s7 at e;obtain⟨y,E⟩:=YX p.eK;simp only[RI,RK _ hl,E,au,C]at e;cases I:oQ p with
 |true=>rfl
 | false=>
  rw[I]at e;exact absurd e (by simp)
structure Pq (c:av):Prop where
 p:Pk c
 sp:kX c.config.ay c.spare=true
 se:c.spare.bP=c.config.bP
 mo:aK c.config.mapping.order 0 2=true
 q:∀r∈c.queue,(0<=r.line/\r.line<dK (dW c.config.ay c.spare))/\(0<=r.dB/\r.dB<=3)/\(0<=r.at_/\r.at_<=1000000)
 ql:c.queue.length<=12
 pe:∀a∈c.pending,dL c.config.ay a=true
 pl:c.pending.length<=128
 rf:eF c.aQ=true
 dl:(c.aQ.aJ.length:Int)=aT c.config.ay
 sh:gF c.shares=true
 shl:c.shares.length=4
 dr:jS c.drain=true
 pw:gR c.bh=true
 ps:c.bh.state=c.aY.bh
 nw:0<=c.now/\c.now<=1000000
 cap:0<=c.box.bU.cap/\c.box.bU.cap<=100000
 eA:xX c.box.bU.eA=true
def Pq.of{c:av}(D:c8 c)(h:dA c=true):Pq c:=by
 have J:=Pk.of D h;have z1:c.box.bU.weights.length<=1048576:=D.1.1;simp only[dA,aM]at h;obtain⟨L,h2,O,h4,h5,h6,Q,T,C,E,U,I,Y,Z,kN,jL,pF,rm,rq,uT,wo,wq⟩:=h;obtain⟨f1,f2⟩:=Ga (by omega) L;simp only[nY,aM]at f1;simp only[oQ,aM]at f2;obtain⟨f3,f4,f5,f6,f7,f8,f9⟩:=f2;simp only[tj,aM,fz,gy,od,cE,eV]at C;obtain⟨C,g1,g2,g3,g4,g5,g6⟩:=C;simp only[iJ,aM,cE,eV,gf]at E;obtain⟨q1,q2⟩:=E;have Pr:c.shares.length=4:=by
  have I:(c.shares.length:Int)=4:=by simpa using I
  omega
 refine⟨J,Q,by simpa using T,f1.2.2.1,λr hr=>?_,by omega,λa ha=>?_,by omega,C,g1,U,Pr,Y,Z,by simpa using kN,bx.1 O,bx.1 f4,f9⟩
 ·obtain⟨i,hi,rfl⟩:=ju.1 hr;have hb:=q1 i hi;unfold r9 at hb;rw[bO hi]at hb;simp only[qa,aM,gf]at hb;obtain⟨⟨k1,k2,k3,k4,k5,k6,k7⟩,_⟩:=hb;exact⟨⟨k3,k4⟩,bx.1 k2,bx.1 k7⟩
 ·obtain⟨i,hi,rfl⟩:=ju.1 ha;have hb:=g6 i hi;unfold AI at hb;rw[bO hi]at hb;simp only[aM]at hb;exact hb.1
def vY(r:cM)(a:aL):Bool:=(js r a.ax).open_&&((js r a.ax).row==a.row)
def qb(r:cM)(a:aL)(w:Bool):aH:=
 bif !(js r a.ax).open_ then ⟨1,a.ax,a.row,0⟩else bif (js r a.ax).row != a.row then ⟨4,a.ax,0,0⟩else bif w then ⟨3,a.ax,0,a.bR⟩else ⟨2,a.ax,0,a.bR⟩
def AQ{r:cM}{b:Int}(h:b.toNat<r.aC.length):js r b=r.aC[b.toNat]:=by
 unfold js;rw[en,bO h];rfl
def Mf{b:Int}{n:Nat}(C:0<=b)(h:b.toNat<n)(D:n<=1048576):aK b 0 (W6 ((n:Int)-1))=true:=by
 rw[aR];exact bx.2 ⟨C,by omega⟩
def R9{r:cM}{a:aL}(w:Bool)(C:0<=a.ax)(h:a.ax.toNat<r.aC.length)(hl:r.aC.length<=1048576):xO r a w=some (qb r a w):=by
 unfold xO qb xI;rw[dJ,au,Mf C h hl,bB,aq,az ⟨C,h⟩,AQ h];dsimp only;cases r.aC[a.ax.toNat].open_ with
 |false=>rfl
 | true=>
  rw[bB,aq,az ⟨C,h⟩,aq];cases r.aC[a.ax.toNat].row != a.row<;>cases w<;>rfl
def ajJ:Ae=xO:=rfl
def ajK{r:cM}{b:Int}(C:0<=b)(h:b.toNat<r.aC.length)(hl:r.aC.length<=1048576):Lx r b=some (bif (js r b).open_ then (js r b).row else -1):=by
 unfold Lx xI;rw[dJ,au,Mf C h hl,bB,aq,az ⟨C,h⟩,AQ h];dsimp only;cases r.aC[b.toNat].open_ with
 |false=>rfl
 |true=>rw[bB,aq,az ⟨C,h⟩];rfl
def azm:PX=Lx:=rfl
def azn{r:cM}{a:aL}(D:0<=a.row)(C:0<=a.ax)(h:a.ax.toNat<r.aC.length)(hl:r.aC.length<=1048576):FQ r a=some (vY r a):=by
 unfold FQ vY;rw[fY (by omega:¬ a.row = -1),ak,ajK C h hl,au];cases (js r a.ax).open_ with
 |false=>rw[aq,fP (by omega:¬ (-1:Int)=a.row)];rfl
 |true=>rfl
def ajL{r:cM}{a:aL}(D:0<=a.row)(C:0<=a.ax)(h:a.ax.toNat<r.aC.length)(hl:r.aC.length<=1048576):JW r a=some (vY r a):=by
 unfold JW vY;rw[azm,ajK C h hl,au,au];cases (js r a.ax).open_ with
 |false=>rw[aq,fP (by omega:¬ (-1:Int)=a.row)];rfl
 | true=>
  rw[ak,cr];by_cases e:(js r a.ax).row=a.row
  ·rw[e,kM,ak,fY (by omega:¬ a.row = -1)]
  ·rw[fP e];rfl
def azo{g:aO}{r:cM}{a:aL}(w:Bool)(h:dL g a=true):dP g (qb r a w)=true:=by
 obtain⟨I,J,Q,L,T,O,U⟩:=r6 h;have C:aK a.ax 0 (aT g-1)=true:=bx.2 ⟨J,by omega⟩;have D:aK a.row 0 (g.rows-1)=true:=bx.2 ⟨L,by omega⟩;have E:aK a.bR 0 (g.aN-1)=true:=bx.2 ⟨O,by omega⟩;unfold qb dP qX;cases (js r a.ax).open_<;>cases (js r a.ax).row != a.row<;>cases w<;>simp[I,aK,C,D,E]<;>simp only[aK,aM,gf]at C D E<;>omega
def AR{g:aO}{k b:Int}(C:cD g=true)(D:k=4\/k=5)(hb:0<=b/\b<aT g):dP g ⟨k,b,0,0⟩=true:=by
 have E:aK b 0 (aT g-1)=true:=bx.2 ⟨hb.1,by omega⟩;unfold dP qX;rcases D with rfl|rfl<;>simp[C,aK]<;>simp only[aK,aM,gf]at E<;>omega
def azp{g:aO}{a:aL}(h:dL g a=true):dP g ⟨1,a.ax,a.row,0⟩=true:=by
 obtain⟨C,D,E,I,J,L,O⟩:=r6 h;unfold dP qX;simp[C,aK];omega
def Sa{g:aO}{k:Int}(C:cD g=true)(D:6<=k/\k<=9):dP g ⟨k,0,0,0⟩=true:=by
 obtain⟨n,rfl⟩:=fy (show 0<=k by omega);have:n=6\/n=7\/n=8\/n=9:=by omega
 unfold dP;rw[C];rcases this with rfl|rfl|rfl|rfl<;>rfl
def ZD(l:aa aL)(b:Int)(hl:l.length<=1048576):CO l b=some (l.any λa=>a.ax==b):=by
 have E:=uE (λa:aL=>a.ax==b) l;unfold CO Ys Yr;rw[L9];have e:=cL (step:=FO) (c9 (λa:aL=>a.ax==b) l) (λi=>((l,b,(l.length:Int),(i:Int),()),())) (if c9 (λa:aL=>a.ax==b) l<l.length then .inl ((((c9 (λa:aL=>a.ax==b) l:Nat):Int),()),())else .inr (.inl ((),()))) aS (λk h=>by
  have D:=ny h (by omega);unfold FO aA bq xG xI;dsimp only;rw[aP,ak,az ⟨by omega,by omega⟩];simp only[bu];rw[D,aq,bI]) (by
  by_cases C:c9 (λa:aL=>a.ax==b) l<l.length
  ·have D:=qY C;unfold FO aA bq xG xI;dsimp only;rw[aP,ak,az ⟨by omega,by omega⟩];simp only[bu];rw[D,ak,br C]
  ·unfold FO aA bq xG xI;dsimp only;rw[aW,aq,bE C]) (bM)
 rw[bT]at e;rw[e];by_cases C:c9 (λa:aL=>a.ax==b) l<l.length
 ·rw[br C,aP C];simp
 ·rw[bE C,aW C];rfl
def qc(t:cx)(row:Int):aj Nat:=match t.rows.findIdx? (λe=>e==row)with
 |some i=>some i
 |none=>t.counts.findIdx? (λe=>e==t.c7)
def ji(t:cx)(row:Int):cx:=match t.rows.findIdx? (λe=>e==row)with
 |some i=>⟨t.rows,t.counts.set i (t.counts.getD i 0+1),t.c7⟩
 | none=>match t.counts.findIdx? (λe=>e==t.c7)with
  |some i=>⟨t.rows.set i row,t.counts.set i (t.c7+1),t.c7⟩
  |none=>⟨t.rows,t.counts,t.c7+1⟩
def tD(t:cx)(row di:Int):cx×Bool:=bif jf t&&(aK row 0 15&&aK di 2 1000)then (bif jf (ji t row)then (ji t row,match qc t row with
    |some i=>((ji t row).counts.getD i 0).tmod di==0
    |none=>false)else (t,false))else (t,false)
structure Tk (t:cx):Prop where
 rl:t.rows.length<=16
 cl:t.counts.length=t.rows.length
 sp:0<=t.c7/\t.c7<=100000
 cs:∀i (h:i<t.counts.length),0<=t.counts[i]/\t.counts[i]<=100000
def Tk.of{t:cx}(h:jf t=true):Tk t:=by
 simp only[jf,aM,fz,cE,eV]at h;obtain⟨D,I,C,E⟩:=h;have D:=bx.1 D;have C:=bx.1 C
 refine⟨by omega,by omega,C,λi hi=>?_⟩
 have hb:=E i (by omega);rw[RR (by omega) hi,aM,aM]at hb;have:=bx.1 hb.2.1;omega
def Mg{T:Type}{p:T->Bool}{l:aa T}{i:Nat}(h:l.findIdx? p=some i):∃ hi:i<l.length,p l[i]=true:=by
 obtain⟨hi,C,_⟩:=l5.1 h;exact⟨hi,C⟩
def azq{t:cx}(h:Tk t)(row:Int):Pn t row=some ((match qc t row with | some i=>(i:Int) | none=>-1),(ji t row,())):=by
 have L:=h.rl;have O:=h.cl;have E:=vR (step:=Jt) t.rows (λe=>e==row) (λi=>(((),row,(i:Int),()),(((),(),t.c7,()),t.rows,t.counts,()))) (λi=>.inl (((i:Int),()),(((),(),t.c7,()),t.rows,t.counts.set i (t.counts.getD i 0+1),()))) (.inr (.inl (((),row,()),(((),(),t.c7,()),t.rows,t.counts,())))) aS (λk D=>by
  have C:k<t.counts.length:=by omega
  have I:=h.cs k C;unfold Jt aA bq xG xL;dsimp only;rw[aP,ak,az ⟨by omega,by omega⟩,az];simp only[bu];cases t.rows[k]==row with
  |false=>rw[aq,aq,bI]
  | true=>
   rw[ak,ak,az ⟨by omega,C⟩,az C,az ⟨by omega,C⟩,az C,aR (n:=t.counts[k]+1),en,bO C];rfl) (by
  unfold Jt aA bq xG xL;dsimp only;rw[aW,aq]) (bM)
 have J:=vR (step:=Ju) t.counts (λe=>e==t.c7) (λi=>(((),row,(i:Int),()),(((),(),t.c7,()),t.rows,t.counts,()))) (λi=>.inl (((i:Int),()),(((),(),t.c7,()),t.rows.set i row,t.counts.set i (t.c7+1),()))) (.inr (.inl (((),()),(((),(),t.c7,()),t.rows,t.counts,())))) aS (λk D=>by
  have C:k<t.rows.length:=by omega
  have I:=h.sp;unfold Ju aA bq xG xL;dsimp only;rw[aP,ak,az ⟨by omega,by omega⟩,az];simp only[bu];cases t.counts[k]==t.c7 with
  |false=>rw[aq,aq,bI]
  |true=>rw[ak,ak,az ⟨by omega,C⟩,az C,az ⟨by omega,D⟩,az D,aR (n:=t.c7+1)]) (by
  unfold Ju aA bq xG xL;dsimp only;rw[aW,aq]) (bM)
 have Q:=h.sp;unfold Pn qc ji cc
 refine(bF (λo=>Option.bind o _) E).trans ?_
 rw[au];cases T:t.rows.findIdx? (λe=>e==row)with
 |some i=>rfl
 | none=>
  simp only[dY,Sum.elim_inr]
  refine(bF (λo=>Option.bind o _) J).trans ?_
  rw[au];cases U:t.counts.findIdx? (λe=>e==t.c7)with
  |some i=>rfl
  | none=>
   simp only[dY,Sum.elim_inr];rw[aR (n:=t.c7+1)]
def ZE{t:cx}(row:Int):(ji t row).rows.length=t.rows.length/\(ji t row).counts.length=t.counts.length:=by
 unfold ji;cases t.rows.findIdx? (λe=>e==row)with
 |some i=>simp
 | none=>
  cases t.counts.findIdx? (λe=>e==t.c7)with
  |some i=>simp
  |none=>simp
def ajM{t:cx}(h:Tk t){row:Int}{i:Nat}(hi:qc t row=some i):i<t.counts.length:=by
 have:=h.cl;unfold qc at hi;split at hi
 next j C=>injection hi with hi;subst hi;obtain⟨D,_⟩:=Mg C;omega
 ·exact(Mg hi).1
def ajN(t:cx)(D:kE t)(row di:Int):Jv t row di=some (tD t row di):=by
 unfold Jv tD xL;rw[ajt t D,au,aiQ,au];cases E:jf t with
 |false=>rfl
 | true=>
  have C:=Tk.of E;rw[bB,aq,eJ,au,cr];cases L:aK row 0 15 with
  |false=>rfl
  | true=>
   rw[bB,aq,eJ,au,cr];cases I:aK di 2 1000 with
   |false=>rfl
   | true=>
    have hl:=bx.1 I;rw[bB,aq,ak,azq C,au,aiQ,au];dsimp only;cases O:jf (ji t row)with
    | false=>
     rw[gU,ak,au,aq]
    | true=>
     rw[bB,aq,ak];cases J:qc t row with
     |none=>rfl
     | some i=>
      have hi:i<(ji t row).counts.length:=by rw[(ZE row).2];exact ajM C J
      dsimp only;simp only[bu];rw[aP,ak,az ⟨by omega,hi⟩,az hi,bE,en,bO hi];rfl
def azr(t:cx)(hz:kE t)(row di:Int):QV t row di=some (tD t row di):=by
 have sw:∀x:Int,(λe:Int=>x==e)=λe=>e==x:=λx=>funext λe=>by rw[Bool.eq_iff_iff,fz,fz];exact eq_comm
 unfold QV tD xL;rw[Zl t hz,au,Y2,au];dsimp only;cases ht:jf t with
 |false=>rfl
 | true=>
  have L:=Tk.of ht;have r1:=L.rl;have r2:=L.cl;have uW:=L.sp;rw[bB,aq,dJ,au,cr];cases h1:aK row 0 15 with
  |false=>rfl
  | true=>
   rw[bB,aq,dJ,au,cr];cases h2:aK di 2 1000 with
   |false=>rfl
   | true=>
    have hl:=bx.1 h2;rw[bB,aq,ak,RQ _ _ (by omega),au,sw row];have Y:∀ (E:Int) (D:cx),D=ji t row->(E=match qc t row with | some i=>(i:Int) | none=>-1)->
      ((At D).bind λlR=>bif (!lR)then ((some t).bind λuv=>some (uv,false))else (bif (decide (E >= (0:Int)))then if yP:0<=E/\E.toNat<D.counts.length then if GS:E.toNat<D.counts.length then (if di=0 then none else some (D,(D.counts[E.toNat]'GS).tmod di==(0:Int)))else none else none else some (D,false)))=some (bif jf (ji t row)then (ji t row,match qc t row with
        |some i=>((ji t row).counts.getD i 0).tmod di==0
        |none=>false)else (t,false)):=by
     intro E D O e2;subst O;rw[Y2,au];cases h3:jf (ji t row)with
     |false=>rfl
     | true=>
      rw[bB,aq,ak,e2];cases h4:qc t row with
      |none=>rfl
      | some i=>
       have hi:i<(ji t row).counts.length:=by rw[(ZE row).2];exact ajM L h4
       simp only[bu];rw[aP,ak,az ⟨by omega,hi⟩,az hi,bE,en,bO hi];rfl
    cases C:t.rows.findIdx? (λe=>e==row)with
    | some i=>
     obtain⟨hi,_⟩:=Mg C;have J:i<t.counts.length:=by omega
     have hc:=L.cs i J;have Q:qc t row=some i:=by unfold qc;rw[C]
     have T:ji t row=⟨t.rows,t.counts.set i (t.counts[i]+1),t.c7⟩:=by unfold ji;simp only[C];rw[en,bO J];rfl
     have O:gG (λe=>e==row) t.rows=(i:Int):=by unfold gG;rw[C]
     rw[O,aW,aq];simp only[bu];rw[aP,ak,az ⟨by omega,J⟩,az J,az ⟨by omega,J⟩,az J];have U:W6 (t.counts[i]+1)=t.counts[i]+1:=aR;simp only[U];exact Y (i:Int) ⟨t.rows,t.counts.set i (t.counts[i]+1),t.c7⟩ T.symm (by rw[Q])
    | none=>
     have O:gG (λe=>e==row) t.rows = -1:=by unfold gG;rw[C]
     rw[O,aP,ak,RQ _ _ (by omega),au,sw t.c7];cases I:t.counts.findIdx? (λe=>e==t.c7)with
     | some i=>
      obtain⟨hi,Z⟩:=Mg I;have hir:i<t.rows.length:=by omega
      have Z:t.counts[i]=t.c7:=by simpa using Z
      have Q:qc t row=some i:=by unfold qc;rw[C];exact I
      have T:ji t row=⟨t.rows.set i row,t.counts.set i (t.c7+1),t.c7⟩:=by unfold ji;rw[C];simp only[I]
      have e3:gG (λe=>e==t.c7) t.counts=(i:Int):=by unfold gG;rw[I]
      rw[e3];simp only[bu];rw[aP,ak,az ⟨by omega,hir⟩,az hir,ak,az ⟨by omega,hi⟩,az hi,az ⟨by omega,hi⟩,az hi];have U:W6 (t.c7+1)=t.c7+1:=aR;simp only[Z,U];exact Y (i:Int) ⟨t.rows.set i row,t.counts.set i (t.c7+1),t.c7⟩ T.symm (by rw[Q])
     | none=>
      have Q:qc t row=none:=by unfold qc;rw[C];exact I
      have T:ji t row=⟨t.rows,t.counts,t.c7+1⟩:=by unfold ji;rw[C];simp only[I]
      have e3:gG (λe=>e==t.c7) t.counts = -1:=by unfold gG;rw[I]
      have U:W6 (t.c7+1)=t.c7+1:=aR;rw[e3,aW,aq,aq];simp only[U];exact Y (-1) ⟨t.rows,t.counts,t.c7+1⟩ T.symm (by rw[Q])
def uJ(k:Int):cx:=⟨List.replicate k.toNat (-1),List.replicate k.toNat 0,0⟩
def azs{k:Int}(h:aK k 1 16=true):QZ k=some (uJ k,true):=by
 have hb:=bx.1 h;unfold QZ;have e:B8 ([(-1:Int)]:aa Int) k=some (List.replicate k.toNat (-1)):=by
  unfold B8;rw[aP hb.1,aP hb.2];rfl
 rw[dJ,au,h,bB,aq,e,au,br ⟨by omega,Int.le_refl _,by omega⟩];rfl
def azt{k:Int}(h:aK k 1 16=true):EP k=some (uJ k,true):=by
 have hb:=bx.1 h;obtain⟨n,rfl⟩:=fy (show 0<=k by omega);unfold EP;rw[eJ,au,h,bB,aq,ajd n (by omega),au,br ⟨by omega,Int.le_refl _,by omega⟩];rfl
def vZ(r:cZ)(b:Int):cZ:=bif decide (r.aJ.getD b.toNat 0 = -2)then r else ⟨r.aJ.set b.toNat (r.aJ.getD b.toNat 0-1),r.wait,r.dN⟩
def Mh{r:cZ}(h:eF r=true):∀ x∈r.aJ,-2<=x/\x<=5:=by
 simp only[eF,aM,cE,uz]at h;exact λx C=>bx.1 (h.1 x C)
def ajO{α β:Type}{o:aj (α×β)}{a:α}(h:o.map Prod.fst=some a):∃ b,o=some (a,b):=by
 cases o with
 |none=>cases h
 | some x=>
  obtain⟨D,C⟩:=x;injection h with h;exact⟨C,by rw[<-h]⟩
def azu{r:cZ}(h:eF r=true){b:Int}(D:0<=b)(C:b.toNat<r.aJ.length):∃ y,Pw r b=some (vZ r b,y):=by
 have hl:=n7 h;have J:=Mh h _ (cO C);have I:r.aJ.getD b.toNat 0=r.aJ[b.toNat]:=by rw[en,bO C];rfl
 unfold Pw Ce vZ xI xL xA xZ;rw[cP (by simp;omega),ak,au,RL _ (by omega),au,h,bB,aq,eJ,au,Mf D C (by omega),bB,aq,az ⟨D,C⟩,I];dsimp only;by_cases E:r.aJ[b.toNat] = -2
 ·rw[aP (show r.aJ[b.toNat] <= -2 by omega),aP E];exact⟨_,rfl⟩
 ·rw[aW (show ¬ r.aJ[b.toNat] <= -2 by omega),aW E,aq,aq,jH,az ⟨D,C⟩,az ⟨D,C⟩,az C,aR (n:=r.aJ[b.toNat]-1)];exact⟨_,rfl⟩
def azv{r:cZ}(h:eF r=true){b:Int}(D:0<=b)(C:b.toNat<r.aJ.length):∃ y,Q0 r b=some (vZ r b,y):=by
 have hl:=n7 h;have J:=Mh h _ (cO C);have I:r.aJ.getD b.toNat 0=r.aJ[b.toNat]:=by rw[en,bO C];rfl
 unfold Q0 CJ vZ xI xL xA xZ;rw[cP (by simp;omega),ak,au,LS _ (by omega),au,h,bB,aq,dJ,au,Mf D C (by omega),bB,aq,az ⟨D,C⟩,I];dsimp only;by_cases E:r.aJ[b.toNat] = -2
 ·rw[aP E,show (r.aJ[b.toNat] == -2)=true by rw[E];rfl];exact⟨_,rfl⟩
 ·rw[fP E,aW E,aq,aq,jH,az ⟨D,C⟩,az C,az ⟨D,C⟩,az C,aR (n:=r.aJ[b.toNat]-1)];exact⟨_,rfl⟩
def yf(p:eT)(k now:Int):eT:=bif gR p&&aK now p.since 1000000 then
 (bif (k==6)&&(p.state==0)then ⟨1,now,p.idle⟩else bif (k==8)&&(p.state==0)then ⟨2,now,p.idle⟩else bif (k==7)&&(p.state==1)then ⟨0,now,p.idle⟩else bif (k==9)&&(p.state==2)then ⟨0,now,p.idle⟩else p)else p
def Sb(p:eT){k:Int}(C:6<=k/\k<=9)(now:Int):∃ y,Rb p k now=some (yf p k now,y):=by
 refine ajO ?_;unfold Rb yf;rw[RN,au];cases gR p with
 |false=>rfl
 | true=>
  rw[bB,aq,dJ,au];cases aK now p.since 1000000 with
  |false=>rfl
  | true=>
   have:k=6\/k=7\/k=8\/k=9:=by omega
   rcases this with rfl|rfl|rfl|rfl
   ·cases h:p.state==0<;>simp[bne,h]
   ·cases h:p.state==1<;>simp[bne,h]
   ·cases h:p.state==0<;>simp[bne,h]
   ·cases h:p.state==2<;>simp[bne,h]
def Sc(p:eT){k:Int}(C:6<=k/\k<=9)(now:Int):∃ y,PN p k now=some (yf p k now,y):=by
 refine ajO ?_;unfold PN yf;simp only[Y1,au,eJ];have:k=6\/k=7\/k=8\/k=9:=by omega
 rcases this with rfl|rfl|rfl|rfl
 ·cases gR p<;>cases aK now p.since 1000000<;>cases h:p.state==0<;>simp[bne,h]
 ·cases gR p<;>cases aK now p.since 1000000<;>cases h:p.state==1<;>simp[bne,h]
 ·cases gR p<;>cases aK now p.since 1000000<;>cases h:p.state==0<;>simp[bne,h]
 ·cases gR p<;>cases aK now p.since 1000000<;>cases h:p.state==2<;>simp[bne,h]
def ajP{α β T:Type}{step:α->aj (α⊕β)}(p:T->Bool)(S:Nat->Nat->aa T->α)(Z:Nat->aa T->β)
  (hs:∀i j s (E:j<s.length),i<=j->j<1073741824->step (S i j s)=some (.inl (bif p s[j]then S i (j+1) s else S (i+1) (j+1) (s.set i s[j]))))
  (hz:∀i s,i<=s.length->step (S i s.length s)=some (.inr (Z i s))):
  ∀(n i j fuel:Nat) (s:aa T),j+n=s.length->i<=j->s.length<1073741824->n<fuel->∃C D,iter step fuel (S i j s)=some (Z D C)/\C.length=s.length/\D<=s.length/\C.take D=s.take i++(s.drop j).filter (λx=>!p x):=by
 intro n
 induction n with
 | zero=>
  intro i j fuel s hn hi hl hf;obtain⟨f,rfl⟩:∃f,fuel=f+1:=⟨fuel-1,by omega⟩
  have ej:j=s.length:=by omega
  subst ej;refine⟨s,i,?_,rfl,hi,by simp⟩;unfold iter;rw[hz i s hi]
 | succ n Q=>
  intro i j fuel s hn hi hl hf;obtain⟨f,rfl⟩:∃f,fuel=f+1:=⟨fuel-1,by omega⟩
  have E:j<s.length:=by omega
  unfold iter;rw[hs i j s E hi (by omega)];have U:s.drop j=s[j]::s.drop (j+1):=List.drop_eq_getElem_cons E;cases Y:p s[j]with
  | true=>
   obtain⟨C,D,I,J,L,O⟩:=Q i (j+1) f s (by omega) (by omega) hl (by omega);refine⟨C,D,I,J,L,?_⟩;rw[O,U,List.filter_cons_of_neg (by simp[Y])]
  | false=>
   obtain⟨C,D,I,J,L,O⟩:=Q (i+1) (j+1) f (s.set i s[j]) (by simp;omega) (by omega) (by simp;omega) (by omega);refine⟨C,D,I,by simpa using J,by simpa using L,?_⟩;rw[O,U,List.filter_cons_of_pos (by simp[Y]),List.drop_set_of_lt (by omega),List.take_add_one,List.getElem?_set_self (by omega),List.take_set_of_le (by omega)];simp
end Go.Proofs.YtglnbhiaknohlaaGreat
