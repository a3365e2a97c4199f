/-
  Plain laws. Nothing here is a claim.
-/
import Derived.Test.YtgjfmljpdnnihaaGreatVZ
import Derived.Test.YtgjfmljpdnnihaaGreatOpenV
import Derived.Test.YtgjfmljpdnnihaaGreatG1
import Derived.Test.YtgjfmljpdnnihaaGreatG2
import Derived.Test.YtgjfmljpdnnihaaGreatG3
import Derived.Test.YtgjfmljpdnnihaaGreatG4
import Derived.Test.YtgjfmljpdnnihaaGreatG5
import Derived.Test.YtgjfmljpdnnihaaGreatG6
import Derived.Test.YtgjfmljpdnnihaaGreatG7
import Derived.Test.YtgjfmljpdnnihaaGreatG8
import Derived.Test.YtgjfmljpdnnihaaGreatGX
namespace Go.Proofs.YtgjfmljpdnnihaaGreat
set_option linter.defProp false
open Go.RowKit
set_option linter.unusedVariables false
set_option linter.unusedSimpArgs false
set_option maxRecDepth 100000
def aV{n:Int}(C:-9223372036854775808<=n:=by omega)(D:n<9223372036854775808:=by omega):W6 n=n:=by
 exact(IntKind.wrap_i64 n).trans (by omega)
def ah5{α β:Type}{step:α -> aj (α⊕β)}(I:α -> Prop)(m:α -> Nat)(Q:β -> Prop)
  (h:∀x,I x -> (∃y,step x=some (.inl y)/\I y/\m y<m x) \/ ∃z,step x=some (.inr z)/\Q z):
  ∀(n:Nat) (x:α),I x -> m x<n -> ∃z,iter step n x=some z/\Q z
 |0,x,_,E=>by omega
 | n+1,x,L,E=>by
  unfold iter;rcases h x L with ⟨y,C,D,O⟩|⟨z,C,D⟩
  ·rw[C];exact ah5 I m Q h n y D (by omega)
  ·simp_all
def ak{α β:Type}(x:α)(f:α->aj β):(some x).bind f=f x:=rfl
def fN{α β T:Type}{step:α -> aj (α⊕β)}(l:aa T)(q:T -> Bool)(S:Nat -> α)(D z:β)(fuel:Nat)(I:∀ k (h:k<l.length),step (S k)=some (bif q l[k]then .inl (S (k+1))else .inr D))(L:step (S l.length)=some (.inr z))(C:l.length<fuel):
  iter step fuel (S 0)=some (bif l.all q then z else D):=by
 have key:∀ (n i fuel:Nat),i+n=l.length -> n<fuel -> iter step fuel (S i)=some (bif (l.drop i).all q then z else D):=by
  intro n
  induction n with
  | zero=>
   intro i fuel hi C
   match fuel,C with
   | f+1,_=>
    have:i=l.length:=by omega
    subst this;unfold iter;simp_all
  | succ n O=>
   intro i fuel hi C
   match fuel,C with
   | f+1,C=>
    have E:i<l.length:=by omega
    unfold iter;rw[I i E,List.drop_eq_getElem_cons E,List.all_cons];cases q l[i]with
    |true=>grind
    |false=>rfl
 exact key l.length 0 fuel (by omega) C
def cD{α β:Type}{step:α -> aj (α⊕β)}(n:Nat)(S:Nat -> α)(z:β)(fuel:Nat)(E:∀ k,k<n -> step (S k)=some (.inl (S (k+1))))(D:step (S n)=some (.inr z))(C:n<fuel):iter step fuel (S 0)=some z:=by
 have key:∀ (m i fuel),i+m=n -> m<fuel -> iter step fuel (S i)=some z:=by
  intro m
  induction m with
  | zero=>
   intro i fuel hi C
   match fuel,C with
   | f+1,_=>
    have:i=n:=by omega
    subst this;unfold iter;rw[D]
  | succ m I=>
   intro i fuel hi C
   match fuel,C with
   | f+1,C=>
    unfold iter
    grind
 simp_all
def XS{α β:Type}{step:α -> aj (α⊕β)}(n:Nat)(I:Nat -> α -> Prop)(Q:β -> Prop){x:α}(fuel:Nat)(U:I 0 x)(E:∀ k,k<n -> ∀ x,I k x -> ∃ y,step x=some (.inl y)/\I (k+1) y)(L:∀ x,I n x -> ∃ z,step x=some (.inr z)/\Q z)(C:n<fuel):∃ z,iter step fuel x=some z/\Q z:=by
 have key:∀ (m i fuel:Nat) (x:α),i+m=n -> m<fuel -> I i x -> ∃ z,iter step fuel x=some z/\Q z:=by
  intro m
  induction m with
  | zero=>
   intro i fuel x hi C D
   match fuel,C with
   | f+1,_=>
    have:i=n:=by omega
    subst this;have⟨z,O,T⟩:=L x D;unfold iter;simp_all
  | succ m Y=>
   intro i fuel x hi C D
   match fuel,C with
   | f+1,C=>
    have⟨y,O,T⟩:=E i (by omega) x D;unfold iter
    grind
 grind
def XT{α β:Type}{step:α -> aj (α⊕β)}(n:Nat)(I:Nat -> α -> Prop)(Q:β -> Prop){x:α}(fuel:Nat)(E:I 0 x)(O:∀ k,k<n -> ∀ x,I k x -> (∃ y,step x=some (.inl y)/\I (k+1) y) \/ ∃ z,step x=some (.inr z)/\Q z)(L:∀ x,I n x -> ∃ z,step x=some (.inr z)/\Q z)(C:n<fuel):∃ z,iter step fuel x=some z/\Q z:=by
 have key:∀ (m i fuel:Nat) (x:α),i+m=n -> m<fuel -> I i x -> ∃ z,iter step fuel x=some z/\Q z:=by
  intro m
  induction m with
  | zero=>
   intro i fuel x hi C D
   match fuel,C with
   | f+1,_=>
    have:i=n:=by omega
    subst this;have⟨z,T,U⟩:=L x D;unfold iter;simp_all
  | succ m Y=>
   intro i fuel x hi C D
   match fuel,C with
   | f+1,C=>
    unfold iter
    grind
 exact key n 0 fuel x (by omega) C E
def upto{α:Type}(f:α->α)(l:aa α)(i:Nat):aa α:=(l.take i).map f++l.drop i
def K2{α:Type}(f:α->α)(l:aa α)(i:Nat):(upto f l i).length=l.length:=by
 simp[upto];omega
def ah6{α:Type}(f:α->α)(l:aa α):upto f l 0=l:=by simp[upto]
def QZ{α:Type}(f:α->α)(l:aa α):upto f l l.length=l.map f:=by simp[upto]
def Q0{α:Type}(f:α -> α)(l:aa α)(i:Nat)(h:i<l.length)(C:i<(upto f l i).length):(upto f l i)[i]=l[i]:=by
 simp[upto]
 grind
def Q1{α:Type}(f:α -> α)(l:aa α)(i:Nat)(h:i<l.length):(upto f l i).set i (f l[i])=upto f l (i+1):=by
 have C:min i l.length=i:=by omega
 have e:=List.drop_eq_getElem_cons h;simp only[upto];rw[List.set_append_right _ _ (by simp;omega),e,List.take_succ_eq_append_getElem h];simp only[kX,List.map_cons,List.map_nil,eI,fU,C,Nat.sub_self,List.set_cons_zero,List.append_assoc,List.cons_append,kY]
def jg{x y:Int}(h:¬ x=y):(x==y)=false:=by simp[h]
def fO{x y:Int}(h:¬ x=y):(x != y)=true:=by simp[h]
def cM{n:Nat}(h:n<1073741824:=by omega):bD n=true:=aQ h
def bz{i:Nat}(h:i<4611686018427387904:=by omega):W6 ((i:Int)+1)=((i+1:Nat):Int):=by
 rw[aV];simp
def bF{n:Nat}(h:n<1073741824:=by omega):n<aP:=by unfold aP;omega
def aN(x a b:Int):Bool:=decide (a<=x)&&decide (x<=b)
def bA{x a b:Int}:aN x a b=true ↔ a<=x/\x<=b:=by simp[aN]
def dR(x a b:Int):cB x a b=some (aN x a b):=by
 unfold cB aN;by_cases h:a<=x<;>simp[h]
def dN(x a b:Int):cy x a b=some (aN x a b):=dR x a b
def cw(g:aI):Bool:=aN g.bK 1 2&&aN g.aA 1 4&&aN g.rows 2 16&&aN g.aL 1 8
def rL(g:aI):oy g=some (cw g):=by
 unfold oy cw;simp[dR]
 grind
def Ax(g:aI):ue g=some (cw g):=by
 unfold ue cw;simp[dN]
 grind
def fe{g:aI}(h:cw g=true):1<=g.bK/\g.bK<=2/\1<=g.aA/\g.aA<=4/\2<=g.rows/\g.rows<=16/\1<=g.aL/\g.aL<=8:=by
 simp only[cw,aN,aO,fY]at h;omega
def aR(g:aI):Int:=bif cw g then g.bK*g.aA else 0
def dS(g:aI):0 <= aR g/\aR g <= 8:=by
 unfold aR;cases h:cw g with
 |false=>simp
 | true=>
  have⟨C,D,E,I,_⟩:=fe h;simp;rcases(by omega:g.bK=1 \/ g.bK=2)with e|e<;>rw[e]<;>omega
def K3{g:aI}(h:cw g=true):1 <= aR g:=by
 have⟨C,D,E,I,_⟩:=fe h;simp[aR,h,aq];rcases(by omega:g.bK=1 \/ g.bK=2)with e|e<;>rw[e]<;>omega
def mS(g:aI):mQ g=some (aR g):=by
 have hb:=dS g;unfold mQ;rw[rL,ak];unfold aR at hb ⊢;cases h:cw g with
 |false=>rfl
 | true=>
  rw[h]at hb;simp at hb;simp;rw[aV]
def me(g:aI):kP g=some (aR g):=by
 have hb:=dS g;unfold kP;rw[Ax,ak];unfold aR at hb ⊢;cases h:cw g with
 |false=>rfl
 | true=>
  rw[h]at hb;simp at hb;simp;rw[aV]
def fP(g:aI):Int:=bif cw g then aR g*g.rows else 0
def ez(g:aI):Int:=bif cw g then aR g*g.rows*g.aL else 0
def Q2{a b A B:Int}(D:0<=a)(E:a<=A)(C:0<=b)(I:b<=B):0<=a*b/\a*b<=A*B:=
 ⟨Int.mul_nonneg D C,Int.le_trans (Int.mul_le_mul_of_nonneg_right E C) (Int.mul_le_mul_of_nonneg_left I (by omega))⟩
def qm(g:aI):0 <= fP g/\fP g <= 128:=by
 unfold fP;cases h:cw g with
 |false=>simp
 | true=>
  have⟨_,_,_,_,D,C,_⟩:=fe h;have:=dS g;exact Q2 this.1 this.2 (by omega) C
def mT(g:aI):0 <= ez g/\ez g <= 1024:=by
 have C:=qm g;unfold ez fP at *
 cases h:cw g with
 |false=>simp
 | true=>
  rw[h]at C;have⟨_,_,_,_,E,I,L,D⟩:=fe h;exact Q2 C.1 C.2 (by omega) D
def XU(g:aI):zO g=some (ez g):=by
 have C:=mT g;have D:=qm g;unfold zO;rw[mS,ak];unfold ez fP at *
 cases h:cw g with
 |false=>simp only[aR,h,au,Int.zero_mul];rw[show W6 0=0 from rfl,Int.zero_mul];rfl
 | true=>
  rw[h]at C D;simp only[aq]at C D;simp only[aq];rw[aV (n:=aR g*g.rows),aV]
def xR(g:aI):qi g=some (ez g):=by
 have C:=mT g;have D:=qm g;unfold qi;rw[Ax,ak,me,ak];unfold ez fP at *
 cases h:cw g with
 |false=>rfl
 | true=>
  rw[h]at C D;simp at C D;simp;rw[aV (n:=aR g*g.rows),aV]
def dz(g:aI)(a:aM):Bool:=cw g&&aN a.ay 0 (aR g-1)&&aN a.row 0 (g.rows-1)&&aN a.bO 0 (g.aL-1)
def rM{g:aI}{a:aM}(h:dz g a=true):cw g=true/\0 <= a.ay/\a.ay<aR g/\0 <= a.row/\a.row<g.rows/\0 <= a.bO/\a.bO<g.aL:=by
 simp[dz,aN,aO,fY]at h
 grind
def vF{g:aI}{a:aM}(h:cw g=true)(C:0 <= a.ay)(D:a.ay<aR g)(E:0 <= a.row)(I:a.row<g.rows)(L:0 <= a.bO)(O:a.bO<g.aL):dz g a=true:=by
 simp[dz,aN,aO,fY]
 grind
def XV(g:aI)(a:aM):B6 g a=some (dz g a):=by
 unfold B6 dz;simp[rL,mS,dR,ak];have hb:=dS g;cases h:cw g with
 |false=>rfl
 | true=>
  have⟨_,_,_,_,C,D,E,I⟩:=fe h;rw[aV,aV,aV]
  grind
def Q3(g:aI)(a:aM):Ae g a=some (dz g a):=by
 unfold Ae dz;simp only[me,dN,ak];have hb:=dS g;rw[aV];cases h:cw g with
 | false=>
  have:aN a.ay 0 (aR g-1)=false:=by
   simp[aR,h,aN]
   grind
  simp_all
 | true=>
  have⟨_,_,_,_,C,D,E,I⟩:=fe h;rw[aV,aV]
  grind
def vG{b n r R:Int}(C:0 <= b)(D:b<n)(E:0 <= r)(I:r<R):0 <= b*R/\0 <= b*R+r/\b*R+r<n*R:=by
 have L:0 <= b*R:=Int.mul_nonneg C (by omega);have O:(b+1)*R <= n*R:=Int.mul_le_mul_of_nonneg_right (by omega) (by omega)
 grind
def qp(g:aI)(a:aM):Int:=bif dz g a then (a.ay*g.rows+a.row)*g.aL+a.bO else -1
def XW{g:aI}{a:aM}(h:dz g a=true):0 <= qp g a/\qp g a<ez g/\0 <= a.ay*g.rows/\0 <= a.ay*g.rows+a.row/\a.ay*g.rows+a.row<fP g/\0 <= (a.ay*g.rows+a.row)*g.aL:=by
 have⟨C,D,E,I,L,O,T⟩:=rM h;have⟨Z,U,Y⟩:=vG D E I L;have⟨l0,l1,l2⟩:=vG U Y O T;simp[qp,h,ez,fP,C,aq];omega
def XX(g:aI)(a:aM):KH g a=some (qp g a):=by
 unfold KH;rw[XV,ak];cases h:dz g a with
 |false=>simp[qp,h]
 | true=>
  have hb:=XW h;have D:=mT g;have E:=qm g;have⟨C,I,L,O,T,U,Y⟩:=rM h;have⟨_,_,_,_,Z,g6,g7,g8⟩:=fe C;simp only[qp,h,aq]at hb ⊢;simp only[bB,au];rw[aV (n:=a.ay*g.rows),aV (n:=a.ay*g.rows+a.row),aV (n:=(a.ay*g.rows+a.row)*g.aL),aV]
def Q4(g:aI)(a:aM):Cx g a=some (qp g a):=by
 unfold Cx;rw[Q3,ak];cases h:dz g a with
 |false=>simp[qp,h]
 | true=>
  have hb:=XW h;have D:=mT g;have E:=qm g;have⟨C,I,L,O,T,U,Y⟩:=rM h;have⟨_,_,_,_,Z,g6,g7,g8⟩:=fe C;simp only[qp,h,aq]at hb ⊢;simp only[bB,au];rw[aV (n:=a.ay*g.rows),aV (n:=a.ay*g.rows+a.row),aV (n:=(a.ay*g.rows+a.row)*g.aL),aV]
def vH{α β:Type}{step:α -> aj (α⊕β)}(S:Nat -> α){z:β}:∀ (n i fuel:Nat),(∀ k,i <= k -> k<i+n -> step (S k)=some (.inl (S (k+1)))) -> step (S (i+n))=some (.inr z) -> n<fuel -> iter step fuel (S i)=some z
 | 0,i,fuel,_,C,D=>by
  match fuel,D with
  |f+1,_=>unfold iter;rw[Nat.add_zero]at C;rw[C]
 | n+1,i,fuel,E,C,D=>by
  match fuel,D with
  | f+1,D=>
   unfold iter;rw[E i (dx _) (by omega)];exact vH S n _ f (λk I L=>E k (by omega) (by omega)) (by rw[show i+1+n=i+(n+1) by omega];exact C) (by omega)
def vI{i:Nat}(h:i<4611686018427387904:=by omega):W6 ((i:Int)+1)=((i+1:Nat):Int):=by
 rw[aV];simp
def ah7(y:Int):0 <= bits .and .i64 y 255/\bits .and .i64 y 255 <= 255:=by
 have e:bits .and .i64 y 255=IntKind.wrap .i64 ((BitVec.ofInt 64 y &&& BitVec.ofInt 64 255).toNat):=rfl;have h:(BitVec.ofInt 64 y &&& BitVec.ofInt 64 255).toNat <= 255:=by
  exact Nat.le_trans Nat.and_le_right (by decide)
 rw[e,IntKind.wrap_i64];omega
structure kr (b:List Int) (c:bN):Prop where
 eq:c.b=b
 lo:0<=c.i
 hi:c.i<=b.length
 len:b.length<=1073741823
def kr.eta{b:aa Int}{c:bN}(h:kr b c):(⟨b,c.i,c.h⟩:bN)=c:=by
 have⟨C,i,D⟩:=c;have:=h.eq;simp_all
def Dr{α:Type}(b:aa Int)(f:aj (α×(bN×af)))(P:α->Prop):Prop:=∃x c,f=some (x,(c,()))/\kr b c/\P x
def Dr.bind{α β:Type}{b:aa Int}{f:aj (α×(bN×af))}{g:α×(bN×af) -> aj (β×(bN×af))}{P:α -> Prop}{Q:β -> Prop}(h:Dr b f P)(C:∀ x c,P x -> kr b c -> Dr b (g (x,(c,()))) Q):Dr b (f.bind g) Q:=by
 have⟨x,c,D,E,I⟩:=h;simp_all
def Dr.pure{α:Type}{b:aa Int}{x:α}{c:bN}{P:α->Prop}(C:kr b c)(D:P x):Dr b (some (x,(c,()))) P:=⟨x,c,rfl,C,D⟩
def aw0(l:aa Int)(h:l.length<=1073741823):∃ y,IP l=some y:=by
 unfold IP br;obtain⟨z,C,I⟩:=ah5 (step:=IN)
  (λx=>∃(i:Nat) (y:Int),x=(((),y,(i:Int),()),(l,()))/\i<=l.length)
  (λx=>l.length-x.1.2.2.1.toNat) (λz=>∃ y,(Sum.elim (λL:((af×Int×af)×((aa Int)×af))=>some L.1.2.1) (λz=>nomatch z)) z=some y) (by
   rintro x ⟨i,y,rfl,hi⟩;unfold IN az xG xI;dsimp only;by_cases D:i<l.length
   ·have E:decide ((i:Int)<(l.length:Int))=true:=by simpa using D
    have O:0<=(i:Int)/\(i:Int).toNat<l.length:=⟨by omega,by simpa using D⟩
    rw[E,aq];cases T:decide ((i:Int)<4000)with
    | true=>
     rw[aq,aB O];left;refine⟨_,rfl,⟨i+1,_,by rw[vI],by omega⟩,?_⟩;dsimp only;rw[vI];omega
    | false=>
     rw[au];right;exact⟨_,rfl,_,rfl⟩
   ·have E:decide ((i:Int)<(l.length:Int))=false:=by simpa using D
    rw[E,au];right;exact⟨_,rfl,_,rfl⟩)
  aP (((),(W6 ((97301:Int)+(l.length:Int))),((0:Nat):Int),()),(l,())) ⟨0,_,rfl,by omega⟩ (by dsimp only;unfold aP;omega)
 have C:iter IN aP (((),(W6 ((97301:Int)+(l.length:Int))),(0:Int),()),(l,()))=some z:=C;rw[C];exact I
def aw1(l:aa Int)(y:Int)(h:l.length<=1073741823):kr l ⟨l,0,y⟩:=⟨rfl,Int.le_refl _,by simp,h⟩
def K4{b:aa Int}{c:bN}(C:kr b c):Dr b (Aa c) λx=>0<=x/\x<=255:=by
 have hb:=C.eq;have E:=C.lo;have L:=C.hi;have I:=C.len;unfold Aa xI;by_cases h:c.i<(c.b.length:Int)
 ·have D:decide (c.i<(c.b.length:Int))=true:=by simpa using h
  rw[D,aq,aB ⟨E,by omega⟩];refine Dr.pure ⟨hb,?_,?_,I⟩ (ah7 _)
  ·show 0<=W6 (c.i+1);rw[hb]at h;rw[aV];omega
  ·show W6 (c.i+1)<=_;rw[hb]at h;rw[aV];omega
 ·have D:decide (c.i<(c.b.length:Int))=false:=by simpa using h
  rw[D,au];exact Dr.pure ⟨hb,E,L,I⟩ (ah7 _)
def ah8{x n:Int}(h:0<=x)(C:0<n):0<=x.tmod n/\x.tmod n<n:=by
 rw[qJ h];exact⟨Int.emod_nonneg _ (by omega),Int.emod_lt_of_pos _ C⟩
def fq{b:aa Int}{c:bN}(C:kr b c)(n:Int):Dr b (eZ c n) λx=>0 <= x/\(n <= 0 -> x=0)/\(0<n -> x<n):=by
 unfold eZ;by_cases T:n <= 0
 ·have L:decide (n <= 0)=true:=by simpa using T
  rw[L];exact Dr.pure C ⟨Int.le_refl _,λ_=>rfl,λh=>by omega⟩
 ·have L:decide (n <= 0)=false:=by simpa using T
  have U:¬ n=0:=by omega
  rw[L];by_cases Y:n <= 256
  ·have O:decide (n <= 256)=true:=by simpa using Y
   rw[O,aq]
   refine(K4 C).bind λx c' hx Z=>?_
   rw[bJ U];rw[C.eq,Z.eta];have:=ah8 hx.1 (show 0<n by omega);exact Dr.pure Z ⟨this.1,λh=>by omega,λ_=>this.2⟩
  ·have O:decide (n <= 256)=false:=by simpa using Y
   rw[O,au,C.eq]
   refine(K4 C).bind λD k1 TZ HI=>?_
   dsimp only;rw[HI.eta]
   refine(K4 HI).bind λE k2 Mf vm=>?_
   dsimp only;rw[vm.eta]
   refine(K4 vm).bind λI k3 hx3 tU=>?_
   dsimp only;rw[tU.eta]
   refine(K4 tU).bind λx4 k4 hx4 vn=>?_
   rw[bJ U];dsimp only;rw[vn.eta];rw[aV (n:=D*16777216),aV (n:=E*65536),aV (n:=D*16777216+E*65536),aV (n:=I*256),aV (n:=D*16777216+E*65536+I*256),aV (n:=D*16777216+E*65536+I*256+x4)];have:=ah8 (x:=D*16777216+E*65536+I*256+x4) (by omega) (show 0<n by omega);exact Dr.pure vn ⟨this.1,λh=>by omega,λ_=>this.2⟩
def aw2(x a b:Int):cB x a b=some (decide (a <= x)&&decide (x <= b)):=by
 unfold cB
 grind
def ah9{x a b:Int}(h:a<=x)(C:x<=b):cB x a b=some true:=by
 rw[aw2,aQ h,aQ C];rfl
def aw3{x a b:Int}(h:a<=x)(C:x<=b):cy x a b=some true:=ah9 h C
def opens:Nat->aa di->aa Int
 |_,[]=>[]
 |i,b::bs=>bif b.open_ then (i:Int)::opens (i+1) bs else opens (i+1) bs
def XY(i:Nat)(a b:aa di):opens i (a++b)=opens i a++opens (i+a.length) b:=by
 induction a generalizing i with
 |nil=>simp[opens]
 | cons x a C=>
  simp[List.cons_append,opens]
  grind
def Q5(i:Nat)(l:aa di):(opens i l).length <= l.length:=by
 induction l generalizing i with
 |nil=>simp[opens]
 | cons x a C=>
  have:=C (i+1);simp[opens]
  grind
def mU{α:Type}{l:aa α}{i:Nat}(h:i<l.length):l.take (i+1)=l.take i++[l[i]]:=by
 rw[List.take_succ_eq_append_getElem h]
def Q6(r:bU)(h:r.aA.length<1073741823):zP r=some (opens 0 r.aA):=by
 unfold zP br;have e:=vH (step:=Eu) (λi=>(((),r.aA,(r.aA.length:Int),(i:Int),()),(opens 0 (r.aA.take i),()))) (z:=.inl (((),()),(opens 0 r.aA,()))) r.aA.length 0 aP (λk _ C=>?_) ?_ (by unfold aP;omega)
 ·have e:iter Eu aP (((),r.aA,r.aA.length,0,()),(([]),()))=_:=e;simp_all
 ·have C:k<r.aA.length:=by omega
  unfold Eu az xG xI;dsimp only;have D:decide ((k:Int)<(r.aA.length:Int))=true:=aQ;have E:0 <= (k:Int)/\(k:Int).toNat<r.aA.length:=⟨by omega,by simpa using C⟩
  have hl:=Q5 0 (r.aA.take k);rw[fU]at hl;have I:bD ((opens 0 (r.aA.take k)).length+([(k:Int)]:aa Int).length)=true:=by
   unfold bD;simp;omega
  rw[D,aq,aB E,vI,mU C,XY];simp only[bu,opens,fU,eN,Nat.min_eq_left (Nat.le_of_lt C)];cases r.aA[k].open_ with
  |true=>grind
  |false=>grind
 ·rw[eN];unfold Eu az xG xI;simp_all
def gmT:Nat:=116196760129267793630862849262464326346044543732748708940920453221664288556434379745879494961270582141731748813355742142288220638766218855867759359510984593843506004200114943278699875244065120512813025380665946106619127097398772031257643617143689515450995722003729973585221105779229319991106539050771048038400
def gm(a b:Nat):Nat:=(gmT / 2 ^ (4*(16*a+b))) % 16
def pwT:Nat:=44684875893970114885940500792407720993
def pw(n:Nat):Nat:=(pwT / 2 ^ (4*n)) % 16
def jh(f:Nat->Bool):Bool:=(List.range 16).all f
def gy{f:Nat->Bool}(h:jh f=true){a:Nat}(C:a<16):f a=true:=by
 have:=cu.1 h a (fk.2 C);exact this
def gu(a b:Nat):gm a b<16:=Nat.mod_lt _ (by decide)
def um(n:Nat):pw n<16:=Nat.mod_lt _ (by decide)
def aw4:(jh λa=>jh λb=>jv (Int.ofNat a) (Int.ofNat b)==some (Int.ofNat (gm a b)))=true:=by kernel_rfl
def aw5:((List.range 31).all λn=>KQ 2 (Int.ofNat n)==some (Int.ofNat (pw n)))=true:=by kernel_rfl
def aia:(jh λa=>jh λb=>decide (bits .xor .i64 (Int.ofNat a) (Int.ofNat b)=Int.ofNat (a ^^^ b))&&Nat.blt (a ^^^ b) 16)=true:=by kernel_rfl
def aw6:(jh λa=>jh λb=>jh λc=>Nat.beq (gm (a ^^^ b) c) (gm a c ^^^ gm b c))=true:=by kernel_rfl
def aib:(jh λa=>Nat.beq (gm a 1) a&&Nat.beq (gm 0 a) 0)=true:=by kernel_rfl
def aw7:(jh λC=>jh λs1=>jh λs2=>
  (λy z=>(λx=>Nat.beq (gm x 1 ^^^ (gm y 1 ^^^ (gm z 1 ^^^ C))) 0&&Nat.beq (gm x 1 ^^^ (gm y 2 ^^^ (gm z 4 ^^^ s1))) 0&&Nat.beq (gm x 1 ^^^ (gm y 4 ^^^ (gm z 3 ^^^ s2))) 0) (C ^^^ y ^^^ z))
   (gm (gm 2 (C ^^^ s1) ^^^ gm 5 (C ^^^ s2)) 13) (gm (gm 3 (C ^^^ s2) ^^^ gm 5 (C ^^^ s1)) 13))=true:=by kernel_rfl
def aw8:CJ 4=some 13:=by kernel_rfl
def CK{a b:Nat}(C:a<16)(hb:b<16):jv (a:Int) (b:Int)=some (gm a b:Int):=by
 have h:=gy (gy aw4 C) hb;exact eq_of_beq h
def aw9{n:Nat}(h:n<31):KQ 2 (n:Int)=some (pw n:Int):=eq_of_beq (cu.1 aw5 n (fk.2 h))
def rN{a b:Nat}(C:a<16)(hb:b<16):bits .xor .i64 (a:Int) (b:Int)=((a ^^^ b:Nat):Int):=by
 have h:=gy (gy aia C) hb;simp_all
def mg{a b:Nat}(C:a<16)(hb:b<16):a ^^^ b<16:=by
 have h:=gy (gy aia C) hb;simp_all
def axa{a b c:Nat}(C:a<16)(hb:b<16)(D:c<16):gm (a ^^^ b) c=gm a c ^^^ gm b c:=cC (gy (gy (gy aw6 C) hb) D)
def axb{a:Nat}(C:a<16):gm a 1=a:=by
 have h:=gy aib C;rw[aO]at h;exact cC h.1
def Q7{a:Nat}(C:a<16):gm 0 a=0:=by
 have h:=gy aib C;rw[aO]at h;exact cC h.2
abbrev bk (w:aa Nat):aa Int:=w.map λ(n:Nat)=>(n:Int)
def dG(w:aa Nat):Prop:=∀x∈w,x<16
def gR(w:aa Nat):(bk w).length=w.length:=by simp[bk]
def uq{w:aa Nat}{k:Nat}(h:k<(bk w).length):(bk w)[k]=((w.getD k 0:Nat):Int):=by grind
def dG.get{w:aa Nat}(h:dG w)(k:Nat):w.getD k 0<16:=by
 by_cases C:k<w.length
 ·simp[ei,bQ C];exact h _ (cR C)
 ·simp_all
def XZ{w:aa Nat}(E:dG w)(hl:w.length<1000)(n:Int):vr (bk w) n=some ((w.length:Int)==n):=by
 unfold vr bP;have e:=vH (step:=zR) (λi=>((bk w,n,bk w,((bk w).length),i,()),())) (z:=.inr (.inl ((bk w,n,()),()))) w.length 0 aP (λk _ C=>?_) ?_ (by unfold aP;omega)
 ·simp_all
 ·have C:k<(bk w).length:=by rw[gR];omega
  unfold zR az bf xG xI;dsimp only;have I:decide ((k:Int)<((bk w).length:Int))=true:=aQ;have D:0 <= (k:Int)/\(k:Int).toNat<(bk w).length:=⟨by omega,by simpa using C⟩
  rw[I,aq,aB D];have L:(bk w)[(k:Int).toNat]'D.2=((w.getD k 0:Nat):Int):=uq C;rw[L];have:=E.get k;unfold B5;rw[ah9 (by omega) (by omega),ak,ak,vI];rfl
 ·unfold zR az bf xG xI;simp_all
def bR(w:aa Nat)(j:Nat):Nat->Nat
 |0=>0
 |i+1=>bR w j i ^^^ gm (w.getD i 0) (pw (i*j))
def rO(w:aa Nat)(j:Nat):∀ i,bR w j i<16
 |0=>Nat.zero_lt_succ _
 |i+1=>mg (rO w j i) (gu _ _)
def axc{w:aa Nat}(L:dG w)(hl:w.length=11)(j:Nat)(hj:j<3)(a b:Int)(o:aa Int)(O:j<o.length)(T:o.set j 0=o):
  iter CI aP ((bk w,(),(j:Int),a,b,bk w,((bk w).length:Int),(0:Int),()),(o,()))=some (.inl ((bk w,(),a,b,()),(o.set j (bR w j 11:Int),()))):=by
 have e:=vH (step:=CI) (λi=>((bk w,(),(j:Int),a,b,bk w,((bk w).length:Int),(i:Int),()),(o.set j (bR w j i:Int),()))) (z:=.inl ((bk w,(),a,b,()),(o.set j (bR w j 11:Int),()))) 11 0 aP (λk _ D=>?_) ?_ (by unfold aP;omega)
 ·have e:iter CI aP ((bk w,(),(j:Int),a,b,bk w,((bk w).length:Int),(0:Int),()),(o.set j 0,()))=_:=e;rw[T]at e;exact e
 ·have D:k<(bk w).length:=by rw[gR];omega
  unfold CI az xG xI xL;dsimp only;have E:decide ((k:Int)<((bk w).length:Int))=true:=aQ;have I:0<=(k:Int)/\(k:Int).toNat<(bk w).length:=⟨by omega,by simpa using D⟩
  have C:0<=(j:Int)/\(j:Int).toNat<(o.set j (bR w j k:Int)).length:=⟨by omega,by simpa using O⟩
  have U:(bk w)[(k:Int).toNat]'I.2=((w.getD k 0:Nat):Int):=uq D;have Y:(o.set j (bR w j k:Int))[(j:Int).toNat]'C.2=(bR w j k:Int):=List.getElem_set_self _;rw[E,aq,aB I,aB C,aB C.2,U,Y];have Z3:k*j<=20:=Nat.le_trans (Nat.mul_le_mul (show k<=10 by omega) (show j<=2 by omega)) (by decide);have Z:W6 ((k:Int)*(j:Int))=((k*j:Nat):Int):=by
   rw[<-Int.natCast_mul,aV]
  rw[Z,aw9 (by omega),ak,CK (L.get k) (um _),ak,aB C,aB C.2,rN (rO _ _ _) (gu _ _),vI];have c7:(o.set j (bR w j k:Int)).set (j:Int).toNat ((bR w j k ^^^ gm (w.getD k 0) (pw (k*j)):Nat):Int)=o.set j (bR w j (k+1):Int):=List.set_set ..;rw[c7]
 ·unfold CI az xG xI xL;dsimp only;have E:decide (((0+11:Nat):Int)<((bk w).length:Int))=false:=aX (by rw[gR];omega);rw[E,au]
def sN(w:aa Nat):Nat->aa Int
 |0=>[0,0,0]
 |1=>[(bR w 0 11:Int),0,0]
 |2=>[(bR w 0 11:Int),(bR w 1 11:Int),0]
 |_=>[(bR w 0 11:Int),(bR w 1 11:Int),(bR w 2 11:Int)]
def X0{w:aa Nat}(D:dG w)(hl:w.length=11):Au (bk w)=some [(bR w 0 11:Int),(bR w 1 11:Int),(bR w 2 11:Int)]:=by
 unfold Au br;have c0:((w.length:Int)==(11:Int))=true:=by rw[hl];rfl
 rw[XZ D (by omega),c0,ak];have e:=vH (step:=FC) (λj=>((bk w,(),(3:Int),(j:Int),()),(sN w j,()))) (z:=.inl (((),()),(sN w 3,()))) 3 0 aP (λk _ I=>?_) ?_ (by unfold aP;omega)
 ·have e:iter FC aP ((bk w,(),((List.replicate (3:Int).toNat (0:Int)).length:Int),(0:Int),()),(List.replicate (3:Int).toNat (0:Int),()))=_:=e;rw[show (!true)=false from rfl,au,bH (by decide),e];rfl
 ·unfold FC az xG br;dsimp only;have E:decide ((k:Int)<(3:Int))=true:=aQ;have C:sN w k=(sN w k).set k 0/\k<(sN w k).length/\(sN w k).set k (bR w k 11:Int)=sN w (k+1):=by
   have:k=0\/k=1\/k=2:=by omega
   rcases this with rfl|rfl|rfl
   ·exact⟨rfl,by simp[sN],rfl⟩
   ·exact⟨rfl,by simp[sN],rfl⟩
   ·exact⟨rfl,by simp[sN],rfl⟩
  rw[E,aq,axc D hl k (by omega) (3:Int) (k:Int) (sN w k) C.2.1 C.1.symm,C.2.2];show some (Sum.inl ((bk w,(),(3:Int),W6 ((k:Int)+1),()),(sN w (k+1),())))=_;rw[vI]
 ·unfold FC az xG br;dsimp only;rfl
def axd{w:aa Nat}(C:dG w)(hl:w.length=11):QI (bk w)=some (Nat.beq (bR w 0 11) 0&&(Nat.beq (bR w 1 11) 0&&Nat.beq (bR w 2 11) 0)):=by
 unfold QI xL;rw[X0 C hl,ak];generalize bR w 0 11=a;generalize bR w 1 11=b;generalize bR w 2 11=c;have q:∀ n:Nat,((n:Int)==(0:Int))=Nat.beq n 0:=by
  intro n;cases n with
  |zero=>rfl
  |succ n=>rfl
 show (bif ((a:Int)==(0:Int))then (bif ((b:Int)==(0:Int))then some ((c:Int)==(0:Int))else some false)else some false)=_
 grind
def axe(C D E:Nat)(I:C<16)(L:D<16)(O:E<16):
  (λy z=>(λx=>(gm x 1 ^^^ (gm y 1 ^^^ (gm z 1 ^^^ C)))=0/\(gm x 1 ^^^ (gm y 2 ^^^ (gm z 4 ^^^ D)))=0/\(gm x 1 ^^^ (gm y 4 ^^^ (gm z 3 ^^^ E)))=0) (C ^^^ y ^^^ z))
   (gm (gm 2 (C ^^^ D) ^^^ gm 5 (C ^^^ E)) 13) (gm (gm 3 (C ^^^ E) ^^^ gm 5 (C ^^^ D)) 13):=by
 have h:=gy (gy (gy aw7 I) L) O;simp_all
def axf{d:aa Nat}(T:dG d)(hl:d.length=8):∃ w,KR (bk d)=some (bk w)/\w.length=11/\dG w/\w.drop 3=d/\bR w 0 11=0/\bR w 1 11=0/\bR w 2 11=0:=by
 have Y:dG (0 :: 0 :: 0 :: d):=by
  intro x hx;simp only[gn]at hx;rcases hx with rfl|rfl|rfl|hx
  ·decide
  ·decide
  ·decide
  ·exact T x hx
 have key:∀ j x y z,j<3->x<16->y<16->z<16->bR (x :: y :: z :: d) j 11=gm x (pw (0*j)) ^^^ (gm y (pw (1*j)) ^^^ (gm z (pw (2*j)) ^^^ bR (0 :: 0 :: 0 :: d) j 11)):=by
  intro j x y z hj hx hy Y;simp only[bR,List.getD_cons_zero,List.getD_cons_succ,Nat.xor_assoc,Nat.zero_xor,Q7 (um _)]
 have e0:∀ C E I:Nat,C<16->E<16->I<16->Au (bk (0 :: 0 :: 0 :: d))=some [(C:Int),(E:Int),(I:Int)]->
   KR (bk d)=some (bk ((C ^^^ gm (gm 2 (C ^^^ E) ^^^ gm 5 (C ^^^ I)) 13 ^^^ gm (gm 3 (C ^^^ I) ^^^ gm 5 (C ^^^ E)) 13)::gm (gm 2 (C ^^^ E) ^^^ gm 5 (C ^^^ I)) 13::gm (gm 3 (C ^^^ I) ^^^ gm 5 (C ^^^ E)) 13::d)):=by
  intro C E I D L O hs;unfold KR xL;have c0:((d.length:Int)==(8:Int))=true:=by rw[hl];rfl
  have c1:bD ((List.replicate (3:Int).toNat (0:Int)).length+(bk d).length)=true:=by
   rw[gR,hl];rfl
  rw[XZ T (by omega),ak,c0,show (!true)=false from rfl,au,bH (by decide),c1,aq];have U:Au (List.replicate (3:Int).toNat (0:Int)++bk d)=some [(C:Int),(E:Int),(I:Int)]:=hs;rw[U,ak];show (CJ (4:Int)).bind (λZ=>(jv (2:Int) (bits .xor .i64 (C:Int) (E:Int))).bind λmR=>(jv (5:Int) (bits .xor .i64 (C:Int) (I:Int))).bind λjL=>(jv (bits .xor .i64 mR jL) Z).bind λpH=>(jv (3:Int) (bits .xor .i64 (C:Int) (I:Int))).bind λlO=>(jv (5:Int) (bits .xor .i64 (C:Int) (E:Int))).bind λuk=>(jv (bits .xor .i64 lO uk) Z).bind λvC=>some (bits .xor .i64 (bits .xor .i64 (C:Int) pH) vC::pH::vC::bk d))=_;have m2:∀b:Nat,b<16->jv (2:Int) (b:Int)=some (gm 2 b:Int):=λb hb=>CK (a:=2) (by decide) hb
  have m3:∀b:Nat,b<16->jv (3:Int) (b:Int)=some (gm 3 b:Int):=λb hb=>CK (a:=3) (by decide) hb
  have m5:∀b:Nat,b<16->jv (5:Int) (b:Int)=some (gm 5 b:Int):=λb hb=>CK (a:=5) (by decide) hb
  have m13:∀b:Nat,b<16->jv (b:Int) (13:Int)=some (gm b 13:Int):=λb hb=>CK (b:=13) hb (by decide)
  rw[aw8,ak,rN D L,rN D O,m2 _ (mg D L),ak,m5 _ (mg D O),ak,rN (gu _ _) (gu _ _),m13 _ (mg (gu _ _) (gu _ _)),ak,m3 _ (mg D O),ak,m5 _ (mg D L),ak,rN (gu _ _) (gu _ _),m13 _ (mg (gu _ _) (gu _ _)),ak,rN D (gu _ _),rN (mg D (gu _ _)) (gu _ _)];rfl
 have D:=rO (0::0::0::d) 0 11;have L:=rO (0::0::0::d) 1 11;have O:=rO (0::0::0::d) 2 11;have U:=e0 _ _ _ D L O (X0 Y (by simp[hl]));have f:=axe _ _ _ D L O;dsimp only at f;refine⟨_,U,by simp[hl],?_,rfl,?_,?_,?_⟩
 ·intro x hx;simp only[gn]at hx;rcases hx with rfl | rfl | rfl | hx
  ·exact mg (mg D (gu _ _)) (gu _ _)
  ·exact gu _ _
  ·exact gu _ _
  ·exact T x hx
 ·rw[key 0 _ _ _ (by decide) (mg (mg D (gu _ _)) (gu _ _)) (gu _ _) (gu _ _)];exact f.1
 ·rw[key 1 _ _ _ (by decide) (mg (mg D (gu _ _)) (gu _ _)) (gu _ _) (gu _ _)];exact f.2.1
 ·rw[key 2 _ _ _ (by decide) (mg (mg D (gu _ _)) (gu _ _)) (gu _ _) (gu _ _)];exact f.2.2
def aic{w:aa Nat}(C:dG w){k e:Nat}(D:e<16)(I:k<w.length)(j:Nat):∀ i,bR (w.set k (w.getD k 0 ^^^ e)) j i=if i <= k then bR w j i else bR w j i ^^^ gm e (pw (k*j))
 |0=>by rw[bH (Nat.zero_le _)];rfl
 | i+1=>by
  have L:=aic C D I j i;have O:(w.set k (w.getD k 0 ^^^ e)).getD i 0=if i=k then w.getD k 0 ^^^ e else w.getD i 0:=by
   grind
  show bR _ j i ^^^ gm _ (pw (i*j))=_;rw[L,O];by_cases T:i<k
  ·rw[bH,bJ,bH];rfl
  ·by_cases E:i=k
   ·subst E;rw[bH (dx _),bH rfl,bJ,axa (C.get _) D (um _),<- Nat.xor_assoc];rfl
   ·rw[bJ,bJ E,bJ];show _=bR w j i ^^^ gm _ _ ^^^ gm e _
    grind
def dG.set{w:aa Nat}(h:dG w){k v:Nat}(D:v<16):dG (w.set k v):=by
 intro x C;rcases List.mem_or_eq_of_mem_set C with C|rfl
 ·exact h x C
 ·exact D
def ivT:Nat:=9460475325918865680
def iv(a:Nat):Nat:=(ivT / 2 ^ (4*a)) % 16
def axg(a:Nat):iv a<16:=Nat.mod_lt _ (by decide)
def axh:(jh λa=>Nat.beq a 0 ||CJ (Int.ofNat a)==some (Int.ofNat (iv a)))=true:=by kernel_rfl
def oz:aa Nat:=[8,14,7,1]
def axi:((List.range 8).all λm=>jh λf=>(List.range 3).all λj=>
  Nat.beq (gm (gm 8 f) (pw (m*j)) ^^^ (gm (gm 14 f) (pw ((m+1)*j)) ^^^ (gm (gm 7 f) (pw ((m+2)*j)) ^^^ gm f (pw ((m+3)*j))))) 0)=true:=by kernel_rfl
def axj:(jh λa=>jh λb=>ug (Int.ofNat a) (Int.ofNat b)==some (Int.ofNat (gm a b)))=true:=by kernel_rfl
def K5{a b:Nat}(C:a<16)(hb:b<16):ug (a:Int) (b:Int)=some (gm a b:Int):=by
 have h:=gy (gy axj C) hb;exact eq_of_beq h
def aid(W:aa Int):iter Xc aP (((),(),(1:Int),()),(W,([(1:Int),(1:Int)]:aa Int),()))=some (.inl (((),(),()),(W,bk oz,()))):=by kernel_rfl
def aie{w:aa Nat}(E:dG w)(hl:w.length<1000)(n:Int):uf (bk w) n=some ((w.length:Int)==n):=by
 unfold uf bP;have e:=vH (step:=Ai) (λi=>((bk w,n,i,()),())) (z:=.inr (.inl ((bk w,n,()),()))) w.length 0 aP (λk _ C=>?_) ?_ (by unfold aP;omega)
 ·simp_all
 ·have C:k<(bk w).length:=by rw[gR];omega
  unfold Ai az bf xG xI;dsimp only;have I:decide ((k:Int)<((bk w).length:Int))=true:=aQ;have D:0 <= (k:Int)/\(k:Int).toNat<(bk w).length:=⟨by omega,by simpa using C⟩
  rw[I,aq,aB D];have L:(bk w)[(k:Int).toNat]'D.2=((w.getD k 0:Nat):Int):=uq C;rw[L];have:=E.get k;unfold xH;rw[aw3 (by omega) (by omega),ak,ak,vI];rfl
 ·unfold Ai az bf xG xI;simp_all
def ur(k:Nat):Nat:=oz.getD k 0
def axk(k:Nat):ur k<16:=by
 have:dG oz:=by
  intro x C;simp[oz,gn,List.not_mem_nil,or_false]at C;omega
 exact this.get k
def kQ(r:aa Nat)(m f:Nat):Nat->aa Nat
 |0=>r
 |k+1=>(kQ r m f k).set (m+k) ((kQ r m f k).getD (m+k) 0 ^^^ gm (ur k) f)
def K6(r:aa Nat)(m f:Nat):∀ k,(kQ r m f k).length=r.length
 |0=>rfl
 |k+1=>by show (List.set _ _ _).length=_;rw[ji,K6]
def K7{r:aa Nat}(C:dG r)(m f:Nat):∀ k,dG (kQ r m f k)
 |0=>C
 |k+1=>(K7 C m f k).set (mg ((K7 C m f k).get _) (gu _ _))
def Q8(w:aa Nat)(k v:Nat):(bk w).set k (v:Int)=bk (w.set k v):=(List.map_set ..).symm
def axl{r:aa Nat}(O:dG r)(hl:r.length=11){m f:Nat}(hm:m<8)(T:f<16)(W:aa Int):
  iter E3 aP (((),(),(),((m+3:Nat):Int),(f:Int),(0:Int),()),(W,bk oz,bk r,()))=some (.inl (((),(),(),((m+3:Nat):Int),()),(W,bk oz,bk (kQ r m f 4),()))):=by
 have e:=vH (step:=E3) (λk=>(((),(),(),((m+3:Nat):Int),(f:Int),(k:Int),()),(W,bk oz,bk (kQ r m f k),()))) (z:=.inl (((),(),(),((m+3:Nat):Int),()),(W,bk oz,bk (kQ r m f 4),()))) 4 0 aP (λk _ hk=>?_) ?_ (by unfold aP;omega)
 ·exact e
 ·unfold E3 az xG xL;dsimp only;have D:decide ((k:Int)<((bk oz).length:Int))=true:=aQ (by show (k:Int)<4;omega);have U:W6 (W6 (((m+3:Nat):Int)-3)+(k:Int))=((m+k:Nat):Int):=by
   rw[aV (n:=((m+3:Nat):Int)-3),aV];omega
  have I:m+k<(bk (kQ r m f k)).length:=by rw[gR,K6,hl];omega
  have C:0<=((m+k:Nat):Int)/\((m+k:Nat):Int).toNat<(bk (kQ r m f k)).length:=⟨by omega,I⟩
  have L:k<(bk oz).length:=by show k<4;omega
  have E:0<=(k:Int)/\(k:Int).toNat<(bk oz).length:=⟨by omega,L⟩
  have Y:(bk (kQ r m f k))[((m+k:Nat):Int).toNat]'C.2=(((kQ r m f k).getD (m+k) 0:Nat):Int):=uq I;have Z:(bk oz)[(k:Int).toNat]'E.2=((ur k:Nat):Int):=uq L;rw[D,aq];simp only[U];rw[aB C,aB C.2];rw[aB E,aB E.2,Z,K5 (axk k) T,ak,aB C,aB C.2,Y,rN ((K7 O m f k).get _) (gu _ _),vI];have c7:(bk (kQ r m f k)).set ((m+k:Nat):Int).toNat (((kQ r m f k).getD (m+k) 0 ^^^ gm (ur k) f:Nat):Int)=bk (kQ r m f (k+1)):=Q8 _ _ _;rw[c7]
 ·unfold E3 az xG xL;dsimp only;have D:decide (((0+4:Nat):Int)<((bk oz).length:Int))=false:=rfl;rw[D,au]
def out(r:aa Nat):Nat->aa Nat
 |0=>r
 |t+1=>kQ (out r t) (7-t) ((out r t).getD (10-t) 0) 4
def CL(r:aa Nat):∀ t,(out r t).length=r.length
 |0=>rfl
 |t+1=>by show (kQ _ _ _ _).length=_;rw[K6,CL]
def CM{r:aa Nat}(C:dG r):∀ t,dG (out r t)
 |0=>C
 |t+1=>K7 (CM C t) _ _ _
def aif{r:aa Nat}(D:dG r)(hl:r.length=11)(W:aa Int):
  iter E4 aP (((),(),(),(10:Int),()),(W,bk oz,bk r,()))=some (.inl (((),(),()),(W,bk (out r 8),()))):=by
 have e:=vH (step:=E4) (λt=>(((),(),(),(10:Int)-(t:Int),()),(W,bk oz,bk (out r t),()))) (z:=.inl (((),(),()),(W,bk (out r 8),()))) 8 0 aP (λt _ O=>?_) ?_ (by unfold aP;omega)
 ·exact e
 ·unfold E4 az xG br xL;dsimp only;have hi:(10:Int)-(t:Int)=((7-t+3:Nat):Int):=by omega
  have I:decide ((10:Int)-(t:Int) >= 3)=true:=aQ;have E:7-t+3<(bk (out r t)).length:=by rw[gR,CL,hl];omega
  have C:0<=((7-t+3:Nat):Int)/\((7-t+3:Nat):Int).toNat<(bk (out r t)).length:=⟨by omega,E⟩
  have L:(bk (out r t))[((7-t+3:Nat):Int).toNat]'C.2=(((out r t).getD (10-t) 0:Nat):Int):=(uq E).trans (by rw[show 7-t+3=10-t by omega]);rw[I,aq];simp only[hi];rw[aB C,aB C.2,L,axl (CM D t) (by rw[CL,hl]) (by omega) ((CM D t).get _)];show some (Sum.inl (((),(),(),W6 (((7-t+3:Nat):Int)-1),()),(W,bk oz,bk (out r (t+1)),())))=_;rw[aV,show ((7-t+3:Nat):Int)-1=10-((t+1:Nat):Int) by omega]
 ·unfold E4 az xG br xL;dsimp only;rfl
def axm:(jh λa=>Nat.beq (gm 1 a) a)=true:=by kernel_rfl
def aih{a:Nat}(C:a<16):gm 1 a=a:=cC (gy axm C)
def aii{r:aa Nat}(C:dG r)(hl:r.length=11){k e:Nat}(D:e<16)(E:k<11)(j:Nat):bR (r.set k (r.getD k 0 ^^^ e)) j 11=bR r j 11 ^^^ gm e (pw (k*j)):=by
 rw[aic C D (by omega) j 11,bJ]
def axn{r:aa Nat}(D:dG r)(hl:r.length=11){m f j:Nat}(E:m<8)(C:f<16)(I:j<3):bR (kQ r m f 4) j 11=bR r j 11:=by
 have st:∀ k,k<4 -> bR (kQ r m f (k+1)) j 11=bR _ j 11 ^^^ gm _ _:=λk O=>
  aii (K7 D m f k) (by rw[K6,hl]) (gu _ _) (by omega) j
 have h:=cu.1 (gy (cu.1 axi m (fk.2 E)) C) j (fk.2 I);have h:gm (gm (ur 0) f) (pw ((m+0)*j)) ^^^ (gm (gm (ur 1) f) (pw ((m+1)*j)) ^^^ (gm (gm (ur 2) f) (pw ((m+2)*j)) ^^^ gm (gm (ur 3) f) (pw ((m+3)*j))))=0:=by
  have L:gm (ur 3) f=f:=aih C;rw[L];exact cC h
 rw[st 3 (by decide),st 2 (by decide),st 1 (by decide),st 0 (by decide),Nat.xor_assoc,Nat.xor_assoc,Nat.xor_assoc,h,Nat.xor_zero];rfl
def aij{r:aa Nat}(C:dG r)(hl:r.length=11){j:Nat}(D:j<3):∀ t,t<=8->bR (out r t) j 11=bR r j 11
 |0,_=>rfl
 |t+1,E=>(axn (CM C t) (by rw[CL,hl]) (by omega) ((CM C t).get _) D).trans (aij C hl D t (by omega))
def aik(r:aa Nat)(k v n:Nat):(r.set k v).getD n 0=if n=k/\k<r.length then v else r.getD n 0:=by grind
def X3(r:aa Nat)(m f:Nat):∀ k n,m+k<=n->(kQ r m f k).getD n 0=r.getD n 0
 |0,n,_=>rfl
 | k+1,n,h=>by
  show (List.set _ _ _).getD n 0=_;rw[aik,bJ,X3 r m f k n (by omega)]
def axo{r:aa Nat}{m f:Nat}(h:m+3<r.length):(kQ r m f 4).getD (m+3) 0=r.getD (m+3) 0 ^^^ gm (ur 3) f:=by
 show (List.set _ _ _).getD _ 0=_;rw[aik,bH ⟨rfl,by rw[K6];exact h⟩,X3 r m f 3 _ (dx _)]
def ail{r:aa Nat}(C:dG r)(hl:r.length=11):∀ t,t <= 8 -> ∀ n,10-t<n -> n<11 -> (out r t).getD n 0=0
 |0,_,n,h,D=>by omega
 | t+1,I,n,h,D=>by
  show (kQ _ _ _ 4).getD n 0=0;by_cases E:n=10-t
  ·have e:n=7-t+3:=by omega
   subst e;rw[axo (by rw[CL];omega),<- E];have:gm (ur 3) _=(out r t).getD (7-t+3) 0:=aih ((CM C t).get _);simp_all
  ·rw[X3 _ _ _ 4 n (by omega)];exact ail C hl t (by omega) n (by omega) D
def qq(w r:aa Nat):Nat->aa Nat
 |0=>w
 |k+1=>(qq w r k).set k (r.getD k 0)
def X4(w r:aa Nat):∀ k,(qq w r k).length=w.length
 |0=>rfl
 |k+1=>by show (List.set _ _ _).length=_;rw[ji,X4]
def aim{w r:aa Nat}(U:w.length=11)(Y:r.length=11):
  iter JH aP (((),(),(0:Int),()),(bk w,bk r,()))=some (.inl (((),()),(bk (qq w r 3),()))):=by
 have e:=vH (step:=JH) (λi=>(((),(),i,()),(bk (qq w r i),bk r,()))) (z:=.inl (((),()),(bk (qq w r 3),()))) 3 0 aP (λk _ Z=>?_) ?_ (by unfold aP;omega)
 ·exact e
 ·unfold JH az xG xL;dsimp only;have I:decide ((k:Int)<(3:Int))=true:=aQ;have D:k<(bk r).length:=by rw[gR];omega
  have L:k<(bk (qq w r k)).length:=by rw[gR,X4];omega
  have C:0 <= (k:Int)/\(k:Int).toNat<(bk r).length:=⟨by omega,D⟩
  have E:0 <= (k:Int)/\(k:Int).toNat<(bk (qq w r k)).length:=⟨by omega,L⟩
  have O:(bk r)[(k:Int).toNat]'C.2=((r.getD k 0:Nat):Int):=uq D;rw[I,aq,aB C,aB C.2,O,aB E,aB E.2,vI];have T:(bk (qq w r k)).set (k:Int).toNat ((r.getD k 0:Nat):Int)=bk (qq w r (k+1)):=Q8 _ _ _;rw[T]
 ·rfl
def axp{d:aa Nat}(O:dG d)(hl:d.length=8):∃ w,Ak (bk d)=some (bk w)/\w.length=11/\dG w/\bR w 0 11=0/\bR w 1 11=0/\bR w 2 11=0:=by
 have D:dG (0 :: 0 :: 0 :: d):=by
  intro x hx;simp only[gn]at hx;rcases hx with rfl|rfl|rfl|hx
  ·decide
  ·decide
  ·decide
  ·exact O x hx
 have C:(0::0::0::d).length=11:=by simp[hl]
 have T:Ak (bk d)=some (bk (qq (0 :: 0 :: 0 :: d) (out (0 :: 0 :: 0 :: d) 8) 3)):=by
  unfold Ak xA br xZ;have c0:((d.length:Int)==(8:Int))=true:=by rw[hl];rfl
  have U:bD ((List.replicate (3:Int).toNat (0:Int)).length+(bk d).length)=true:=by
   rw[gR,hl];rfl
  have Y:bD (([]:aa Int).length+(bk (0 :: 0 :: 0 :: d)).length)=true:=by
   rw[gR,C];rfl
  have Z:W6 (((bk (0 :: 0 :: 0 :: d)).length:Int)-(1:Int))=10:=by
   rw[gR,C];rfl
  have eW:List.replicate (3:Int).toNat (0:Int)++bk d=bk (0::0::0::d):=rfl;rw[aie O (by omega),ak,c0,show (!true)=false from rfl,au,bH (by decide),U,aq,eW,aid,ak,dX];dsimp only;rw[kY,Y,aq,Z,aif D C,ak,dX];dsimp only;rw[aim C (by rw[CL,C]),ak,dX]
 have E:=CM D 8;have I:∀ j,j<3->bR (qq (0 :: 0 :: 0 :: d) (out (0 :: 0 :: 0 :: d) 8) 3) j 11=0:=by
  intro j hj;have L:=aij D C hj 8 (dx _);have z:=ail D C 8 (dx _);revert L z;generalize out (0 :: 0 :: 0 :: d) 8=r;intro L z;have h2:bR (qq (0 :: 0 :: 0 :: d) r 3) j 11=gm (r.getD 0 0) (pw (0*j)) ^^^ (gm (r.getD 1 0) (pw (1*j)) ^^^ (gm (r.getD 2 0) (pw (2*j)) ^^^ bR (0 :: 0 :: 0 :: d) j 11)):=by
   show bR (r.getD 0 0::r.getD 1 0::r.getD 2 0::d) j 11=_;simp only[bR,List.getD_cons_zero,List.getD_cons_succ,Nat.xor_assoc,Nat.zero_xor,Q7 (um _)]
  have h3:bR r j 11=gm (r.getD 0 0) (pw (0*j)) ^^^ (gm (r.getD 1 0) (pw (1*j)) ^^^ gm (r.getD 2 0) (pw (2*j))):=by
   simp only[bR,z 3 (by decide) (by decide),z 4 (by decide) (by decide),z 5 (by decide) (by decide),z 6 (by decide) (by decide),z 7 (by decide) (by decide),z 8 (by decide) (by decide),z 9 (by decide) (by decide),z 10 (by decide) (by decide),Nat.xor_assoc,Nat.zero_xor,Nat.xor_zero,Q7 (um _)]
  rw[h2,<-L,h3,<-Nat.xor_assoc (gm (r.getD 1 0) _) (gm (r.getD 2 0) _),<-Nat.xor_assoc (gm (r.getD 0 0) _),Nat.xor_self]
 refine⟨_,T,by rw[X4,C],?_,I 0 (by decide),I 1 (by decide),I 2 (by decide)⟩;exact((D.set (E.get _)).set (E.get _)).set (E.get _)
def vJ(s:Int):Bool:=aN s 0 15
def rP(l:aa Int)(n:Int):Bool:=l.all vJ&&decide ((l.length:Int)=n)
def ain(l:aa Int)(n:Int)(hl:l.length<1073741824):vr l n=some (rP l n):=by
 unfold vr rP bP;have e:=fN (step:=zR) l vJ (λi=>((l,n,l,l.length,i,()),())) _ (.inr (.inl ((l,n,()),()))) aP (λk h=>by
  unfold zR B5 az bf xG xI;simp (disch:=omega) [h,bz,dR,vJ];cases aN l[k] 0 15<;>rfl) (by unfold zR az bf xG xI;simp) (bF hl)
 rw[cm]at e;rw[e];cases l.all vJ<;>simp;rfl
def K8(l:aa Int)(n:Int)(hl:l.length<1073741824):uf l n=some (rP l n):=by
 unfold uf rP bP;have e:=fN (step:=Ai) l vJ (λi=>((l,n,i,()),())) _ (.inr (.inl ((l,n,()),()))) aP (λk h=>by
  unfold Ai xH az bf xG xI;simp (disch:=omega) [h,bz,dN,vJ];cases aN l[k] 0 15<;>rfl) (by unfold Ai az bf xG xI;simp) (bF hl)
 rw[cm]at e;rw[e];cases l.all vJ<;>simp;rfl
def Sy(l:aa Int):Prop:=l.length=11/\∀s∈l,0<=s/\s<=15
def Sy.ok{l:aa Int}(h:Sy l):rP l 11=true:=by
 simp[rP,aO,cu,vJ,bA];exact⟨λx C=>h.2 x C,by rw[h.1];rfl⟩
def Sy.of{l:aa Int}(h:rP l 11=true):Sy l:=by
 simp[rP,aO,cu,fY,vJ,bA]at h;exact⟨by omega,h.1⟩
def X5{a b:Int}(E:0 <= a/\a <= 15)(hb:0 <= b/\b <= 15):0 <= bits .xor .i64 a b/\bits .xor .i64 a b <= 15/\bits .xor .i64 (bits .xor .i64 a b) b=a:=by
 obtain⟨x,rfl⟩:=fz E.1;obtain⟨y,rfl⟩:=fz hb.1;have D:x<16:=by omega
 have C:y<16:=by omega
 have:=mg D C;rw[rN D C];rw[rN this C]
 grind
def Sy.set{l:aa Int}(h:Sy l){k:Nat}{v:Int}(D:0<=v/\v<=15):Sy (l.set k v):=by
 refine⟨by simp[h.1],λs C=>?_⟩
 rcases List.mem_or_eq_of_mem_set C with C|rfl
 ·exact h.2 s C
 ·exact D
def Sy.get{l:aa Int}(h:Sy l){k:Nat}(C:k<l.length):0<=l[k]/\l[k]<=15:=h.2 _ (cR C)
structure fy (g:aI) (B:Int) (a:en):Prop where
 cells:(a.cells.length:Int)=ez g
 syms:∀c∈a.cells,Sy c.symbols
 bC:(a.bC.length:Int)=fP g
 bw:(a.bw.length:Int)=fP g
 K9:∀x∈a.bC,0<=x/\x<=B
 hit:∀x∈a.bw,0<=x/\x<=100000
def axq(c:cq)(h:c.symbols.length<1073741824):Qx c=some c:=by
 unfold Qx xA xZ;simp[bD,h]
def aio(c:cq)(h:c.symbols.length<1073741824):Kh c=some c:=by
 unfold Kh xA xZ;simp[bD,h]
def axr(a:en)(O:a.cells.length<1073741823)(C:a.bC.length<1073741824)(D:a.bw.length<1073741824)(E:∀ c∈a.cells,c.symbols.length<1073741824):KF a=some a:=by
 unfold KF xA br xZ;have e:=cD (step:=KE) a.cells.length (λi=>(((),(),a.cells,(a.cells.length:Int),(i:Int),()),(((),(),(),()),((),(),(),()),([]:aa cq),([]:aa Int),([]:aa Int),a.cells.take i,(([]:aa Int)++a.bC),(([]:aa Int)++a.bw),())))
  (.inl (((),(),()),(((),(),(),()),((),(),(),()),([]:aa cq),([]:aa Int),([]:aa Int),a.cells,(([]:aa Int)++a.bC),(([]:aa Int)++a.bw),()))) aP (λk h=>by
  unfold KE az xG xI;have I:min k a.cells.length=k:=by omega
  have L:bD (k+1)=true:=cM;simp (disch:=omega) [h,bz,axq _ (E _ (cR h)),I,L]) (by unfold KE az xG xI;simp) (bF)
 rw[cm,List.take_zero]at e;rw[e];simp[bD,C,D]
def axt(a:en)(O:a.cells.length<1073741823)(C:a.bC.length<1073741824)(D:a.bw.length<1073741824)(E:∀ c∈a.cells,c.symbols.length<1073741824):P5 a=some a:=by
 unfold P5 xA br xZ;have e:=cD (step:=Kj) a.cells.length (λi=>(((),(),(),(i:Int),()),((a.cells,a.bC,a.bw,()),((),(),(),()),((),(),(),()),([]:aa cq),([]:aa Int),([]:aa Int),a.cells.take i,(([]:aa Int)++a.bC),(([]:aa Int)++a.bw),())))
  (.inl (((),(),()),(((),(),(),()),((),(),(),()),([]:aa cq),([]:aa Int),([]:aa Int),a.cells,(([]:aa Int)++a.bC),(([]:aa Int)++a.bw),()))) aP (λk h=>by
  unfold Kj az xG xI;have I:min k a.cells.length=k:=by omega
  have L:bD (k+1)=true:=cM;simp (disch:=omega) [h,bz,aio _ (E _ (cR h)),I,L]) (by unfold Kj az xG xI;simp) (bF)
 rw[cm,List.take_zero]at e;rw[e];simp[bD,C,D]
def CN(c:cq):Bool:=rP c.symbols 11
def vL(p:Int×Int):Bool:=aN p.1 0 100000&&aN p.2 0 100000
def oA(g:aI)(a:en):Bool:=cw g&&(decide ((a.cells.length:Int)=ez g)&&(decide ((a.bC.length:Int)=fP g)&&(decide ((a.bw.length:Int)=fP g)&&(a.cells.all CN&&(a.bC.zip a.bw).all vL))))
def axu(g:aI)(a:en)(I:∀ c∈a.cells,c.symbols.length<1073741824):It g a=some (oA g a):=by
 unfold It oA bP;rw[mS,ak,rL,ak,XU];cases L:cw g with
 |false=>rfl
 | true=>
  have U:=mT g;have Y:=qm g;have er:aR g*g.rows=fP g:=by simp[fP,L]
  simp only[bB,au,ak,bZ,er];rw[aV];by_cases C:(a.cells.length:Int)=ez g
  ·by_cases D:(a.bC.length:Int)=fP g
   ·by_cases E:(a.bw.length:Int)=fP g
    ·have hl:a.bC.length=a.bw.length:=by omega
     have l1:=fN (step:=Ir) a.cells CN (λi=>(((),a.cells,(a.cells.length:Int),(i:Int),()),((a.cells,a.bC,a.bw,()),()))) (.inl ((false,()),())) (.inr (.inl (((),()),((a.cells,a.bC,a.bw,()),())))) aP (λk h=>by
      unfold Ir az bf xG xI;simp (disch:=omega) [h,bz,ain _ 11 (I _ (cR h)),CN];cases rP a.cells[k].symbols 11<;>rfl) (by unfold Ir az bf xG xI;simp) (bF)
     have l2:=fN (step:=Is) (a.bC.zip a.bw) vL (λi=>(((),(a.bC.length:Int),(i:Int),()),((a.cells,a.bC,a.bw,()),()))) (.inl ((false,()),())) (.inr (.inl ((),()))) aP (λk h=>by
      have O:k<a.bC.length:=by simp at h;omega
      have T:k<a.bw.length:=by omega
      unfold Is az bf xG xI;simp (disch:=omega) [O,T,bz,dR,vL];cases aN a.bC[k] 0 100000<;>cases aN a.bw[k] 0 100000<;>rfl) (by unfold Is az bf xG xI;simp[hl]) (bF (by simp;omega))
     rw[cm]at l1 l2;simp only[C,D,E,bne_self_eq_false,au,decide_true,bZ];rw[<-C,l1];cases Z:a.cells.all CN with
     |false=>simp
     | true=>
      simp only[aq,Option.bind_some,Sum.elim_inr,dX];rw[l2];cases (a.bC.zip a.bw).all vL<;>simp
    ·simp[C,D,fO E,E]
   ·simp[C,fO D,D]
  ·simp[fO C,C]
def Q9{b:aa Int}{c:bN}(C:kr b c)(l:aa Int)(hl:0<l.length):Dr b (Ab c l) λx=>x∈l:=by
 unfold Ab xI;rw[C.eq]
 refine(fq C _).bind λI L E D=>?_
 rw[aB ⟨E.1,by dsimp only;omega⟩];rw[D.eta];exact Dr.pure D (cR _)
def Ra{b:aa Int}{c:bN}(C:kr b c)(n:Int):Dr b (Cg c n) λ_=>True:=by
 unfold Cg;rw[C.eq]
 refine(fq C _).bind λE I L D=>?_
 rw[D.eta];exact Dr.pure D trivial
def mV(g:aI):(⟨g.bK,g.aA,g.rows,g.aL⟩:aI)=g:=rfl
def axv{b:aa Int}{c:bN}(D:kr b c){g:aI}(C:cw g=true):Dr b (OE c g) λa=>dz g a=true:=by
 have Y:=K3 C;have⟨_,_,_,_,Z,g6,g7,g8⟩:=fe C;unfold OE;rw[me,ak,D.eq]
 refine(fq D _).bind λx1 k1 E I=>?_
 dsimp only;rw[I.eta]
 refine(fq I _).bind λx2 k2 L O=>?_
 dsimp only;rw[O.eta]
 refine(fq O _).bind λx3 k3 T U=>?_
 dsimp only;rw[U.eta];exact Dr.pure U (vF C E.1 (E.2.2 (by omega)) L.1 (L.2.2 (by omega)) T.1 (T.2.2 (by omega)))
def rQ(n x:Int):Int:=if 100000<x+n then 100000 else x+n
def X6(l:aa Int)(h:∀ s∈l,0 <= s/\s <= 15):bk (l.map Int.toNat)=l/\dG (l.map Int.toNat):=by
 constructor
 ·induction l with
  |nil=>rfl
  | cons x l C=>
   have D:=h x (.head _);have:=C λs E=>h s (.tail _ E)
   grind
 ·intro x D
  grind
def La{w:aa Nat}(D:dG w)(hl:w.length=11):Sy (bk w):=by
 refine⟨by rw[gR,hl],λs C=>?_⟩
 simp at C;obtain⟨x,E,rfl⟩:=C;have:=D x E;omega
def Sy.mem{l:aa cq}(h:∀c∈l,Sy c.symbols){k:Nat}(C:k<l.length):Sy l[k].symbols:=h _ (cR C)
def Sy.bV{l:aa cq}(h:∀c∈l,Sy c.symbols){k:Nat}{d:cq}(C:Sy d.symbols):∀c∈l.set k d,Sy c.symbols:=by grind
def Lb{l:aa Int}{B C:Int}(h:∀x∈l,B <= x/\x <= C){k:Nat}{v:Int}(D:B <= v/\v <= C):∀x∈l.set k v,B <= x/\x <= C:=by grind
def xS(l:nu)(a:en)(i:Nat):Bool:=decide (a.bC.getD i 0 > l.bC) ||decide (a.bw.getD i 0 > l.bw)
def axw(g:aI)(l:nu)(a:en)(i:Nat)(C:i<a.bC.length)(D:i<a.bw.length):JS g l a (i:Int)=some (xS l a i):=by
 unfold JS xS xI
 grind
def axx{l:aa Int}{B C:Int}(h:∀ x∈l,B<=x/\x<=C)(k:Nat)(D:B<=0/\0<=C):B<=l.getD k 0/\l.getD k 0<=C:=by
 rw[ei];cases E:l[k]? with
 |none=>exact D
 |some x=>exact h x (gF E)
def aip{x:Int}(h:0<=x/\x<=100000){n:Int}(C:0<=n):0<=rQ n x/\rQ n x<=100000:=by
 unfold rQ;split<;>omega
def pI(k:Nat)(h:aa Int):aa Int:=h.set k (rQ 1 (h.getD k 0))
def Lc(k:Nat)(h:aa Int):(pI k h).length=h.length:=by simp[pI]
def Rb{k:Nat}{h:aa Int}(hb:∀ x∈h,0<=x/\x<=100000):∀ x∈pI k h,0<=x/\x<=100000:=
 Lb hb (aip (axx hb k ⟨by omega,by omega⟩) (by omega))
def X7{k:Nat}{h:aa Int}(C:k<h.length):pI k h=h.set k (rQ 1 h[k]):=by
 unfold pI;rw[ei,bQ C];rfl
def Ay(row:Int)(i:Nat)(h:aa Int):aa Int:=bif decide (0<row)then pI (i-1) (h.set i 0)else h.set i 0
def vM(R row:Int)(i:Nat)(h:aa Int):aa Int:=bif decide (row<R-1)then pI (i+1) (Ay row i h)else Ay row i h
def axy(row:Int)(i:Nat)(h:aa Int):(Ay row i h).length=h.length:=by
 unfold Ay;cases decide (0<row)<;>simp[Lc]
def axz(R row:Int)(i:Nat)(h:aa Int):(vM R row i h).length=h.length:=by
 unfold vM;cases decide (row<R-1)<;>simp[Lc,axy]
def axA{row:Int}{i:Nat}{h:aa Int}(hb:∀ x∈h,0<=x/\x<=100000):∀ x∈Ay row i h,0<=x/\x<=100000:=by
 have C:=Lb hb (k:=i) (v:=0) ⟨by omega,by omega⟩;unfold Ay;cases decide (0<row)
 ·exact C
 ·exact Rb C
def axB{R row:Int}{i:Nat}{h:aa Int}(hb:∀ x∈h,0<=x/\x<=100000):∀ x∈vM R row i h,0<=x/\x<=100000:=by
 have C:=axA (row:=row) (i:=i) hb;unfold vM;cases decide (row<R-1)
 ·exact C
 ·exact Rb C
def Gv{C:Type}(P:C->Prop)(o:aj C):Prop:=∃y,o=some y/\P y
def Gv.pure{C:Type}{P:C->Prop}{y:C}(h:P y):Gv P (some y):=⟨y,rfl,h⟩
def Gv.bind{α C:Type}{Q:α->Prop}{P:C->Prop}{f:aj α}{g:α->aj C}(h:Gv Q f)(D:∀ y,Q y->Gv P (g y)):Gv P (f.bind g):=by
 obtain⟨y,rfl,E⟩:=h;exact D y E
def axC(x a b:Int):Gv (λy=>y=aN x a b) (cy x a b):=⟨_,dN x a b,rfl⟩
def axD(k:Int):Gv (λy=>y=(aN k 1 5,k==1,(k==2 || k==3))) (PD k):=by
 refine Gv.bind (axC _ _ _) (λ_ h=>?_)
 subst h;cases h:k==2<;>exact Gv.pure (by simp)
def qt(t:ck):aa Int:=[t.kJ,t.rp,t.gG,t.nW,t.kK,t.iN,t.nX,t.nY,t.jl,t.wr,t.nZ,t.n5,t.qM,t.n6,t.oK,t.xp,t.xs]
def Az(x:Int):Bool:=aN x 1 64
def gS(t:ck):Bool:=(qt t).all Az&&(decide (t.kJ<=t.gG)&&(decide (t.nW<=t.kK)&&(decide (t.nX<=t.nY)&&decide (t.nZ<=t.n5))))
def Ld(t:ck):B1 t=some (gS t):=by
 unfold B1 gS bP;change (iter Eo aP (((),(),((qt t).length:Int),(0:Int),()),(t,qt t,()))).bind _=_;have C:(qt t).length=17:=rfl;generalize qt t=l at *
 have e:=fN (step:=Eo) l Az (λi=>(((),(),(l.length:Int),(i:Int),()),(t,l,()))) _ (.inr (.inl (((),()),(t,())))) aP (λk h=>by
  unfold Eo az bf xG xL;simp (disch:=omega) [h,bz,dR,Az];cases aN l[k] 1 64<;>rfl) (by unfold Eo az bf xG xL;simp) (bF)
 rw[cm]at e;rw[e];cases l.all Az<;>simp
 grind
def Rc(t:ck):Cj t=some (gS t):=by
 unfold Cj gS WS bP;rw[ak];change (iter EJ aP (((),(),(0:Int),()),(t,qt t,()))).bind _=_;have C:(qt t).length=17:=rfl;generalize qt t=l at *
 have e:=fN (step:=EJ) l Az (λi=>(((),(),(i:Int),()),(t,l,()))) (.inl ((false,()),())) (.inr (.inl (((),()),(t,())))) aP (λk h=>by
  unfold EJ az bf xG xL;simp (disch:=omega) [h,bz,dN,Az];cases aN l[k] 1 64<;>rfl) (by unfold EJ az bf xG xL;simp) (bF)
 rw[cm]at e;rw[e];cases l.all Az<;>simp
 grind
def axE(t:ck):IW t=zM t:=by
 unfold IW zM;rw[Ld,Rc]
def axF(t:ck):∃ y,zM t=some y:=by
 unfold zM;rw[Ld];cases gS t<;>exact⟨_,rfl⟩
def Le(R i:Nat):Int:=((i % R:Nat):Int)
def mh(n R:Nat):aa Int:=(List.range n).map (Le R)
def X8(n R:Nat):(mh n R).length=n:=by simp[mh]
def axG(n R:Nat):mh (n+1) R=mh n R++[Le R n]:=by simp[mh,List.range_succ]
def jw(g:aI)(n:Int):Bool:=cw g&&(aN n 0 2&&decide (2<=g.rows-n))
def sO(g:aI)(n:Int):dI×Bool:=bif jw g n then (⟨n,mh ((aR g).toNat*(g.rows-n).toNat) (g.rows-n).toNat⟩,true)else (⟨0,[]⟩,false)
def Rd{g:aI}{n:Int}(h:jw g n=true):cw g=true/\0 <= n/\n <= 2/\2 <= g.rows-n/\g.rows <= 16:=by
 simp[jw,aO,bA,fY]at h;have⟨C,⟨D,E⟩,I⟩:=h;have:=fe C;simp_all
def X9(g:aI)(n:Int):EI g n=some (sO g n):=by
 unfold EI sO br;rw[Ax,ak];cases D:cw g with
 |false=>simp[jw,D]
 | true=>
  simp only[bB,au,dN,ak];cases E:aN n 0 2 with
  |false=>simp[jw,E]
  | true=>
   have Z:=bA.1 E;have gb:=fe D;simp only[bB,au];rw[aV];by_cases I:g.rows-n<2
   ·have:decide (2<=g.rows-n)=false:=aX;rw[aQ I,aq];simp[jw,this]
   ·have O:jw g n=true:=by simp[jw,D,E];omega
    rw[aX I,au,O,aq];have T:=dS g;obtain⟨C,hb⟩:=fz T.1;obtain⟨R,hR⟩:=fz (show 0<=g.rows-n by omega);have hm:C*R<=8*16:=Nat.mul_le_mul (by omega) (by omega);have hmul:W6 ((C:Int)*(R:Int))=((C*R:Nat):Int):=by
     rw[<-Int.natCast_mul];exact aV
    have L:W6 (g.rows-n)=(R:Int):=by rw[hR];exact aV
    have e:=cD (step:=IV) (C*R) (λi=>((n,(),(),(),(i:Int),()),((g.bK,g.aA,g.rows,g.aL,()),((0:Int),(),()),(n,(),()),([]:aa Int),mh i R,())))
     (.inl (((),(),()),(((0:Int),(),()),(n,(),()),([]:aa Int),mh (C*R) R,()))) aP (λk h=>by
     unfold IV az xG;have U:bD ((mh k R).length+1)=true:=cM (by rw[X8];omega);have Y:(k:Int).tmod (R:Int)=Le R k:=by unfold Le;exact(Int.ofNat_tmod k R).symm
     dsimp only;rw[mV,me,ak,L,hb,hmul,aQ,aq,bJ,Y];simp only[nj,List.length_nil,eN];rw[U,aq,bz,axG]) (by
     unfold IV az xG;dsimp only;rw[mV,me,ak,L,hb,hmul,aX,au]) (bF)
    rw[cm]at e
    refine(bq (λo=>Option.bind o _) e).trans ?_
    rw[hb,hR];rfl
def axH(b R:Nat)(hR:0<R)(j:Nat)(C:j <= R):mh (b*R+j) R=mh (b*R) R++(List.range j).map (λi:Nat=>(i:Int)):=by
 unfold mh;rw[List.range_add,kX,List.map_map];congr 1
 refine List.map_congr_left λi hi=>?_
 have hi:=fk.1 hi;simp only[Function.comp,Le];rw[Nat.mul_comm,Nat.mul_add_mod,Nat.mod_eq_of_lt (by omega)]
def aiq(g:aI)(n:Int):Ib g n=some (sO g n):=by
 unfold Ib sO br;rw[rL,ak];cases C:cw g with
 |false=>simp[jw,C]
 | true=>
  simp only[bB,au,dR,ak];cases D:aN n 0 2 with
  |false=>simp[jw,D]
  | true=>
   have Y:=bA.1 D;have Z:=fe C;simp only[bB,au];rw[aV];by_cases I:g.rows-n<2
   ·have:decide (2<=g.rows-n)=false:=aX;rw[aQ I,aq];simp[jw,this]
   ·have O:jw g n=true:=by simp[jw,C,D];omega
    rw[aX I,au,O,aq];have T:=dS g;obtain⟨E,hb⟩:=fz T.1;obtain⟨R,hR⟩:=fz (show 0<=g.rows-n by omega);have L:W6 (g.rows-n)=(R:Int):=by rw[hR];exact aV
    have inner:∀ b:Nat,b<E->iter En aP ((n,(),(),(),(b:Int),(0:Int),()),((g.bK,g.aA,g.rows,g.aL,()),((0:Int),(),()),(n,(),()),([]:aa Int),mh (b*R) R,()))=some (.inl ((n,(),(),(),(b:Int),()),((g.bK,g.aA,g.rows,g.aL,()),((0:Int),(),()),(n,(),()),([]:aa Int),mh ((b+1)*R) R,()))):=by
     intro b Lg;have hm:b*R<=8*16:=Nat.mul_le_mul (by omega) (by omega);have e:=cD (step:=En) R (λj=>((n,(),(),(),(b:Int),(j:Int),()),((g.bK,g.aA,g.rows,g.aL,()),((0:Int),(),()),(n,(),()),([]:aa Int),mh (b*R) R++(List.range j).map (λi:Nat=>(i:Int)),())))
      (.inl ((n,(),(),(),(b:Int),()),((g.bK,g.aA,g.rows,g.aL,()),((0:Int),(),()),(n,(),()),([]:aa Int),mh (b*R) R++(List.range R).map (λi:Nat=>(i:Int)),()))) aP (λk h=>by
      unfold En az xG;have U:bD ((mh (b*R) R++(List.range k).map (λi:Nat=>(i:Int))).length+1)=true:=cM (by simp[X8];omega);dsimp only;rw[L,aQ,aq];simp only[nj,List.length_nil,eN];rw[U,aq,bz,List.range_succ,kX,List.append_assoc];rfl) (by
      unfold En az xG;dsimp only;rw[L,aX,au]) (bF)
     rw[cm,List.range_zero,List.map_nil,List.append_nil]at e;rw[e,<-axH b R (by omega) R (dx _),iC]
    have e:=cD (step:=Ia) E (λi=>((n,(),(),(),(i:Int),()),((g.bK,g.aA,g.rows,g.aL,()),((0:Int),(),()),(n,(),()),([]:aa Int),mh (i*R) R,())))
     (.inl (((),(),()),(((0:Int),(),()),(n,(),()),([]:aa Int),mh (E*R) R,()))) aP (λk h=>by
     unfold Ia az xG br;dsimp only;rw[mV,mS,ak,hb,aQ,aq]
     refine(bq (λo=>Option.bind o _) (inner k h)).trans ?_
     rw[ak];simp only[dX];rw[bz]) (by
     unfold Ia az xG br;dsimp only;rw[mV,mS,ak,hb,aX,au]) (bF)
    rw[cm,Nat.zero_mul]at e
    refine(bq (λo=>Option.bind o _) e).trans ?_
    rw[hb,hR];rfl
def CO(t:ck):Int:=(zM t).getD 0
def air(t:ck):zM t=some (CO t):=by
 obtain⟨y,e⟩:=axF t;unfold CO;rw[e];rfl
def axI(t:ck):IW t=some (CO t):=by rw[axE,air]
def Ya(m:nt):Ic m=some (aN m.order 0 2):=by
 unfold Ic;rw[dR];rfl
def axJ(m:nt):EK m=some (aN m.order 0 2):=by
 unfold EK;rw[dN];rfl
def nR(c:fm):Bool:=cw c.ax&&(gS c.bX&&(aN c.mapping.order 0 2&&(jw c.ax c.bM&&(aN c.interval (CO c.bX) 10000&&(aN c.iF 1 16&&(aN c.eC.bC (W6 ((6:Int)*c.interval)) 100000&&aN c.eC.bw 0 100000))))))
def Re(g:aI)(n:Int):(sO g n).2=jw g n:=by
 unfold sO;cases jw g n<;>rfl
def Rf(c:fm):N5 c=some (nR c):=by
 unfold N5 nR;simp only[aiq,rL,Ld,Ya,air,dR,ak,Re];cases cw c.ax<;>cases gS c.bX<;>cases aN c.mapping.order 0 2<;>cases jw c.ax c.bM<;>cases aN c.interval (CO c.bX) 10000<;>cases aN c.iF 1 16<;>cases aN c.eC.bC (W6 ((6:Int)*c.interval)) 100000<;>rfl
def axK(c:fm):ON c=some (nR c):=by
 unfold ON nR;simp only[X9,Rc,axJ,axI,dN,ak,Re];cases h:jw c.ax c.bM with
 |false=>cases cw c.ax<;>cases gS c.bX<;>cases aN c.mapping.order 0 2<;>rfl
 | true=>
  rw[(Rd h).1];cases gS c.bX<;>cases aN c.mapping.order 0 2<;>cases aN c.interval (CO c.bX) 10000<;>cases aN c.iF 1 16<;>cases aN c.eC.bC (W6 ((6:Int)*c.interval)) 100000<;>rfl
def ais{c:fm}(h:nR c=true):cw c.ax=true/\gS c.bX=true/\jw c.ax c.bM=true/\aN c.iF 1 16=true:=by
 simp[nR,aO]at h;simp_all
def ait{t:ck}(h:gS t=true):(1 <= t.gG/\t.gG <= 64)/\1 <= t.rp/\t.rp <= 64:=by
 simp[gS,aO,cu]at h;have C:=h.1 t.gG (by simp[qt]);have D:=h.1 t.rp (by simp[qt]);simp[Az,bA]at C D;simp_all
def nS(s:cE):Bool:=aN s.weight 1 9&&aN s.fJ 0 s.weight
def ia(l:aa cE):Bool:=l.all nS&&aN (l.length:Int) 1 4
def Lh(l:aa cE)(hl:l.length<1073741824):Ep l=some (ia l):=by
 unfold Ep ia bP;have e:=fN (step:=Ie) l nS (λi=>((l,l,l.length,i,()),())) _ (.inr (.inl ((l,()),()))) aP (λk h=>by
  unfold Ie az bf xG xI;simp (disch:=omega) [h,bz,dR,nS];cases aN l[k].weight 1 9<;>cases aN l[k].fJ 0 l[k].weight<;>rfl) (by unfold Ie az bf xG xI;simp) (bF hl)
 rw[cm]at e;rw[e];cases l.all nS<;>simp[dR]
def Yb(l:aa cE)(hl:l.length<1073741824):EL l=some (ia l):=by
 unfold EL ia bP;have e:=fN (step:=IY) l nS (λi=>((l,i,()),())) _ (.inr (.inl ((l,()),()))) aP (λk h=>by
  unfold IY az bf xG xI;simp (disch:=omega) [h,bz,dN,nS];cases aN l[k].weight 1 9<;>cases aN l[k].fJ 0 l[k].weight<;>rfl) (by unfold IY az bf xG xI;simp) (bF hl)
 rw[cm]at e;rw[e];cases l.all nS<;>simp[dN]
def jM(w:Int):cE:=⟨w,w⟩
def xT(l:aa Int):aa cE×Bool:=bif ia (l.map jM)then (l.map jM,true)else ([],false)
def aiu{l:aa Int}{k:Nat}(h:k<l.length):(l.take (k+1)).map jM=(l.take k).map jM++[⟨l[k],l[k]⟩]:=by
 rw[List.take_succ_eq_append_getElem h,kX];rfl
def Yc(l:aa Int)(hl:l.length<1073741823):B2 l=some (xT l):=by
 unfold B2 xT br;have e:=cD (step:=Ig) l.length (λi=>(((),l,(l.length:Int),(i:Int),()),((l.take i).map jM,()))) _ aP (λk h=>by
  unfold Ig az xG xI;have C:bD (((l.take k).map jM).length+1)=true:=cM (by simp;omega);dsimp only;rw[aQ,aq,aB ⟨by omega,by omega⟩];simp only[nj,List.length_nil,eN,bu];rw[C,aq,bz,aiu h]) (by
  unfold Ig az xG xI;dsimp only;rw[aX,au,ir]) (bF)
 refine(bq (λo=>Option.bind o _) e).trans ?_
 rw[ak];simp only[dX];rw[Lh _ (by simp;omega),ak]
 grind
def Yd(l:aa Int)(hl:l.length<1073741823):Ad l=some (xT l):=by
 unfold Ad xT br;have e:=cD (step:=IZ) (min l.length 5) (λi=>((l,(),(i:Int),()),((l.take i).map jM,()))) (.inl (((),()),((l.take 5).map jM,()))) aP (λk h=>by
  have C:k<l.length:=by omega
  unfold IZ az xG xI;have D:bD (((l.take k).map jM).length+1)=true:=cM (by simp;omega);dsimp only;rw[aQ,aq,aQ,aq,aB ⟨by omega,by omega⟩,aB ⟨by omega,by omega⟩];simp only[nj,List.length_nil,eN,bu];rw[D,aq,bz,aiu C]) (by
  unfold IZ az xG xI;dsimp only;by_cases c:l.length <= 5
  ·rw[Nat.min_eq_left c,ir,List.take_of_length_le c];by_cases L:l.length=5
   ·rw[aX,au]
   ·rw[aX,au]
  ·rw[Nat.min_eq_right (by omega),aQ,aq,aX,au]) (bF)
 rw[cm,List.take_zero,List.map_nil]at e
 refine(bq (λo=>Option.bind o _) e).trans ?_
 rw[ak];simp only[dX];rw[Yb _ (by simp;omega),ak];by_cases c:l.length <= 5
 ·rw[List.take_of_length_le c];cases ia _<;>rfl
 ·have E:ia (l.map jM)=false:=by
   unfold ia;have:aN ((l.map jM).length:Int) 1 4=false:=by
    rw[Bool.eq_false_iff];intro h;have:=(bA.1 h).2
    grind
   rw[this,Bool.and_false]
  have I:ia ((l.take 5).map jM)=false:=by
   unfold ia;have:aN (((l.take 5).map jM).length:Int) 1 4=false:=by
    rw[Bool.eq_false_iff];intro h;have:=(bA.1 h).2
    grind
   rw[this,Bool.and_false]
  rw[E,I];rfl
def aiv(l:aa Int):(xT l).2=ia (l.map jM):=by
 unfold xT;cases ia (l.map jM)<;>rfl
def mW(d:jc):Bool:=decide (d.low >= 0)&&(decide (d.low<d.high)&&decide (d.high<=12))
def Ye(d:jc):B3 d=some (mW d):=by
 unfold B3 mW
 grind
def Rg(d:jc):Cl d=some (mW d):=by
 unfold Cl mW
 grind
def xU(r:qN):Bool:=aN r.down 1 10000&&(decide (r.sleep > r.down)&&decide (r.sleep<=20000))
def aiw(r:qN):Ih r=some (xU r):=by
 unfold Ih xU;rw[dR]
 grind
def aix(r:qN):IX r=some (xU r):=by
 unfold IX xU;rw[dN]
 grind
def pJ(p:dY):Bool:=aN p.eU 0 1&&(aN p.cap 0 100000&&(aN p.fl 3 1000&&(mW ⟨false,p.low,p.high⟩&&((p.weights.length:Int)==4&&(ia (p.weights.map jM)&&xU p.eB)))))
def Yf(p:dY)(hl:p.weights.length<1073741823):EM p=some (pJ p):=by
 unfold EM pJ;simp[Yd _ hl,ak,dN,Rg,aix,aiv]
 grind
def axL(x:Int):aN x 0 1=(x==0 || x==1):=by
 rw[Bool.eq_iff_iff];simp[aN];omega
def Rh(p:dY)(hl:p.weights.length<1073741823):N6 p=some (pJ p):=by
 unfold N6 pJ;simp[Yc _ hl,ak,dR,Ye,aiw,aiv,axL]
 grind
def axM(x:Int):OP x=zN x:=by
 unfold OP zN;rw[dN,dR]
def Yg(x:Int):∃ y,zN x=some y:=by
 unfold zN;rw[dR];cases aN x 3 1000<;>exact⟨_,rfl⟩
def Yh(c:fm)(p:dY)(hl:p.weights.length<1073741823):∃ b,sK c p=some b/\(b=true->nR c=true):=by
 unfold sK;obtain⟨y,e⟩:=Yg p.fl;simp only[Rf,Rh _ hl,e,ak];cases C:nR c with
 |false=>exact⟨false,rfl,λh=>by cases h⟩
 | true=>
  have E:=ait (ais C).2.1;have D:¬ W6 (c.bX.gG+c.bX.rp)=0:=by
   rw[aV];omega
  cases pJ p with
  |false=>exact⟨false,rfl,λ_=>rfl⟩
  | true=>
   simp only[bJ D,bB,au,aq];cases decide (W6 (y+2)<=c.eC.bw)<;>exact⟨_,rfl,λ_=>by first|rfl|trivial⟩
def axN(c:fm)(p:dY)(hl:p.weights.length<1073741823):∃ b,sK c p=some b/\xz c p=some b/\(b=true->nR c=true):=by
 unfold sK xz;obtain⟨y,e⟩:=Yg p.fl;simp only[Rf,axK,Rh _ hl,Yf _ hl,axM,e,ak];cases C:nR c with
 |false=>exact⟨false,rfl,rfl,λh=>by cases h⟩
 | true=>
  have E:=ait (ais C).2.1;have D:¬ W6 (c.bX.gG+c.bX.rp)=0:=by
   rw[aV];omega
  cases pJ p with
  |false=>exact⟨false,rfl,rfl,λ_=>rfl⟩
  | true=>
   simp only[bJ D,bB,au,aq];cases decide (W6 (y+2)<=c.eC.bw)<;>exact⟨_,rfl,rfl,λ_=>by first|rfl|trivial⟩
def aiy(i:Nat)(l:aa di):((opens i l).length==0)=l.all λb=>!b.open_:=by
 induction l generalizing i with
 |nil=>rfl
 | cons x a C=>
  simp[opens,List.all_cons]
  grind
def qv(g:aI)(b:di):Bool:=aN b.row 0 (g.rows-1)&&(b.open_ ||b.row==0)
def jN(g:aI)(r:bU):Bool:=cw g&&(((r.aA.length:Int)==aR g)&&(aN r.aT 0 2&&(r.aA.all (qv g)&&(r.aT != 2 ||r.aA.all λb=>!b.open_))))
def aiz(g:aI)(r:bU):Im g r=some (jN g r):=by
 unfold Im jN bP;rw[rL,ak,mS];cases D:cw g with
 |false=>rfl
 | true=>
  simp only[bB,au,ak,bZ];by_cases C:(r.aA.length:Int)=aR g
  ·have I:=dS g;have L:=fe D;simp only[C,bne_self_eq_false,au,jj,bZ,dR,ak];cases O:aN r.aT 0 2 with
   |false=>rfl
   | true=>
    have e:=fN (step:=Il) r.aA (qv g) (λi=>(((),(),r.aA,(r.aA.length:Int),(i:Int),()),((g.bK,g.aA,g.rows,g.aL,()),(r.aA,r.aT,()),()))) (.inl ((false,()),())) (.inr (.inl (((),()),((r.aA,r.aT,()),())))) aP (λk h=>by
     unfold Il az bf xG xI;dsimp only;rw[aQ,aq,aB ⟨by omega,by omega⟩];simp only[bu,dR,ak];rw[aV (n:=g.rows-1),bz];unfold qv;cases aN r.aA[k].row 0 (g.rows-1)with
     |false=>rfl
     | true=>
      cases r.aA[k].open_ with
      |true=>rfl
      | false=>
       simp[bne];cases r.aA[k].row==0<;>rfl) (by
     unfold Il az bf xG xI;dsimp only;rw[aX,au]) (bF)
    rw[cm,C]at e;simp only[bB,au,bZ]
    refine(bq (λo=>Option.bind o _) e).trans ?_
    rw[ak];cases r.aA.all (qv g)with
    |false=>rfl
    | true=>
     simp only[aq,Sum.elim_inr,dX,bZ];cases T:r.aT != 2 with
     |true=>rfl
     | false=>
      simp;rw[Q6 ⟨r.aA,r.aT⟩ (by show r.aA.length<_;omega),ak,<- aiy 0 r.aA];congr 1
      grind
  ·have E:((r.aA.length:Int)==aR g)=false:=by simp[C]
   rw[fO C,E];rfl
def axO(g:aI)(r:bU):Qo g r=some (jN g r):=by
 unfold Qo jN bP;rw[Ax,ak,me];cases E:cw g with
 |false=>rfl
 | true=>
  simp only[bB,au,ak,bZ];by_cases D:(r.aA.length:Int)=aR g
  ·have O:=dS g;have T:=fe E;simp only[D,bne_self_eq_false,au,jj,bZ,dN,ak];cases U:aN r.aT 0 2 with
   |false=>rfl
   | true=>
    have e:=fN (step:=Ky) r.aA (λb=>qv g b&&(r.aT != 2 || !b.open_)) (λi=>(((),(),(i:Int),()),((g.bK,g.aA,g.rows,g.aL,()),(r.aA,r.aT,()),()))) (.inl ((false,()),())) (.inr (.inl ((),()))) aP (λk h=>by
     unfold Ky az bf xG xI;dsimp only;rw[aQ,aq,aB ⟨by omega,by omega⟩];simp only[bu,dN,ak];rw[aV (n:=g.rows-1),bz];unfold qv;simp only[bne];cases aN r.aA[k].row 0 (g.rows-1)with
     |false=>rfl
     |true=>cases r.aA[k].open_<;>cases r.aA[k].row==0<;>cases r.aT==2<;>rfl) (by
     unfold Ky az bf xG xI;dsimp only;rw[aX,au]) (bF)
    rw[cm]at e;simp only[bB,au,bZ]
    refine(bq (λo=>Option.bind o _) e).trans ?_
    rw[ak];have I:(r.aA.all λb=>qv g b&&(r.aT != 2 || !b.open_))=(r.aA.all (qv g)&&(r.aT != 2 || r.aA.all λb=>!b.open_)):=by
     cases r.aT != 2 with
     |true=>simp
     | false=>
      simp only[Bool.false_or];rw[Bool.eq_iff_iff];simp only[cu,aO];exact⟨λh=>⟨λx C=>(h x C).1,λx C=>(h x C).2⟩,λh x C=>⟨h.1 x C,h.2 x C⟩⟩
    rw[I];cases (r.aA.all (qv g)&&(r.aT != 2 ||r.aA.all λb=>!b.open_))<;>rfl
  ·have L:((r.aA.length:Int)==aR g)=false:=by simp[D]
   rw[fO D,L];rfl
def AA(d:Int):Bool:=aN d (-2) 5
def ff(r:dn):Bool:=r.aJ.all AA&&(aN (r.aJ.length:Int) 1 8&&aN r.wait 1 10000)
def Ri(r:dn)(hl:r.aJ.length<1073741824):zS r=some (ff r):=by
 unfold zS ff bP;have e:=fN (step:=Iu) _ AA (λi=>(((),r.aJ,r.aJ.length,i,()),((r.aJ,r.wait,r.eP,()),()))) _ (.inr (.inl (((),()),((r.aJ,r.wait,r.eP,()),())))) aP (λk h=>by
  unfold Iu az bf xG xI;simp (disch:=omega) [h,bz,dR,AA];cases aN r.aJ[k] _ 5<;>rfl) (by unfold Iu az bf xG xI;simp) (bF hl)
 rw[cm]at e;rw[e];cases r.aJ.all AA<;>simp[dR]
 grind
def Li(r:dn)(hl:r.aJ.length<1073741824):Af r=some (ff r):=by
 unfold Af ff bP;have e:=fN (step:=I9) _ AA (λi=>(((),i,()),((r.aJ,r.wait,r.eP,()),()))) _ (.inr (.inl (((),()),((r.aJ,r.wait,r.eP,()),())))) aP (λk h=>by
  unfold I9 az bf xG xI;simp (disch:=omega) [h,bz,dN,AA];cases aN r.aJ[k] _ 5<;>rfl) (by unfold I9 az bf xG xI;simp) (bF hl)
 rw[cm]at e;rw[e];cases r.aJ.all AA<;>simp[dN]
 grind
def gz{T:Type}(p:T->Bool)(l:aa T):Int:=match l.findIdx? p with
 |some i=>(i:Int)
 |none=>-1
def vN{α β T:Type}{step:α -> aj (α⊕β)}(l:aa T)(p:T -> Bool)(S:Nat -> α)(D:Nat -> β)(z:β)(fuel:Nat)(E:∀ k (h:k<l.length),step (S k)=some (bif p l[k]then .inr (D k)else .inl (S (k+1))))(I:step (S l.length)=some (.inr z))(C:l.length<fuel):
  iter step fuel (S 0)=some (match l.findIdx? p with|some i=>D i|none=>z):=by
 have key:∀ (n i fuel:Nat),i+n=l.length -> n<fuel -> (∀ j (h:j<l.length),j<i -> p l[j]=false) -> iter step fuel (S i)=some (match l.findIdx? p with | some i=>D i | none=>z):=by
  intro n
  induction n with
  | zero=>
   intro i fuel hi C L
   match fuel,C with
   | f+1,_=>
    have:i=l.length:=by omega
    subst this;have e:l.findIdx? p=none:=by
     rw[List.findIdx?_eq_none_iff];intro x O;obtain⟨j,U,rfl⟩:=jb.1 O
     grind
    unfold iter;rw[I,e]
  | succ n Y=>
   intro i fuel hi C L
   match fuel,C with
   | f+1,C=>
    have Z:i<l.length:=by omega
    unfold iter;rw[E i Z];cases hp:p l[i]with
    | true=>
     have e:l.findIdx? p=some i:=by
      rw[nq]
      grind
     rw[e];rfl
    | false=>
     simp only[au]
     refine Y (i+1) f (by omega) (by omega) λj U HC=>?_
     by_cases e:j=i
     ·grind
     ·grind
 exact key l.length 0 fuel (by omega) C λj _ h=>by omega
def FE{T:Type}{p:T -> Bool}{l:aa T}{i:Nat}(h:i<l.length)(E:p l[i]=true):(gz p l != (i:Int))=(l.take i).any p:=by
 unfold gz;cases C:(l.take i).any p with
 | false=>
  have e:l.findIdx? p=some i:=by
   rw[nq]
   refine⟨h,E,λj D=>?_⟩
   have:=List.any_eq_false.1 C l[j] (jb.2 ⟨j,by simp;omega,by simp⟩);exact this
  rw[e];simp
 | true=>
  have⟨x,I,O⟩:=List.any_eq_true.1 C;obtain⟨j,D,rfl⟩:=jb.1 I;rw[fU]at D;cases L:l.findIdx? p with
  |none=>simp
  | some k=>
   have⟨U,Y,Z⟩:=nq.1 L;have:k≠i:=by
    grind
   simp only;simp;omega
def Rj(x:Int):Bool:=aN x 0 4294967295
def pK(n:Int)(r:aZ):Bool:=aN r.id 1 100000&&(aN r.dL 0 3&&(decide (r.line >= 0)&&(decide (r.line<n)&&(Rj r.data&&((r.write ||r.data==0)&&aN r.at_ 0 1000000)))))
def axP(n:Int)(r:aZ):Of n r=some (pK n r):=by
 unfold Of pK B8 Rj;simp[dR]
 grind
def axQ(n:Int)(r:aZ):OY n r=some (pK n r):=by
 unfold OY pK I3 Rj;simp[dN]
 grind
def ga(x y:aZ):Bool:=decide (x.at_<y.at_) ||(x.at_==y.at_&&decide (x.id<y.id))
def aiA(x y:aZ):Oe x y=some (ga x y):=by
 unfold Oe ga
 grind
def aiB(x y:aZ):OZ x y=some (ga x y):=aiA x y
def Yi(l:aa aZ)(id:Int)(hl:l.length<1073741824):I5 l id=some (gz (λr=>r.id==id) l):=by
 unfold I5 gz bP;have e:=vN (step:=I4) l (λr=>r.id==id) (λi=>((l,id,i,()),())) _ (.inr (.inl ((),()))) aP (λk h=>by
  unfold I4 az bf xG xI;simp (disch:=omega) [h,bz];cases l[k].id==id<;>rfl) (by unfold I4 az bf xG xI;simp) (bF hl)
 rw[cm]at e;rw[e];cases l.findIdx? _<;>rfl
def rR(n:Int)(q:aa aZ)(i:Nat):Bool:=match q[i]? with
 |some r=>pK n r&&((i==0 ||(match q[i-1]? with|some x=>ga x r|none=>false)) && !((q.take i).any λx=>x.id==r.id))
 |none=>false
def Yj{n:Int}{q:aa aZ}(h:0<q.length):rR n q 0=pK n q[0]:=by
 unfold rR;rw[bQ h];simp
def Lj{n:Int}{q:aa aZ}{i:Nat}(h:i+1<q.length):rR n q (i+1)=(pK n q[i+1]&&(ga q[i] q[i+1] && !((q.take (i+1)).any λx=>x.id==q[i+1].id))):=by
 unfold rR
 grind
def iX(n:Int)(q:aa aZ):Bool:=(List.range q.length).all (rR n q)&&decide ((q.length:Int)<=12)
def Yk(n:Int)(q:aa aZ):vu n q=some (iX n q):=by
 unfold vu iX bP;by_cases c:(q.length:Int)<=12
 ·rw[aX (show ¬ (q.length:Int) > 12 by omega),au,aQ c,Bool.and_true];have e:=fN (step:=I6) (List.range q.length) (rR n q) (λi=>((n,q,(i:Int),()),())) (.inl ((false,()),())) (.inr (.inl ((),()))) aP (λk h=>by
   rw[cV]at h;rw[jA];unfold I6 az bf xG xI;dsimp only;rw[aQ,aq,aB ⟨by omega,by omega⟩];simp only[bu,axQ,ak];cases k with
   | zero=>
    rw[Yj h];cases pK n q[0]with
    |false=>rfl
    | true=>
     simp only[bB,au,aq];rw[aX,au,aB ⟨by omega,h⟩,Yi _ _ (by omega),ak,FE h (by simp)];simp;rfl
   | succ k=>
    rw[Lj h];cases pK n q[k+1]with
    |false=>rfl
    | true=>
     simp only[bB,au,bZ];have C:W6 (((k+1:Nat):Int)-1)=(k:Int):=by rw[aV];omega
     simp only[C,bu];rw[aQ,aq,aB ⟨by omega,by omega⟩,aB ⟨by omega,h⟩,aiB,ak];cases ga q[k] q[k+1]with
     |false=>rfl
     | true=>
      simp only[bB,au,bZ];rw[aB ⟨by omega,h⟩,Yi _ _ (by omega),ak,FE h (by simp),bz];cases (q.take (k+1)).any λx=>x.id==q[k+1].id<;>rfl) (by
   rw[cV];unfold I6 az bf xG xI;dsimp only;rw[aX,au]) (by rw[cV];exact bF)
  rw[cm]at e
  refine(bq (λo=>Option.bind o _) e).trans ?_
  rw[ak];cases (List.range q.length).all (rR n q)<;>rfl
 ·rw[aQ (show (q.length:Int) > 12 by omega),aq,aX c,Bool.and_false]
def axR(n:Int)(q:aa aZ){i:Nat}(h:i<q.length)(hl:q.length<1073741824):
  iter Ex aP ((n,q,(),q,(q.length:Int),(i:Int),((q.take i).drop 0),(((q.take i).drop 0).length:Int),(0:Int),()),((q[i].id,q[i].dL,q[i].line,q[i].write,q[i].data,q[i].at_,()),()))=some (bif (q.take i).any (λx=>x.id==q[i].id)then .inl ((false,()),())else .inr (.inl ((n,q,q,(q.length:Int),(i:Int),()),()))):=by
 rw[List.drop_zero];have hlen:(q.take i).length=i:=by rw[fU];omega
 generalize C:q[i]=r;generalize D:q.take i=t at *
 have e:=fN (step:=Ex) t (λx=>!(x.id==r.id)) (λj=>((n,q,(),q,(q.length:Int),(i:Int),t,(t.length:Int),(j:Int),()),((r.id,r.dL,r.line,r.write,r.data,r.at_,()),()))) (.inl ((false,()),())) _ aP (λk h=>by
  unfold Ex az bf xG xI;dsimp only;rw[aQ,aq,aB ⟨by omega,by omega⟩];simp only[bu];rw[bz];cases t[k].id==r.id<;>rfl) (by
  unfold Ex az bf xG xI;dsimp only;rw[aX,au]) (bF)
 grind
def axS(n:Int)(q:aa aZ)(hl:q.length<1073741824):Og n q=some (iX n q):=by
 unfold Og iX bP;have e:=fN (step:=Iy) (List.range q.length) (rR n q) (λi=>((n,q,q,(q.length:Int),(i:Int),()),())) (.inl ((false,()),())) (.inr (.inl ((q,()),()))) aP (λk h=>by
   rw[cV]at h;rw[jA];unfold Iy az bf xG xI bP;dsimp only;rw[aQ,aq,aB ⟨by omega,by omega⟩];simp only[bu,axP,ak];have C:=axR n q h hl;cases k with
   | zero=>
    rw[Yj h];cases pK n q[0]with
    |false=>rfl
    | true=>
     simp only[bB,au,aq];rw[aX,au,bH ⟨by omega,by omega,by omega⟩]
     refine(bq (λo=>Option.bind o _) C).trans ?_
     simp;rfl
   | succ k=>
    rw[Lj h];cases pK n q[k+1]with
    |false=>rfl
    | true=>
     simp only[bB,au,bZ];have D:W6 (((k+1:Nat):Int)-1)=(k:Int):=by rw[aV];omega
     simp only[D,bu];rw[aQ,aq,aB ⟨by omega,by omega⟩,aiA,ak];cases ga q[k] q[k+1]with
     |false=>rfl
     | true=>
      simp only[bB,au,bZ];rw[bH ⟨by omega,by omega,by omega⟩]
      refine(bq (λo=>Option.bind o _) C).trans ?_
      rw[ak];cases (q.take (k+1)).any λx=>x.id==q[k+1].id with
      |true=>rfl
      | false=>
       simp only[au,Sum.elim_inr,dX];rw[bz];rfl) (by
   rw[cV];unfold Iy az bf xG xI bP;dsimp only;rw[aX,au]) (by rw[cV];exact bF)
 rw[cm]at e
 refine(bq (λo=>Option.bind o _) e).trans ?_
 rw[ak];cases (List.range q.length).all (rR n q)<;>rfl
def ku(p:fA):Bool:=aN p.state 0 2&&(aN p.since 0 1000000&&aN p.idle 0 1000000)
def Yl(p:fA):B9 p=some (ku p):=by
 unfold B9 ku;simp[dR]
 grind
def Rk(p:fA):vw p=some (ku p):=by
 unfold vw ku;simp[dN]
 grind
def xV(e:cA):Bool:=aN e.line 0 1023&&((e.code==1 ||e.code==2)&&aN e.times 1 999)
def lP(e x:cA):Bool:=x.line==e.line&&x.code==e.code
def FF(l:aa cA)(i:Nat):Bool:=match l[i]? with
 |some e=>xV e && !((l.take i).any (lP e))
 |none=>false
def Ro{l:aa cA}{i:Nat}(h:i<l.length):FF l i=(xV l[i] && !((l.take i).any (lP l[i]))):=by
 unfold FF;rw[bQ h]
def kR(l:aa cA):Bool:=(List.range l.length).all (FF l)&&decide ((l.length:Int)<=6)
def aiC(l:aa cA)(e:cA)(hl:l.length<1073741824):JK l e.line e.code=some (gz (lP e) l):=by
 unfold JK gz bP;have e:=vN (step:=JJ) l (lP e) (λi=>((l,e.line,e.code,i,()),())) _ _ aP (λk h=>by
  unfold JJ lP az bf xG xI;dsimp only;rw[aQ,aq,aB ⟨by omega,by omega⟩,aB ⟨by omega,by omega⟩];simp only[bu];rw[bz];cases l[k].line==e.line<;>cases l[k].code==e.code<;>rfl) (by
  unfold JJ az bf xG xI;dsimp only;rw[aX,au]) (bF hl)
 rw[cm]at e;rw[e];cases l.findIdx? _<;>rfl
def aiD(l:aa cA):JM l=some (kR l):=by
 unfold JM kR bP;by_cases c:(l.length:Int) <= 6
 ·rw[aX (show ¬ (l.length:Int) > 6 by omega),au,aQ c,Bool.and_true];have e:=fN (step:=JL) _ (FF l) (λi=>((l,(i:Int),()),())) _ _ aP (λk h=>by
   rw[cV]at h;rw[jA,Ro h];unfold JL E6 xV az bf xG xI;dsimp only;rw[aQ,aq,aB ⟨by omega,by omega⟩,aB ⟨by omega,by omega⟩,aB ⟨by omega,by omega⟩];simp only[bu,dN,ak];rw[aiC _ _ (by omega),ak,FE h (by simp[lP]),bz];cases aN l[k].line 0 1023<;>cases l[k].code==1<;>cases l[k].code==2<;>cases aN l[k].times 1 999<;>cases (l.take k).any (lP l[k])<;>rfl) (by
   rw[cV];unfold JL az bf xG xI;dsimp only;rw[aX,au]) (by rw[cV];exact bF)
  refine(bq (λo=>Option.bind o _) e).trans ?_
  rw[ak];cases (List.range l.length).all (FF l)<;>rfl
 ·rw[aQ (show (l.length:Int) > 6 by omega),aq,aX c,Bool.and_false]
def axT(l:aa cA){i:Nat}(h:i<l.length)(hl:l.length<1073741824):
  iter Ey aP ((l,(),l,(l.length:Int),(i:Int),((l.take i).drop 0),(((l.take i).drop 0).length:Int),(0:Int),()),((l[i].line,l[i].code,l[i].times,()),()))=some (bif (l.take i).any (lP l[i])then .inl ((false,()),())else .inr (.inl ((l,l,(l.length:Int),(i:Int),()),()))):=by
 rw[List.drop_zero];have hlen:(l.take i).length=i:=by rw[fU];omega
 generalize C:l[i]=r;generalize D:l.take i=t at *
 have e:=fN (step:=Ey) t (λx=>!(lP r x)) (λj=>((l,(),l,(l.length:Int),(i:Int),t,(t.length:Int),(j:Int),()),((r.line,r.code,r.times,()),()))) _ _ aP (λk h=>by
  unfold Ey lP az bf xG xI;dsimp only;rw[aQ,aq,aB ⟨by omega,by omega⟩];simp only[bu];rw[bz,BEq.comm (a:=r.line),BEq.comm (a:=r.code)];cases t[k].line==r.line<;>cases t[k].code==r.code<;>rfl) (by
  unfold Ey az bf xG xI;dsimp only;rw[aX,au]) (bF)
 grind
def aiE(l:aa cA)(hl:l.length<1073741824):IA l=some (kR l):=by
 unfold IA kR bP;have e:=fN (step:=Iz) _ (FF l) (λi=>((l,l,l.length,i,()),())) _ _ aP (λk h=>by
   rw[cV]at h;rw[jA,Ro h];have C:=axT l h hl;unfold Iz xV az bf xG xI bP;dsimp only;rw[aQ,aq,aB ⟨by omega,by omega⟩];simp only[bu,dR,ak,bne];rw[bH ⟨by omega,by omega,by omega⟩];rw[show (0:Int).toNat=0 from rfl,C];cases aN l[k].line 0 1023<;>cases l[k].code==1<;>cases l[k].code==2<;>cases aN l[k].times 1 999<;>cases (l.take k).any (lP l[k])<;>first|rfl|(simp only[aq,au,bB,gM,ak,Sum.elim_inr,dX];rw[bz];rfl)) (by
   rw[cV];unfold Iz az bf xG xI bP;dsimp only;rw[aX,au]) (by rw[cV];exact bF)
 refine(bq (λo=>Option.bind o _) e).trans ?_
 cases (List.range _).all _<;>rfl
def Rp(l:aa Int)(x:Int)(hl:l.length<1073741824):B7 l x=some (gz (λe=>x==e) l):=by
 unfold B7 gz;have e:=vN (step:=Iv) l (λe=>x==e) (λi=>((l,x,l.length,i,()),())) _ _ aP (λk h=>by
  unfold Iv az bf xG xI;dsimp only;rw[aQ,aq,aB ⟨by omega,by omega⟩];simp only[bu];rw[bz];cases x==l[k]<;>rfl) (by
  unfold Iv az bf xG xI;dsimp only;rw[aX,au]) (bF hl)
 rw[cm]at e;rw[e];cases l.findIdx? _<;>rfl
def CP(t:cx)(i:Nat):Bool:=match t.rows[i]?,t.counts[i]? with
 |some r,some c=>aN r (-1) 15&&(aN c t.dg 100000&&((r != -1 ||c==0)&&(r == -1 ||!((t.rows.take i).any λx=>r==x))))
 |_,_=>false
def Rq{t:cx}{i:Nat}(h:i<t.rows.length)(C:i<t.counts.length):CP t i=(aN t.rows[i] (-1) 15&&(aN t.counts[i] t.dg 100000&&((t.rows[i] != -1 || t.counts[i]==0)&&(t.rows[i] == -1 || !((t.rows.take i).any λx=>t.rows[i]==x))))):=by
 unfold CP;rw[bQ h,bQ C]
def kz(t:cx):Bool:=aN (t.rows.length:Int) 1 16&&((t.rows.length:Int)==(t.counts.length:Int)&&(aN t.dg 0 100000&&(List.range t.rows.length).all (CP t)))
def Ym(t:cx):zU t=some (kz t):=by
 unfold zU kz bP;simp only[dR,ak];cases D:aN (t.rows.length:Int) 1 16 with
 |false=>rfl
 | true=>
  have D:=bA.1 D;by_cases C:(t.rows.length:Int)=(t.counts.length:Int)
  ·simp only[C,bne_self_eq_false,jj,bB,au,bZ];cases O:aN t.dg 0 100000 with
   |false=>rfl
   | true=>
    have e:=fN (step:=Iw) (List.range t.rows.length) (CP t) (λi=>(((),t.rows,(t.rows.length:Int),(i:Int),()),((t.rows,t.counts,t.dg,()),()))) (.inl ((false,()),())) (.inr (.inl ((),()))) aP (λk h=>by
     rw[cV]at h;have E:k<t.counts.length:=by omega
     rw[jA,Rq h E];unfold Iw az bf xG xI;dsimp only;rw[aQ,aq,aB ⟨by omega,by omega⟩,aB ⟨by omega,by omega⟩,aB ⟨by omega,by omega⟩];simp only[bu,dR,ak,Rp _ _ (show t.rows.length<1073741824 by omega)];rw[FE (p:=λe=>t.rows[k]==e) h (by simp),bz];simp only[bne];cases aN t.rows[k] (-1) 15<;>cases aN t.counts[k] t.dg 100000<;>cases t.rows[k] == -1<;>cases t.counts[k]==0<;>cases (t.rows.take k).any (λe=>t.rows[k]==e)<;>rfl) (by
     rw[cV];unfold Iw az bf xG xI;dsimp only;rw[aX,au]) (by rw[cV];exact bF)
    rw[cm,C]at e;simp only[bB,au,bZ]
    refine(bq (λo=>Option.bind o _) e).trans ?_
    rw[ak];cases (List.range t.rows.length).all (CP t)<;>rfl
  ·have I:((t.rows.length:Int)==(t.counts.length:Int))=false:=by simp[C]
   have L:((t.counts.length:Int) != (t.rows.length:Int))=true:=fO λh=>C h.symm
   rw[I,L];rfl
def axU(t:cx){i:Nat}(h:i<t.rows.length)(hl:t.rows.length<1073741824):
  iter E7 aP (((),(i:Int),(0:Int),()),((t.rows,t.counts,t.dg,()),()))=some (bif decide (t.rows[i] >= 0)&&(t.rows.take i).any (λx=>t.rows[i]==x)then .inl ((false,()),())else .inr (.inl (((),(i:Int),()),((t.rows,t.counts,t.dg,()),())))):=by
 have hlen:(t.rows.take i).length=i:=by rw[fU];omega
 have e:=fN (step:=E7) (t.rows.take i) (λx=>!(decide (t.rows[i] >= 0)&&t.rows[i]==x)) (λj=>(((),(i:Int),(j:Int),()),((t.rows,t.counts,t.dg,()),()))) _ _ aP (λk C=>by
  unfold E7 az bf xG xI;dsimp only;rw[aQ,aq,aB ⟨by omega,by omega⟩,aB ⟨by omega,by omega⟩,aB ⟨by omega,by omega⟩];simp only[bu,List.getElem_take];rw[bz,BEq.comm (a:=t.rows[k])];cases decide (t.rows[i] >= 0)<;>cases t.rows[i]==t.rows[k]<;>rfl) (by
  rw[hlen];unfold E7 az bf xG xI;dsimp only;rw[aX,au]) (bF)
 grind
def Yn(t:cx):Cv t=some (kz t):=by
 unfold Cv kz bP;simp only[dN,ak];cases D:aN (t.rows.length:Int) 1 16 with
 |false=>rfl
 | true=>
  have D:=bA.1 D;by_cases C:(t.rows.length:Int)=(t.counts.length:Int)
  ·simp only[C,bne_self_eq_false,jj,bB,au,bZ];cases U:aN t.dg 0 100000 with
   |false=>rfl
   | true=>
    have e:=fN (step:=JT) (List.range t.rows.length) (CP t) (λi=>(((),(i:Int),()),((t.rows,t.counts,t.dg,()),()))) (.inl ((false,()),())) (.inr (.inl ((),()))) aP (λk h=>by
     rw[cV]at h;have L:k<t.counts.length:=by omega
     have O:=axU t h (by omega);rw[jA,Rq h L];unfold JT az bf xG xI bP;dsimp only;rw[aQ,aq,aB ⟨by omega,by omega⟩,aB ⟨by omega,by omega⟩,aB ⟨by omega,by omega⟩,aB ⟨by omega,by omega⟩];simp only[bu,dN,ak];rw[O,ak];cases E:aN t.rows[k] (-1) 15 with
     |false=>rfl
     | true=>
      have E:=bA.1 E;cases aN t.counts[k] t.dg 100000 with
      |false=>rfl
      | true=>
       simp only[bB,au,bZ,bne];by_cases I:t.rows[k] = -1
       ·rw[aQ (show t.rows[k]<0 by omega),aX (show ¬ t.rows[k] >= 0 by omega),show (t.rows[k] == -1)=true by simp[I]];simp;rw[bz]
        grind
       ·rw[aX (show ¬ t.rows[k]<0 by omega),aQ (show t.rows[k] >= 0 by omega),show (t.rows[k] == -1)=false by simp[I]];simp only[aq,au,bZ];cases (t.rows.take k).any λx=>t.rows[k]==x with
        |true=>rfl
        | false=>
         simp;rw[bz];rfl) (by
     rw[cV];unfold JT az bf xG xI bP;dsimp only;rw[aX,au]) (by rw[cV];exact bF)
    rw[cm]at e;simp only[bB,au,bZ]
    refine(bq (λo=>Option.bind o _) e).trans ?_
    rw[ak];cases (List.range t.rows.length).all (CP t)<;>rfl
  ·have T:((t.rows.length:Int)==(t.counts.length:Int))=false:=by simp[C]
   rw[T,fO C];rfl
def w9(g:aI):W6 ((9:Int)*(W6 (aR g+(1:Int))))=9*(aR g+1):=by
 have:=dS g;rw[aV (n:=aR g+1),aV]
def Lk(k:Int):xw k=some (aN k 1 5):=by
 unfold xw;rw[dR];rfl
def axV(n:Int)(u:Bool)(k:Int):Ca n u k=some (bif u then aN n 0 (W6 (k-1))else n==0):=by
 unfold Ca;rw[dR];cases u<;>rfl
def oB(g:aI)(i:Nat):Bool:=decide ((i:Int) / 9<aR g)==decide ((i:Int) % 9+1<=5)
def axW(g:aI){i:Nat}(hi:i<1000):PF g (i:Int)=some (oB g i):=by
 unfold PF oB;rw[me,ak,qK (by omega),qJ (by omega),aV,aV,BEq.comm]
def axX(g:aI){i:Nat}(hi:i<1000):∃ c,B4 g (i:Int)=some (c,oB g i):=by
 unfold B4 oB;rw[mS,ak,qK (by omega),qJ (by omega),aV,aV,Lk];have:aN (i % 9+1) 1 5=decide ((i:Int) % 9+1 <= 5):=by
  simp[aN];omega
 rw[this];cases decide (i / 9<aR g)<;>exact⟨_,rfl⟩
def CQ(g:aI)(l:aa Int)(i:Nat):Bool:=match l[i]? with
 |some e=>aN e (-1) 1000000&&(oB g i ||e == -1)
 |none=>false
def Ll{g:aI}{l:aa Int}{i:Nat}(h:i<l.length):CQ g l i=(aN l[i] (-1) 1000000&&(oB g i || l[i] == -1)):=by
 unfold CQ;rw[bQ h]
def oC(l:aa Int)(i:Nat):Bool:=match l[i]? with
 |some e=>aN e 0 1000000&&(i==0 ||(match l[i-1]? with|some x=>!(decide (x >= e))|none=>false))
 |none=>false
def Ln{l:aa Int}(h:0<l.length):oC l 0=aN l[0] 0 1000000:=by
 unfold oC;rw[bQ h];simp
def FG{l:aa Int}{i:Nat}(h:i+1<l.length):oC l (i+1)=(aN l[i+1] 0 1000000 && !(decide (l[i] >= l[i+1]))):=by
 unfold oC
 grind
def jO(g:aI)(r:cZ):Bool:=cw g&&((r.last.length:Int)==9*(aR g+1)&&(!(decide ((r.aU.length:Int) > 4))&&((List.range r.last.length).all (CQ g r.last)&&(List.range r.aU.length).all (oC r.aU))))
def Yo(g:aI)(r:cZ):Ev g r=some (jO g r):=by
 unfold Ev jO bP;rw[rL,ak,mS];cases O:cw g with
 |false=>rfl
 | true=>
  simp only[bB,au,ak,bZ,w9];by_cases C:(r.last.length:Int)=9*(aR g+1)
  ·have T:=dS g;rw[C,bne_self_eq_false,au,jj,bZ,<-C];cases D:decide ((r.aU.length:Int) > 4)with
   |true=>rfl
   | false=>
    have D:=of_decide_eq_false D;have l1:=fN (step:=Io) (List.range r.last.length) (CQ g r.last) (λi=>(((),(),r.last,(r.last.length:Int),(i:Int),()),((g.bK,g.aA,g.rows,g.aL,()),(r.last,r.aU,()),()))) (.inl ((false,()),())) (.inr (.inl (((),()),((r.last,r.aU,()),())))) aP (λk h=>by
     rw[cV]at h;obtain⟨c,E⟩:=axX g (i:=k) (by omega);rw[jA,Ll h];unfold Io az bf xG xI;dsimp only;rw[aQ,aq,aB ⟨by omega,by omega⟩];simp only[bu,dR,ak,mV,E,bne];rw[bz];cases aN r.last[k] (-1) 1000000<;>cases oB g k<;>cases r.last[k] == -1<;>rfl) (by
     rw[cV];unfold Io az bf xG xI;dsimp only;rw[aX,au]) (by rw[cV];exact bF)
    have l2:=fN (step:=Ip) (List.range r.aU.length) (oC r.aU) (λi=>(((),r.aU,(r.aU.length:Int),(i:Int),()),((r.last,r.aU,()),()))) (.inl ((false,()),())) (.inr (.inl ((),()))) aP (λk h=>by
     rw[cV]at h;rw[jA];unfold Ip az bf xG xI;dsimp only;rw[aQ,aq,aB ⟨by omega,by omega⟩];simp only[bu,dR,ak];cases k with
     | zero=>
      rw[Ln h];cases aN r.aU[0] 0 1000000 with
      |false=>rfl
      | true=>
       rw[aX];rfl
     | succ k=>
      rw[FG h];have I:W6 (((k+1:Nat):Int)-1)=(k:Int):=by rw[aV];omega
      simp only[I,bu];rw[aQ (show ((k+1:Nat):Int) > 0 by omega),aB ⟨by omega,by omega⟩,bz];cases aN r.aU[k+1] 0 1000000<;>cases decide (r.aU[k] >= r.aU[k+1])<;>rfl) (by
     rw[cV];unfold Ip az bf xG xI;dsimp only;rw[aX,au]) (by rw[cV];exact bF)
    rw[cm]at l1 l2;simp only[gM,au,bZ]
    refine(bq (λo=>Option.bind o _) l1).trans ?_
    rw[ak];cases (List.range r.last.length).all (CQ g r.last)with
    |false=>rfl
    | true=>
     simp only[aq,Sum.elim_inr,dX,bZ]
     refine(bq (λo=>Option.bind o _) l2).trans ?_
     rw[ak];cases (List.range r.aU.length).all (oC r.aU)<;>rfl
  ·have L:((r.last.length:Int)==9*(aR g+1))=false:=by simp[C]
   rw[fO C,L];rfl
def aiF(g:aI)(r:cZ):JQ g r=some (jO g r):=by
 unfold JQ jO bP;rw[Ax,ak,me];cases L:cw g with
 |false=>rfl
 | true=>
  simp only[bB,au,ak,bZ,w9];by_cases C:(r.last.length:Int)=9*(aR g+1)
  ·have O:=dS g;rw[C,bne_self_eq_false,au,jj,bZ];cases D:decide ((r.aU.length:Int) > 4)with
   |true=>rfl
   | false=>
    have D:=of_decide_eq_false D;have l1:=fN (step:=JO) (List.range r.last.length) (CQ g r.last) (λi=>(((),(),(i:Int),()),((g.bK,g.aA,g.rows,g.aL,()),(r.last,r.aU,()),()))) (.inl ((false,()),())) (.inr (.inl (((),()),((r.last,r.aU,()),())))) aP (λk h=>by
     rw[cV]at h;rw[jA,Ll h];unfold JO az bf xG xI;dsimp only;rw[aQ,aq,aB ⟨by omega,by omega⟩,aB ⟨by omega,by omega⟩];simp only[bu,dN,ak,mV,axW g (show k<1000 by omega),bne];rw[bz];cases aN r.last[k] (-1) 1000000<;>cases oB g k<;>cases r.last[k] == -1<;>rfl) (by
     rw[cV];unfold JO az bf xG xI;dsimp only;rw[aX,au]) (by rw[cV];exact bF)
    have l2:=fN (step:=JP) (List.range r.aU.length) (oC r.aU) (λi=>(((),(i:Int),()),((r.last,r.aU,()),()))) (.inl ((false,()),())) (.inr (.inl ((),()))) aP (λk h=>by
     rw[cV]at h;rw[jA];unfold JP az bf xG xI;dsimp only;rw[aQ,aq,aB ⟨by omega,by omega⟩];simp only[bu,dN,ak];cases k with
     | zero=>
      rw[Ln h];cases aN r.aU[0] 0 1000000 with
      |false=>rfl
      | true=>
       rw[aX];rfl
     | succ k=>
      rw[FG h];have E:W6 (((k+1:Nat):Int)-1)=(k:Int):=by rw[aV];omega
      simp only[E,bu];rw[aQ (show ((k+1:Nat):Int) > 0 by omega),aB ⟨by omega,by omega⟩,aB ⟨by omega,by omega⟩,bz];cases aN r.aU[k+1] 0 1000000<;>cases decide (r.aU[k] >= r.aU[k+1])<;>rfl) (by
     rw[cV];unfold JP az bf xG xI;dsimp only;rw[aX,au]) (by rw[cV];exact bF)
    rw[cm]at l1 l2;simp only[gM,au,bZ]
    refine(bq (λo=>Option.bind o _) l1).trans ?_
    rw[ak];cases (List.range r.last.length).all (CQ g r.last)with
    |false=>rfl
    | true=>
     simp only[aq,Sum.elim_inr,dX,bZ]
     refine(bq (λo=>Option.bind o _) l2).trans ?_
     rw[ak];cases (List.range r.aU.length).all (oC r.aU)<;>rfl
  ·have I:((r.last.length:Int)==9*(aR g+1))=false:=by simp[C]
   rw[fO C,I];rfl
def axY(l:aa Int)(x:Int)(hl:l.length<1073741824):PZ l x=some (l.any λe=>e==x):=by
 unfold PZ bP;have e:=fN (step:=Kb) l (λe=>!(e==x)) (λi=>((l,x,i,()),())) _ _ aP (λk h=>by
  unfold Kb az bf xG xI;dsimp only;rw[aQ,aq,aB ⟨by omega,by omega⟩];simp only[bu];rw[bz];cases l[k]==x<;>rfl) (by
  unfold Kb az bf xG xI;dsimp only;rw[aX,au]) (bF hl)
 rw[cm]at e;rw[e];have:l.all (λe=>!(e==x)) = !l.any λe=>e==x:=by rw[List.any_eq_not_all_not,Bool.not_not]
 rw[this];cases l.any λe=>e==x<;>rfl
def axZ(l:aa Int)(x:Int)(hl:l.length<1073741824):N7 l x=some (l.count x:Int):=by
 unfold N7 br;have e:=cD (step:=Ii) _ (λi=>((x,((l.take i).count x),l,l.length,i,()),())) _ aP (λk h=>by
  unfold Ii az xG xI;have C:(l.take k).count x <= k:=Nat.le_trans List.count_le_length (by rw[fU];omega);dsimp only;rw[aQ,aq,aB ⟨by omega,by omega⟩];simp only[bu];rw[List.take_succ_eq_append_getElem h,List.count_append,List.count_singleton,bz,bz];cases l[k]==x<;>rfl) (by
  unfold Ii az xG xI;dsimp only;rw[aX,au,ir]) (bF hl)
 simp_all
def aiG{x:Int}:∀ (l:aa Int),(∀ j (h:j<l.length),l[j]=x -> x ∉ l.take j) -> l.count x <= 1
 |[],_=>by simp
 | y :: ys,h=>by
  rw[List.count_cons];by_cases e:y=x
  ·have:x ∉ ys:=by
    intro C;have⟨j,E,D⟩:=jb.1 C;refine h (j+1) (by simp;omega) (by simpa using D) ?_;simp_all
   grind
  ·have:=aiG ys λj E D C=>h (j+1) (by simp;omega) (by simpa using D) (by rw[List.take_succ_cons];exact List.mem_cons_of_mem _ C)
   simp_all
def ax0{x:Int}:∀ (l:aa Int) (j:Nat) (h:j<l.length),l[j]=x -> x∈l.take j -> 2 <= l.count x:=by
 intro l j h e C;have D:=List.count_pos_iff.2 C;have E:1 <= (l.drop j).count x:=List.count_pos_iff.2 (by rw[<- e];exact jb.2 ⟨0,by simp;omega,by simp⟩);have:l.count x=(l.take j).count x+(l.drop j).count x:=by rw[<- List.count_append,List.take_append_drop]
 omega
def rS(R M:Int)(L:aa Int)(j:Nat):Bool:=match L[j]? with
 |some e=>e==(j:Int) ||(aN e R M && !(decide ((L.count e:Int) > 1)))
 |none=>false
def vO(R M:Int)(L:aa Int)(j:Nat):Bool:=match L[j]? with
 |some e=>e==(j:Int) ||(aN e R M && !((L.take j).any λx=>x==e))
 |none=>false
def Yp(R M:Int)(L:aa Int)(hR:(L.length:Int)=R):(List.range L.length).all (rS R M L)=(List.range L.length).all (vO R M L):=by
 rw[Bool.eq_iff_iff,cu,cu];simp only[fk];constructor
 ·intro h j C;have:=h j C;unfold rS at this;unfold vO;rw[bQ C]at *
  simp only[eA,aO,gW,qL]at *
  rcases this with D|⟨D,U⟩
  ·simp_all
  ·refine .inr ⟨D,?_⟩;rw[List.any_eq_false];intro x O I;have I:x=L[j]:=by simpa using I
   have:=ax0 L j C rfl (I ▸ O);omega
 ·intro h j C;have:=h j C;unfold vO at this;unfold rS;rw[bQ C]at *
  simp only[eA,aO,gW,qL]at *
  rcases this with D|⟨D,U⟩
  ·simp_all
  ·refine .inr ⟨D,?_⟩;have Y:=(bA.1 D).1;have:=aiG (x:=L[j]) L λk T e O=>by
    have E:=h k T;unfold vO at E;rw[bQ T]at E;simp only[eA,aO,gW]at E;rcases E with Z|⟨_,h4⟩
    ·grind
    ·grind
   omega
def iz(m:aa Int)(R b:Nat):aa Int:=(m.take ((b+1)*R)).drop (b*R)
def FH(m:aa Int)(R b:Nat):iz m R b=(m.drop (b*R)).take R:=by
 unfold iz;rw[List.drop_take,iC,Nat.add_sub_cancel_left]
def FI{m:aa Int}{R b:Nat}(h:(b+1)*R<=m.length):(iz m R b).length=R:=by
 rw[FH,fU,List.length_drop];rw[iC]at h;omega
def AB{C R b j:Nat}(hb:b<C)(D:j <= R):b*R+j <= C*R:=by
 have:=iL R hb
 grind
def Lo(R:Nat)(M:Int)(m:aa Int)(i:Nat):Bool:=match m[i]? with
 |some e=>e==((i % R:Nat):Int) ||(aN e (R:Int) M && !(((m.take i).drop (i / R*R)).any λx=>x==e))
 |none=>false
def aiH{R:Nat}{M:Int}{m:aa Int}{b j:Nat}(C:j<R):Lo R M m (b*R+j)=vO (R:Int) M (iz m R b) j:=by
 unfold Lo vO;have D:(b*R+j) % R=j:=by rw[Nat.mul_comm,Nat.mul_add_mod,Nat.mod_eq_of_lt C]
 have E:(b*R+j) / R=b:=by rw[Nat.mul_comm,Nat.mul_add_div (by omega),Nat.div_eq_of_lt C,Nat.add_zero]
 have I:(iz m R b)[j]?=m[b*R+j]?:=by rw[FH,List.getElem?_take_of_lt C,List.getElem?_drop]
 have L:(iz m R b).take j=(m.take (b*R+j)).drop (b*R):=by rw[FH,List.take_take,List.drop_take,Nat.add_sub_cancel_left,Nat.min_eq_left (Nat.le_of_lt C)]
 simp_all
def aiI{n:Nat}(h:n<4611686018427387904):W6 (n:Int)=(n:Int):=aV
def ax1(R D:Nat)(hR:0<R)(M:Int)(m:aa Int):(List.range (D*R)).all (Lo R M m)=(List.range D).all λb=>(List.range R).all (vO (R:Int) M (iz m R b)):=by
 rw[Bool.eq_iff_iff,cu];simp;constructor
 ·intro h b hb j C;rw[<- aiH C];refine h _ ?_;have:=AB hb (show j+1 <= R from C);omega
 ·intro h i hi;have hb:i / R<D:=Nat.div_lt_of_lt_mul (by rw[Nat.mul_comm];exact hi);have C:i % R<R:=Nat.mod_lt _ hR;have e:i / R*R+i % R=i:=by rw[Nat.mul_comm];exact Nat.div_add_mod i R
  have:=h _ hb _ C;rw[<- aiH C,e]at this;exact this
def kA(g:aI)(s:dI):Bool:=jw g s.bM&&((s.map.length:Int)==((aR g).toNat*(g.rows-s.bM).toNat:Nat)&&(List.range (aR g).toNat).all λb=>(List.range (g.rows-s.bM).toNat).all (rS (g.rows-s.bM) (g.rows-1) (iz s.map (g.rows-s.bM).toNat b)))
def aiJ{g:aI}{s:dI}{R C b:Nat}(hR:g.rows-s.bM=(R:Int))(D:R<=16)(E:C<=8)(hb:b<C)(hl:s.map.length=C*R):Er g s (b:Int)=some (b*R,(b+1)*R):=by
 have T:C*R<=8*16:=Nat.mul_le_mul E D;have U:b*R+R<=C*R:=AB hb (dx R);have I:W6 (g.rows-s.bM)=(R:Int):=by rw[hR];exact aV
 have L:W6 ((b:Int)*(R:Int))=((b*R:Nat):Int):=by rw[<-Int.natCast_mul];exact aV
 have O:W6 (((b+1:Nat):Int)*(R:Int))=(((b+1)*R:Nat):Int):=by
  rw[<-Int.natCast_mul];exact aV (by omega) (by rw[iC];omega)
 unfold Er;rw[I,bz,L,O,iC,bH ⟨by omega,by omega,by omega⟩];simp only[bu]
def ax2{g:aI}{s:dI}(R b:Int)(L:aa Int)(C:cw g=true)(D:L.length<1073741824):
  iter Es aP (((),(),R,b,L,L,(L.length:Int),(0:Int),()),((g.bK,g.aA,g.rows,g.aL,()),(s.bM,s.map,()),()))=some (bif (List.range L.length).all (rS R (g.rows-1) L)then .inr (.inl (((),(),R,b,()),((g.bK,g.aA,g.rows,g.aL,()),(s.bM,s.map,()),())))else .inl ((false,()),())):=by
 have E:=fe C;have e:=fN (step:=Es) (List.range L.length) (rS R _ L) (λi=>(((),(),R,b,L,L,L.length,i,()),((g.bK,g.aA,g.rows,g.aL,()),(s.bM,s.map,()),()))) _ _ aP (λk h=>by
  rw[cV]at h;rw[jA];unfold Es rS az bf xG xI;dsimp only;rw[aQ,aq,aB ⟨by omega,by omega⟩,bQ h];simp only[bu,dR,ak,axZ _ _ D,bne];rw[bz,aV (n:=g.rows-1)];cases L[k]==(k:Int)<;>cases aN L[k] R (g.rows-1)<;>cases decide ((L.count L[k]:Int) > 1)<;>rfl) (by
  rw[cV];unfold Es az bf xG xI;dsimp only;rw[aX,au]) (by rw[cV];exact bF)
 simp_all
def aiK(g:aI)(s:dI):Ik g s=some (kA g s):=by
 unfold Ik kA bP;rw[aiq,ak,Re];cases D:jw g s.bM with
 |false=>rfl
 | true=>
  obtain⟨I,s0,s2,A5,Rr⟩:=Rd D;have L:=dS g;have O:((sO g s.bM).1.map.length:Int)=(((aR g).toNat*(g.rows-s.bM).toNat:Nat):Int):=by
   unfold sO;rw[D,aq,X8]
  rw[O];obtain⟨C,hb⟩:=fz L.1;obtain⟨R,hR⟩:=fz (show 0<=g.rows-s.bM by omega);rw[hb,hR];simp only[bu,bB,au,bZ];by_cases hl:(s.map.length:Int)=((C*R:Nat):Int)
  ·have E:s.map.length=C*R:=by omega
   rw[hl,bne_self_eq_false,au,jj,bZ];have T:W6 (R:Int)=(R:Int):=aV;have e:=fN (step:=Ij) (List.range C) (λb=>(List.range R).all (rS (R:Int) (g.rows-1) (iz s.map R b))) (λi=>(((),(),(R:Int),(i:Int),()),((g.bK,g.aA,g.rows,g.aL,()),(s.bM,s.map,()),()))) (.inl ((false,()),())) (.inr (.inl ((),()))) aP (λk h=>by
    rw[cV]at h;rw[jA];have U:=AB (R:=R) h (dx R);have hlen:(iz s.map R k).length=R:=FI (by rw[iC,E];exact U);have Y:=ax2 (g:=g) (s:=s) (R:Int) (k:Int) (iz s.map R k) I (by omega);unfold Ij az bf xG bP;dsimp only;rw[mV,mS,ak,hb,aQ,aq];have Z:Er g (⟨s.bM,s.map⟩:dI) (k:Int)=some (k*R,(k+1)*R):=aiJ (s:=⟨s.bM,s.map⟩) hR (by omega) (by omega) h E;rw[Z,ak];have hc:(Nat.ble (k*R) ((k+1)*R)&&Nat.ble ((k+1)*R) s.map.length)=true:=by
     rw[aO];exact⟨iM (by rw[iC];omega),iM (by rw[iC];omega)⟩
    rw[hc,aq]
    refine(bq (λo=>Option.bind o _) Y).trans ?_
    rw[ak,hlen];cases (List.range R).all (rS (R:Int) (g.rows-1) (iz s.map R k))with
    |false=>rfl
    | true=>
     simp only[aq,Sum.elim_inr,dX];rw[bz]) (by
    rw[cV];unfold Ij az bf xG bP;dsimp only;rw[mV,mS,ak,hb,aX,au]) (by rw[cV];exact bF)
   rw[cm]at e;rw[T]
   refine(bq (λo=>Option.bind o _) e).trans ?_
   rw[ak];cases (List.range C).all λb=>(List.range R).all (rS (R:Int) (g.rows-1) (iz s.map R b))<;>rfl
  ·have e2:((s.map.length:Int)==((C*R:Nat):Int))=false:=by simp only[beq_eq_false_iff_ne];exact hl
   rw[fO hl,e2];rfl
def Yq(g:aI)(s:dI):Fc g s=some (kA g s):=by
 unfold Fc kA bP;rw[X9,ak,Re];cases I:jw g s.bM with
 |false=>rfl
 | true=>
  obtain⟨L,s0,s2,A5,Rr⟩:=Rd I;have O:=dS g;have gb:=fe L;obtain⟨C,hb⟩:=fz O.1;obtain⟨R,hR⟩:=fz (show 0<=g.rows-s.bM by omega);have hm:C*R<=8*16:=Nat.mul_le_mul (by omega) (by omega);have T:W6 (R:Int)=(R:Int):=aV;have hmul:W6 ((C:Int)*(R:Int))=((C*R:Nat):Int):=by rw[<-Int.natCast_mul];exact aV
  rw[me,ak,hb,hR,T,hmul];simp only[bu,bB,au,bZ];by_cases hl:(s.map.length:Int)=((C*R:Nat):Int)
  ·have U:s.map.length=C*R:=by omega
   rw[hl,bne_self_eq_false,au,jj,bZ];have e:=fN (step:=Kc) (List.range (C*R)) (Lo R (g.rows-1) s.map) (λi=>(((),(),(R:Int),(i:Int),()),((g.bK,g.aA,g.rows,g.aL,()),(s.bM,s.map,()),()))) (.inl ((false,()),())) (.inr (.inl ((),()))) aP (λk h=>by
    rw[cV]at h;rw[jA];have Y:k<s.map.length:=by omega
    have Z:(k:Int).tmod (R:Int)=((k % R:Nat):Int):=(Int.ofNat_tmod k R).symm;have hd:(k:Int).tdiv (R:Int)=((k / R:Nat):Int):=(Int.ofNat_tdiv k R).symm;have hdl:k / R<=k:=Nat.div_le_self k R;have E:k / R*R<=k:=Nat.div_mul_le_self k R;have w1:W6 (((k / R:Nat):Int))=((k / R:Nat):Int):=aiI (Nat.lt_of_le_of_lt hdl (by omega));have w2:W6 (((k / R:Nat):Int)*(R:Int))=((k / R*R:Nat):Int):=by rw[<-Int.natCast_mul];exact aiI (Nat.lt_of_le_of_lt E (by omega))
    unfold Kc Lo az bf xG xI;rw[bQ Y];dsimp only;rw[aQ,aq,aB ⟨by omega,by omega⟩,bJ,aB ⟨by omega,by omega⟩,bJ,Z,hd,w1,w2,bH ⟨Int.natCast_nonneg _,Int.ofNat_le.2 E,by omega⟩,aB ⟨by omega,by omega⟩];simp only[bu,dN,ak];rw[axY _ _ (by rw[List.length_drop,fU];omega),ak,bz,aV (n:=g.rows-1)];cases s.map[k]==((k % R:Nat):Int)<;>cases aN s.map[k] (R:Int) (g.rows-1)<;>cases ((s.map.take k).drop (k / R*R)).any (λx=>x==s.map[k])<;>rfl) (by
    rw[cV];unfold Kc az bf xG xI;dsimp only;rw[aX,au]) (by rw[cV];exact bF)
   rw[cm]at e
   refine(bq (λo=>Option.bind o _) e).trans ?_
   rw[ak,ax1 R C (by omega)];have hAB:((List.range C).all λb=>(List.range R).all (vO (R:Int) (g.rows-1) (iz s.map R b)))=(List.range C).all λb=>(List.range R).all (rS (R:Int) (g.rows-1) (iz s.map R b)):=by
    rw[Bool.eq_iff_iff,cu,cu]
    refine forall_congr' λb=>?_
    refine imp_congr_right λD=>?_
    have D:=fk.1 D;have hk:=AB (R:=R) D (dx R);have hlen:(iz s.map R b).length=R:=FI (by rw[iC,U];exact hk);have:=Yp (R:Int) (g.rows-1) (iz s.map R b) (by rw[hlen]);rw[hlen]at this;rw[this]
   rw[hAB];cases (List.range C).all λb=>(List.range R).all (rS (R:Int) (g.rows-1) (iz s.map R b))<;>rfl
  ·have e2:((s.map.length:Int)==((C*R:Nat):Int))=false:=by simp only[beq_eq_false_iff_ne];exact hl
   rw[fO hl,e2];rfl
def ef(g:aI)(s:dI):aI:=bif kA g s then ⟨g.bK,g.aA,W6 (g.rows-s.bM),g.aL⟩else ⟨0,0,0,0⟩
def Yr(g:aI)(s:dI):Et g s=some (ef g s):=by
 unfold Et ef;rw[aiK,ak];cases kA g s<;>rfl
def ax3(g:aI)(s:dI):Qt g s=some (ef g s):=by
 unfold Qt ef;rw[Yq,ak];cases kA g s<;>rfl
def kS(c:av):av:=c
def gA(a x:aM):Bool:=x.ay==a.ay&&(x.row==a.row&&(x.bO==a.bO&&true))
def Ys(l:aa aM)(a:aM)(hl:l.length<1073741824):Cu l a=some (gz (gA a) l):=by
 unfold Cu gz bP;have e:=vN (step:=JR) l (gA a) (λi=>((l,(),i,()),((a.ay,a.row,a.bO,()),()))) _ _ aP (λk h=>by
  unfold JR gA az bf xG xI;dsimp only;rw[aQ,aq,aB ⟨by omega,by omega⟩];simp only[bu];rw[bz];cases (l[k].ay==a.ay&&(l[k].row==a.row&&(l[k].bO==a.bO&&true)))<;>rfl) (by
  unfold JR az bf xG xI;dsimp only;rw[aX,au]) (bF hl)
 rw[cm]at e;rw[e];cases l.findIdx? _<;>rfl
def aiL(l:aa aM)(a:aM)(hl:l.length<1073741824):Ew l a=some (gz (gA a) l):=by
 unfold Ew gz;have e:=vN (step:=Ix) l (gA a) (λi=>((l,(),l.length,i,()),((a.ay,a.row,a.bO,()),()))) _ _ aP (λk h=>by
  unfold Ix gA az bf xG xI;dsimp only;rw[aQ,aq,aB ⟨by omega,by omega⟩];simp only[bu];rw[bz,BEq.comm (a:=a.ay),BEq.comm (a:=a.row),BEq.comm (a:=a.bO)];cases (l[k].ay==a.ay&&(l[k].row==a.row&&(l[k].bO==a.bO&&true)))<;>rfl) (by
  unfold Ix az bf xG xI;dsimp only;rw[aX,au]) (bF hl)
 rw[cm]at e;rw[e];cases l.findIdx? _<;>rfl
def partAt(c:av)(i:Nat):Bool:=match c.bI[i]?,c.guard[i]? with
 |some t,some x=>kz t&&aN x 3 1000
 |_,_=>false
def uv(c:av)(i:Nat):Bool:=match c.pending[i]? with
 |some a=>dz c.config.ax a&&(a.bO==0 && !((c.pending.take i).any (gA a)))
 |none=>false
def qw(c:av):Bool:=(c.aS.aJ.length:Int)==aR c.config.ax&&((c.bI.length:Int)==aR c.config.ax&&((c.guard.length:Int)==aR c.config.ax&&(!(decide ((c.pending.length:Int) > 128))&&((List.range c.bI.length).all (partAt c)&&(List.range c.pending.length).all (uv c)))))
def aiM(c:av)(n i:Int):Qq (((),n,i,()),(kS c,()))=(bif (decide (i<n))then if C:0<=i/\i.toNat<c.bI.length then (Cv (c.bI[i.toNat]'C.2)).bind λD=>bif (!D)then some (.inr (.inl ((false,()),())))else if E:0<=i/\i.toNat<c.guard.length then (cy (c.guard[i.toNat]'E.2) (3:Int) (1000:Int)).bind λI=>bif (!I)then some (.inr (.inl ((false,()),())))else some (.inl (((),n,(W6 (i+(1:Int))),()),(kS c,())))else none else none else some (.inr (.inr (.inl (((),()),(kS c,())))))):=rfl
def aiN(c:av)(i:Int):Qr (((),i,()),(kS c,()))=(bif (decide (i<(c.pending.length:Int)))then if C:0<=i/\i.toNat<c.pending.length then (Ae c.config.ax (c.pending[i.toNat]'C.2)).bind λD=>bif (!D)then some (.inr (.inl ((false,()),())))else bif ((c.pending[i.toNat]'C.2).bO != (0:Int))then some (.inr (.inl ((false,()),())))else (Cu c.pending (c.pending[i.toNat]'C.2)).bind λE=>bif (E != i)then some (.inr (.inl ((false,()),())))else some (.inl (((),(W6 (i+(1:Int))),()),(kS c,())))else none else some (.inr (.inr (.inl ((),()))))):=rfl
def aiO(c:av)(G:(Int×Int×Int×Int×af))(n i:Int):Ob (((),(),n,i,()),(kS c,G,()))=(bif (decide (i<n))then if C:0<=i/\i.toNat<c.bI.length then (zU (c.bI[i.toNat]'C.2)).bind λD=>bif (!D)then some (.inr (.inl ((false,()),())))else if E:0<=i/\i.toNat<c.guard.length then (cB (c.guard[i.toNat]'E.2) (3:Int) (1000:Int)).bind λI=>bif (!I)then some (.inr (.inl ((false,()),())))else some (.inl (((),(),n,(W6 (i+(1:Int))),()),(kS c,G,())))else none else none else some (.inr (.inr (.inl (((),(),()),(kS c,G,())))))):=rfl
def aiP(c:av)(g:aI)(l:aa aM)(n i:Int):Oc (((),(),l,n,i,()),(kS c,(g.bK,g.aA,g.rows,g.aL,()),()))=(bif (decide (i<n))then if C:0<=i/\i.toNat<l.length then (B6 g (l[i.toNat]'C.2)).bind λD=>bif (!D)then some (.inr (.inl ((false,()),())))else bif ((l[i.toNat]'C.2).bO != (0:Int))then some (.inr (.inl ((false,()),())))else (Ew c.pending (l[i.toNat]'C.2)).bind λE=>bif (E != i)then some (.inr (.inl ((false,()),())))else some (.inl (((),(),l,n,(W6 (i+(1:Int))),()),(kS c,(g.bK,g.aA,g.rows,g.aL,()),())))else none else some (.inr (.inr (.inl ((),()))))):=rfl
def ax4(c:av):Qs c=some (qw c):=by
 unfold Qs qw bP;rw[me,ak];have O:=dS c.config.ax;by_cases C:(c.aS.aJ.length:Int)=aR c.config.ax
 ·by_cases D:(c.bI.length:Int)=aR c.config.ax
  ·by_cases E:(c.guard.length:Int)=aR c.config.ax
   ·rw[C,D,E,bne_self_eq_false,jj,au,bZ,bZ,bZ,au,au];cases I:decide ((c.pending.length:Int) > 128)with
    |true=>rfl
    | false=>
     have I:=of_decide_eq_false I;have l1:=fN (step:=Qq) (List.range c.bI.length) (partAt c) (λi=>(((),aR c.config.ax,(i:Int),()),(kS c,()))) (.inl ((false,()),())) (.inr (.inl (((),()),(kS c,())))) aP (λk h=>by
      rw[cV]at h;rw[jA,aiM,aQ,aq,aB ⟨by omega,by omega⟩,aB ⟨by omega,by omega⟩];simp only[bu,Yn,dN,ak];unfold partAt;rw[bQ h,bQ (show k<c.guard.length by omega),bz];simp only;cases kz c.bI[k]<;>cases aN (c.guard[k]'(by omega)) 3 1000<;>rfl) (by
      rw[cV,aiM,aX,au]) (by rw[cV];exact bF)
     have l2:=fN (step:=Qr) (List.range c.pending.length) (uv c) (λi=>(((),(i:Int),()),(kS c,()))) (.inl ((false,()),())) (.inr (.inl ((),()))) aP (λk h=>by
      rw[cV]at h;rw[jA,aiN,aQ,aq,aB ⟨by omega,by omega⟩];simp only[bu,Q3,ak,Ys _ _ (show c.pending.length<1073741824 by omega),bne];have L:=FE (p:=gA c.pending[k]) h (by simp[gA]);rw[bne]at L;rw[L];unfold uv;rw[bQ h,bz];simp only;cases dz c.config.ax c.pending[k]<;>cases c.pending[k].bO==0<;>cases (c.pending.take k).any (gA c.pending[k])<;>rfl) (by
      rw[cV,aiN,aX,au]) (by rw[cV];exact bF)
     rw[cm]at l1 l2;simp only[gM,au,bZ]
     refine(bq (λo=>Option.bind o _) l1).trans ?_
     rw[ak];cases (List.range c.bI.length).all (partAt c)with
     |false=>rfl
     | true=>
      simp only[aq,Sum.elim_inr,dX,bZ]
      refine(bq (λo=>Option.bind o _) l2).trans ?_
      rw[ak];cases (List.range c.pending.length).all (uv c)<;>rfl
   ·simp[C,D,fO E,E]
  ·simp[C,fO D,D]
 ·simp[fO C,C]
def ax5(c:av)(O:c.aS.aJ.length<1073741824):Od c=some (ff c.aS&&qw c):=by
 unfold Od qw bP;rw[mS,ak,Ri _ O,ak];cases ff c.aS with
 |false=>rfl
 |true=>
 simp only[bB,au,bZ];have b1:=dS c.config.ax;by_cases C:(c.aS.aJ.length:Int)=aR c.config.ax
 ·by_cases D:(c.bI.length:Int)=aR c.config.ax
  ·by_cases E:(c.guard.length:Int)=aR c.config.ax
   ·have T:((c.aS.aJ.length:Int) != aR c.config.ax)=false:=by simp[C]
    have U:((c.bI.length:Int) != aR c.config.ax)=false:=by simp[D]
    have Y:((c.guard.length:Int) != aR c.config.ax)=false:=by simp[E]
    have Z:((c.aS.aJ.length:Int)==aR c.config.ax)=true:=by simp[C]
    have q2:((c.bI.length:Int)==aR c.config.ax)=true:=by simp[D]
    have q3:((c.guard.length:Int)==aR c.config.ax)=true:=by simp[E]
    rw[T,U,Y,Z,q2,q3];simp only[au,bZ];cases I:decide ((c.pending.length:Int) > 128)with
    |true=>rfl
    | false=>
     have I:=of_decide_eq_false I;have l1:=fN (step:=Ob) (List.range c.bI.length) (partAt c) (λi=>(((),(),(c.bI.length:Int),(i:Int),()),(kS c,(c.config.ax.bK,c.config.ax.aA,c.config.ax.rows,c.config.ax.aL,()),()))) (.inl ((false,()),())) (.inr (.inl (((),(),()),(kS c,(c.config.ax.bK,c.config.ax.aA,c.config.ax.rows,c.config.ax.aL,()),())))) aP (λk h=>by
      rw[cV]at h;rw[jA,aiO,aQ,aq,aB ⟨by omega,by omega⟩,aB ⟨by omega,by omega⟩];simp only[bu,Ym,dR,ak];unfold partAt;rw[bQ h,bQ (show k<c.guard.length by omega),bz];simp only;cases kz c.bI[k]<;>cases aN (c.guard[k]'(by omega)) 3 1000<;>rfl) (by
      rw[cV,aiO,aX,au]) (by rw[cV];exact bF)
     have l2:=fN (step:=Oc) (List.range c.pending.length) (uv c) (λi=>(((),(),c.pending,(c.pending.length:Int),(i:Int),()),(kS c,(c.config.ax.bK,c.config.ax.aA,c.config.ax.rows,c.config.ax.aL,()),()))) (.inl ((false,()),())) (.inr (.inl ((),()))) aP (λk h=>by
      rw[cV]at h;rw[jA,aiP,aQ,aq,aB ⟨by omega,by omega⟩];simp only[bu,XV,ak,aiL _ _ (show c.pending.length<1073741824 by omega),bne];have L:=FE (p:=gA c.pending[k]) h (by simp[gA]);rw[bne]at L;rw[L];unfold uv;rw[bQ h,bz];simp only;cases dz c.config.ax c.pending[k]<;>cases c.pending[k].bO==0<;>cases (c.pending.take k).any (gA c.pending[k])<;>rfl) (by
      rw[cV,aiP,aX,au]) (by rw[cV];exact bF)
     rw[cm]at l1 l2;simp only[gM,au,bZ]
     refine(bq (λo=>Option.bind o _) l1).trans ?_
     rw[ak];cases (List.range c.bI.length).all (partAt c)with
     |false=>rfl
     | true=>
      simp only[aq,Sum.elim_inr,dX,bZ]
      refine(bq (λo=>Option.bind o _) l2).trans ?_
      rw[ak];cases (List.range c.pending.length).all (uv c)<;>rfl
   ·simp[C,D,fO E,E]
  ·simp[C,fO D,D]
 ·simp[fO C,C]
def sP(n:Int)(u:Bool)(k:Int):Bool:=bif u then aN n 0 (k-1)else n==0
def cQ(g:aI)(c:aE):Bool:=cw g&&(aN c.kind 1 9&&(sP c.ay (aN c.kind 1 5) (aR g)&&(sP c.row (c.kind==1) g.rows&&sP c.bO (c.kind==2 ||c.kind==3) g.aL)))
def ax6(k:Int):Oi k=some (k==1):=by
 unfold Oi;rfl
def ax7(k:Int):Oj k=some (k==2 || k==3):=by
 unfold Oj;cases k==2<;>rfl
def Yt{n k:Int}(u:Bool)(h:-1000<k/\k<1000):Ca n u k=some (sP n u k):=by
 rw[axV,aV];rfl
def Rs(g:aI)(c:aE):Cb g c=some (cQ g c):=by
 unfold Cb cQ;rw[rL];cases C:cw g with
 |false=>rfl
 | true=>
  have D:=dS g;have E:=fe C;unfold WJ;simp only[aq,mS,ak,dR,Lk,ax6,ax7,Yt _ (show -1000<aR g/\aR g<1000 by omega),Yt _ (show -1000<g.rows/\g.rows<1000 by omega),Yt _ (show -1000<g.aL/\g.aL<1000 by omega),bZ]
  grind
def ax8(k:Int):PD k=some (aN k 1 5,k==1,(k==2 || k==3)):=by
 obtain⟨y,e,h⟩:=axD k;rw[e,h]
def Lp(c:aE):Bool:=(aN c.kind 1 5 ||c.ay==0)&&((c.kind==1 ||c.row==0)&&(((c.kind==2 ||c.kind==3) ||c.bO==0)&&(aN c.kind 1 9&&(aN c.ay 0 7&&(aN c.row 0 15&&aN c.bO 0 7)))))
def ax9(c:aE):PE c=some (Lp c):=by
 unfold PE Lp;simp only[ax8,ak,dN,bne]
 grind
def aiQ(g:aI)(c:aE):JN g c=some (cQ g c):=by
 unfold JN;rw[ax9,ak,Q3,ak];have key:(Lp c&&dz g ⟨c.ay,c.row,c.bO⟩)=cQ g c:=by
  unfold cQ dz;cases D:cw g with
  |false=>simp
  | true=>
   have I:=dS g;have L:=fe D;rw[Bool.eq_iff_iff];simp only[Lp,sP,aO,eA,fI,bA,bZ];constructor
   ·rintro⟨⟨h1,h2,h3,C,O,T,U⟩,⟨Y,Z⟩,CR⟩;refine⟨C,?_,?_,?_⟩
    ·cases hu:aN c.kind 1 5 with
     |true=>simp[aq,bA];omega
     | false=>simp only[au,fI];rcases h1 with h1 | h1
              ·exact absurd (bA.2 h1) (by rw[hu];simp)
              ·exact h1
    ·cases hu:c.kind==1 with
     |true=>simp[aq,bA];omega
     | false=>simp only[au,fI];rcases h2 with h2 | h2
              ·simp_all
              ·exact h2
    ·cases hu:(c.kind==2 || c.kind==3)with
     |true=>simp[aq,bA];omega
     | false=>simp only[au,fI];rcases h3 with (h3 | h3) | h3
              ·simp_all
              ·simp_all
              ·exact h3
   ·rintro⟨h1,h2,h3,C⟩;have f1:(1 <= c.kind/\c.kind <= 5 \/ c.ay=0)/\0 <= c.ay/\c.ay <= aR g-1:=by
     cases hu:aN c.kind 1 5 with
     |true=>rw[hu,aq,bA]at h2;exact⟨.inl (bA.1 hu),h2⟩
     |false=>rw[hu,au,fI]at h2;have:=K3 D;exact⟨.inr h2,by omega⟩
    have f2:(c.kind=1 \/ c.row=0)/\0 <= c.row/\c.row <= g.rows-1:=by
     cases hu:c.kind==1 with
     |true=>rw[hu,aq,bA]at h3;exact⟨.inl (by simpa using hu),h3⟩
     |false=>grind
    have E:((c.kind=2 \/ c.kind=3) \/ c.bO=0)/\0 <= c.bO/\c.bO <= g.aL-1:=by
     cases hu:(c.kind==2 ||c.kind==3)with
     |true=>rw[hu,aq,bA]at C;exact⟨.inl (by simpa using hu),C⟩
     |false=>simp_all
    exact⟨⟨f1.1,f2.1,E.1,h1,by omega,by omega,by omega⟩,⟨by omega,by omega⟩,by omega⟩
 rw[<- key];cases Lp c<;>rfl
def sQ{g:aI}{c:aE}(h:cQ g c=true):cw g=true/\(1 <= c.kind/\c.kind <= 9)/\(c.kind <= 5 -> 0 <= c.ay/\c.ay<aR g)/\(5<c.kind -> c.ay=0):=by
 simp[cQ,aO,bA]at h
 refine⟨h.1,h.2.1,λD=>?_,λD=>?_⟩
 ·have:=h.2.2.1;rw[sP,show aN _ 1 5=true from bA.2 ⟨h.2.1.1,D⟩,aq,bA]at this;omega
 ·have:=h.2.2.1;have C:aN c.kind 1 5=false:=by
   cases C:aN _ 1 5 with
   |false=>rfl
   |true=>have:=bA.1 C;omega
  rwa [sP,C,au,fI]at this
def kinds{k:Int}(h:1<=k/\k<=9):k=1\/k=2\/k=3\/k=4\/k=5\/k=6\/k=7\/k=8\/k=9:=by omega
def iY(r:bU)(b:Int):di:=r.aA.getD b.toNat ⟨false,0⟩
def iZ(r:bU)(c:aE):Bool:=
 bif c.kind==1 ||c.kind==5 then r.aT==0 && !(iY r c.ay).open_ else
 bif c.kind==2 ||c.kind==3 ||c.kind==4 then r.aT==0&&(iY r c.ay).open_ else
 bif c.kind==6 then r.aT==0 else
 bif c.kind==8 then r.aT==0&&r.aA.all (λb=>!b.open_)else
 bif c.kind==7 then r.aT==1 else r.aT==2
def fj(r:bU)(c:aE):bU:=
 bif c.kind==1 then ⟨r.aA.set c.ay.toNat ⟨true,c.row⟩,r.aT⟩else
 bif c.kind==4 then ⟨r.aA.set c.ay.toNat ⟨false,0⟩,r.aT⟩else
 bif c.kind==6 then ⟨r.aA,1⟩else
 bif c.kind==8 then ⟨r.aA,2⟩else
 bif c.kind==7 ||c.kind==9 then ⟨r.aA,0⟩else r
def aiR{r:bU}{b:Int}(h:b.toNat<r.aA.length):r.aA[b.toNat]=iY r b:=by
 simp[iY,h]
def aiS(r:bU):(((opens 0 r.aA).length:Int)==0)=r.aA.all λb=>!b.open_:=by
 rw[<-aiy 0 r.aA,Bool.eq_iff_iff];simp only[fI];omega
def aiT(r:bU)(h:r.aA.length<1073741823):Jd r=some (opens 0 r.aA):=by
 unfold Jd br;have e:=vH (step:=EP) (λi=>(((),(),(i:Int),()),((r.aA,r.aT,()),opens 0 (r.aA.take i),()))) (z:=.inl (((),()),(opens 0 r.aA,()))) r.aA.length 0 aP (λk _ C=>?_) ?_ (by unfold aP;omega)
 ·have e:iter EP aP (((),(),0,()),((r.aA,r.aT,()),([]),()))=_:=e;simp_all
 ·have C:k<r.aA.length:=by omega
  unfold EP az xG xI;dsimp only;have D:decide ((k:Int)<(r.aA.length:Int))=true:=aQ;have E:0 <= (k:Int)/\(k:Int).toNat<r.aA.length:=⟨by omega,by simpa using C⟩
  have hl:=Q5 0 (r.aA.take k);rw[fU]at hl;have I:bD ((opens 0 (r.aA.take k)).length+([(k:Int)]:aa Int).length)=true:=by
   unfold bD;simp;omega
  rw[D,aq,aB E,vI,mU C,XY];simp only[bu,opens,fU,eN,Nat.min_eq_left (Nat.le_of_lt C)];cases r.aA[k].open_ with
  |true=>grind
  |false=>grind
 ·rw[eN];unfold EP az xG xI;simp_all
def aya{r:bU}{c:aE}(C:1 <= c.kind/\c.kind <= 9)(hb:c.kind <= 5 -> 0 <= c.ay/\c.ay.toNat<r.aA.length)(hl:r.aA.length<1073741823):O4 r c=some (iZ r c):=by
 unfold O4 iZ xI;rcases kinds C with h|h|h|h|h|h|h|h|h
 case inr.inr.inr.inr.inr.inr.inr.inl=>simp[h,aiT r hl,aiS];cases r.aT==0<;>rfl
 all_goals (try (have hb:=hb _))<;>simp[h,hb,aiR]<;>(cases r.aT==0<;>rfl)
def Yu(g:aI)(r:bU)(c:aE):IC g r c=some (jN g r&&(cQ g c&&iZ r c)):=by
 unfold IC xI;rw[aiz,ak];cases C:jN g r with
 |false=>rfl
 | true=>
  rw[Rs,ak];cases D:cQ g c with
  |false=>rfl
  | true=>
   have⟨I,E,hb,_⟩:=sQ D;have hlen:(r.aA.length:Int)=aR g:=by
    simp[jN,aO,fI]at C;simp_all
   have L:=dS g;have hb:c.kind <= 5 -> 0 <= c.ay/\c.ay.toNat<r.aA.length:=λh=>by have:=hb h;omega
   have hl:r.aA.length<1073741823:=by omega
   simp only[bB,au,bZ];unfold iZ;rcases kinds E with h|h|h|h|h|h|h|h|h
   case inr.inr.inr.inr.inr.inr.inr.inl=>simp[h,Q6 r hl,aiS];cases r.aT==0<;>rfl
   all_goals (try (have hb:=hb (by omega)))<;>simp[h,hb,aiR]<;>(cases r.aT==0<;>rfl)
def jP(g:aI)(r:bU)(c:aE):Bool:=jN g r&&(cQ g c&&iZ r c)
def FJ(g:aI)(r:bU)(c:aE):bU×Bool:=bif jP g r c then (fj r c,true)else (r,false)
def CS{g:aI}{r:bU}{c:aE}(h:jP g r c=true):cw g=true/\(r.aA.length:Int)=aR g/\(1 <= c.kind/\c.kind <= 9)/\(c.kind <= 5 -> 0 <= c.ay/\c.ay.toNat<r.aA.length):=by
 simp[jP,aO]at h;have⟨D,E,hb,_⟩:=sQ h.2.1;have C:=h.1;simp[jN,aO,fI]at C;simp_all
def ayb(r:bU):(⟨r.aA,r.aT⟩:bU)=r:=rfl
def ayc(r:bU)(h:r.aA.length<1073741824):Ez r=some r:=by
 unfold Ez xA xZ;rw[show ([]).length+r.aA.length=r.aA.length by simp,cM h];rfl
def Yv(g:aI)(r:bU)(c:aE)(h:r.aA.length<1073741824):xy g r c=some (FJ g r c):=by
 unfold xy FJ xL;rw[ayc r h,Yu];change (bif !(jP g r c)then _ else _)=_;cases C:jP g r c with
 |false=>rfl
 | true=>
  have⟨D,hlen,E,hb⟩:=CS C;unfold fj
  grind
def jQ(g:aI):bU:=⟨List.replicate (aR g).toNat ⟨false,0⟩,0⟩
def aiU(g:aI):IB g=some (jQ g):=by
 have D:=dS g;unfold IB jQ;rw[rL,ak];cases C:cw g with
 | false=>
  have:aR g=0:=by simp[aR,C]
  rw[this];rfl
 | true=>
  simp only[bB,au,mS,ak];rw[bH ⟨by omega,by omega,by omega⟩]
def ayd(g:aI):OQ g=some (jQ g):=by
 have C:=dS g;unfold OQ jQ;rw[me,ak,bH ⟨by omega,by omega,by omega⟩]
def Yw(r:bU)(c:aE):(fj r c).aA.length=r.aA.length:=by
 unfold fj
 grind
def CT(t:ck)(a b:Int):Int:=
 bif a==1 then (bif b==2 ||b==3 then t.kJ else bif b==4 then t.gG else bif b==1 ||b==5 then W6 (t.gG+t.rp)else 0)else
 bif a==2 then (bif b==4 then t.jl else bif b==1 ||b==5 then W6 (t.jl+t.rp)else 0)else
 bif a==3 then (bif b==4 then t.wr else bif b==1 ||b==5 then W6 (t.wr+t.rp)else 0)else
 bif a==4 then (bif b==1 ||b==5 then t.rp else 0)else
 bif a==5 then (bif b==1 ||b==5 then t.n6 else 0)else 0
def CU(t:ck)(a b:Int)(C:Bool):Int:=
 bif a==7 then t.xp else bif a==9 then t.xs else
 bif (a==6&&b==7) ||(a==8&&b==9)then t.oK else
 bif a==1&&b==1 then (bif C then t.kK else t.nW)else
 bif (a==2&&b==2) ||(a==3&&b==3)then (bif C then t.nY else t.nX)else
 bif a==3&&b==2 then (bif C then t.n5 else t.nZ)else
 bif a==2&&b==3 then t.qM else
 bif a==5&&b==5 then t.kK else
 bif a==2&&b==6 then t.jl else bif a==3&&b==6 then t.wr else
 bif b==8 then CT t a 1 else 0
def aye(t:ck){a b:Int}(C:1<=a/\a<=9)(hb:1<=b/\b<=9):Ol t a b=some (CT t a b):=by
 rcases kinds C with rfl|rfl|rfl|rfl|rfl|rfl|rfl|rfl|rfl<;>rcases kinds hb with rfl|rfl|rfl|rfl|rfl|rfl|rfl|rfl|rfl<;>kernel_rfl
def Yx(t:ck){a b:Int}(C:Bool)(D:1<=a/\a<=9)(hb:1<=b/\b<=9):Om t a b C=some (CU t a b C):=by
 cases C<;>rcases kinds D with rfl|rfl|rfl|rfl|rfl|rfl|rfl|rfl|rfl<;>rcases kinds hb with rfl|rfl|rfl|rfl|rfl|rfl|rfl|rfl|rfl<;>kernel_rfl
def aiV{t:ck}(C:gS t=true){a b:Int}(D:1 <= a/\a <= 9)(hb:1 <= b/\b <= 9):Je t a b=some (CT t a b):=by
 unfold Je;rw[Rc,ak,C,bB];rcases kinds D with rfl|rfl|rfl|rfl|rfl|rfl|rfl|rfl|rfl<;>rcases kinds hb with rfl|rfl|rfl|rfl|rfl|rfl|rfl|rfl|rfl<;>kernel_rfl
def Yy{t:ck}(E:gS t=true){a b:Int}(D:Bool)(C:1 <= a/\a <= 9)(hb:1 <= b/\b <= 9):Jf t a b D=some (CU t a b D):=by
 unfold Jf;rw[Rc,ak,E,bB,au,dN,ak,bA.2 C,bB,au,dN,ak,bA.2 hb,bB];by_cases I:b=8/\a≠7/\a≠9
 ·obtain⟨rfl,L,O⟩:=I;have e:=aiV E C (b:=1) (by omega);rcases kinds C with rfl|rfl|rfl|rfl|rfl|rfl|rfl|rfl|rfl<;>first|exact absurd rfl L|exact absurd rfl O|simp[e,CU]
 ·cases D<;>rcases kinds C with rfl|rfl|rfl|rfl|rfl|rfl|rfl|rfl|rfl<;>rcases kinds hb with rfl|rfl|rfl|rfl|rfl|rfl|rfl|rfl|rfl<;>first|exact absurd ⟨rfl,by omega,by omega⟩ I|kernel_rfl
def vP(a b:aE):Bool:=aN a.kind 1 5&&aN b.kind 1 5
def FK(g:aI)(a b:aE):Bool:=vP a b&&(W6 (a.ay.tdiv g.aA)==W6 (b.ay.tdiv g.aA))
def kT(g:aI)(t:ck)(a b:aE):Int:=
 bif vP a b&&a.ay==b.ay then max (max 1 (CU t a.kind b.kind (FK g a b))) (CT t a.kind b.kind)else max 1 (CU t a.kind b.kind (FK g a b))
def Lq(x y:Int):(if x > y then x else y)=max x y:=by
 rw[Int.max_def];split<;>split<;>omega
def aiW{g:aI}{b:Int}(h:0<=b/\b<aR g)(C:cw g=true):IE g b=some (W6 (b.tdiv g.aA)):=by
 have D:=dS g;have E:=fe C;unfold IE;rw[mS,ak,dR,ak,aV,bA.2 ⟨h.1,by omega⟩,bB,au,bJ]
def Lr{k:Int}(h:1<=k/\k<=9):aN k 1 5=decide (k<=5):=by
 unfold aN;rw[aQ h.1,bZ]
def aiX{g:aI}(t:ck){a b:aE}(E:cw g=true)(C:1 <= a.kind/\a.kind <= 9)(D:1 <= b.kind/\b.kind <= 9)(I:a.kind <= 5 -> 0 <= a.ay/\a.ay<aR g)(L:b.kind <= 5 -> 0 <= b.ay/\b.ay<aR g):z0 g t a b=some (kT g t a b):=by
 unfold z0 kT FK vP;simp only[Lk,ak];cases O:aN a.kind 1 5 with
 | false=>
  simp;rw[Yx t false C D,ak,Lq,Int.max_comm]
 | true=>
  cases T:aN b.kind 1 5 with
  | false=>
   simp;rw[Yx t false C D,ak,Lq,Int.max_comm]
  | true=>
   have U:=bA.1 O;have Y:=bA.1 T;simp only[aq,bZ];rw[aiW (I U.2) E,ak,aiW (L Y.2) E,ak,Yx t _ C D,ak,aye t C D];cases a.ay==b.ay with
   |false=>grind
   |true =>grind
def ayf{g:aI}{t:ck}{a b:aE}(I:cw g=true)(E:gS t=true)(C:1 <= a.kind/\a.kind <= 9)(D:1 <= b.kind/\b.kind <= 9):Ag g t a b=some (kT g t a b):=by
 have L:=fe I;unfold Ag kT FK vP;rw[Lr C,Lr D];cases decide (a.kind <= 5)with
 | false=>
  simp;rw[Yy E false C D,ak,Lq]
 | true=>
  cases decide (b.kind <= 5)with
  | false=>
   simp;rw[Yy E false C D,ak,Lq]
  | true=>
   simp only[aq,bZ,Bool.and_self];rw[bJ,bJ,Yy E _ C D,ak,aiV E C D]
   grind
def ayg(g:aI)(t:ck)(a b:aE):1<=kT g t a b:=by
 unfold kT;cases vP a b&&a.ay==b.ay<;>simp only[aq,au]<;>omega
def Yz{t:ck}(h:gS t=true):∀ x∈qt t,1 <= x/\x <= 64:=by
 simp[gS,aO,cu]at h;exact λx C=>bA.1 (h.1 x C)
def aiY{t:ck}(h:gS t=true)(a b:Int):0 <= CT t a b/\CT t a b <= 128:=by
 have hb:=Yz h;simp only[qt,gn,List.not_mem_nil,or_false,forall_eq_or_imp,forall_eq]at hb;have⟨C,D,E,I,L,O,T,U,Y,Z,xW,qd,uw,uy,vQ,uz,AD⟩:=hb;unfold CT;rw[aV (n:=t.gG+t.rp),aV (n:=t.jl+t.rp),aV (n:=t.wr+t.rp)]
 grind
def ayh{c:Bool}{x y a b:Int}(C:a<=x/\x<=b)(D:a<=y/\y<=b):a<=(bif c then x else y)/\(bif c then x else y)<=b:=by
 cases c
 ·exact D
 ·exact C
def ayi{t:ck}(h:gS t=true)(a b:Int)(n:Bool):0 <= CU t a b n/\CU t a b n <= 128:=by
 have hb:=Yz h;simp[qt,gn,forall_eq_or_imp,forall_eq]at hb;have C:=aiY h a 1
 repeat' (first|exact C|refine ayh ?_ ?_|omega)
def fQ(g:aI)(c:aE):Int:=9*(bif aN c.kind 1 5 then c.ay else aR g)+c.kind-1
def FL{g:aI}{c:aE}(h:cQ g c=true):0 <= fQ g c/\fQ g c<9*(aR g+1):=by
 have⟨C,D,hb,_⟩:=sQ h;have E:=dS g;unfold fQ
 grind
def ayj{g:aI}{c:aE}(h:cQ g c=true):Ov g c=some (fQ g c):=by
 have⟨C,D,hb,_⟩:=sQ h;have E:=dS g;unfold Ov fQ;simp[mS,ak,Lk];cases hu:aN _ 1 5 with
 | true=>
  have:=bA.1 hu;simp;rw[aV (n:=9*c.ay),aV (n:=9*c.ay+c.kind),aV]
 | false=>
  simp;rw[aV (n:=9*aR g),aV (n:=9*aR g+c.kind),aV]
def aiZ(r:cZ)(C:r.last.length<1073741824)(D:r.aU.length<1073741824):ED r=some r:=by
 unfold ED xA xZ;rw[show ([]).length+r.last.length=r.last.length by simp,cM C,show ([]).length+r.aU.length=r.aU.length by simp,cM D];rfl
def ai0(r:cZ)(C:r.last.length<1073741824)(D:r.aU.length<1073741824):uh r=some r:=aiZ r C D
def xX(r:cZ)(x:Int):Bool:=match r.aU.getLast? with
 |some y=>decide (x<=y)
 |none=>false
def xY(l:aa Int)(x:Int):aa Int:=(l++[x]).drop (l.length+1-4)
def mj(g:aI)(r:cZ)(e:bW):cZ:=
 bif jO g r&&(cQ g e.cmd&&(aN e.at_ 0 1000000 && !(e.cmd.kind==1&&xX r e.at_)))then ⟨r.last.set (fQ g e.cmd).toNat e.at_,bif e.cmd.kind==1 then xY r.aU e.at_ else r.aU⟩else r
def FM{g:aI}{r:cZ}(h:jO g r=true):cw g=true/\(r.last.length:Int)=9*(aR g+1)/\r.aU.length <= 4:=by
 simp[jO,aO,fI,gW,qL]at h
 grind
def ai1{l:aa Int}(h:0<l.length)(C:(W6 ((l.length:Int)-1)).toNat<l.length)(hl:l.length<1073741824):l.getLast?=some (l[(W6 ((l.length:Int)-1)).toNat]'C):=by
 have e:(W6 ((l.length:Int)-1)).toNat=l.length-1:=by rw[aV];omega
 simp only[e];rw[List.getLast?_eq_getElem?,bQ (by omega)]
def ai2(g:aI)(r:cZ)(e:bW)(O:r.last.length<1073741824)(T:r.aU.length<1073741824):EE g r e=some (mj g r e):=by
 unfold EE mj xA xI xL xZ;rw[aiZ r O T,ak,Yo,ak];cases U:jO g r with
 |false=>rfl
 | true=>
  simp only[bB,au,bZ];rw[Rs,ak];cases D:cQ g e.cmd with
  |false=>rfl
  | true=>
   simp only[bB,au,bZ];rw[dR,ak];cases Z:aN e.at_ 0 1000000 with
   |false=>rfl
   | true=>
    obtain⟨hg,hl,h4⟩:=FM U;have E:=FL D;have b1:=dS g;simp only[bB,au,bZ,ayj D,ak];cases hk:(e.cmd.kind==1)with
    | false=>
     simp only[au,Bool.false_and,gM,aq];rw[aB ⟨E.1,by omega⟩,aB]
    | true=>
     have tl:∀ (A B:aj cZ),(if qd:0<=fQ g e.cmd/\(fQ g e.cmd).toNat<r.last.length then if uw:(fQ g e.cmd).toNat<r.last.length then (bif bD (r.aU.length+([e.at_]:aa Int).length)then if 0<=(if W6 (((r.aU++[e.at_]).length:Int)-4) > 0 then W6 (((r.aU++[e.at_]).length:Int)-4)else 0)/\(if W6 (((r.aU++[e.at_]).length:Int)-4) > 0 then W6 (((r.aU++[e.at_]).length:Int)-4)else 0)<=((r.aU++[e.at_]).length:Int)/\((r.aU++[e.at_]).length:Int)<=((r.aU++[e.at_]).length:Int)then bif bD (([]:aa Int).length+(((r.aU++[e.at_]).take (((r.aU++[e.at_]).length:Int).toNat)).drop ((if W6 (((r.aU++[e.at_]).length:Int)-4) > 0 then W6 (((r.aU++[e.at_]).length:Int)-4)else 0).toNat)).length)then some (⟨(r.last.set (fQ g e.cmd).toNat e.at_),(([]:aa Int)++(((r.aU++[e.at_]).take (((r.aU++[e.at_]).length:Int).toNat)).drop ((if W6 (((r.aU++[e.at_]).length:Int)-4) > 0 then W6 (((r.aU++[e.at_]).length:Int)-4)else 0).toNat)))⟩:cZ)else none else none else none)else A else B)=some ⟨r.last.set (fQ g e.cmd).toNat e.at_,xY r.aU e.at_⟩:=by
      intro A B;have I:(r.aU++[e.at_]).length=r.aU.length+1:=by simp
      have Y:(if W6 (((r.aU.length+1:Nat):Int)-4) > 0 then W6 (((r.aU.length+1:Nat):Int)-4)else 0)=((r.aU.length+1-4:Nat):Int):=by
       rw[aV];split<;>omega
      rw[aB ⟨E.1,by omega⟩,aB,cM (by simp;omega),aq,I,Y,bH ⟨by omega,by omega,by omega⟩,cM (by simp;omega),aq];unfold xY;simp only[bu,kY];rw[<-I,ir]
     simp only[aq,bZ];unfold xX;by_cases C:0<r.aU.length
     ·have L:(W6 ((r.aU.length:Int)-1))=((r.aU.length-1:Nat):Int):=by rw[aV];omega
      have hi:(W6 ((r.aU.length:Int)-1)).toNat<r.aU.length:=by rw[L];omega
      rw[aQ (show (r.aU.length:Int) > 0 by omega),aq,aB ⟨by rw[L];omega,hi⟩,ai1 C hi (by omega)];dsimp only;cases decide (e.at_<=r.aU[(W6 ((r.aU.length:Int)-1)).toNat])with
      |true=>rfl
      | false=>
       simp only[au,gM,aq];exact tl _ _
     ·have C:r.aU=[]:=List.eq_nil_of_length_eq_zero (by omega);rw[aX (by rw[C];simp),au];rw[show r.aU.getLast?=none by rw[C];rfl];simp only[gM,aq];exact tl _ _
def ayk(g:aI)(r:cZ)(e:bW)(Z:r.last.length<1073741824)(h2:r.aU.length<1073741824):PG g r e=some (mj g r e):=by
 unfold PG mj xA xI xL xZ;rw[ai0 r Z h2,ak,aiF,ak];cases hr:jO g r with
 |false=>rfl
 | true=>
  simp only[bB,au,bZ];rw[aiQ,ak];cases L:cQ g e.cmd with
  |false=>rfl
  | true=>
   simp only[bB,au,bZ];rw[dN,ak];cases ha:aN e.at_ 0 1000000 with
   |false=>rfl
   | true=>
    obtain⟨hg,hl,h4⟩:=FM hr;obtain⟨_,CV,hb,_⟩:=sQ L;have hp:=FL L;have b1:=dS g;have pl:fQ g e.cmd=bif decide (e.cmd.kind<=5)then 9*e.cmd.ay+e.cmd.kind-1 else 9*aR g+e.cmd.kind-1:=by
     unfold fQ;rw[Lr CV];cases decide (e.cmd.kind<=5)<;>rfl
    have O:decide (e.cmd.kind<=5)=true->W6 (W6 (W6 (9*e.cmd.ay)+e.cmd.kind)-1)=fQ g e.cmd:=by
     intro C;have:=hb (of_decide_eq_true C);rw[aV (n:=9*e.cmd.ay),aV (n:=9*e.cmd.ay+e.cmd.kind),aV,pl,C];rfl
    have hW2:decide (e.cmd.kind<=5)=false->W6 (W6 (W6 (9*aR g)+e.cmd.kind)-1)=fQ g e.cmd:=by
     intro C;rw[aV (n:=9*aR g),aV (n:=9*aR g+e.cmd.kind),aV,pl,C];rfl
    have E:∀l:aa Int,l.length<1073741824->uh ⟨r.last.set (fQ g e.cmd).toNat e.at_,l⟩=some ⟨r.last.set (fQ g e.cmd).toNat e.at_,l⟩:=λl Bg=>ai0 _ (by simp;omega) Bg
    have D:0<=fQ g e.cmd/\(fQ g e.cmd).toNat<r.last.length:=⟨hp.1,by omega⟩
    have o1:bD (([]:aa Int).length+r.aU.length)=true:=cM (by simp;omega);have o2:bD ((([]:aa Int)++r.aU).length+([e.at_]:aa Int).length)=true:=cM (by simp;omega);have T:((([]:aa Int)++r.aU)++([e.at_]:aa Int)).length=r.aU.length+1:=by simp
    have U:(bif decide ((((r.aU.length+1:Nat):Int)) > 4)then if 0<=(1:Int)/\(1:Int)<=((r.aU.length+1:Nat):Int)/\((r.aU.length+1:Nat):Int)<=((r.aU.length+1:Nat):Int)then (uh (⟨r.last.set (fQ g e.cmd).toNat e.at_,(((([]:aa Int)++r.aU)++([e.at_]:aa Int)).take (((r.aU.length+1:Nat):Int).toNat)).drop ((1:Int).toNat)⟩:cZ)).bind λgK=>some gK else none else (uh (⟨r.last.set (fQ g e.cmd).toNat e.at_,((([]:aa Int)++r.aU)++([e.at_]:aa Int))⟩:cZ)).bind λhU=>some hU)=some ⟨r.last.set (fQ g e.cmd).toNat e.at_,xY r.aU e.at_⟩:=by
     have et:((([]:aa Int)++r.aU)++([e.at_]:aa Int)).take (((r.aU.length+1:Nat):Int).toNat)=r.aU++[e.at_]:=by
      rw[bu,<-T,ir,kY]
     rw[et];unfold xY;by_cases h5:4<=r.aU.length
     ·rw[aQ,aq,bH ⟨by omega,by omega,by omega⟩,E _ (by simp;omega),ak,show r.aU.length+1-4=1 by omega];rfl
     ·rw[aX,au,E _ (by simp;omega),ak,show r.aU.length+1-4=0 by omega];rfl
    simp only[bB,au,bZ,me,ak];cases hk:(e.cmd.kind==1)with
    | false=>
     cases C:decide (e.cmd.kind<=5)with
     | true=>
      simp only[au,Bool.false_and,gM,aq,O C];rw[aB D,aB D.2,E _ (by omega),ak]
     | false=>
      simp only[au,Bool.false_and,gM,aq,hW2 C];rw[aB D,aB D.2,E _ (by omega),ak]
    | true=>
     have C:decide (e.cmd.kind<=5)=true:=by
      have:e.cmd.kind=1:=by simpa using hk
      exact aQ
     simp only[aq,bZ,C,O C,o1,o2,T];unfold xX;by_cases I:0<r.aU.length
     ·have Y:(W6 ((r.aU.length:Int)-1))=((r.aU.length-1:Nat):Int):=by rw[aV];omega
      have hi:(W6 ((r.aU.length:Int)-1)).toNat<r.aU.length:=by rw[Y];omega
      rw[aQ (show (r.aU.length:Int) > 0 by omega),aq,aB ⟨by rw[Y];omega,hi⟩,ai1 I hi (by omega)];dsimp only;rw[show decide (r.aU[(W6 ((r.aU.length:Int)-1)).toNat] >= e.at_)=decide (e.at_<=r.aU[(W6 ((r.aU.length:Int)-1)).toNat])from rfl];cases decide (e.at_<=r.aU[(W6 ((r.aU.length:Int)-1)).toNat])with
      |true=>rfl
      | false=>
       simp only[au,gM,aq];rw[aB D,aB D.2];exact U
     ·have I:r.aU=[]:=List.eq_nil_of_length_eq_zero (by omega);rw[aX (by rw[I];simp),au];rw[show r.aU.getLast?=none by rw[I];rfl];simp only[gM,aq];rw[aB D,aB D.2];exact U
def mX{A T:Type}(f:Nat->A->T->aj A):Nat->aa T->A->aj A
 |_,[],a=>some a
 | k,x :: l,a=>match f k a x with
  |some C=>mX f (k+1) l C
  |none=>none
def YA{α β T A:Type}{step:α->aj (α⊕β)}(f:Nat->A->T->aj A)(S:Nat->A->α)(Z:Nat->A->T->β)(z:A->β)(I:Nat->A->Prop):∀ (l:aa T) (k:Nat) (a:A) (fuel:Nat),I k a->l.length<fuel->
  (∀i (h:i<l.length) a,I (k+i) a->step (S (k+i) a)=some (match f (k+i) a l[i]with|some C=>.inl (S (k+i+1) C)|none=>.inr (Z (k+i) a l[i])))->
  (∀i (h:i<l.length) a C,I (k+i) a->f (k+i) a l[i]=some C->I (k+i+1) C)->
  (∀a,I (k+l.length) a->step (S (k+l.length) a)=some (.inr (z a)))->
  (∃C,mX f k l a=some C/\I (k+l.length) C/\iter step fuel (S k a)=some (z C))\/(mX f k l a=none/\∃i C,∃(h:i<l.length),I (k+i) C/\f (k+i) C l[i]=none/\iter step fuel (S k a)=some (Z (k+i) C l[i]))
 | [],k,a,fuel,E,U,hs,hI,hz=>by
  obtain⟨n,rfl⟩:∃n,fuel=n+1:=⟨fuel-1,by simp at U;omega⟩
  refine .inl ⟨a,rfl,by simpa using E,?_⟩;have:=hz a (by simpa using E);rw[List.length_nil,Nat.add_zero]at this;simp only[iter,this]
 | x :: l,k,a,fuel,E,U,hs,hI,hz=>by
  obtain⟨n,rfl⟩:∃n,fuel=n+1:=⟨fuel-1,by simp at U;omega⟩
  have L:=hs 0 (by simp) a (by simpa using E);simp only[Nat.add_zero,List.getElem_cons_zero]at L;cases D:f k a x with
  | none=>
   rw[D]at L;refine .inr ⟨by simp only[mX,D],0,a,by simp,by simpa using E,by simpa using D,?_⟩;simp only[iter,L,Nat.add_zero,List.getElem_cons_zero]
  | some Y=>
   rw[D]at L;have h1:I (k+1) Y:=by
    have:=hI 0 (by simp) a Y (by simpa using E) (by simpa using D)
    simpa using this
   have ih:=YA f S Z z I l (k+1) Y n h1 (by simp at U;omega) (λi h a O=>by
     have e:=hs (i+1) (by simp;omega) a (by rw[show k+(i+1)=k+1+i by omega];exact O);rw[show k+(i+1)=k+1+i by omega]at e
     simpa using e) (λi h a C O hff=>by
     have e:=hI (i+1) (by simp;omega) a C (by rw[show k+(i+1)=k+1+i by omega];exact O) (by rw[show k+(i+1)=k+1+i by omega];simpa using hff);rw[show k+(i+1)=k+1+i by omega]at e;exact e) (λa O=>by
     have e:=hz a (by simp only[nj];rw[show k+(l.length+1)=k+1+l.length by omega];exact O);simp only[nj]at e;rw[show k+(l.length+1)=k+1+l.length by omega]at e;exact e)
   have hit:iter step (n+1) (S k a)=iter step n (S (k+1) Y):=by simp only[iter,L]
   rcases ih with ⟨C,e1,e2,e3⟩|⟨e1,i,C,h,e2,e3,e4⟩
   ·refine .inl ⟨C,by simp only[mX,D];exact e1,?_,by rw[hit];exact e3⟩;simp only[nj];rw[show k+(l.length+1)=k+1+l.length by omega];exact e2
   ·refine .inr ⟨by simp only[mX,D];exact e1,i+1,C,by simp;omega,?_,?_,?_⟩
    ·rw[show k+(i+1)=k+1+i by omega];exact e2
    ·rw[show k+(i+1)=k+1+i by omega];simpa using e3
    ·rw[hit,show k+(i+1)=k+1+i by omega];simpa using e4
def gE(l:aa bW):aa Int:=(l.filter λe=>e.cmd.kind==1).map (·.at_)
def ayl{l:aa bW}{i:Nat}(h:i<l.length):gE (l.take (i+1))=bif l[i].cmd.kind==1 then gE (l.take i)++[l[i].at_]else gE (l.take i):=by
 unfold gE;rw[mU h,List.filter_append,kX];cases C:(l[i].cmd.kind==1)<;>simp[List.filter,C]
def ai3(l:aa bW):(gE l).length<=l.length:=by
 unfold gE;rw[eI];exact List.length_filter_le _ _
def aym(l:aa bW)(hl:l.length<1073741823):Oo l=some (gE l):=by
 have e:=cD (step:=IG) l.length (λi=>(((),l,(l.length:Int),(i:Int),()),(gE (l.take i),()))) (.inl (((),()),(gE l,()))) aP (λk h=>by
  have hlen:=ai3 (l.take k);rw[fU]at hlen;unfold IG az xG xI;dsimp only;rw[aQ,aq,aB ⟨by omega,by omega⟩,bz,ayl h];simp only[bu];cases l[k].cmd.kind==1 with
  |true=>rw[aq,cM (by simp;omega)];rfl
  |false=>rfl) (by
  unfold IG az xG xI;dsimp only;rw[aX,au,ir]) (bF)
 unfold Oo br;rw[cm,List.take_zero]at e;exact(bq (λo=>Option.bind o _) e).trans rfl
def x8(g:aI)(e:bW):Bool:=cQ g e.cmd&&aN e.at_ 0 1000000
def YB{g:aI}{e:bW}(h:x8 g e=true):cQ g e.cmd=true/\0<=e.at_/\e.at_<=1000000:=by
 simp only[x8,aO,bA]at h;exact h
def Rt{t:ck}(C:gS t=true)(g:aI)(a b:aE):1 <= kT g t a b/\kT g t a b <= 128:=by
 have D:=ayi C a.kind b.kind (FK g a b);have E:=aiY C a.kind b.kind;unfold kT
 grind
def ayn{g:aI}{t:ck}{a b:aE}(C:cQ g a=true)(hb:cQ g b=true):z0 g t a b=some (kT g t a b):=by
 obtain⟨D,E,I,_⟩:=sQ C;obtain⟨_,L,O,_⟩:=sQ hb;exact aiX t D E L I O
def uA(g:aI)(t:ck)(l:aa bW)(e:bW):Bool:=l.any λx=>decide (e.at_-x.at_<kT g t x.cmd e.cmd)
def AE(g:aI)(t:ck)(l:aa bW)(c:aE):Int:=l.foldl (λm x=>max m (x.at_+kT g t x.cmd c)) 0
def ayo{g:aI}{t:ck}{l:aa bW}{c:aE}{i:Nat}(h:i<l.length):AE g t (l.take (i+1)) c=max (AE g t (l.take i) c) (l[i].at_+kT g t l[i].cmd c):=by
 unfold AE;rw[mU h,List.foldl_append];rfl
def ai4(g:aI)(t:ck)(l:aa bW)(c:aE)(m i n:Int):On (((),(),(),m,l,n,i,()),((g.bK,g.aA,g.rows,g.aL,()),t,(c.kind,c.ay,c.row,c.bO,()),())) =
  bif decide (i<n)then if C:0<=i/\i.toNat<l.length then ((z0 g t (l[i.toNat]'C.2).cmd c).bind λD=>some (.inl (((),(),(),(if (W6 ((l[i.toNat]'C.2).at_+D)) > m then (W6 ((l[i.toNat]'C.2).at_+D))else m),l,n,(W6 (i+(1:Int))),()),((g.bK,g.aA,g.rows,g.aL,()),t,(c.kind,c.ay,c.row,c.bO,()),()))))else none else some (.inr (.inl ((m,()),()))):=rfl
def ayp{g:aI}{t:ck}(C:gS t=true){l:aa bW}{c:aE}(hl:l.length<1073741823)(D:∀ x∈l,x8 g x=true)(E:cQ g c=true):IF g t l c=some (AE g t l c):=by
 have e:=cD (step:=On) l.length (λi=>(((),(),(),AE g t (l.take i) c,l,(l.length:Int),(i:Int),()),((g.bK,g.aA,g.rows,g.aL,()),t,(c.kind,c.ay,c.row,c.bO,()),()))) (.inl ((AE g t l c,()),())) aP (λk h=>by
  obtain⟨I,L,O⟩:=YB (D l[k] (cR h));have T:=Rt C g l[k].cmd c;rw[ai4,aQ,aq,aB ⟨by omega,by omega⟩];simp only[bu];rw[ayn I E,ak,aV,bz,Lq,Int.max_comm,ayo h]) (by
  rw[ai4,aX,au,ir]) (bF)
 unfold IF br;rw[cm,List.take_zero]at e;exact(bq (λo=>Option.bind o _) e).trans rfl
def ai5{T:Type}(f:T->Int)(y:Int):∀ (l:aa T) (m:Int),(y<l.foldl (λm x=>max m (f x)) m) ↔ (y<m\/∃ x∈l,y<f x)
 |[],m=>by simp
 | x :: l,m=>by
  rw[List.foldl_cons,ai5 f y l];simp only[gn,exists_eq_or_imp];constructor
  ·rintro(h | h)
   ·rcases(show y<m\/m<=y by omega)with h1 | h1
    ·exact .inl h1
    ·exact .inr (.inl (by omega))
   ·exact .inr (.inr h)
  ·rintro(h | h | h)
   ·exact .inl (by omega)
   ·exact .inl (by omega)
   ·exact .inr h
def ayq{g:aI}{t:ck}{l:aa bW}{e:bW}(E:0<=e.at_):decide (e.at_<AE g t l e.cmd)=uA g t l e:=by
 rw[Bool.eq_iff_iff,fY];unfold AE uA;rw[ai5,List.any_eq_true];simp only[fY];constructor
 ·rintro(h | ⟨x,C,D⟩)
  ·omega
  ·exact⟨x,C,by omega⟩
 ·rintro⟨x,C,D⟩;exact .inr ⟨x,C,by omega⟩
def Ru(t:ck)(A:aa Int):Int:=if A.length<4 then 0 else A.getD (A.length-4) 0+t.iN
def AF(t:ck)(A:aa Int)(x:Int):Bool:=decide (4<=A.length)&&decide (x-A.getD (A.length-4) 0<t.iN)
def ayr{g:aI}{l:aa bW}(h:∀ x∈l,x8 g x=true):∀ y∈gE l,0<=y/\y<=1000000:=by
 intro y C;unfold gE at C;obtain⟨e,D,rfl⟩:=List.mem_map.1 C;exact(YB (h e (List.mem_filter.1 D).1)).2
def ays{A:aa Int}(h:∀ y∈A,0<=y/\y<=1000000)(i:Nat):0<=A.getD i 0/\A.getD i 0<=1000000:=by
 rw[ei];cases hi:A[i]? with
 |none=>exact⟨by simp,by simp⟩
 |some y=>exact h y (gF hi)
def YC{t:ck}(C:gS t=true):1<=t.iN/\t.iN<=64:=Yz C _ (by simp[qt])
def ayt{g:aI}{t:ck}(E:gS t=true){l:aa bW}(hl:l.length<1073741823)(I:∀ x∈l,x8 g x=true):II t l=some (Ru t (gE l)):=by
 have L:=ayr I;have hlen:=ai3 l;have O:=YC E;unfold II Ru xL;rw[aym l hl,ak];generalize gE l=A at *
 by_cases D:A.length<4
 ·rw[aQ,aq,bH D]
 ·have C:W6 ((A.length:Int)-4)=((A.length-4:Nat):Int):=by rw[aV];omega
  have T:=ays L (A.length-4);rw[aX,au,bJ D];have hi:(W6 ((A.length:Int)-4)).toNat<A.length:=by rw[C];omega
  rw[aB ⟨by rw[C];omega,hi⟩,aB hi];have e:A[(W6 ((A.length:Int)-4)).toNat]=A.getD (A.length-4) 0:=by
   rw[ei];have:(W6 ((A.length:Int)-4)).toNat=A.length-4:=by rw[C];omega
   simp only[this];rw[bQ (by omega)];rfl
  dsimp only;rw[e,aV]
def ayu{t:ck}{A:aa Int}{x:Int}(D:0<=x):decide (x<Ru t A)=AF t A x:=by
 unfold Ru AF;by_cases C:A.length<4
 ·rw[bH C,aX,aX (show ¬ 4<=A.length by omega),Bool.false_and]
 ·rw[bJ C,aQ (show 4<=A.length by omega),bZ,Bool.eq_iff_iff];simp only[fY];omega
def YD{T:Type}{p:T -> Bool}{l:aa T}{i:Nat}{x:T}(h:l.all p=true)(C:p x=true):(l.set i x).all p=true:=by grind
def vR{g:aI}{r:bU}(h:jN g r=true):cw g=true/\(r.aA.length:Int)=aR g/\(0 <= r.aT/\r.aT <= 2)/\r.aA.all (qv g)=true/\(r.aT=2 -> (r.aA.all λb=>!b.open_)=true):=by
 simp only[jN,aO,fI,bA,eA,bne_iff_ne]at h
 grind
def CW{g:aI}{r:bU}(C:cw g=true)(D:(r.aA.length:Int)=aR g)(E:0 <= r.aT/\r.aT <= 2)(I:r.aA.all (qv g)=true)(L:r.aT=2 -> (r.aA.all λb=>!b.open_)=true):jN g r=true:=by
 simp only[jN,aO,fI,bA,eA,bne_iff_ne]
 grind
def YE{g:aI}{r:bU}{c:aE}(L:jN g r=true)(I:cQ g c=true)(D:iZ r c=true):jN g (fj r c)=true:=by
 have⟨C,hlen,Y,E,Z⟩:=vR L;have⟨_,O,hb,_⟩:=sQ I;have gb:=fe C;have T:c.kind=1 -> 0 <= c.row/\c.row <= g.rows-1:=by
  intro h;simp[cQ,aO]at I;have:=I.2.2.2.1;rw[sP,h]at this
  simpa [bA]using this
 rcases kinds O with h|h|h|h|h|h|h|h|h
 ·have e:fj r c=⟨r.aA.set c.ay.toNat ⟨true,c.row⟩,r.aT⟩:=by simp[fj,h]
  have U:r.aT=0:=by simp[iZ,h]at D;exact D.1
  rw[e];exact CW C (by simpa using hlen) (by omega) (YD E (by simp only[qv,aO,bA];exact⟨T h,by simp⟩)) (λe=>by simp only at e;omega)
 ·have e:fj r c=r:=by simp[fj,h]
  simp_all
 ·have e:fj r c=r:=by simp[fj,h]
  simp_all
 ·have e:fj r c=⟨r.aA.set c.ay.toNat ⟨false,0⟩,r.aT⟩:=by simp[fj,h]
  have U:r.aT=0:=by simp[iZ,h]at D;exact D.1
  rw[e];exact CW C (by simpa using hlen) (by omega) (YD E (by simp only[qv,aO,bA];exact⟨by omega,by simp⟩)) (λe=>by simp only at e;omega)
 ·have e:fj r c=r:=by simp[fj,h]
  simp_all
 ·have e:fj r c=⟨r.aA,1⟩:=by simp[fj,h]
  rw[e];exact CW C hlen (by simp) E (λe=>by simp at e)
 ·have e:fj r c=⟨r.aA,0⟩:=by simp[fj,h]
  rw[e];exact CW C hlen (by simp) E (λe=>by simp at e)
 ·have e:fj r c=⟨r.aA,2⟩:=by simp[fj,h]
  rw[e];exact CW C hlen (by simp) E (λ_=>by simp[iZ,h]at D;simpa using D.2)
 ·have e:fj r c=⟨r.aA,0⟩:=by simp[fj,h]
  rw[e];exact CW C hlen (by simp) E (λe=>by simp at e)
def ayv{g:aI}(C:cw g=true):jN g (jQ g)=true:=by
 have E:=dS g;have I:=fe C
 refine CW C (by simp[jQ];omega) (by simp[jQ]) ?_ (λe=>by simp[jQ]at e)
 unfold jQ;rw[cu];intro x D;obtain⟨_,rfl⟩:=List.mem_replicate.1 D;simp only[qv,aO,bA];exact⟨by omega,by simp⟩
def sR(l:aa bW)(k:Nat)(e:bW):Bool:=match k with
 |0=>true
 | k+1=>match l[k]? with
  |some x=>decide (x.at_<e.at_)
  |none=>true
def fT(g:aI)(t:ck)(l:aa bW)(k:Nat)(r:bU)(e:bW):aj bU:=
 bif !cQ g e.cmd then none else bif !aN e.at_ 0 1000000 then none else bif !sR l k e then none else bif !iZ r e.cmd then none else
 bif uA g t (l.take k) e then none else bif e.cmd.kind==1&&AF t (gE (l.take k)) e.at_ then none else some (fj r e.cmd)
def cT(g:aI)(t:ck)(l:aa bW)(k:Nat)(r:bU)(e:bW):Int:=
 bif !cQ g e.cmd then 1 else bif !aN e.at_ 0 1000000 then 1 else bif !sR l k e then 1 else bif !iZ r e.cmd then 2 else
 bif uA g t (l.take k) e then 3 else 4
def ayw(g:aI)(t:ck)(l:aa bW)(k:Nat)(r:bU)(e:bW):(cT g t l k r e != 0)=true:=by
 unfold cT;cases cQ g e.cmd<;>cases aN e.at_ 0 1000000<;>cases sR l k e<;>cases iZ r e.cmd<;>cases uA g t (l.take k) e<;>rfl
def IT(g:aI)(l:aa bW)(k:Nat)(r:bU):Prop:=jN g r=true/\∀x∈l.take k,x8 g x=true
def ayx{g:aI}{t:ck}{l:aa bW}{k:Nat}{r O:bU}(Y:k<l.length)(h:IT g l k r)(C:fT g t l k r l[k]=some O):IT g l (k+1) O:=by
 unfold fT at C;cases D:cQ g l[k].cmd with
 |false=>rw[D]at C;cases C
 | true=>
  cases E:aN l[k].at_ 0 1000000 with
  |false=>rw[D,E]at C;cases C
  | true=>
   cases I:sR l k l[k]with
   |false=>rw[D,E,I]at C;cases C
   | true=>
    cases L:iZ r l[k].cmd with
    |false=>rw[D,E,I,L]at C;cases C
    | true=>
     rw[D,E,I,L]at C;simp only[bB,au]at C;cases T:uA g t (l.take k) l[k]with
     |true=>rw[T]at C;cases C
     | false=>
      rw[T,au]at C;cases U:(l[k].cmd.kind==1&&AF t (gE (l.take k)) l[k].at_)with
      |true=>rw[U]at C;cases C
      | false=>
       rw[U,au]at C;injection C with C;subst C
       refine⟨YE h.1 D L,λx hx=>?_⟩
       rw[mU Y]at hx;rcases List.mem_append.1 hx with hx|hx
       ·exact h.2 x hx
       ·obtain rfl:=kI.1 hx;simp only[x8,D,E,Bool.and_self]
def ayy(g:aI):(⟨g.bK,g.aA,g.rows,g.aL⟩:aI)=g:=rfl
def ayz(t:ck):(⟨t.kJ,t.rp,t.gG,t.nW,t.kK,t.iN,t.nX,t.nY,t.jl,t.wr,t.nZ,t.n5,t.qM,t.n6,t.oK,t.xp,t.xs⟩:ck)=t:=rfl
def ayA(l:aa bW)(e:bW):sR l 0 e=true:=rfl
def ayB{l:aa bW}{k:Nat}(e:bW)(h:0<k)(E:k<l.length)(C:(W6 ((k:Int)-1)).toNat<l.length)(hl:l.length<1073741824):sR l k e = !decide (e.at_<=(l[(W6 ((k:Int)-1)).toNat]'C).at_):=by
 obtain⟨n,rfl⟩:∃n,k=n+1:=⟨k-1,by omega⟩
 have D:(W6 (((n+1:Nat):Int)-1)).toNat=n:=by rw[aV];omega
 unfold sR;simp only[D];rw[bQ (by omega)];simp only;rw[Bool.eq_iff_iff];simp
def tS(t:ck):ck:=t
def ayC{g:aI}{t:ck}(L:gS t=true){l:aa bW}(hl:l.length<1073741823){k:Nat}(Z:k<l.length){r:bU}(hI:IT g l k r):
  Ce ((l,(),(),(),l,(l.length:Int),(k:Int),()),((g.bK,g.aA,g.rows,g.aL,()),tS t,((),r.aT,()),r.aA,())) =
   some (match fT g t l k r l[k]with|some C=>.inl ((l,(),(),(),l,(l.length:Int),((k+1:Nat):Int),()),((g.bK,g.aA,g.rows,g.aL,()),tS t,((),C.aT,()),C.aA,()))|none=>.inr (.inl ((cT g t l k r l[k],(k:Int),()),()))):=by
 obtain⟨O,T⟩:=hI;obtain⟨hg,hlen,_⟩:=vR O;have b1:=dS g;unfold Ce fT cT tS az bf xG xI;dsimp only;simp only[ayy,ayz,ayb,aQ (show (k:Int)<(l.length:Int) by omega),aq];rw[aB ⟨by omega,by omega⟩];simp only[bu];rw[Rs,ak];cases U:cQ g l[k].cmd with
 |false=>rfl
 | true=>
  simp only[bB,au];rw[dR,ak];cases h2:aN l[k].at_ 0 1000000 with
  |false=>rfl
  | true=>
   obtain⟨Y,hm⟩:=bA.1 h2;have tl:((xy g r l[k].cmd).bind λD=>bif (!D.2)then (some (.inr (.inl (((2:Int),(k:Int),()),()))):aj ((((aa bW)×af×af×af×(aa bW)×Int×Int×af)×((Int×Int×Int×Int×af)×ck×(af×Int×af)×(aa di)×af))⊕(((Int×Int×af)×(af))⊕(((af)×(af))⊕Empty))))else if 0<=(0:Int)/\(0:Int)<=(k:Int)/\(k:Int)<=(l.length:Int)then (IF g t ((l.take k).drop (0:Int).toNat) l[k].cmd).bind λlN=>bif (decide (l[k].at_<lN))then some (.inr (.inl (((3:Int),(k:Int),()),())))else bif (l[k].cmd.kind==(1:Int))then if 0<=(0:Int)/\(0:Int)<=(k:Int)/\(k:Int)<=(l.length:Int)then (II t ((l.take k).drop (0:Int).toNat)).bind λkj=>bif (decide (l[k].at_<kj))then some (.inr (.inl (((4:Int),(k:Int),()),())))else some (.inl ((l,(),(),(),l,(l.length:Int),(W6 ((k:Int)+(1:Int))),()),((g.bK,g.aA,g.rows,g.aL,()),t,((),D.1.aT,()),D.1.aA,())))else none else some (.inl ((l,(),(),(),l,(l.length:Int),(W6 ((k:Int)+(1:Int))),()),((g.bK,g.aA,g.rows,g.aL,()),t,((),D.1.aT,()),D.1.aA,())))else none) =
     some (match (bif !iZ r l[k].cmd then none else bif uA g t (l.take k) l[k]then none else bif l[k].cmd.kind==1&&AF t (gE (l.take k)) l[k].at_ then none else some (fj r l[k].cmd))with|some C=>.inl ((l,(),(),(),l,(l.length:Int),((k+1:Nat):Int),()),((g.bK,g.aA,g.rows,g.aL,()),t,((),C.aT,()),C.aA,()))|none=>.inr (.inl ((bif !iZ r l[k].cmd then 2 else bif uA g t (l.take k) l[k]then 3 else 4,(k:Int),()),()))):=by
    rw[Yv g r _ (by omega),ak];unfold FJ jP;rw[O,U];cases h4:iZ r l[k].cmd with
    |false=>rfl
    | true=>
     simp only[bZ,aq,bB,au,Int.toNat_zero,List.drop_zero];rw[bH ⟨by omega,by omega,by omega⟩,ayp L (by simp;omega) T U,ak,ayq Y];cases h5:uA g t (l.take k) l[k]with
     |true=>rfl
     | false=>
      simp only[au];cases h6:(l[k].cmd.kind==1)with
      |false=>simp only[au,Bool.false_and,bz (show k<4611686018427387904 by omega)]
      | true=>
       simp only[aq,bZ];rw[bH ⟨by omega,by omega,by omega⟩,ayt L (by simp;omega) T,ak,ayu Y];cases AF t (gE (l.take k)) l[k].at_ with
       |true=>rfl
       |false=>simp only[au,bz (show k<4611686018427387904 by omega)]
   simp only[bB,au];by_cases E:0<k
   ·have I:(W6 ((k:Int)-1)).toNat<l.length:=by rw[aV];omega
    rw[aQ (show (k:Int) > 0 by omega),aq,aB ⟨by rw[aV];omega,I⟩,ayB _ E Z I (by omega)];cases decide (l[k].at_<=(l[(W6 ((k:Int)-1)).toNat]'I).at_)with
    |true=>rfl
    | false=>
     simp only[au,gM,bB];exact tl
   ·have E:k=0:=by omega
    subst E;rw[aX,au,ayA];simp only[bB,au];exact tl
def runT(g:aI)(t:ck)(l:aa bW):aj bU:=mX (fT g t l) 0 l (jQ g)
def ayD{g:aI}{t:ck}(I:cw g=true)(L:gS t=true){l:aa bW}(hl:l.length<=2000):∃ c i,Oq g t l=some (c,i)/\(c != 0)=(runT g t l).isNone:=by
 have h:=YA (step:=Ce) (fT g t l) (λk r=>((l,(),(),(),l,(l.length:Int),(k:Int),()),((g.bK,g.aA,g.rows,g.aL,()),tS t,((),r.aT,()),r.aA,()))) (λk r e=>.inl ((cT g t l k r e,(k:Int),()),())) (λr=>.inr (.inl ((),()))) (IT g l) l 0 (jQ g) aP ⟨ayv I,λx U=>by simp at U⟩ (bF)
  (λi h r C=>by rw[eN]at C ⊢;exact(ayC L (by omega) h C).trans (by cases fT g t l i r l[i]<;>rfl))
  (λi h r O C T=>by rw[eN]at C T ⊢;exact ayx h C T)
  (λr C=>by rw[eN];unfold Ce az bf xG xI;dsimp only;rw[aX,au])
 unfold Oq bP;rw[rL,ak,I,bB,au,Ld,ak,L,bB,au,aX,au,aiU,ak];change ∃c i,((iter Ce aP ((l,(),(),(),l,(l.length:Int),((0:Nat):Int),()),((g.bK,g.aA,g.rows,g.aL,()),tS t,((),(jQ g).aT,()),(jQ g).aA,()))).bind _)=some (c,i)/\_;rcases h with ⟨O,D,_,E⟩|⟨D,i,O,hi,_,_,E⟩
 ·refine⟨0,-1,(bq (λo=>Option.bind o _) E).trans rfl,?_⟩
  unfold runT;rw[D];rfl
 ·refine⟨_,_,(bq (λo=>Option.bind o _) E).trans rfl,?_⟩
  unfold runT;rw[D];exact ayw _ _ _ _ _ _
def sS(n k:Nat):aa Int:=List.replicate k (-1)++List.replicate (n-k) 0
def ai6{n k:Nat}(h:k<=n):(sS n k).length=n:=by
 unfold sS;simp;omega
def ai7{n k:Nat}(h:k<n):(sS n k).set k (-1)=sS n (k+1):=by
 obtain⟨m,rfl⟩:∃m,n=k+1+m:=⟨n-k-1,by omega⟩
 unfold sS;rw[show k+1+m-k=m+1 by omega,show k+1+m-(k+1)=m by omega,List.set_append_right _ _ (by simp),kH,Nat.sub_self,List.replicate_succ,List.replicate_succ',List.append_assoc];rfl
def ai8(n:Nat):sS n 0=List.replicate n 0:=by simp[sS]
def ai9(n:Nat):sS n n=List.replicate n (-1):=by simp[sS]
def aja(n:Nat)(C:n<1073741824):I1 (n:Int)=some (List.replicate n (-1)):=by
 have e:=cD (step:=I0) n (λi=>((n,(),i,()),(sS n i,()))) _ aP (λk h=>by
  have hl:=ai6 (show k <= n by omega);unfold I0 az xG xL;dsimp only;rw[aQ,aq,aB ⟨by omega,by omega⟩,aB,bz,bu,ai7 h]) (by
  unfold I0 az xG xL;dsimp only;rw[aX,au]) (bF)
 unfold I1 br;rw[bH ⟨by omega,by omega,by omega⟩];rw[ai8,ai9]at e;simp_all
def rT(g:aI):cZ:=⟨List.replicate (9*(aR g+1)).toNat (-1),[]⟩
def ayE{g:aI}(C:cw g=true):Ou g=some (rT g):=by
 have hb:=dS g;obtain⟨n,D⟩:∃n:Nat,9*(aR g+1)=(n:Int):=⟨(9*(aR g+1)).toNat,by omega⟩
 have E:n<1073741824:=by omega
 have e:=cD (step:=IK) n (λi=>(((),(),(n:Int),(i:Int),()),(((),(),()),((),(),()),([]:aa Int),([]:aa Int),sS n i,([]:aa Int),()))) (.inl (((),(),()),(((),(),()),((),(),()),([]:aa Int),([]:aa Int),sS n n,([]:aa Int),()))) aP (λk h=>by
  have hl:=ai6 (show k<=n by omega);unfold IK az xG xL;dsimp only;rw[aQ,aq,aB ⟨by omega,by omega⟩,aB,bz,bu,ai7 h]) (by
  unfold IK az xG xL;dsimp only;rw[aX,au]) (bF)
 rw[ai8,ai9,cm]at e;unfold Ou rT br;rw[rL,ak,C,bB,au,mS,ak,w9,D,bH ⟨by omega,by omega,by omega⟩,bu,kH];exact(bq (λo=>Option.bind o _) e).trans rfl
def ayF{g:aI}(C:cw g=true):OR g=some (rT g):=by
 have hb:=dS g;obtain⟨n,D⟩:∃n:Nat,9*(aR g+1)=n:=⟨(9*(aR g+1)).toNat,by omega⟩
 unfold OR rT;rw[Ax,ak,C,bB,au,me,ak,w9,D,aja n (by omega),ak,bu]
def YF(g:aI)(r:cZ)(e:bW):(mj g r e).last.length=r.last.length/\(r.aU.length <= 4 -> (mj g r e).aU.length <= 4):=by
 unfold mj;cases (jO g r&&(cQ g e.cmd&&(aN e.at_ 0 1000000 && !(e.cmd.kind==1&&xX r e.at_))))with
 |false=>simp_all
 | true=>
  refine⟨by simp,λh=>?_⟩
  cases e.cmd.kind==1 with
  |false=>exact h
  | true=>
   simp[aq,xY,List.length_drop,mC,jk];omega
def oD(g:aI)(l:aa bW):cZ:=l.foldl (mj g) (rT g)
def ayG{g:aI}{l:aa bW}{k:Nat}(h:k<l.length):oD g (l.take (k+1))=mj g (oD g (l.take k)) l[k]:=by
 unfold oD;rw[mU h,List.foldl_append];rfl
def ajb(g:aI)(l:aa bW):(oD g l).last.length<=1000/\(oD g l).aU.length<=4:=by
 have hb:=dS g;have C:(rT g).last.length<=1000/\(rT g).aU.length<=4:=⟨by simp only[rT,kH];omega,by simp[rT]⟩
 unfold oD;generalize rT g=r at C
 induction l generalizing r with
 |nil=>exact C
 |cons x l D=>exact D (mj g r x) ⟨by rw[(YF g r x).1];exact C.1,(YF g r x).2 C.2⟩
def ajc(g:aI)(l:aa bW)(n i:Int)(r:cZ):Ow (((),(),(),l,n,i,()),((g.bK,g.aA,g.rows,g.aL,()),((),(),()),((),(),()),([]:aa Int),([]:aa Int),r.last,r.aU,()))=bif (decide (i<n))then if D:0<=i/\i.toNat<l.length then ((EE g r (l[i.toNat]'D.2)).bind λC=>some (.inl (((),(),(),l,n,(W6 (i+(1:Int))),()),((g.bK,g.aA,g.rows,g.aL,()),((),(),()),((),(),()),([]:aa Int),([]:aa Int),C.last,C.aU,()))))else none else some (.inr (.inl (((),(),()),(((),(),()),((),(),()),([]:aa Int),([]:aa Int),r.last,r.aU,())))):=rfl
def ayH{g:aI}(C:cw g=true){l:aa bW}(hl:l.length<1073741823):IL g l=some (oD g l):=by
 have e:=cD (step:=Ow) l.length (λi=>(((),(),(),l,(l.length:Int),(i:Int),()),((g.bK,g.aA,g.rows,g.aL,()),((),(),()),((),(),()),([]:aa Int),([]:aa Int),(oD g (l.take i)).last,(oD g (l.take i)).aU,()))) (.inl (((),(),()),(((),(),()),((),(),()),([]:aa Int),([]:aa Int),(oD g l).last,(oD g l).aU,()))) aP (λk h=>by
  have hlen:=ajb g (l.take k);rw[ajc,aQ,aq,aB ⟨by omega,by omega⟩];simp only[bu];rw[ai2 _ _ _ (by omega) (by omega),ak,bz,ayG h]) (by
  rw[ajc,aX,au,ir]) (bF)
 rw[cm,List.take_zero]at e;unfold IL br;rw[ayE C,ak];exact(bq (λo=>Option.bind o _) e).trans rfl
def fE(g:aI)(_:Nat)(r:bU)(e:bW):aj bU:=bif jP g r e.cmd then some (fj r e.cmd)else none
def CX(g:aI)(l:aa bW):aj bU:=mX (fE g) 0 l (jQ g)
def YG(g:aI)(l:aa bW):bU×Bool:=match CX g l with
 |some r=>(r,true)
 |none=>(⟨[],0⟩,false)
def ayI(g:aI)(r:bU)(e:bW)(k:Nat):(FJ g r e.cmd)=match fE g k r e with | some C=>(C,true) | none=>(r,false):=by
 unfold FJ fE;cases jP g r e.cmd<;>rfl
def ajd{g:aI}{r C:bU}{e:bW}{k:Nat}(h:fE g k r e=some C):C.aA.length=r.aA.length:=by
 unfold fE at h;cases D:jP g r e.cmd with
 |false=>rw[D]at h;cases h
 | true=>
  rw[D]at h;injection h with h;rw[<-h,Yw]
def ayJ{g:aI}{l:aa bW}{r:bU}(h:CX g l=some r):(r.aA.length:Int)=aR g:=by
 have hb:=dS g;have key:∀ (l:aa bW) (k:Nat) (a:bU),mX (fE g) k l a=some r->r.aA.length=a.aA.length:=by
  intro l
  induction l with
  | nil=>
   intro k a h;injection h with h;rw[h]
  | cons x l D=>
   intro k a h;unfold mX at h;cases C:fE g k a x with
   |none=>rw[C]at h;cases h
   | some E=>
    rw[C]at h;rw[D (k+1) E h,ajd C]
 rw[key l 0 _ h];simp only[jQ,kH];omega
def aje(g:aI)(l:aa bW)(n i:Int)(r:bU):IJ (((),(),(),l,n,i,()),((g.bK,g.aA,g.rows,g.aL,()),((),(0:Int),()),((),r.aT,()),([]:aa di),r.aA,()))=bif (decide (i<n))then if D:0<=i/\i.toNat<l.length then ((xy g r (l[i.toNat]'D.2).cmd).bind λC=>bif (!C.2)then some (.inr (.inl (((),false,()),(((),(0:Int),()),([]:aa di),()))))else some (.inl (((),(),(),l,n,(W6 (i+(1:Int))),()),((g.bK,g.aA,g.rows,g.aL,()),((),(0:Int),()),((),C.1.aT,()),([]:aa di),C.1.aA,()))))else none else some (.inr (.inr (.inl (((),(),()),(((),(0:Int),()),((),r.aT,()),([]:aa di),r.aA,()))))):=rfl
def ayK{g:aI}(L:cw g=true){l:aa bW}(hl:l.length<1073741823):Ot g l=some (YG g l):=by
 have hb:=dS g;have h:=YA (step:=IJ) (fE g) (λk r=>(((),(),(),l,(l.length:Int),(k:Int),()),((g.bK,g.aA,g.rows,g.aL,()),((),(0:Int),()),((),r.aT,()),([]:aa di),r.aA,()))) (λk r e=>.inl (((),false,()),(((),(0:Int),()),([]:aa di),()))) (λr=>.inr (.inl (((),(),()),(((),(0:Int),()),((),r.aT,()),([]:aa di),r.aA,())))) (λ_ r=>r.aA.length<1073741824) l 0 (jQ g) aP (by simp only[jQ,kH];omega) (bF)
  (λi h r C=>by
   rw[eN,aje,aQ,aq,aB ⟨by omega,by omega⟩];simp only[bu];rw[Yv g r _ C,ak,ayI g r l[i] i,bz];cases fE g i r l[i]<;>rfl)
  (λi h r I C O=>by rw[ajd O];exact C)
  (λr C=>by rw[eN,aje,aX,au])
 unfold Ot bP;rw[rL,ak,L,bB,au,aiU,ak];change ((iter IJ aP (((),(),(),l,(l.length:Int),((0:Nat):Int),()),((g.bK,g.aA,g.rows,g.aL,()),((),(0:Int),()),((),(jQ g).aT,()),([]:aa di),(jQ g).aA,()))).bind _)=_;unfold YG CX;rcases h with ⟨I,D,_,E⟩|⟨D,i,I,hi,_,_,E⟩
 ·rw[D];exact(bq (λo=>Option.bind o _) E).trans rfl
 ·rw[D];exact(bq (λo=>Option.bind o _) E).trans rfl
def CY(a b:aa Int):Bool:=((a.length:Int)==(b.length:Int))&&(a.zip b).all λp=>p.1==p.2
def Rv{A B:Type}{a:aa A}{b:aa B}(h:a.length=b.length):(a.zip b).length=a.length:=by
 rw[List.length_zip];omega
def ajf{A B:Type}{a:aa A}{b:aa B}(h:a.length=b.length){k:Nat}(C:k<(a.zip b).length):(a.zip b)[k]=(a[k]'(by rw[Rv h]at C;exact C),b[k]'(by rw[Rv h]at C;omega)):=by
 rw[List.getElem_zip]
def ajg{a b:aa Int}(D:a.length<1073741824):Cf a b=some (CY a b):=by
 unfold Cf CY bP;by_cases h:a.length=b.length
 ·have E:=Rv h;have e:=fN (step:=IM) (a.zip b) (λp=>p.1==p.2) (λi=>((a,b,(a.length:Int),(i:Int),()),())) (.inl ((false,()),())) (.inr (.inl ((),()))) aP (λk C=>by
   unfold IM az bf xG xI;dsimp only;rw[aQ,aq,aB ⟨by omega,by omega⟩,aB ⟨by omega,by omega⟩,bz,ajf h C];simp only[bu];rw[bne];cases a[k]==b[k]<;>rfl) (by
   unfold IM az bf xG xI;dsimp only;rw[aX,au]) (bF)
  rw[cm]at e;rw[show ((a.length:Int) != (b.length:Int))=false by simp[h],au,show ((a.length:Int)==(b.length:Int))=true by simp[h],bZ]
  refine(bq (λo=>Option.bind o _) e).trans ?_
  cases (a.zip b).all λp=>p.1==p.2<;>rfl
 ·rw[show ((a.length:Int) != (b.length:Int))=true by simp;omega,aq,show ((a.length:Int)==(b.length:Int))=false by simp;omega,Bool.false_and]
def Ls(x:dY):Prop:=(x.weights.length<=1048576)
def place(l:aa aZ)(id:Int):Int:=match l.findIdx? (λr=>r.id==id)with
 |some i=>(i:Int)
 |none=>-1
def ayL(l:aa (Int×Bool))(k j:Int):mI (nM l k true) j=(j==k || mI l j):=by
 induction l with
 |nil =>rfl
 | cons p ps D=>
  simp only[nM];cases C:(k==p.1)with
  | true=>
   have e:k=p.1:=by simpa using C
   rw[aq];simp[mI]
   grind
  | false=>
   rw[au];simp only[mI]
   grind
def ayM(g:aI)(a:en)(I:∀ c∈a.cells,c.symbols.length<1073741824):Qp g a=some (oA g a):=by
 unfold Qp oA bP;rw[Ax,ak,xR,me];cases L:cw g with
 |false=>rfl
 | true=>
  have U:=mT g;have Y:=qm g;have er:aR g*g.rows=fP g:=by simp[fP,L]
  simp only[bB,au,ak,bZ,er];rw[aV];by_cases C:(a.cells.length:Int)=ez g
  ·by_cases D:(a.bC.length:Int)=fP g
   ·by_cases E:(a.bw.length:Int)=fP g
    ·have hl:a.bC.length=a.bw.length:=by omega
     have l1:=fN (step:=Kz) a.cells CN (λi=>(((),(i:Int),()),((a.cells,a.bC,a.bw,()),()))) (.inl ((false,()),())) (.inr (.inl (((),()),((a.cells,a.bC,a.bw,()),())))) aP (λk h=>by
      unfold Kz az bf xG xI;simp (disch:=omega) [h,bz,K8 _ 11 (I _ (cR h)),CN];cases rP a.cells[k].symbols 11<;>rfl) (by unfold Kz az bf xG xI;simp) (bF)
     have l2:=fN (step:=KA) (a.bC.zip a.bw) vL (λi=>(((),(i:Int),()),((a.cells,a.bC,a.bw,()),()))) (.inl ((false,()),())) (.inr (.inl ((),()))) aP (λk h=>by
      have O:k<a.bC.length:=by simp at h;omega
      have T:k<a.bw.length:=by omega
      unfold KA az bf xG xI;simp (disch:=omega) [O,T,bz,dN,vL];cases aN a.bC[k] 0 100000<;>cases aN a.bw[k] 0 100000<;>rfl) (by unfold KA az bf xG xI;simp[hl]) (bF (by simp;omega))
     rw[cm]at l1 l2;simp only[C,D,E,bne_self_eq_false,au,decide_true,bZ];rw[l1];cases Z:a.cells.all CN with
     |false=>simp
     | true=>
      simp only[aq,Option.bind_some,Sum.elim_inr,dX];rw[l2];cases (a.bC.zip a.bw).all vL<;>simp
    ·simp[C,D,fO E,E]
   ·have e4:¬ (a.bw.length:Int)=(a.bC.length:Int)\/True:=.inr trivial;simp[C,fO D,D]
  ·simp[fO C,C]
def ic(g:aI)(a:aM):Nat:=(qp g a).toNat
def Lt{g:aI}{a:aM}(h:dz g a=true):qp g a=(ic g a:Int)/\(ic g a:Int)<ez g:=by
 have:=XW h;unfold ic;omega
def fy.lt{g:aI}{B:Int}{a:en}(C:fy g B a){at_:aM}(h:dz g at_=true):ic g at_<a.cells.length:=by
 have:=Lt h;have:=C.cells;omega
def fy.CZ{g:aI}{B:Int}{a:en}(C:fy g B a)(k:Nat){c:cq}(D:Sy c.symbols):fy g B ⟨a.cells.set k c,a.bC,a.bw⟩:=
 ⟨by simp[C.cells],Sy.bV C.syms D,C.bC,C.bw,C.K9,C.hit⟩
def mm(R row:Int):aa Int:=(bif decide (0<row)then [row-1]else [])++(bif decide (row<R-1)then [row+1]else [])
def YH{R row:Int}(L:2<=R)(O:R<=16)(T:0<=row)(U:row<R):FA R row=some (mm R row):=by
 unfold FA mm xA xZ;have C:aN R 2 16=true:=by rw[bA];omega
 have D:aN row 0 (R-1)=true:=by rw[bA];omega
 rw[dR,ak,C,aV (n:=R-1),dR,aV (n:=row-1),aV (n:=row+1)];by_cases E:0<row<;>by_cases I:row<R-1<;>simp[D,E,I,bD]
def ajh{R row:Int}(D:0 <= row)(E:row<R):∀ n∈mm R row,0 <= n/\n<R:=by
 intro n C;unfold mm at C
 grind
def ayN(R row:Int):(mm R row).length <= 2:=by
 unfold mm
 grind
def ayO{R row k:Int}{i:Nat}(hi:k+row=(i:Int))(C:0 <= k)(D:0 <= row)(H:aa Int):(mm R row).foldl (λh n=>pI (k+n).toNat h) (H.set i 0)=vM R row i H:=by
 unfold mm vM Ay
 grind
def aji(k:Int):∀ (l:aa Int) (H:aa Int),(l.foldl (λh n=>pI (k+n).toNat h) H).length=H.length
 |[],H=>rfl
 |x::l,H=>by rw[List.foldl_cons,aji k l,Lc]
def ajj(k:Int):∀ (l:aa Int) (H:aa Int),(∀ x∈H,0<=x/\x<=100000)->∀ x∈l.foldl (λh n=>pI (k+n).toNat h) H,0<=x/\x<=100000
 |[],H,h=>h
 |x::l,H,h=>by rw[List.foldl_cons];exact ajj k l _ (Rb h)
def ayP(y:Int):0 <= bits .and .i64 y 15/\bits .and .i64 y 15 <= 15:=by
 have e:bits .and .i64 y 15=IntKind.wrap .i64 ((BitVec.ofInt 64 y &&& BitVec.ofInt 64 15).toNat):=rfl;have h:(BitVec.ofInt 64 y &&& BitVec.ofInt 64 15).toNat <= 15:=by
  exact Nat.le_trans Nat.and_le_right (by decide)
 rw[e,IntKind.wrap_i64];omega
def ajk{n:Int}(C:0 <= n)(D:n<18446744073709551616):IntKind.u64.wrap n=n:=by
 have:IntKind.u64.wrap n=n % 18446744073709551616:=rfl
 grind
def lg(a:Nat):Nat:=(14688061253356765440 / 2 ^ (4*a)) % 16
def okB(C s1 s2 i:Nat):Bool:=!Nat.beq C 0&&(Nat.beq (gm C (pw i)) s1&&Nat.beq (gm s1 (pw i)) s2)
def loc(C s1 s2:Nat):aj Nat:=(List.range 11).find? (okB C s1 s2)
def FN:aj Nat->Nat
 |some n=>n
 |none=>99
def ayQ:(jh λa=>Nat.beq a 0 ||QJ (Int.ofNat a)==some (Int.ofNat (lg a)))=true:=by kernel_rfl
def ajl:(jh λC=>jh λs1=>jh λs2=>bif Nat.beq C 0 || Nat.beq s1 0 then Nat.beq (FN (loc C s1 s2)) 99 else
  (λx=>!Nat.beq x 0&&Nat.beq (FN (loc C s1 s2)) (bif Nat.blt (lg x) 11&&Nat.beq (gm s1 x) s2 then lg x else 99)) (gm s1 (iv C)))=true:=by kernel_rfl
def ayR:((List.range 11).all λn=>E0 2 (Int.ofNat n)==some (Int.ofNat (pw n)))=true:=by kernel_rfl
def Lu{n:Nat}(h:n<11):E0 2 (n:Int)=some (pw n:Int):=eq_of_beq (cu.1 ayR n (fk.2 h))
def ayS:((List.range 11).all λi=>(List.range 3).all λj=>Nat.beq (gm (pw (i*j)) (pw i)) (pw (i*(j+1))))=true:=by kernel_rfl
def ayT{i j:Nat}(hi:i<11)(C:j<3):gm (pw (i*j)) (pw i)=pw (i*(j+1)):=cC (cu.1 (cu.1 ayS i (fk.2 hi)) j (fk.2 C))
def uB(w:aa Nat)(i:Nat):aa Int:=[(bR w 0 i:Int),(bR w 1 i:Int),(bR w 2 i:Int)]
def YI(w:aa Nat)(i:Nat):Nat->aa Int
 |0=>[(bR w 0 i:Int),(bR w 1 i:Int),(bR w 2 i:Int)]
 |1=>[(bR w 0 (i+1):Int),(bR w 1 i:Int),(bR w 2 i:Int)]
 |2=>[(bR w 0 (i+1):Int),(bR w 1 (i+1):Int),(bR w 2 i:Int)]
 |_=>[(bR w 0 (i+1):Int),(bR w 1 (i+1):Int),(bR w 2 (i+1):Int)]
def ayU{w:aa Nat}(O:dG w)(hl:w.length=11){i:Nat}(hi:i<11):iter E1 aP ((bk w,(),(i:Int),(1:Int),(pw i:Int),(0:Int),()),(uB w i,()))=some (.inl ((bk w,(),(i:Int),()),(uB w (i+1),()))):=by
 have L:i<(bk w).length:=by rw[gR];omega
 have T:(bk w)[i]=((w.getD i 0:Nat):Int):=uq L;have U:=O.get i;have C:∀ j,bits .xor .i64 ((bR w j i:Nat):Int) ((gm (w.getD i 0) (pw (i*j)):Nat):Int)=((bR w j (i+1):Nat):Int):=λj=>by
  rw[rN (rO w j i) (gu _ _)];rfl
 have D:=λj=>K5 U (um (i*j))
 have E:∀ j,j<3 -> ug ((pw (i*j):Nat):Int) ((pw i:Nat):Int)=some ((pw (i*(j+1)):Nat):Int):=λj I=>by
  rw[K5 (um (i*j)) (um i),ayT hi I]
 generalize bk w=W at *
 generalize w.getD i 0=c at *
 have e:=cD (step:=E1) 3 (λj=>((W,(),(i:Int),(pw (i*j):Int),(pw i:Int),(j:Int),()),(YI w i j,()))) (.inl ((W,(),(i:Int),()),(uB w (i+1),()))) aP (λj I=>by
  have D:=D j;have E:=E j I;have C:=C j;generalize pw (i*j)=d at D E C ⊢;unfold E1 az xG xI xL;rcases(by omega:j=0 \/ j=1 \/ j=2)with rfl|rfl|rfl<;>simp[YI,L,T,D,E,C]<;>rfl) (by unfold E1 az xG xI xL;simp[YI,uB]) (bF)
 have Y:pw (i*0)=1:=by rw[Nat.mul_zero];rfl
 rw[cm,Y]at e;exact e
def ayV{w:aa Nat}(C:dG w)(hl:w.length=11):Pu (bk w)=some (uB w 11):=by
 have D:=(La C hl).ok;unfold Pu br;rw[K8 _ _ (by rw[gR];omega),D,ak];have e:=cD (step:=JF) 11 (λi=>((bk w,(),(i:Int),()),(uB w i,()))) (.inl (((),()),(uB w 11,()))) aP (λi hi=>by
  have E:i<w.length:=by omega
  unfold JF az xG br;simp (disch:=omega) [gR,E,Lu hi,ayU C hl hi,bz]) (by unfold JF az xG br;simp[ hl]) (bF)
 rw[cm]at e;have I:(List.replicate (3:Int).toNat (0:Int))=uB w 0:=rfl;simp_all
def nT(w:aa Nat):Bool:=Nat.beq (bR w 0 11) 0&&(Nat.beq (bR w 1 11) 0&&Nat.beq (bR w 2 11) 0)
def gk(w:aa Nat):aa Nat×Int×Int:=bif nT w then (w,0,-1)else match loc (bR w 0 11) (bR w 1 11) (bR w 2 11)with
 |some k=>(w.set k (w.getD k 0 ^^^ bR w 0 11),1,(k:Int))
 |none=>(w,2,-1)
def FO(n m:Nat):((n:Int)==(m:Int))=Nat.beq n m:=by
 cases h:Nat.beq n m with
 |true=>simp_all
 | false=>
  have:n≠m:=by rintro rfl;simp at h
  grind
def ayW{C s1 s2:Nat}(h:loc C s1 s2=none):∀ i,i<11 -> okB C s1 s2 i=false:=by
 intro i hi;have:=List.find?_eq_none.1 h i (fk.2 hi);simp_all
def Rw{D s1 s2 k:Nat}(h:loc D s1 s2=some k):k<11/\okB D s1 s2 k=true /\ ∀ i,i<k -> okB D s1 s2 i=false:=by
 refine⟨fk.1 (List.mem_of_find?_eq_some h),List.find?_some h,λi hi=>?_⟩
 have⟨L,l1,l2,E,O⟩:=List.find?_eq_some_iff_append.1 h;have T:l1.length=k/\l1=List.range k:=by
  have C:(List.range 11)[l1.length]?=some k:=by rw[E];simp
  have I:l1.length<11:=by have:=bq List.length E;simp at this;omega
  rw[List.getElem?_range I]at C;injection C with C;refine⟨C,?_⟩;have U:(List.range 11).take l1.length=l1:=by rw[E];simp
  grind
 simp_all
def ayX{w:aa Nat}(T:dG w)(hl:w.length=11):Pw (bk w)=some (bk (gk w).1,(gk w).2.1,(gk w).2.2):=by
 have hs:=(La T hl).ok;have ho:bD w.length=true:=cM;have Z:∀n:Nat,((n:Int)==(0:Int))=Nat.beq n 0:=λn=>FO n 0
 have Tj:=rO w 0 11;have zI:=rO w 1 11;unfold Pw E2 xA bP xZ xI;rw[K8 _ _ (by rw[gR];omega),hs,ak,ayV T hl];have e0:E2 (uB w 11)=some (nT w):=by
  unfold E2 nT xI;cases h1:Nat.beq (bR w 0 11) 0<;>cases h2:Nat.beq (bR w 1 11) 0<;>simp[uB,Z,h1,h2]
 have E:∀i (h:i<(bk w).length),(bk w)[i]=((w.getD i 0:Nat):Int):=λi h=>uq h
 have D:∀ k,(bk w).set k (bits .xor .i64 ((w.getD k 0:Nat):Int) ((bR w 0 11:Nat):Int))=bk (w.set k (w.getD k 0 ^^^ bR w 0 11)):=λk=>by
  rw[rN (T.get k) Tj,Q8]
 have hlen:(bk w).length=11:=by rw[gR,hl]
 unfold E2 xI at e0;unfold gk nT at *
 simp only[bB,au,ak];rw[e0,ak,cM (by simp[hlen])];cases hz:(Nat.beq (bR w 0 11) 0&&(Nat.beq (bR w 1 11) 0&&Nat.beq (bR w 2 11) 0))with
 |true=>simp
 | false=>
  simp only[au,aq,kY];unfold uB;generalize hW:bk w=W at E D hlen ⊢;generalize hg0:bR w 0 11=C at *
  generalize V4:bR w 1 11=s1 at *
  generalize yJ:bR w 2 11=s2 at *
  have step:∀ i:Nat,i<11->Cs (((),(),(i:Int),()),(W,[(C:Int),(s1:Int),(s2:Int)],()))=some (bif okB C s1 s2 i then .inr (.inl (((),1,(i:Int),()),(bk (w.set i (w.getD i 0 ^^^ C)),())))else .inl (((),(),((i+1:Nat):Int),()),(W,[(C:Int),(s1:Int),(s2:Int)],()))):=by
   intro i hi;have dU:i<W.length:=by omega
   have I:(i:Int)<11:=by omega
   have U:=K5 Tj (um i);have m2:=K5 zI (um i);have E:=E i dU;have D:=D i;generalize w.getD i 0=c at E D ⊢;generalize bk (w.set i (c ^^^ C))=R at D ⊢;unfold Cs okB az bf xG xL;have L:((C:Int) != (0:Int)) = !Nat.beq C 0:=by rw[bne,Z]
   cases O:Nat.beq C 0 with
   |true=>simp (disch:=omega) [I,Lu hi,L,O,bz]
   | false=>
    cases Y:Nat.beq (gm C (pw i)) s1 with
    |false=>simp (disch:=omega) [I,Lu hi,L,O,U,FO,Y,bz]
    | true=>
     cases q2:Nat.beq (gm s1 (pw i)) s2 with
     |false=>simp (disch:=omega) [I,Lu hi,L,O,U,m2,FO,Y,q2,bz]
     |true=>simp (disch:=omega) [I,Lu hi,L,O,U,m2,FO,Y,q2,dU,E,D]
  cases DK:loc C s1 s2 with
  | none=>
   have hn:=ayW DK;have e:=cD (step:=Cs) 11 (λi=>(((),(),(i:Int),()),(W,[(C:Int),(s1:Int),(s2:Int)],()))) (.inr (.inl (((),()),(W,())))) aP (λi hi=>by rw[step i hi,hn i hi];rfl) (by unfold Cs az bf xG xL;simp) (bF);rw[cm]at e;rw[e];simp only[Option.bind_some,Sum.elim_inr,dX];rw[hW]
  | some k=>
   obtain⟨hk,iT,hlo⟩:=Rw DK;have e:=cD (step:=Cs) k (λi=>(((),(),(i:Int),()),(W,[(C:Int),(s1:Int),(s2:Int)],()))) (.inl (((),1,(k:Int),()),(bk (w.set k (w.getD k 0 ^^^ C)),()))) aP (λi hi=>by rw[step i (by omega),hlo i hi];rfl) (by rw[step k hk,iT];rfl) (bF);rw[cm]at e;rw[e];rfl
def ajm{C s1 s2:Nat}(D:C<16)(E:s1<16)(I:s2<16)(h:C=0 \/ s1=0):loc C s1 s2=none:=by
 have t:=gy (gy (gy ajl D) E) I;have L:(Nat.beq C 0 ||Nat.beq s1 0)=true:=by rcases h with rfl|rfl<;>simp
 rw[L]at t;have t:=cC t;cases hl:loc C s1 s2 with
 |none=>rfl
 | some k=>
  rw[hl]at t;have:=(Rw hl).1;simp[FN]at t;omega
def ayY{C s1 s2:Nat}(E:C<16)(I:s1<16)(L:s2<16)(O:C≠0)(T:s1≠0):gm s1 (iv C)≠0/\loc C s1 s2=bif Nat.blt (lg (gm s1 (iv C))) 11&&Nat.beq (gm s1 (gm s1 (iv C))) s2 then some (lg (gm s1 (iv C)))else none:=by
 have t:=gy (gy (gy ajl E) I) L;have c0:Nat.beq C 0=false:=by cases h:Nat.beq C 0 with|false=>rfl|true=>exact absurd (cC h) O
 have U:Nat.beq s1 0=false:=by cases h:Nat.beq s1 0 with|false=>rfl|true=>exact absurd (cC h) T
 dsimp only at t;rw[c0,U,Bool.or_false,au,aO]at t;have⟨t1,D⟩:=t;have D:=cC D;refine⟨(by rintro e;rw[e]at t1;cases t1),?_⟩;cases hb:(Nat.blt (lg (gm s1 (iv C))) 11&&Nat.beq (gm s1 (gm s1 (iv C))) s2)with
 | true=>
  rw[hb,aq]at D;rw[aO]at hb;have Y:lg (gm s1 (iv C))<11:=cK hb.1;cases hl:loc C s1 s2 with
  |none=>rw[hl]at D;simp[FN]at D;omega
  |some k=>rw[hl]at D;simp[FN]at D;rw[D];rfl
 | false=>
  rw[hb,au]at D;cases hl:loc C s1 s2 with
  |none=>rfl
  | some k=>
   have:=(Rw hl).1;rw[hl]at D;simp[FN]at D;omega
def ayZ{a:Nat}(h:a<16)(C:a≠0):CJ (a:Int)=some (iv a:Int):=by
 have t:=gy axh h;simp_all
def ay0{a:Nat}(h:a<16)(C:a≠0):QJ (a:Int)=some (lg a:Int):=by
 have t:=gy ayQ h;simp_all
def ajn{w:aa Nat}(T:dG w)(hl:w.length=11):KT (bk w)=some (bk (gk w).1,(gk w).2.1,(gk w).2.2):=by
 have ho:bD (([]:aa Int).length+(bk w).length)=true:=cM (by simp[gR,hl]);have h0:∀n:Nat,((n:Int)==(0:Int))=Nat.beq n 0:=λn=>FO n 0
 have C:=rO w 0 11;have D:=rO w 1 11;have U:=rO w 2 11;have L:∀i (h:i<(bk w).length),(bk w)[i]=((w.getD i 0:Nat):Int):=λi h=>uq h
 have O:∀ k,(bk w).set k (bits .xor .i64 ((w.getD k 0:Nat):Int) ((bR w 0 11:Nat):Int))=bk (w.set k (w.getD k 0 ^^^ bR w 0 11)):=λk=>by
  rw[rN (T.get k) C,Q8]
 have hlen:(bk w).length=11:=by rw[gR,hl]
 unfold KT xA xC xL xZ;rw[X0 T hl,ak,axd T hl,ho];have ay1:jC [((bR w 0 11:Nat):Int),((bR w 1 11:Nat):Int),((bR w 2 11:Nat):Int)]=false:=rfl;rw[ay1,au,aq,ak];unfold gk nT;cases hz:(Nat.beq (bR w 0 11) 0&&(Nat.beq (bR w 1 11) 0&&Nat.beq (bR w 2 11) 0))with
 |true=>simp
 | false=>
  simp only[au,kY];generalize Y:bk w=W at L O hlen ⊢;generalize hg0:bR w 0 11=E at *
  generalize V4:bR w 1 11=s1 at *
  generalize yJ:bR w 2 11=s2 at *
  have cL:∀n:Nat,((n:Int) != (0:Int)) = !Nat.beq n 0:=λn=>by rw[bne,h0]
  by_cases I:E=0
  ·rw[ajm C D U (.inl I)];subst I;simp[Y]
  ·have c0:Nat.beq E 0=false:=by cases h:Nat.beq E 0 with | false=>rfl | true=>exact absurd (cC h) I
   by_cases Z:s1=0
   ·rw[ajm C D U (.inr Z)];simp_all
   ·have c1:Nat.beq s1 0=false:=by cases h:Nat.beq s1 0 with | false=>rfl | true=>exact absurd (cC h) Z
    have⟨nx,DK⟩:=ayY C D U I Z;have e1:=ayZ C I;have e2:=CK D (axg E);rw[DK];generalize hx:gm s1 (iv E)=x at *
    have ajo:x<16:=by rw[<- hx];exact gu _ _
    have e3:=ay0 ajo nx;have e4:=CK D ajo;generalize hn:lg x=n at *
    by_cases q1:n<11
    ·have d1:Nat.blt n 11=true:=iM q1;have d2:(n:Int)<11:=by omega
     have dU:n<W.length:=by omega
     have L:=L n dU;have O:=O n;cases q2:Nat.beq (gm s1 x) s2 with
     | true=>
      simp only[d1,bZ,aq];generalize w.getD n 0=c at L O ⊢;simp_all
     | false=>
      simp[ e1,e2,e3,e4,FO,q2,Y]
    ·have d1:Nat.blt n 11=false:=by
      cases h:Nat.blt n 11 with
      |false=>rfl
      |true=>exact absurd (cK h) (by omega)
     have d2:¬ (n:Int)<11:=by omega
     simp only[d1,Bool.false_and,au];simp[cL,c0,c1,e1,e2,e3,d2,Y]
def C0{w:aa Nat}(C:dG w)(hl:w.length=11):(gk w).1.length=11/\dG (gk w).1/\((gk w).2.1=0 \/ (gk w).2.1=1 \/ (gk w).2.1=2):=by
 have D:=rO w 0 11;unfold gk;cases nT w with
 |true=>simp_all
 | false=>
  cases loc _ _ _ with
  |none=>simp_all
  |some k=>exact⟨by simp[hl],C.set (mg (C.get k) D),.inr (.inl rfl)⟩
def ay2:(jh λa=>(List.range 11).all λk=>Nat.beq (gm (gm a (pw k)) (pw k)) (gm a (pw (k*2))))=true:=by kernel_rfl
def ay3{w:aa Nat}(L:dG w)(hl:w.length=11)(h:(gk w).2.1≠2):nT (gk w).1=true:=by
 unfold gk at h ⊢;cases O:nT w with
 |true=>grind
 | false=>
  rw[O,au]at h;simp only[au];cases T:loc (bR w 0 11) (bR w 1 11) (bR w 2 11)with
  |none=>grind
  | some k=>
   have⟨E,C,_⟩:=Rw T;have D:=rO w 0 11;simp only[okB,aO]at C;have I:=cC C.2.1;have U:=cC C.2.2;have u:=λj=>aii L hl D E j
   have Y:gm (bR w 0 11) (pw (k*0))=bR w 0 11:=by rw[Nat.mul_zero];exact axb D
   have Z:gm (bR w 0 11) (pw (k*2))=bR w 2 11:=by
    rw[<- cC (cu.1 (gy ay2 D) k (fk.2 E)),I,U]
   simp only[nT,aO];rw[u 0,u 1,u 2,Y,Nat.mul_one,I,Z,Nat.xor_self,Nat.xor_self,Nat.xor_self];exact⟨rfl,rfl,rfl⟩
def ay4{w:aa Nat}(C:dG w)(hl:w.length=11):QL (bk w)=some (bk (w.drop 3)):=by
 unfold QL xA xZ;have c0:((w.length:Int)==(11:Int))=true:=by rw[hl];rfl
 have D:(bk w).length=11:=by rw[gR,hl]
 rw[XZ C (by omega),ak,c0,show (!true)=false from rfl,au,D];have e:((bk w).take ((11:Nat):Int).toNat).drop (3:Int).toNat=bk (w.drop 3):=by
  rw[List.take_of_length_le (by omega)];simp_all
 have E:bD (([]:aa Int).length+(bk (w.drop 3)).length)=true:=by
  rw[gR,List.length_drop,hl];rfl
 simp_all
def FP(x:iE):Prop:=Ls x.bT/\Ls x.next
def ajp(x:bU):Prop:=(x.aA.length<=1048576)
def ay5(x:cZ):Prop:=(x.last.length<=1048576)/\(x.aU.length<=1048576)
def Rx(x:cq):Prop:=(x.symbols.length<=1048576)
def Ry(x:en):Prop:=(x.cells.length<=1048576/\∀y∈x.cells,Rx y)/\(x.bC.length<=1048576)/\(x.bw.length<=1048576)
def ay6(x:dI):Prop:=(x.map.length<=1048576)
def AG(x:dn):Prop:=(x.aJ.length<=1048576)
def kB(x:cx):Prop:=(x.rows.length<=1048576)/\(x.counts.length<=1048576)
def dK(x:av):Prop:=FP x.box/\ajp x.aY/\ay5 x.ready/\Ry x.array/\ay6 x.spare/\AG x.aS/\(x.bI.length<=1048576/\∀y∈x.bI,kB y)/\(x.guard.length<=1048576)/\(x.pending.length<=1048576)/\(x.queue.length<=1048576)/\(x.shares.length<=1048576)/\(x.errors.length<=1048576)/\(x.trace.length<=1048576)/\(x.cr.length<=1048576)
def mY(c:fm)(p:dY):Bool:=(sK c p).getD false
def Lv(c:fm)(p:dY)(hl:p.weights.length<1073741823):sK c p=some (mY c p):=by
 obtain⟨b,e,_⟩:=Yh c p hl;unfold mY;rw[e];rfl
def Rz(c:fm)(p:dY)(hl:p.weights.length<1073741823):xz c p=some (mY c p):=by
 have⟨b,e,C,_⟩:=axN c p hl;unfold mY;simp_all
def ba1(a x:Bool):(bif a then some x else some false)=some (a&&x):=by cases a<;>rfl
def ba2(a x:Bool):(bif !a then some false else some x)=some (a&&x):=by cases a<;>rfl
def ba3(a b:Int)(x:Bool):(bif a != b then some false else some x)=some (a==b&&x):=by
 rw[bne];cases a==b<;>rfl
theorem ba4(p:Prop)[Decidable p](x:Bool):(bif decide p then some false else some x)=some (!decide p&&x):=by cases decide p<;>rfl
def dH(c:av):Bool:=
 mY c.config c.box.bT&&(mY c.config c.box.next&&(aN c.now 0 1000000&&(jN c.config.ax c.aY&&(jO c.config.ax c.ready&&(oA c.config.ax c.array&&(kA c.config.ax c.spare&&(c.spare.bM==c.config.bM&&((ff c.aS&&qw c)&&(iX (ez (ef c.config.ax c.spare)) c.queue&&(ia c.shares&&((c.shares.length:Int)==4&&(mW c.drain&&(ku c.aT&&(c.aT.state==c.aY.aT&&(!decide (c.aT.since > c.now)&&(aN c.cU.every 1 100000&&(aN c.cU.wait 1 c.cU.every&&(aN c.cU.next 0 (W6 (ez c.config.ax-1))&&(kR c.errors&&(decide ((c.trace.length:Int)<=2000)&&decide ((c.cr.length:Int)<=400)))))))))))))))))))))
def RB(c:av)(C:dK c):zV c=some (dH c):=by
 have⟨⟨D,E⟩,U,⟨Y,Z⟩,⟨⟨z6,I⟩,z7,z8⟩,z9,L,⟨jx,ay7⟩,jR,jS,jy,mq,z16,Xm,z18⟩:=C;unfold Ls at D E;have O:∀ x∈c.array.cells,x.symbols.length<1073741824:=λx T=>by
  have:=I x T;unfold Rx at this;omega
 unfold AG at L;unfold zV dH;simp only[Lv _ _ (show c.box.bT.weights.length<1073741823 by omega),Lv _ _ (show c.box.next.weights.length<1073741823 by omega),dR,aiz,Yo,axu _ _ O,aiK,ax5 _ (show c.aS.aJ.length<1073741824 by omega),Yr,XU,axS _ _ (show c.queue.length<1073741824 by omega),Lh _ (show c.shares.length<1073741824 by omega),Ye,Yl,aiE _ (show c.errors.length<1073741824 by omega),ak,ba1,ba2,ba3,ba4]
def ay8(c:av)(C:dK c):Qu c=some (dH c):=by
 obtain⟨⟨D,E⟩,U,⟨Y,Z⟩,⟨⟨z6,I⟩,z7,z8⟩,z9,L,⟨jx,ay7⟩,jR,jS,jy,mq,z16,Xm,z18⟩:=C;unfold Ls at D E;have O:∀ x∈c.array.cells,x.symbols.length<1073741824:=λx T=>by
  have:=I x T;unfold Rx at this;omega
 unfold AG at L;unfold Qu dH;simp only[Rz _ _ (show c.box.bT.weights.length<1073741823 by omega),Rz _ _ (show c.box.next.weights.length<1073741823 by omega),dN,axO,aiF,ayM _ _ O,Yq,Li _ (show c.aS.aJ.length<1073741824 by omega),ax4,ax3,xR,Yk,Yb _ (show c.shares.length<1073741824 by omega),Rg,Rk,aiD,ak,ba1,ba2,ba3,ba4,Bool.and_assoc]
def ay9{g:aI}{a:en}(h:oA g a=true):cw g=true/\(a.bC.length:Int)=fP g/\(a.bw.length:Int)=fP g:=by
 simp[oA,aO,fY]at h;simp_all
def ajq(p:dY):Prop:=(0<=p.eU/\p.eU<=1)/\(0<=p.cap/\p.cap<=200)/\(0<=p.low/\p.low<=2)/\(p.low<p.high/\p.high<=6)/\(∃(i:Nat) (w:Int),i<4/\1<=w/\w<=4/\p.weights=[1,1,1,1].set i w)/\(5<=p.eB.down/\p.eB.down<=24)/\(60<=p.eB.sleep/\p.eB.sleep<=119)
def ya(p:dY):Prop:=ajq p/\8<=p.fl/\p.fl<=17
def aza{b:aa Int}{c:bN}(O:kr b c):Dr b (OD c) ajq:=by
 unfold OD xL;rw[O.eq];show Dr b (Option.bind (some _) _) _;rw[ak]
 refine(fq O 2).bind λx1 k1 T U=>?_
 dsimp only;rw[U.eta]
 refine(Q9 U _ (by decide)).bind λY k2 h2 Z=>?_
 dsimp only;rw[Z.eta]
 refine(fq Z 6).bind λx3 k3 h3 tU=>?_
 dsimp only;rw[tU.eta]
 refine(fq tU 3).bind λC k4 D vn=>?_
 dsimp only;rw[vn.eta]
 refine(fq vn 4).bind λE k5 h5 BM=>?_
 dsimp only;rw[BM.eta]
 refine(fq BM 4).bind λx6 k6 h6 Lw=>?_
 dsimp only;rw[Lw.eta]
 refine(fq Lw 4).bind λx7 k7 h7 Lx=>?_
 have a1:=T.2.2 (by omega);have a3:=h3.2.2 (by omega);have a4:=D.2.2 (by omega);have a5:=h5.2.2 (by omega);have a6:=h6.2.2 (by omega);have a7:=h7.2.2 (by omega);have b3:=h3.1;have b4:=D.1;have b5:=h5.1;have b6:=h6.1;have b7:=h7.1;have hl:x6.toNat<([1,1,1,1]:aa Int).length:=by simp only[nj,List.length_nil];omega
 dsimp only;rw[aB ⟨b6,hl⟩,aB hl,Lx.eta]
 refine(fq Lx 20).bind λI k8 h8 Ly=>?_
 dsimp only;rw[Ly.eta]
 refine(fq Ly 60).bind λL k9 h9 CV=>?_
 dsimp only;rw[CV.eta];have a8:=h8.2.2 (by omega);have a9:=h9.2.2 (by omega);have b8:=h8.1;have b9:=h9.1;rw[aV (n:=3+x3),aV (n:=C+1),aV (n:=C+1+E),aV (n:=1+x7),aV (n:=5+I),aV (n:=60+L)];simp only[gn,List.not_mem_nil,or_false]at h2;refine Dr.pure CV ⟨⟨T.1,by show x1<=_;omega⟩,⟨by show 0<=Y;omega,by show Y<=_;omega⟩,⟨D.1,by show C<=_;omega⟩,⟨by show C<C+1+E;omega,by show C+1+E<=_;omega⟩,⟨x6.toNat,1+x7,by omega,by omega,by omega,rfl⟩,⟨by show 5<=5+I;omega,by show 5+I<=_;omega⟩,⟨by show 60<=60+L;omega,by show 60+L<=_;omega⟩⟩
def ajr{b:aa Int}{c:bN}(C:kr b c):Dr b (IQ c) ya:=by
 unfold IQ;rw[C.eq]
 refine(aza C).bind λO T L D=>?_
 dsimp only;rw[D.eta]
 refine(fq D 10).bind λE U Y I=>?_
 dsimp only;rw[I.eta];rw[aV];exact Dr.pure I ⟨L,by show 8 <= 8+E;omega,by show 8+E <= _;omega⟩
def azb{b:aa Int}{c:bN}(C:kr b c):Dr b (Oz c) λg=>g.bK=1/\1<=g.aA/\g.aA<=2/\1<=g.aL/\g.aL<=2:=by
 unfold Oz;rw[C.eq]
 refine(fq C 2).bind λD Z E I=>?_
 dsimp only;rw[I.eta]
 refine(fq I 3).bind λx2 k2 L O=>?_
 dsimp only;rw[O.eta]
 refine(fq O 2).bind λT k3 U Y=>?_
 dsimp only;rw[Y.eta];have a1:=E.2.2 (by omega);have a2:=L.2.2 (by omega);have a3:=U.2.2 (by omega);have b1:=E.1;have b2:=L.1;have b3:=U.1;rw[aV,aV,aV];exact Dr.pure Y ⟨rfl,by show 1<=1+D;omega,by show 1+D<=_;omega,by show 1<=1+T;omega,by show 1+T<=_;omega⟩
def azc{b:aa Int}{c:bN}(C:kr b c):Dr b (OB c) λm=>0 <= m.order/\m.order <= 2:=by
 unfold OB;rw[C.eq]
 refine(fq C 3).bind λI O L D=>?_
 rw[D.eta]
 refine(Ra D 2).bind λT U Y E=>?_
 rw[E.eta];exact Dr.pure E ⟨L.1,by show I <= 2;omega⟩
def YJ(jl wr:Int):ck:=⟨3,3,7,2,3,10,2,3,jl,wr,4,5,4,12,3,4,16⟩
def RC(g:aI):Prop:=(1<=g.bK/\g.bK<=2)/\(1<=g.aA/\g.aA<=2)/\(4<=g.rows/\g.rows<=6)/\(1<=g.aL/\g.aL<=2)
def vS(x:fm):Prop:=RC x.ax/\(∃r w:Int,1<=r/\r<=4/\4<=w/\w<=8/\x.bX=YJ r w)/\(0<=x.mapping.order/\x.mapping.order<=2)/\(0<=x.bM/\x.bM<=2)/\(200<=x.interval/\x.interval<=259)/\x.iF=16/\x.eC=⟨6*x.interval,40⟩
def azd{b:aa Int}{c:bN}(L:kr b c):Dr b (OC c) vS:=by
 unfold OC;rw[L.eq]
 refine(azb L).bind λg kg hg O=>?_
 dsimp only;rw[O.eta];obtain⟨g1,g2,g3,g4,g5⟩:=hg;show Dr b (Option.bind (some _) _) _;rw[ak]
 refine(azc O).bind λm km T U=>?_
 dsimp only;rw[U.eta]
 refine(fq U 60).bind λC k1 Y Z=>?_
 dsimp only;rw[Z.eta]
 refine(fq Z 3).bind λD k2 h2 vm=>?_
 dsimp only;rw[vm.eta]
 refine(fq vm 2).bind λE k3 h3 tU=>?_
 dsimp only;rw[tU.eta]
 refine(fq tU 3).bind λx4 k4 h4 vn=>?_
 dsimp only;rw[vn.eta]
 refine(Ra vn 3).bind λx5 k5 h5 I=>?_
 dsimp only;rw[I.eta];have a1:=Y.2.2 (by omega);have a2:=h2.2.2 (by omega);have a3:=h3.2.2 (by omega);have a4:=h4.2.2 (by omega);have b1:=Y.1;have b2:=h2.1;have b3:=h3.1;have b4:=h4.1;have e1:W6 (200+C)=200+C:=aV;have e2:W6 (6*(200+C))=6*(200+C):=aV;have e3:W6 (4+D)=4+D:=aV;have e4:W6 (1+E)=1+E:=aV;rw[e1,e2,e3,e4];have hG:RC ⟨1+E,g.aA,4+D,g.aL⟩:=⟨⟨by show 1<=1+E;omega,by show 1+E<=2;omega⟩,⟨g2,g3⟩,⟨by show 4<=4+D;omega,by show 4+D<=6;omega⟩,⟨g4,g5⟩⟩
 cases x5 with
 | true=>
  rw[aq]
  refine(fq I 5).bind λx6 k6 h6 Lw=>?_
  dsimp only;rw[Lw.eta]
  refine(fq Lw 4).bind λx7 k7 h7 Lx=>?_
  dsimp only;rw[Lx.eta];have a6:=h6.2.2 (by omega);have a7:=h7.2.2 (by omega);have b6:=h6.1;have b7:=h7.1;rw[aV (n:=1+x7),aV (n:=4+x6)];exact Dr.pure Lx ⟨hG,⟨1+x7,4+x6,by omega,by omega,by omega,by omega,rfl⟩,T,⟨b4,by show x4<=2;omega⟩,⟨by show 200<=200+C;omega,by show 200+C<=259;omega⟩,rfl,rfl⟩
 |false=>exact Dr.pure I ⟨hG,⟨3,6,by omega,by omega,by omega,by omega,rfl⟩,T,⟨b4,by show x4<=2;omega⟩,⟨by show 200<=200+C;omega,by show 200+C<=259;omega⟩,rfl,rfl⟩
def iK(p:aZ->Bool)(q:aa aZ):Nat:=(q.findIdx? p).getD q.length
def ajs(p:aZ -> Bool)(q:aa aZ):iK p q <= q.length:=by
 unfold iK;cases h:q.findIdx? p with
 |none=>simp_all
 | some k=>
  have⟨C,_⟩:=nq.1 h
  grind
def yb(p:aZ->Bool)(q:aa aZ)(r:aZ):aa aZ:=(q.take (iK p q)++[r])++q.drop (iK p q)
def ajt(p:aZ->Bool)(q:aa aZ)(r:aZ):(yb p q r).length=q.length+1:=by
 have:=ajs p q;simp[yb];omega
def aze{p:aZ -> Bool}{q:aa aZ}{i:Nat}(h:i<iK p q)(hi:i<q.length):p q[i]=false:=by
 unfold iK at h;cases C:q.findIdx? p with
 |none =>simp_all
 | some k=>
  rw[C]at h;have⟨_,_,D⟩:=nq.1 C;simp_all
def azf{p:aZ -> Bool}{q:aa aZ}(h:iK p q<q.length):p q[iK p q]=true:=by
 unfold iK at h;cases C:q.findIdx? p with
 |none=>grind
 | some k=>
  have⟨D,E,_⟩:=nq.1 C;have e:iK p q=k:=by unfold iK;rw[C];rfl
  simp_all
def azg{n:Int}{l:aa aZ}(h:iX n l=true){i j:Nat}(E:i<j)(D:j<l.length):(l[i].id==l[j].id)=false:=by
 unfold iX at h;rw[aO,cu]at h;have C:=h.1 j (fk.2 D);unfold rR at C;rw[bQ D]at C;simp at C;have:=C.2.2 l[i] (jb.2 ⟨i,by simp;omega,by simp⟩);simp_all
def C1(n:Int)(q:aa aZ)(r:aZ):aa aZ×Bool:=bif iX n q&&iX n (yb (λx=>ga r x) q r)then (yb (λx=>ga r x) q r,true)else (q,false)
def aju(r:aZ):(⟨r.id,r.dL,r.line,r.write,r.data,r.at_⟩:aZ)=r:=rfl
def mZ(r:aZ)(q:aa aZ)(i:Nat):aa aZ:=if iK (λx=>ga r x) q<i then (q.take (iK (λx=>ga r x) q)++[r])++(q.take i).drop (iK (λx=>ga r x) q)else q.take i
def ajv(r:aZ)(q:aa aZ)(i:Nat)(h:i <= q.length):(mZ r q i).length <= i+1:=by
 unfold mZ
 grind
def azh{r:aZ}{q:aa aZ}{k:Nat}(C:k<q.length)(h:k=iK (λx=>ga r x) q):mZ r q (k+1)=(q.take k++[r])++[q[k]]:=by
 unfold mZ;rw[bH,<- h,mU,List.drop_left' (by simp;omega)]
def azi{r:aZ}{q:aa aZ}{k:Nat}(C:k<q.length)(h:iK (λx=>ga r x) q<k):mZ r q (k+1)=mZ r q k++[q[k]]:=by
 unfold mZ;rw[bH,bH h,mU C,List.drop_append_of_le_length (by simp;omega)];simp_all
def azj{r:aZ}{q:aa aZ}{k:Nat}(C:k<q.length)(h:k<iK (λx=>ga r x) q):mZ r q (k+1)=mZ r q k++[q[k]]:=by
 unfold mZ;rw[bJ,bJ,mU C]
def azk(n:Int)(q:aa aZ)(r:aZ)(hl:q.length<1000000000):O0 n q r=some (C1 n q r):=by
 have U:=ajs (λx=>ga r x) q;unfold O0 xA br xZ;have e:=cD (step:=I7) q.length (λi=>((n,q,(),(),decide (iK (λx=>ga r x) q<i),(i:Int),()),((r.id,r.dL,r.line,r.write,r.data,r.at_,()),mZ r q i,()))) (.inl ((n,q,(),(),decide (iK (λx=>ga r x) q<q.length),()),((r.id,r.dL,r.line,r.write,r.data,r.at_,()),mZ r q q.length,()))) aP (λk h=>by
  have I:=ajv r q k (by omega);unfold I7 az xG xI;dsimp only;rw[aQ (show (k:Int)<(q.length:Int) by omega),aq];by_cases c:iK (λx=>ga r x) q<k
  ·rw[aQ c,bB,au,aB ⟨by omega,by omega⟩];simp only[bu];rw[cM (by simp;omega),aq,bz,azi h c,aQ (show iK _ q<k+1 by omega)]
  ·rw[aX c,gM,aq,aB ⟨by omega,by omega⟩];simp only[bu];rw[aju,aiB,ak];by_cases L:k=iK (λx=>ga r x) q
   ·have C:ga r q[k]=true:=by
     have:=azf (p:=λx=>ga r x) (q:=q) (by omega);simp_all
    have D:mZ r q k=q.take k:=by unfold mZ;rw[bJ c]
    rw[C,aq,cM (by simp;omega),aq,aB ⟨by omega,by omega⟩,cM (by simp;omega),aq,bz,aQ (show iK _ q<k+1 by omega),azh h L,D]
   ·have C:=aze (p:=λx=>ga r x) (by omega) h;rw[C,au,aB ⟨by omega,by omega⟩,cM (by simp;omega),aq,bz,aX (show ¬ iK _ q<k+1 by omega),azj h (by omega)]) (by
  unfold I7 az xG xI;dsimp only;rw[aX,au]) (bF)
 have D:mZ r q 0=[]:=by
  unfold mZ;simp[*]
 rw[cm,D,aX (show ¬ iK (λx=>ga r x) q<0 by omega)]at e;rw[e,ak];simp only[dX];have Y:=ajt (λx=>ga r x) q r;have E:∀l:aa aZ,l.length<1073741824 -> bD (([]:aa aZ).length+l.length)=true:=λl h=>cM (by simpa using h)
 have key:∀ o:aa aZ,o=yb (λx=>ga r x) q r -> ((vu n q).bind λO=>bif (!O)then bif bD (([]:aa aZ).length+q.length)then some ((([]:aa aZ)++q),false)else none else (vu n o).bind λT=>bif (!T)then bif bD (([]:aa aZ).length+q.length)then some ((([]:aa aZ)++q),false)else none else some (o,true))=some (C1 n q r):=by
  rintro o rfl;rw[Yk,ak];unfold C1;cases Z:iX n q with
  |false=>rw[gM,aq,E q (by omega)];rfl
  | true=>
   rw[bB,au,Yk,ak,bZ];cases C:iX n (yb (λx=>ga r x) q r)with
   |false=>rw[gM,aq,E q (by omega)];rfl
   |true=>rfl
 have I:=ajv r q q.length (dx _);by_cases c:iK (λx=>ga r x) q<q.length
 ·rw[aQ c,bB];refine key _ ?_;unfold mZ yb;simp[*]
 ·rw[aX c,gM,aq,cM (by simp only[jk];omega),aq,aju];refine key _ ?_;unfold mZ yb;have:iK (λx=>ga r x) q=q.length:=by omega
  rw[bJ c,this,ir,List.drop_length,List.append_nil]
abbrev azl:=((af×af×af×Int×af)×(av×(Int×Int×Int×Int×Int×Int×Int×Int×Int×Int×Int×Int×Int×Int×Int×Int×Int×Int×Int×Int×Int×Int×Bool×Int×Int×Int×Int×Int×Int×Int×Int×Int×Int×af×Int×Int×Int×Int×Int×Int×Int×af×Int×Int×Bool×Int×af×Int×af×af×af×af×af×Int×af×af×Int×Bool×(aa cx)×(aa Int)×(aa aM)×(aa aZ)×(aa cE)×Bool×Int×Int×Int×Int×Int×Int×Int×Int×(aa cA)×(aa bW)×(aa fK)×af)×(aa cx)×(aa Int)×(aa Int)×(aa di)×(aa Int)×(aa Int)×(aa cq)×(aa Int)×(aa Int)×(aa Int)×(aa Int)×af))
abbrev azm:=((af×af×af×(aa cx)×Int×Int×af)×(av×av×(Int×Int×Int×Int×Int×Int×Int×Int×Int×Int×Int×Int×Int×Int×Int×Int×Int×Int×Int×Int×Int×Int×Bool×Int×Int×Int×Int×Int×Int×Int×Int×Int×Int×af×Int×Int×Int×Int×Int×Int×Int×af×Int×Int×Bool×Int×af×Int×af×af×af×af×af×Int×af×af×Int×Bool×af×(aa Int)×(aa aM)×(aa aZ)×(aa cE)×Bool×Int×Int×Int×Int×Int×Int×Int×Int×(aa cA)×(aa bW)×(aa fK)×af)×(aa Int)×(aa Int)×(aa di)×(aa Int)×(aa Int)×(aa cq)×(aa Int)×(aa Int)×(aa Int)×(aa Int)×(aa cx)×af))
def ig{α:Type}(l:aa α)(h:l.length<=1048577:=by omega):bD (([]:aa α).length+l.length)=true:=cM (by simp;omega)
def YK(t:cx)(h:kB t):Fy t=some t:=by
 unfold Fy xA xZ;have C:=h.1;have D:=h.2;rw[ig _,ig _];rfl
def ajw(t:cx)(h:kB t):JU t=some t:=YK t h
def azn(s:azl)(T:aa cx)(C:s.1.2.2.2.1=0)(D:s.2.2.2.1=[])(E:s.2.2.1.2.2.2.2.2.2.2.2.2.2.2.2.2.2.2.2.2.2.2.2.2.2.2.2.2.2.2.2.2.2.2.2.2.2.2.2.2.2.2.2.2.2.2.2.2.2.2.2.2.2.2.2.2.2.2.2.2.2.1=T)(I:T.length<=1048576/\∀ y∈T,kB y):iter Fh aP s=some (.inl (((),(),(),()),(s.2.1,s.2.2.1,T,s.2.2.2.2))):=by
 subst E;have e:=cD (step:=Fh) (s.2.2.1.2.2.2.2.2.2.2.2.2.2.2.2.2.2.2.2.2.2.2.2.2.2.2.2.2.2.2.2.2.2.2.2.2.2.2.2.2.2.2.2.2.2.2.2.2.2.2.2.2.2.2.2.2.2.2.2.2.2.1).length (λi=>(((),(),(),(i:Int),()),(s.2.1,s.2.2.1,(s.2.2.1.2.2.2.2.2.2.2.2.2.2.2.2.2.2.2.2.2.2.2.2.2.2.2.2.2.2.2.2.2.2.2.2.2.2.2.2.2.2.2.2.2.2.2.2.2.2.2.2.2.2.2.2.2.2.2.2.2.2.1).take i,s.2.2.2.2))) (.inl (((),(),(),()),(s.2.1,s.2.2.1,s.2.2.1.2.2.2.2.2.2.2.2.2.2.2.2.2.2.2.2.2.2.2.2.2.2.2.2.2.2.2.2.2.2.2.2.2.2.2.2.2.2.2.2.2.2.2.2.2.2.2.2.2.2.2.2.2.2.2.2.2.2.1,s.2.2.2.2))) aP (λk h=>by
  unfold Fh az xG xI;dsimp only;rw[aQ,aq,aB ⟨by omega,by omega⟩];simp only[bu];rw[ajw _ (I.2 _ (cR _)),ak,cM (by simp;omega),aq,bz,mU h]) (by
  unfold Fh az xG xI;dsimp only;rw[aX,au,ir]) (bF)
 have L:s=(((),(),(),((0:Nat):Int),()),(s.2.1,s.2.2.1,(s.2.2.1.2.2.2.2.2.2.2.2.2.2.2.2.2.2.2.2.2.2.2.2.2.2.2.2.2.2.2.2.2.2.2.2.2.2.2.2.2.2.2.2.2.2.2.2.2.2.2.2.2.2.2.2.2.2.2.2.2.2.1).take 0,s.2.2.2.2)):=by
  rw[List.take_zero,<-D,cm,<-C]
 rw[<-e,<-L]
def azo(s:azm)(D:s.1.2.2.2.2.2.1=0)(E:s.1.2.2.2.2.1=(s.1.2.2.2.1.length:Int))(I:s.2.2.2.2.2.2.2.2.2.2.2.2.2.2.1=[])(C:s.1.2.2.2.1.length <= 1048576 /\ ∀ y∈s.1.2.2.2.1,kB y):iter Fz aP s=some (.inl (((),(),(),()),(s.2.1,s.2.2.1,s.2.2.2.1,s.2.2.2.2.1,s.2.2.2.2.2.1,s.2.2.2.2.2.2.1,s.2.2.2.2.2.2.2.1,s.2.2.2.2.2.2.2.2.1,s.2.2.2.2.2.2.2.2.2.1,s.2.2.2.2.2.2.2.2.2.2.1,s.2.2.2.2.2.2.2.2.2.2.2.1,s.2.2.2.2.2.2.2.2.2.2.2.2.1,s.2.2.2.2.2.2.2.2.2.2.2.2.2.1,s.1.2.2.2.1,s.2.2.2.2.2.2.2.2.2.2.2.2.2.2.2))):=by
 have e:=cD (step:=Fz) s.1.2.2.2.1.length (λi=>(((),(),(),s.1.2.2.2.1,s.1.2.2.2.1.length,i,()),(s.2.1,s.2.2.1,s.2.2.2.1,s.2.2.2.2.1,s.2.2.2.2.2.1,s.2.2.2.2.2.2.1,s.2.2.2.2.2.2.2.1,s.2.2.2.2.2.2.2.2.1,s.2.2.2.2.2.2.2.2.2.1,s.2.2.2.2.2.2.2.2.2.2.1,s.2.2.2.2.2.2.2.2.2.2.2.1,s.2.2.2.2.2.2.2.2.2.2.2.2.1,s.2.2.2.2.2.2.2.2.2.2.2.2.2.1,s.1.2.2.2.1.take i,s.2.2.2.2.2.2.2.2.2.2.2.2.2.2.2))) _ aP (λk h=>by
  unfold Fz az xG xI;dsimp only;rw[aQ,aq,aB ⟨by omega,by omega⟩];simp only[bu];rw[YK _ (C.2 _ (cR _)),ak,cM (by simp;omega),aq,bz,mU h]) (by
  unfold Fz az xG xI;dsimp only;rw[aX,au,ir]) (bF)
 grind
def ajx(l:aa Int)(h:l.length <= 1048577):Qy l=some l:=by
 cases l with
 |nil=>rfl
 | cons a l=>
  show (bif bD _ then some _ else none)=_;rw[ig _ h];rfl
def azp(l:aa aM)(h:l.length <= 1048577):XC l=some l:=by
 cases l with
 |nil=>rfl
 | cons a l=>
  show (bif bD _ then some _ else none)=_;rw[ig _ h];rfl
def azq(l:aa aZ)(h:l.length <= 1048577):XD l=some l:=by
 cases l with
 |nil=>rfl
 | cons a l=>
  show (bif bD _ then some _ else none)=_;rw[ig _ h];rfl
def azr(l:aa cE)(h:l.length <= 1048577):XE l=some l:=by
 cases l with
 |nil=>rfl
 | cons a l=>
  show (bif bD _ then some _ else none)=_;rw[ig _ h];rfl
def azs(l:aa cA)(h:l.length <= 1048577):XF l=some l:=by
 cases l with
 |nil=>rfl
 | cons a l=>
  show (bif bD _ then some _ else none)=_;rw[ig _ h];rfl
def azt(l:aa bW)(h:l.length <= 1048577):XG l=some l:=by
 cases l with
 |nil=>rfl
 | cons a l=>
  show (bif bD _ then some _ else none)=_;rw[ig _ h];rfl
def azu(l:aa fK)(h:l.length <= 1048577):XH l=some l:=by
 cases l with
 |nil=>rfl
 | cons a l=>
  show (bif bD _ then some _ else none)=_;rw[ig _ h];rfl
def ajy(b:iE)(h:FP b):KD b=some b:=by
 have C:b.bT.weights.length <= 1048576:=h.1;have D:b.next.weights.length <= 1048576:=h.2
 unfold KD KB xA xZ;rw[ig _,aq,ig _];rfl
def YL(b:iE)(h:FP b):JC b=some b:=ajy b h
def azv(c:av)(D:dK c):P6 c=some c:=by
 obtain⟨E,I,L,C,O,T,U,Z,z9,gQ,jx,jR,jS,jy⟩:=D;have y2:c.aY.aA.length<=1048576:=I;obtain⟨y3,y3'⟩:=L;have y5:c.spare.map.length<=1048576:=O;have y6:c.aS.aJ.length<=1048576:=T;unfold P6 xA br xZ;rw[YL _ E,ak];unfold Xo uh Ke Cw xA xZ;rw[ig _,aq,ak,ig _,aq,ig _,aq,ak,axt _ (by have:=C.1.1;omega) (by have:=C.2.1;omega) (by have:=C.2.2;omega) (λx Y=>by have:x.symbols.length<=1048576:=C.1.2 x Y;omega),ak,ig _,aq,ak,ig _,aq,ak]
 refine(bq (λo=>Option.bind o _) (azn _ c.bI rfl rfl rfl U)).trans ?_
 rw[ak];simp only[dX];rw[ig c.guard,aq,ig c.pending,aq,ig c.queue,aq,ig c.shares,aq,ig c.errors,aq,ig c.trace,aq,ig c.cr,aq];rfl
def azw(c:av)(D:dK c):KG c=some c:=by
 obtain⟨E,I,L,C,O,T,U,Z,z9,gQ,jx,jR,jS,jy⟩:=D;have y2:c.aY.aA.length<=1048576:=I;obtain⟨y3,y3'⟩:=L;have y5:c.spare.map.length<=1048576:=O;have y6:c.aS.aJ.length<=1048576:=T;unfold KG br;rw[ajy _ E,ak];unfold Ez ED Fx xA xZ;rw[ig _,aq,ak,ig _,aq,ig _,aq,ak,axr _ (by have:=C.1.1;omega) (by have:=C.2.1;omega) (by have:=C.2.2;omega) (λx Y=>by have:x.symbols.length<=1048576:=C.1.2 x Y;omega),ak,ajx _ (by omega),ak,ig _,aq,ak]
 refine(bq (λo=>Option.bind o _) (azo _ rfl rfl rfl U)).trans ?_
 rw[ak];simp only[dX];rw[ajx c.guard (by omega),ak,azp c.pending (by omega),ak,azq c.queue (by omega),ak,azr c.shares (by omega),ak,azs c.errors (by omega),ak,azt c.trace (by omega),ak,azu c.cr (by omega),ak];rfl
def c9{α:Type}(p:α->Bool)(q:aa α):Nat:=(q.findIdx? p).getD q.length
def uC{α:Type}(p:α -> Bool)(q:aa α):c9 p q <= q.length:=by
 unfold c9;cases h:q.findIdx? p with
 |none=>simp_all
 | some k=>
  have⟨C,_⟩:=nq.1 h
  grind
def m0{α:Type}{p:α -> Bool}{q:aa α}{i:Nat}(h:i<c9 p q)(hi:i<q.length):p q[i]=false:=by
 unfold c9 at h;cases C:q.findIdx? p with
 |none =>simp_all
 | some k=>
  rw[C]at h;have⟨_,_,D⟩:=nq.1 C;simp_all
def qx{α:Type}{p:α -> Bool}{q:aa α}(h:c9 p q<q.length):p q[c9 p q]=true:=by
 unfold c9 at h;cases C:q.findIdx? p with
 |none=>grind
 | some k=>
  have⟨D,E,_⟩:=nq.1 C;have e:c9 p q=k:=by unfold c9;rw[C];rfl
  simp_all
def Lz{α:Type}(p:α -> Bool)(q:aa α):q.any p=decide (c9 p q<q.length):=by
 by_cases c:c9 p q<q.length
 ·rw[aQ c,List.any_eq_true];exact⟨_,cR c,qx c⟩
 ·rw[aX c,List.any_eq_false];intro x C;obtain⟨i,hi,rfl⟩:=jb.1 C;rw[m0 (p:=p) (by omega) hi];simp
def YM(c:av)(r:aZ):aZ:=⟨r.id,r.dL,r.line,r.write,r.data,c.now⟩
def mw(c:av)(r:aZ):aa aZ×Bool:=C1 (ez (ef c.config.ax c.spare)) c.queue (YM c r)
def sU(c:av)(r:aZ):av×Bool:=bif (!dH c) ||((!(mw c r).2) ||(c.cr.any λx=>x.id==r.id))then (c,false)else ({ c with queue:=(mw c r).1 },true)
def azx(c:av)(h:dH c=true):ez ⟨c.config.ax.bK,c.config.ax.aA,W6 (c.config.ax.rows-c.config.bM),c.config.ax.aL⟩=ez (ef c.config.ax c.spare):=by
 simp only[dH,aO,fI]at h;obtain⟨_,_,_,_,_,_,C,D,_⟩:=h;unfold ef;rw[C,aq,D]
def azy(c:av)(r:aZ)(h:c.queue.length <= 1048576):(mw c r).1.length <= 1048576:=by
 unfold mw C1;cases C:(iX _ _&&iX _ _)with
 |false=>exact h
 | true=>
  rw[aq];rw[aO]at C;have:=C.2;unfold iX at this
  grind
def azz(c:av)(r:aZ)(C:dK c):dK (sU c r).1:=by
 unfold sU;cases hb:((!dH c) ||((!(mw c r).2) ||(c.cr.any λx=>x.id==r.id)))with
 |true=>exact C
 | false=>
  have⟨D,E,I,L,O,T,U,Y,Z,gQ,jx,jR,jS,jy⟩:=C;exact⟨D,E,I,L,O,T,U,Y,Z,azy c r gQ,jx,jR,jS,jy⟩
def LA(c:av)(r:aZ):Bool×av:=bif (c.cr.any λx=>x.id==r.id)then (false,c)else bif (mw c r).2 then (true,{ c with queue:=(mw c r).1 })else (false,c)
def azA(c:av)(r:aZ)(C:dK c)(D:dH c=true):O1 c r=some ((LA c r).1,((LA c r).2,())):=by
 obtain⟨I,L,O,T,U,Y,Z,z8,z9,gQ,jx,jR,jS,jy⟩:=C;have hk:=uC (λx:fK=>x.id==r.id) c.cr;unfold O1 LA bP;rw[Lz];have e:=cD (step:=I8) (c9 (λx:fK=>x.id==r.id) c.cr) (λi=>(((),(),(),(i:Int),()),(c,(r.id,r.dL,r.line,r.write,r.data,r.at_,()),(c.config.ax.bK,c.config.ax.aA,(W6 (c.config.ax.rows-c.config.bM)),c.config.ax.aL,()),()))) (if c9 (λx:fK=>x.id==r.id) c.cr<c.cr.length then .inl ((false,()),(c,()))else .inr (.inl (((),(),(),()),(c,(r.id,r.dL,r.line,r.write,r.data,r.at_,()),(c.config.ax.bK,c.config.ax.aA,(W6 (c.config.ax.rows-c.config.bM)),c.config.ax.aL,()),())))) aP (λk h=>by
  have E:=m0 h (by omega);unfold I8 az bf xG xL;dsimp only;rw[aQ,aq,aB ⟨by omega,by omega⟩,aB];simp only[bu];rw[E,au,bz]) (by
  unfold I8 az bf xG xL;dsimp only;by_cases k:c9 (λx:fK=>x.id==r.id) c.cr<c.cr.length
  ·rw[aQ,aq,aB ⟨by omega,by omega⟩,aB,bH k];simp only[bu];rw[qx k,aq]
  ·rw[aX,au,bJ k]) (bF)
 rw[cm]at e;rw[e,ak];by_cases k:c9 (λx:fK=>x.id==r.id) c.cr<c.cr.length
 ·rw[bH k,aQ k,dX];rfl
 ·rw[bJ k,aX k,Sum.elim_inr,dX,xR,ak];dsimp only;rw[azx c D,azk _ _ _ (by omega),ak];show (bif (mw c r).2 then some ((mw c r).2,({ c with queue:=(mw c r).1 },()))else some ((mw c r).2,(c,())))=_;cases (mw c r).2<;>rfl
def nb(l:aa UInt8):aa Int:=l.map λb=>(b.toNat:Int)
def cP(c:av)(a:en):av:=⟨c.config,c.box,c.now,c.aY,c.ready,a,c.spare,c.aS,c.bI,c.guard,c.pending,c.queue,c.shares,c.drain,c.aT,c.cU,c.errors,c.trace,c.cr⟩
def vT:cq:=⟨[],false⟩
def C2(d:cq):cq:=⟨(d.symbols.set 0 (bits .xor .i64 (d.symbols.getD 0 0) 5)).set 1 (bits .xor .i64 (d.symbols.getD 1 0) 10),d.jm⟩
def kC(base:Nat):Nat->aa cq->aa cq
 |0,cs=>cs
 |n+1,cs=>(kC base n cs).set (base+n) (C2 ((kC base n cs).getD (base+n) vT))
def LB(base:Nat):∀ (n:Nat) (cs:aa cq),(kC base n cs).length=cs.length
 |0,_=>rfl
 | n+1,cs=>by
  show ((kC base n cs).set _ _).length=_;rw[ji,LB]
def azB{d:cq}(h:Sy d.symbols):Sy (C2 d).symbols:=by
 have C:0<d.symbols.length:=by rw[h.1];omega
 have l1:1<d.symbols.length:=by rw[h.1];omega
 have I:d.symbols.getD 0 0=d.symbols[0]:=by rw[ei,bQ C];rfl
 have L:d.symbols.getD 1 0=d.symbols[1]:=by rw[ei,bQ l1];rfl
 have D:=X5 (h.get (k:=0) C) (b:=5) ⟨by omega,by omega⟩;have E:=X5 (h.get l1) (b:=10) ⟨by omega,by omega⟩;unfold C2;rw[I,L];exact(h.set ⟨D.1,D.2.1⟩).set ⟨E.1,E.2.1⟩
def RD{base:Nat}:∀ (n:Nat) {cs:aa cq},base+n <= cs.length -> (∀ c∈cs,Sy c.symbols) -> ∀ c∈kC base n cs,Sy c.symbols
 |0,cs,_,h=>h
 | n+1,cs,hl,h=>by
  have C:=RD (base:=base) n (by omega) h;have hlen:=LB base n cs;refine Sy.bV C (azB ?_)
  grind
def uD(g:aI)(l:nu)(a:en)(b r:Int):en:=
 ⟨bif xS l a (b*g.rows+r).toNat then kC ((b*g.rows+r)*g.aL).toNat g.aL.toNat a.cells else a.cells,a.bC.set (b*g.rows+r).toNat 0,vM g.rows r (b*g.rows+r).toNat a.bw⟩
def LC{g:aI}(C:cw g=true){b r k:Int}(E:0 <= b)(I:b<aR g)(L:0 <= r)(O:r<g.rows)(T:0 <= k)(U:k<g.aL):0 <= (b*g.rows+r)*g.aL/\(b*g.rows+r)*g.aL+k<ez g/\0 <= b*g.rows+r/\b*g.rows+r<fP g:=by
 have er:aR g*g.rows=fP g:=by simp[fP,C]
 have⟨Z,Y,D⟩:=vG E I L O;rw[er]at D;have⟨q0,q1,q2⟩:=vG Y D T U;have el:fP g*g.aL=ez g:=by simp[fP,ez,C]
 simp_all
def azC{g:aI}(C:cw g=true)(c:av){b r:Int}(hc:(c.array.cells.length:Int)=ez g)(U:∀ x∈c.array.cells,Sy x.symbols)(E:0<=b)(I:b<aR g)(L:0<=r)(O:r<g.rows):
  iter CH aP (((),b,r,(),(0:Int),()),(c,(g.bK,g.aA,g.rows,g.aL,()),()))=some (.inl (((),b,r,(),()),(cP c ⟨kC ((b*g.rows+r)*g.aL).toNat g.aL.toNat c.array.cells,c.array.bC,c.array.bw⟩,(g.bK,g.aA,g.rows,g.aL,()),()))):=by
 obtain⟨_,_,_,_,g5,g6,g7,g8⟩:=fe C;have b1:=mT g;obtain⟨n,Y⟩:=fz (show 0<=g.aL by omega);obtain⟨B,hB⟩:∃B,B=((b*g.rows+r)*g.aL).toNat:=⟨_,rfl⟩
 have Z:g.aL.toNat=n:=by omega
 rw[<-hB,Z];have lW:B+n<=c.array.cells.length:=by
  have:=LC C E I L O (show 0<=g.aL-1 by omega) (by omega);omega
 have e:=cD (step:=CH) n (λk=>(((),b,r,(),(k:Int),()),(cP c ⟨kC B k c.array.cells,c.array.bC,c.array.bw⟩,(g.bK,g.aA,g.rows,g.aL,()),()))) (.inl (((),b,r,(),()),(cP c ⟨kC B n c.array.cells,c.array.bC,c.array.bw⟩,(g.bK,g.aA,g.rows,g.aL,()),()))) aP (λk hk=>by
  have LD:dz g ⟨b,r,(k:Int)⟩=true:=vF C E I L O (by dsimp only;omega) (by dsimp only;omega);have hix:qp g ⟨b,r,(k:Int)⟩=((B+k:Nat):Int):=by
   have:=LC C E I L O (show 0<=(k:Int) by omega) (by omega);unfold qp;rw[LD,aq];dsimp only;omega
  have hlen:=LB B k c.array.cells;have T:=RD k (by omega:B+k<=c.array.cells.length) U;show CH (((),b,r,(),(k:Int),()),(cP c ⟨kC B k c.array.cells,c.array.bC,c.array.bw⟩,(g.bK,g.aA,g.rows,g.aL,()),()))=some (.inl (((),b,r,(),((k+1:Nat):Int),()),(cP c ⟨(kC B k c.array.cells).set (B+k) (C2 ((kC B k c.array.cells).getD (B+k) vT)),c.array.bC,c.array.bw⟩,(g.bK,g.aA,g.rows,g.aL,()),())));generalize kC B k c.array.cells=cs at hlen T;have D:B+k<cs.length:=by omega
  have s1:=Sy.mem T D;have l1:(0:Nat)<cs[B+k].symbols.length:=by rw[s1.1];omega
  have l2:(1:Nat)<cs[B+k].symbols.length:=by rw[s1.1];omega
  have c2:decide ((k:Int)<g.aL)=true:=aQ;have BJ:cs.getD (B+k) vT=cs[B+k]:=by rw[ei,bQ D];rfl
  have f0:cs[B+k].symbols.getD 0 0=cs[B+k].symbols[0]:=by rw[ei,bQ l1];rfl
  have f1:cs[B+k].symbols.getD 1 0=cs[B+k].symbols[1]:=by rw[ei,bQ l2];rfl
  rw[BJ];unfold C2;rw[f0,f1];unfold CH cP xC az xG xL xM;dsimp only;rw[c2,aq,mV g,XX,ak,hix];generalize B+k=j at D s1 l1 l2;simp (disch:=omega) [D,bz,l1,l2]) (by unfold CH xC az xG xL xM;simp[Y]) (bF)
 exact e
def azD(c:av){R k:Int}{nb:aa Int}(hl:nb.length<1000)(E:∀ n∈nb,0<=n/\n<R)(T:0<=k)(U:k+R<=(c.array.bw.length:Int))(Y:c.array.bw.length<1000000)(hb:∀ x∈c.array.bw,0<=x/\x<=100000):
  iter At aP (((),k,(),(nb.length:Int),(0:Int),()),(c,nb,()))=some (.inl ((),(cP c ⟨c.array.cells,c.array.bC,nb.foldl (λh n=>pI (k+n).toNat h) c.array.bw⟩,()))):=by
 have e:=cD (step:=At) nb.length (λi=>(((),k,(),(nb.length:Int),(i:Int),()),(cP c ⟨c.array.cells,c.array.bC,(nb.take i).foldl (λh n=>pI (k+n).toNat h) c.array.bw⟩,nb,()))) (.inl ((),(cP c ⟨c.array.cells,c.array.bC,nb.foldl (λh n=>pI (k+n).toNat h) c.array.bw⟩,()))) aP (λj h=>by
  have Z:=E _ (cR h);have I:=aji k (nb.take j) c.array.bw;have hB:=ajj k (nb.take j) c.array.bw hb;rw[List.take_succ_eq_append_getElem h,List.foldl_append];simp only[List.foldl_cons,List.foldl_nil];generalize (nb.take j).foldl (λh n=>pI (k+n).toNat h) c.array.bw=G at I hB;obtain⟨q,D⟩:=fz (show 0<=k+nb[j] by omega);have C:q<G.length:=by omega
  have hg:=hB _ (cR C);have L:W6 (k+nb[j])=(q:Int):=by rw[D];exact aV
  have O:W6 (G[q]+1)=G[q]+1:=aV;rw[D,bu,X7 C];unfold At cP az xG xL;simp (disch:=omega) [h,L,C,O,bz,rQ]) (by unfold At az xG xL;simp) (bF)
 rw[cm,List.take_zero,List.foldl_nil]at e;exact e
def YN{g:aI}(D:cw g=true)(l:nu){B:Int}(hB:0 <= B){a:en}(C:fy g B a){b r:Int}(E:0 <= b)(I:b<aR g)(L:0 <= r)(O:r<g.rows):fy g B (uD g l a b r):=by
 have⟨_,_,_,_,U,Y,Z,g8⟩:=fe D;have T:((b*g.rows+r)*g.aL).toNat+g.aL.toNat <= a.cells.length:=by
  have:=LC D E I L O (show 0 <= g.aL-1 by omega) (by omega);have:=C.cells;omega
 unfold uD;refine⟨?_,?_,by simp[C.bC],by simp[axz,C.bw],Lb C.K9 ⟨by omega,by omega⟩,axB C.hit⟩
 ·dsimp only;cases xS l a (b*g.rows+r).toNat with
  |false=>exact C.cells
  |true=>rw[aq,LB];exact C.cells
 ·dsimp only;cases xS l a (b*g.rows+r).toNat with
  |false=>exact C.syms
  |true=>rw[aq];exact RD _ T C.syms
def ajz{g:aI}(U:cw g=true)(l:nu){B:Int}(c:av)(C:fy g B c.array){b r:Int}(Y:0<=b)(Z:b<aR g)(D:0<=r)(E:r<g.rows):KI g l c b r=some ((),(cP c (uD g l c.array b r),())):=by
 obtain⟨_,_,_,_,g5,g6,g7,g8⟩:=fe U;have b2:=qm g;have er:aR g*g.rows=fP g:=by simp[fP,U]
 obtain⟨r0,r1,r2⟩:=vG Y Z D E;rw[er]at r2;have hk:b*g.rows+g.rows<=fP g:=by
  have:=(vG Y Z (show 0<=g.rows-1 by omega) (show g.rows-1<g.rows by omega)).2.2;omega
 have a1:=C.bC;have a2:=C.bw;have I:W6 (b*g.rows)=b*g.rows:=aV;have e2:W6 (b*g.rows+r)=b*g.rows+r:=aV;have eL:=azC U c C.cells C.syms Y Z D E;unfold uD;generalize kC ((b*g.rows+r)*g.aL).toNat g.aL.toNat c.array.cells=cs at eL;obtain⟨i,hi⟩:=fz r1;obtain⟨k,L⟩:∃k,k=b*g.rows:=⟨_,rfl⟩
 rw[<-L]at hi hk I e2 r0 r1 r2;unfold KI br xL;rw[<-L,I,e2];rw[hi]at r2;rw[hi,bu];have O:i<c.array.bC.length:=by omega
 have T:i<c.array.bw.length:=by omega
 have Ue:Qz g l c.array b r=some (xS l c.array i):=by
  unfold Qz xI;have YO:W6 (i:Int)=i:=aV;simp only[<-L,I,hi,YO];unfold xS;simp only[ei,bQ O,bQ T,Option.getD_some];by_cases h:c.array.bC[i] > l.bC<;>simp[O,T,h]
 rw[Ue,ak];have b1:=Lb C.hit (k:=i) (v:=0) ⟨by omega,by omega⟩;have DS:=YH g5 g6 D E;have qX:=ayN g.rows r;have YP:∀ cells:aa cq,iter At aP (((),k,(),((mm g.rows r).length:Int),(0:Int),()),(cP c ⟨cells,c.array.bC.set i 0,c.array.bw.set i 0⟩,mm g.rows r,()))=some (.inl ((),(cP c ⟨cells,c.array.bC.set i 0,vM g.rows r i c.array.bw⟩,()))):=λcells=>by
  have:=azD (cP c ⟨cells,c.array.bC.set i 0,c.array.bw.set i 0⟩) (R:=g.rows) (k:=k) (nb:=mm g.rows r) (by omega) (ajh D E) r0 (by simp[cP];omega) (by simp[cP];omega) b1;simp only[cP]at this ⊢;rw[ayO hi r0 D]at this;exact this
 have h2x:XK=At:=rfl;unfold cP at YP eL ⊢;cases xS l c.array i with
 | false=>
  simp[O,T,DS,h2x,YP]
 | true=>
  rw[aq,eL];have YO:W6 (i:Int)=i:=aV;simp[<-L,I,YO,hi,O,T,DS,YP]
def azE{g:aI}(C:cw g=true)(c:av){b r:Int}(hc:(c.array.cells.length:Int)=ez g)(U:∀ x∈c.array.cells,Sy x.symbols)(E:0<=b)(I:b<aR g)(L:0<=r)(O:r<g.rows):
  iter Am aP (((),r,(),b*g.rows+r,(0:Int),()),(c,(g.bK,g.aA,g.rows,g.aL,()),()))=some (.inl (((),r,(),b*g.rows+r,()),(cP c ⟨kC ((b*g.rows+r)*g.aL).toNat g.aL.toNat c.array.cells,c.array.bC,c.array.bw⟩,(g.bK,g.aA,g.rows,g.aL,()),()))):=by
 obtain⟨_,_,_,_,g5,g6,g7,g8⟩:=fe C;have b1:=mT g;have b2:=qm g;obtain⟨n,Y⟩:=fz (show 0<=g.aL by omega);obtain⟨B,hB⟩:∃B,B=((b*g.rows+r)*g.aL).toNat:=⟨_,rfl⟩
 have Z:g.aL.toNat=n:=by omega
 rw[<-hB,Z];have lW:B+n<=c.array.cells.length:=by
  have:=LC C E I L O (show 0<=g.aL-1 by omega) (by omega);omega
 have e:=cD (step:=Am) n (λk=>(((),r,(),b*g.rows+r,(k:Int),()),(cP c ⟨kC B k c.array.cells,c.array.bC,c.array.bw⟩,(g.bK,g.aA,g.rows,g.aL,()),()))) (.inl (((),r,(),b*g.rows+r,()),(cP c ⟨kC B n c.array.cells,c.array.bC,c.array.bw⟩,(g.bK,g.aA,g.rows,g.aL,()),()))) aP (λk hk=>by
  have LD:=LC C E I L O (show 0<=(k:Int) by omega) (by omega);have e1:W6 ((b*g.rows+r)*g.aL)=(b*g.rows+r)*g.aL:=aV;have e2:W6 ((b*g.rows+r)*g.aL+(k:Int))=((B+k:Nat):Int):=by rw[aV];omega
  have hlen:=LB B k c.array.cells;have T:=RD k (by omega:B+k<=c.array.cells.length) U;show Am (((),r,(),b*g.rows+r,(k:Int),()),(cP c ⟨kC B k c.array.cells,c.array.bC,c.array.bw⟩,(g.bK,g.aA,g.rows,g.aL,()),()))=some (.inl (((),r,(),b*g.rows+r,((k+1:Nat):Int),()),(cP c ⟨(kC B k c.array.cells).set (B+k) (C2 ((kC B k c.array.cells).getD (B+k) vT)),c.array.bC,c.array.bw⟩,(g.bK,g.aA,g.rows,g.aL,()),())));generalize kC B k c.array.cells=cs at hlen T;have D:B+k<cs.length:=by omega
  have s1:=Sy.mem T D;have l1:(0:Nat)<cs[B+k].symbols.length:=by rw[s1.1];omega
  have l2:(1:Nat)<cs[B+k].symbols.length:=by rw[s1.1];omega
  have c2:decide ((k:Int)<g.aL)=true:=aQ;have BJ:cs.getD (B+k) vT=cs[B+k]:=by rw[ei,bQ D];rfl
  have f0:cs[B+k].symbols.getD 0 0=cs[B+k].symbols[0]:=by rw[ei,bQ l1];rfl
  have f1:cs[B+k].symbols.getD 1 0=cs[B+k].symbols[1]:=by rw[ei,bQ l2];rfl
  rw[BJ];unfold C2;rw[f0,f1];unfold Am cP xC az xG xL xM;dsimp only;have t0:(0:Int).toNat=0:=rfl;have t1:(1:Int).toNat=1:=rfl;have p0:(0:Int)<=0:=Int.le_refl 0;have p1:(0:Int)<=1:=by omega
  rw[c2,aq];simp only[e1,e2,bu];have cj:(0:Int)<=((B+k:Nat):Int):=by omega
  simp only[cj,D,p0,p1,t0,t1,l1,l2,and_self,dite_true,ji,List.getElem_set_self,List.set_set,apD];have w:=bz (i:=k);simp only[w,List.getElem_set_ne (show (0:Nat)≠1 by decide)]) (by unfold Am xC az xG xL xM;simp[Y]) (bF)
 exact e
def ajA{x:Int}(h:0<=x/\x<=100000):(if (100000:Int)<W6 (x+1)then (100000:Int)else W6 (x+1))=rQ 1 x:=by
 rw[aV (n:=x+1)];rfl
def RE(C:av)(L D O:Int)(E:aa Int):aj (af×(av×af)):=bif (decide (L<(W6 (O-(1:Int)))))then if Y:0<=(W6 (D+(1:Int)))/\(W6 (D+(1:Int))).toNat<E.length then if T:(W6 (D+(1:Int))).toNat<E.length then (let I:=E[(W6 (D+(1:Int))).toNat]'T;if Z:0<=(W6 (D+(1:Int)))/\(W6 (D+(1:Int))).toNat<E.length then if U:(W6 (D+(1:Int))).toNat<E.length then (let e63:=E[(W6 (D+(1:Int))).toNat]'U;some ((),((⟨C.config,C.box,C.now,C.aY,C.ready,⟨C.array.cells,(C.array.bC.set D.toNat (0:Int)),(E.set (W6 (D+(1:Int))).toNat (if (100000:Int)<(W6 (I+(1:Int)))then (100000:Int)else (W6 (I+(1:Int)))))⟩,C.spare,C.aS,C.bI,C.guard,C.pending,C.queue,C.shares,C.drain,C.aT,C.cU,C.errors,C.trace,C.cr⟩:av),())))else none else none)else none else none else some ((),((⟨C.config,C.box,C.now,C.aY,C.ready,⟨C.array.cells,(C.array.bC.set D.toNat (0:Int)),E⟩,C.spare,C.aS,C.bI,C.guard,C.pending,C.queue,C.shares,C.drain,C.aT,C.cU,C.errors,C.trace,C.cr⟩:av),()))
def RG(D:av)(E C I:Int):aj (af×(av×af)):=if Z:0<=C/\C.toNat<D.array.bC.length then if O:C.toNat<D.array.bC.length then (let e47:=D.array.bC[C.toNat]'O;if h48:0<=C/\C.toNat<D.array.bw.length then if T:C.toNat<D.array.bw.length then (let e50:=D.array.bw[C.toNat]'T;(bif (decide (E > (0:Int)))then if h51:0<=(W6 (C-(1:Int)))/\(W6 (C-(1:Int))).toNat<(D.array.bw.set C.toNat (0:Int)).length then if U:(W6 (C-(1:Int))).toNat<(D.array.bw.set C.toNat (0:Int)).length then (let L:=(D.array.bw.set C.toNat (0:Int))[(W6 (C-(1:Int))).toNat]'U;if h54:0<=(W6 (C-(1:Int)))/\(W6 (C-(1:Int))).toNat<(D.array.bw.set C.toNat (0:Int)).length then if Y:(W6 (C-(1:Int))).toNat<(D.array.bw.set C.toNat (0:Int)).length then (let Xh:=(D.array.bw.set C.toNat (0:Int))[(W6 (C-(1:Int))).toNat]'Y;(RE D E C I ((D.array.bw.set C.toNat (0:Int)).set (W6 (C-(1:Int))).toNat (if (100000:Int)<(W6 (L+(1:Int)))then (100000:Int)else (W6 (L+(1:Int)))))))else none else none)else none else none else (RE D E C I (D.array.bw.set C.toNat (0:Int)))))else none else none)else none else none
def ajB{d:av}{R r:Int}{i:Nat}{H:aa Int}(hl:H.length<1000000)(D:r<R-1->i+1<H.length)(E:W6 (R-1)=R-1)(I:∀ x∈H,0<=x/\x<=100000)(hi:i<1000000):RE d r (i:Int) R H=some ((),(cP d ⟨d.array.cells,d.array.bC.set i 0,bif decide (r<R-1)then pI (i+1) H else H⟩,())):=by
 have L:W6 ((i:Int)+1)=((i+1:Nat):Int):=bz;unfold RE cP;rw[E,L];simp only[bu];by_cases C:r<R-1
 ·have q:i+1<H.length:=D C;rw[aQ C,aq,aq,aB ⟨by omega,q⟩,aB q,aB ⟨by omega,q⟩,aB q,ajA (I _ (cR q)),X7 q]
 ·rw[aX C,au,au]
def ajC{d:av}{R r:Int}{i:Nat}(E:i<d.array.bC.length)(I:i<d.array.bw.length)(hl:d.array.bw.length<1000000)(U:0<r->1<=i)(L:r<R-1->i+1<d.array.bw.length)(O:W6 (R-1)=R-1)(Y:∀ x∈d.array.bw,0<=x/\x<=100000):RG d r (i:Int) R=some ((),(cP d ⟨d.array.cells,d.array.bC.set i 0,vM R r i d.array.bw⟩,())):=by
 have C:=Lb Y (k:=i) (v:=0) ⟨by omega,by omega⟩;have Z:(d.array.bw.set i 0).length=d.array.bw.length:=by simp
 unfold RG vM Ay;simp only[bu];rw[aB ⟨by omega,E⟩,aB E,aB ⟨by omega,I⟩,aB I];obtain⟨H,T⟩:∃H,d.array.bw.set i 0=H:=⟨_,rfl⟩
 rw[T]at C Z;simp only[T];by_cases D:0<r
 ·have p1':=U D;have w1:W6 ((i:Int)-1)=((i-1:Nat):Int):=by rw[aV];omega
  have q:i-1<H.length:=by omega
  simp only[w1,bu];rw[aQ D,aq,aq,aB ⟨by omega,q⟩,aB q,aB ⟨by omega,q⟩,aB q,ajA (C _ (cR q)),<-X7 q];exact ajB (by rw[Lc];omega) (λh=>by rw[Lc];have:=L h;omega) O (Rb C) (by omega)
 ·rw[aX D,au,au];exact ajB (by omega) (λh=>by have:=L h;omega) O C (by omega)
def ajD{g:aI}(E:cw g=true)(l:nu){B:Int}(c:av)(C:fy g B c.array){b r:Int}(I:0<=b)(L:b<aR g)(Y:0<=r)(Z:r<g.rows):JZ g l c b r=some ((),(cP c (uD g l c.array b r),())):=by
 obtain⟨_,_,_,_,g5,g6,g7,g8⟩:=fe E;have b2:=qm g;have er:aR g*g.rows=fP g:=by simp[fP,E]
 obtain⟨r0,r1,r2⟩:=vG I L Y Z;rw[er]at r2;have O:r<g.rows-1->b*g.rows+r+1<fP g:=λh=>by
  have:=(vG I L (show 0<=r+1 by omega) (show r+1<g.rows by omega)).2.2;omega
 have T:0<r->1<=b*g.rows+r:=λh=>by omega
 have a1:=C.bC;have a2:=C.bw;have e1:W6 (b*g.rows)=b*g.rows:=aV;have e2:W6 (b*g.rows+r)=b*g.rows+r:=aV;have w3:W6 (g.rows-1)=g.rows-1:=aV;have U:=azE E c C.cells C.syms I L Y Z;unfold uD;generalize kC ((b*g.rows+r)*g.aL).toNat g.aL.toNat c.array.cells=cs at U;have hx:JZ g l c b r=(JS g l c.array (W6 (W6 (b*g.rows)+r))).bind λy1=>bif y1 then (iter Am aP (((),r,(),W6 (W6 (b*g.rows)+r),(0:Int),()),(c,(g.bK,g.aA,g.rows,g.aL,()),()))).bind (Sum.elim (λD=>RG D.2.1 D.1.2.1 D.1.2.2.2.1 D.2.2.1.2.2.1) (λz=>nomatch z))else RG c r (W6 (W6 (b*g.rows)+r)) g.rows:=rfl
 rw[hx,e1,e2];obtain⟨i,hi⟩:=fz r1;rw[hi]at U T O r2 ⊢;rw[bu,axw g l c.array i (by omega) (by omega),ak];cases xS l c.array i with
 |false=>exact ajC (d:=c) (r:=r) (R:=g.rows) (i:=i) (by omega) (by omega) (by omega) (λh=>by have:=T h;omega) (λh=>by have:=O h;omega) w3 C.hit
 | true=>
  rw[aq,U,ak];exact ajC (d:=cP c ⟨cs,c.array.bC,c.array.bw⟩) (r:=r) (R:=g.rows) (i:=i) (by show i<c.array.bC.length;omega) (by show i<c.array.bw.length;omega) (by show c.array.bw.length<_;omega) (λh=>by have:=T h;omega) (λh=>by show _<c.array.bw.length;have:=O h;omega) w3 C.hit
def C3(p:di×di):Bool:=(p.1.open_==p.2.open_)&&((p.1.row==p.2.row)&&true)
def RH(c:av):Bool:=(runT c.config.ax c.config.bX c.trace).isSome&&match CX c.config.ax c.trace with
 |some r=>(r.aT==c.aY.aT)&&((r.aA.zip c.aY.aA).all C3&&(CY (oD c.config.ax c.trace).last c.ready.last&&CY (oD c.config.ax c.trace).aU c.ready.aU))
 |none=>false
def ajE{c:fm}{p:dY}(hl:p.weights.length<1073741823)(h:mY c p=true):gS c.bX=true:=by
 have⟨b,e,C⟩:=Yh c p hl;have hb:b=true:=by
  rw[Lv c p hl]at e;simp_all
 have:=C hb;simp[nR,aO]at this;simp_all
def ajF(c:av)(l:aa di)(n i p:Int):Ox (((),(),(),n,i,()),(kS c,(c.config.ax.bK,c.config.ax.aA,c.config.ax.rows,c.config.ax.aL,()),((),p,()),l,()))=bif (decide (i<n))then if E:0<=i/\i.toNat<l.length then if C:i.toNat<l.length then (if D:0<=i/\i.toNat<c.aY.aA.length then (bif (!C3 (l[i.toNat]'C,c.aY.aA[i.toNat]'D.2))then some (.inr (.inl ((false,()),())))else some (.inl (((),(),(),n,(W6 (i+(1:Int))),()),(kS c,(c.config.ax.bK,c.config.ax.aA,c.config.ax.rows,c.config.ax.aL,()),((),p,()),l,()))))else none)else none else none else some (.inr (.inr (.inl (((),(),()),(kS c,(c.config.ax.bK,c.config.ax.aA,c.config.ax.rows,c.config.ax.aL,()),()))))):=rfl
def azF{c:av}(C:dK c)(h:dH c=true):cw c.config.ax=true/\gS c.config.bX=true/\(c.aY.aA.length:Int)=aR c.config.ax/\c.trace.length<=2000:=by
 have L:c.box.bT.weights.length<=1048576:=C.1.1;simp only[dH,aO,fY]at h;obtain⟨D,O,T,E,U,Y,Z,h8,h9,CR,xW,qd,uw,uy,vQ,uz,AD,C4,C5,FQ,vA,FR⟩:=h;obtain⟨I,hl,_⟩:=vR E;exact⟨I,ajE (by omega) D,hl,by omega⟩
def azG(c:av)(E:dK c):Oy c=some (dH c&&RH c):=by
 unfold Oy bP;rw[RB c E,ak];cases C:dH c with
 |false=>rfl
 | true=>
  obtain⟨D,O,hb,hl⟩:=azF E C;have b1:=dS c.config.ax;obtain⟨k,i,T,U⟩:=ayD D O hl;rw[bB,au,T,ak,ayK D (by omega),ak,bZ];dsimp only;rw[U];unfold RH YG;cases runT c.config.ax c.config.bX c.trace with
  |none=>rfl
  | some r0=>
   cases he:CX c.config.ax c.trace with
   |none=>rfl
   | some r=>
    have hlr:=ayJ he;have I:r.aA.length=c.aY.aA.length:=by omega
    have hzl:=Rv I;simp only[Option.isNone_some,Option.isSome_some,bB,au,bZ];rw[bne];cases hp:(r.aT==c.aY.aT)with
    |false=>rfl
    | true=>
     have e:=fN (step:=Ox) (r.aA.zip c.aY.aA) C3 (λi=>(((),(),(),(r.aA.length:Int),(i:Int),()),(kS c,(c.config.ax.bK,c.config.ax.aA,c.config.ax.rows,c.config.ax.aL,()),((),r.aT,()),r.aA,()))) (.inl ((false,()),())) (.inr (.inl (((),(),()),(kS c,(c.config.ax.bK,c.config.ax.aA,c.config.ax.rows,c.config.ax.aL,()),())))) aP (λk C=>by
      rw[ajF,aQ,aq,aB ⟨by omega,by omega⟩,aB,aB ⟨by omega,by omega⟩,bz,ajf I C];simp only[bu];cases C3 (r.aA[k],c.aY.aA[k])<;>rfl) (by
      rw[ajF,aX,au]) (bF)
     rw[cm]at e;simp only[bB,au,bZ]
     refine(bq (λo=>Option.bind o _) e).trans ?_
     rw[ak];cases (r.aA.zip c.aY.aA).all C3 with
     |false=>rfl
     | true=>
      have hlen:=ajb c.config.ax c.trace;change ((IL c.config.ax c.trace).bind λL=>(Cf L.last c.ready.last).bind λY=>bif Y then (Cf L.aU c.ready.aU).bind λZ=>some Z else some false)=_;rw[ayH D (by omega),ak,ajg (by omega),ak,ajg (by omega)];cases CY (oD c.config.ax c.trace).last c.ready.last<;>rfl
def ij(i:Nat):aE:=⟨(i:Int) % 9+1,if (i:Int) % 9+1<=5 then (i:Int) / 9 else 0,0,0⟩
def rU(n m:Int):Int:=if n > m then n else m
def RI(g:aI)(t:ck)(l:aa Int)(c:aE)(m:Int)(i:Nat):Int:=match l[i]? with
 |some n=>bif decide (n<0)then m else rU (n+kT g t (ij i) c) m
 |none=>m
def rV(g:aI)(t:ck)(l:aa Int)(c:aE)(k:Nat):Int:=(List.range k).foldl (RI g t l c) 0
def m6(g:aI)(t:ck)(r:cZ)(c:aE):Int:=
 bif c.kind==1&&(r.aU.length:Int)==4 then rU (r.aU.getD 0 0+t.iN) (rV g t r.last c r.last.length)else rV g t r.last c r.last.length
def RJ(g:aI)(t:ck)(l:aa Int)(c:aE)(k:Nat):rV g t l c (k+1)=RI g t l c (rV g t l c k) k:=by
 unfold rV;rw[List.range_succ,List.foldl_append];rfl
def RK{g:aI}{t:ck}{l:aa Int}{c:aE}{m:Int}{i:Nat}(h:i<l.length):RI g t l c m i=bif decide (l[i]<0)then m else rU (l[i]+kT g t (ij i) c) m:=by
 unfold RI;rw[bQ h]
def azH{a b C:Int}(D:a<=C)(hb:0<=b/\b<=C):0<=rU a b/\rU a b<=C:=by
 unfold rU;split<;>omega
structure FT (g:aI) (t:ck) (r:cZ):Prop where
 pL:cw g=true
 C6:gS t=true
 len:r.last.length<1000
 last:∀(i:Nat) (h:i<r.last.length),(-1<=r.last[i]/\r.last[i]<=1000000)/\(r.last[i] = -1\/oB g i=true)
 a4:r.aU.length<=4
 act:∀x∈r.aU,0<=x/\x<=1000000
def azI{g:aI}{t:ck}{r:cZ}(E:gS t=true)(h:jO g r=true):FT g t r:=by
 have hb:=dS g;simp only[jO,aO,cu,fk]at h;have⟨I,C,D,L,O⟩:=h;have C:(r.last.length:Int)=9*(aR g+1):=by simpa using C
 have D:¬ (r.aU.length:Int) > 4:=by simpa using D
 refine⟨I,E,by omega,λi hi=>?_,by omega,λx T=>?_⟩
 ·have e:=L i hi;rw[Ll hi]at e;simp only[aO,eA]at e;refine⟨bA.1 e.1,?_⟩
  grind
 ·obtain⟨i,hi,rfl⟩:=jb.1 T;have e:=O i hi;cases i with
  |zero=>rw[Ln hi]at e;exact bA.1 e
  |succ i=>rw[FG hi]at e;simp at e;exact bA.1 e.1
def ajG(i:Nat):1<=(ij i).kind/\(ij i).kind<=9:=by
 unfold ij;dsimp only;omega
def azJ{g:aI}{i:Nat}(C:oB g i=true):(ij i).kind <= 5 -> 0 <= (ij i).ay/\(ij i).ay<aR g:=by
 unfold oB at C;unfold ij
 grind
def azK{g:aI}{i:Nat}(hi:i<1000)(C:oB g i=true):∃ b,B4 g (i:Int)=some (ij i,b):=by
 have E:=C;unfold oB at C;unfold B4 ij;rw[mS,ak,qK (by omega),qJ (by omega),aV,aV,Lk,ak];cases D:decide ((i:Int) / 9<aR g)with
 |true =>simp_all
 | false=>
  rw[D]at C;have I:¬ (i:Int) % 9+1 <= 5:=by
   simp_all
  simp[*]
def RL{g:aI}{t:ck}{r:cZ}(h:FT g t r)(c:aE):∀ k,k <= r.last.length -> 0 <= rV g t r.last c k/\rV g t r.last c k <= 1000128
 |0,_=>⟨Int.le_refl _,by show 0 <= _;omega⟩
 | k+1,D=>by
  have C:=RL h c k (by omega);rw[RJ,RK (by omega)];have E:=Rt h.C6 g (ij k) c;have hl:=(h.last k (by omega)).1;cases decide (r.last[k]<0)with
  |true=>exact C
  |false=>exact azH (by omega) C
def azL{g:aI}{t:ck}{r:cZ}{c:aE}(h:FT g t r)(O:cQ g c=true):O6 g t r c=some (m6 g t r c):=by
 have hb:=λk E=>RL h c k E
 have U:1<=c.kind/\c.kind<=9:=by
  simp only[cQ,aO]at O;exact bA.1 O.2.1
 have e:=cD (step:=Jh) r.last.length (λi=>(((),(),(),(),rV g t r.last c i,(i:Int),()),((g.bK,g.aA,g.rows,g.aL,()),t,(r.last,r.aU,()),(c.kind,c.ay,c.row,c.bO,()),()))) (.inl (((),(),(),rV g t r.last c r.last.length,()),(t,(r.last,r.aU,()),(c.kind,c.ay,c.row,c.bO,()),()))) aP (λk E=>by
  have h1:=h.len;have h2:=(h.last k E).1;have h3:=hb k (by omega);have D:=Rt h.C6 g (ij k) c;unfold Jh az xG xI;dsimp only;rw[aQ,aq,aB ⟨by omega,by omega⟩,bz];simp only[bu];rw[RJ,RK E];cases hd:decide (r.last[k]<0)with
  |true=>rfl
  | false=>
   have I:Ag g t (ij k) c=some (kT g t (ij k) c):=ayf h.pL h.C6 (ajG k) U;have Y:W6 ((k:Int).tmod 9+1)=(k:Int) % 9+1:=by rw[qJ (by omega),aV]
   have Z:W6 ((k:Int).tdiv 9)=(k:Int) / 9:=by rw[qK (by omega),aV]
   unfold ij at I;rw[au,au,Y,Z];by_cases C:(k:Int) % 9+1<=5
   ·rw[bH C]at I;rw[aQ C,aq,aB ⟨by omega,E⟩,mV];show Option.bind (Ag g t _ c) _=_;rw[I,ak,aV (n:=r.last[k]+_) (by unfold ij at D;rw[bH C]at D;omega) (by unfold ij at D;rw[bH C]at D;omega)];unfold ij rU;rw[bH C]
   ·rw[bJ C]at I;rw[aX C,au,aB ⟨by omega,E⟩,mV];show Option.bind (Ag g t _ c) _=_;rw[I,ak,aV (n:=r.last[k]+_) (by unfold ij at D;rw[bJ C]at D;omega) (by unfold ij at D;rw[bJ C]at D;omega)];unfold ij rU;rw[bJ C]) (by
  unfold Jh az xG xI;dsimp only;rw[aX,au]) (bF (by have:=h.len;omega))
 rw[cm]at e;unfold O6 m6 xI br
 refine(bq (λo=>Option.bind o _) e).trans ?_
 rw[ak];simp only[dX];have hL:=hb r.last.length (dx _);have hf:=YC h.C6;cases c.kind==(1:Int)with
 |false=>rfl
 | true=>
  cases T:(r.aU.length:Int)==(4:Int)with
  |false=>rfl
  | true=>
   have T:(r.aU.length:Int)=4:=by simpa using T
   have L:0<r.aU.length:=by omega
   have ha:=h.act _ (cR L);rw[aq,aq,aB ⟨by omega,L⟩];show some (if W6 (r.aU[0]+t.iN) > _ then W6 (r.aU[0]+t.iN)else _)=_;rw[aV,ei,bQ L];rfl
def azM{g:aI}{t:ck}{r:cZ}(h:FT g t r)(c:aE):0 <= m6 g t r c:=by
 have C:=RL h c _ (dx _);unfold m6 rU
 grind
def azN{g:aI}{t:ck}{r:cZ}{c:aE}(h:FT g t r)(Y:jO g r=true)(C:cQ g c=true):Qa g t r c=some (bif decide (m6 g t r c > 1000000)then -1 else m6 g t r c):=by
 have hb:=λk D=>RL h c k D
 have O:(1<=c.kind/\c.kind<=9)/\(c.kind<=5->0<=c.ay/\c.ay<aR g):=by
  simp only[cQ,aO]at C
  refine⟨bA.1 C.2.1,λZ=>?_⟩
  have E:=C.2.2.1;rw[Lr (bA.1 C.2.1),aQ Z]at E;have:=bA.1 E;omega
 have e:=cD (step:=Kl) r.last.length (λi=>(((),(),(),(),rV g t r.last c i,r.last,(r.last.length:Int),(i:Int),()),((g.bK,g.aA,g.rows,g.aL,()),t,(r.last,r.aU,()),(c.kind,c.ay,c.row,c.bO,()),()))) (.inl (((),(),(),rV g t r.last c r.last.length,()),(t,(r.last,r.aU,()),(c.kind,c.ay,c.row,c.bO,()),()))) aP (λk D=>by
  have E:=h.len;have h2:=(h.last k D).1;have h3:=hb k (by omega);have hg:=Rt h.C6 g (ij k) c;unfold Kl az xG xI;dsimp only;rw[aQ,aq,aB ⟨by omega,by omega⟩,bz];simp only[bu];rw[RJ,RK D];cases hd:decide (r.last[k]<0)with
  |true=>rfl
  | false=>
   have aCW:¬ r.last[k]<0:=by simpa using hd
   have T:oB g k=true:=by
    rcases(h.last k D).2 with h9|h9
    ·omega
    ·exact h9
   obtain⟨b,eb⟩:=azK (g:=g) (i:=k) (by omega) T;rw[au,au,mV,eb,ak];show Option.bind (z0 g t (ij k) c) _=_;rw[aiX t h.pL (ajG k) O.1 (azJ T) O.2,ak,aV (n:=r.last[k]+_)];rfl) (by
  unfold Kl az xG xI;dsimp only;rw[aX,au]) (bF (by have:=h.len;omega))
 rw[cm]at e;unfold Qa m6 xI br;rw[Ld,ak,h.C6,bB,au,Yo,ak,Y,bB,au,Rs,ak,C,bB,au]
 refine(bq (λo=>Option.bind o _) e).trans ?_
 rw[ak];simp only[dX];have hL:=hb r.last.length (dx _);have hf:=YC h.C6;have I:∀m:Int,(bif decide (m > 1000000)then some (-1:Int)else some m)=some (bif decide (m > 1000000)then -1 else m):=λm=>by cases decide (m > 1000000)<;>rfl
 cases c.kind==(1:Int)with
 |false=>exact I _
 | true=>
  cases U:(r.aU.length:Int)==(4:Int)with
  |false=>exact I _
  | true=>
   have U:(r.aU.length:Int)=4:=by simpa using U
   have L:0<r.aU.length:=by omega
   have ha:=h.act _ (cR L);rw[aq,aq,aB ⟨by omega,L⟩];show (bif decide ((if W6 (r.aU[0]+t.iN) > _ then W6 (r.aU[0]+t.iN)else _) > 1000000)then _ else some (if W6 (r.aU[0]+t.iN) > _ then W6 (r.aU[0]+t.iN)else _))=_;rw[aV,ei,bQ L];exact I _
def dc(c:av)(x:aE):Bool:=iZ c.aY x&&(decide (m6 c.config.ax c.config.bX c.ready x<=1000000)&&decide (m6 c.config.ax c.config.bX c.ready x<=c.now))
structure Pk (c:av):Prop where
 z:dK c
 ok:dH c=true
 rk:jN c.config.ax c.aY=true
 rdy:jO c.config.ax c.ready=true
 R:FT c.config.ax c.config.bX c.ready
 bl:(c.aY.aA.length:Int)=aR c.config.ax
def Pk.of{c:av}(C:dK c)(h:dH c=true):Pk c:=by
 have O:c.box.bT.weights.length <= 1048576:=C.1.1;have I:=h;simp[dH,aO]at h;have⟨L,T,U,D,E,Y,Z,h8,h9,CR,xW,qd,uw,uy,vQ,uz,AD,C4,C5,FQ,vA,FR⟩:=h;have hb:c.aY.aA.length=aR c.config.ax:=by
  simp[jN,aO]at D;simp_all
 exact⟨C,I,D,E,azI (ajE (by omega) L) E,hb⟩
def azO{g:aI}{x:aE}(C:cQ g x=true):(1 <= x.kind/\x.kind <= 9)/\(x.kind <= 5 -> 0 <= x.ay/\x.ay<aR g):=by
 simp[cQ,aO]at C
 refine⟨bA.1 C.2.1,λE=>?_⟩
 have D:=C.2.2.1;rw[Lr (bA.1 C.2.1),aQ E]at D;have:=bA.1 D;omega
def RM{c:av}(h:Pk c){x:aE}(C:cQ c.config.ax x=true):Cn c x=some (dc c x):=by
 have⟨I,D⟩:=azO C;have hb:=dS c.config.ax;have hl:=h.bl;unfold Cn dc;rw[aya I (λE=>⟨(D E).1,by have:=D E;omega⟩) (by omega),ak,azL h.R C,ak]
 grind
def yc{c:av}(h:Pk c){x:aE}(C:cQ c.config.ax x=true):iW c x=some (dc c x):=by
 have D:=azM h.R x;unfold iW dc;rw[Yu,ak,h.rk,C,bZ,bZ,azN h.R h.rdy C,ak]
 grind
def cG(i:Nat):aa Int->aa Int
 |[]=>[]
 |d::l=>bif decide (d >= 4)then (i:Int)::cG (i+1) l else cG (i+1) l
def azP(i:Nat)(a b:aa Int):cG i (a++b)=cG i a++cG (i+a.length) b:=by
 induction a generalizing i with
 |nil=>rfl
 | cons d a C=>
  rw[List.cons_append,cG,cG,C,show i+1+a.length=i+(a.length+1) by omega]
  grind
def C7(i:Nat)(l:aa Int):(cG i l).length <= l.length:=by
 induction l generalizing i with
 |nil=>exact dx _
 | cons d l C=>
  have:=C (i+1);unfold cG
  grind
def YQ{l:aa Int}{i:Nat}(h:i<l.length):cG 0 (l.take (i+1))=bif decide (l[i] >= 4)then cG 0 (l.take i)++[(i:Int)]else cG 0 (l.take i):=by
 rw[mU h,azP,fU,Nat.min_eq_left (by omega),eN];show _++(bif decide _ then _::cG _ []else cG _ [])=_;cases decide (l[i] >= 4)with
 |true=>rfl
 |false=>exact List.append_nil _
def ajH{l:aa Int}{i:Nat}{b:Int}(h:b∈cG i l):∃ j:Nat,b=((i+j:Nat):Int)/\j<l.length/\l.getD j 0 >= 4:=by
 induction l generalizing i with
 |nil=>cases h
 | cons d l D=>
  unfold cG at h;have tl:b∈cG (i+1) l -> ∃ j:Nat,b=((i+j):Int)/\j<(d :: l).length/\(d :: l).getD j 0 >= 4:=λh=>by
   have⟨j,E,I,L⟩:=D h;exact⟨j+1,by rw[E];omega,by simpa using I,by simpa using L⟩
  cases C:decide (d >= 4)with
  | true=>
   rw[C]at h;rcases gn.1 h with rfl|h
   ·exact⟨0,rfl,by simp,by simpa using C⟩
   ·exact tl h
  |false =>grind
def oE{r:dn}(h:ff r=true):r.aJ.length<=8/\1<=r.aJ.length:=by
 simp only[ff,aO]at h;have:=bA.1 h.2.1;omega
def YR{r:dn}(C:ff r=true):Fj r=some (cG 0 r.aJ):=by
 have hl:=oE C;unfold Fj br;rw[Ri _ (by omega),ak,C,bB,au];have e:=cD (step:=Km) r.aJ.length (λi=>(((),r.aJ,(r.aJ.length:Int),(i:Int),()),(cG 0 (r.aJ.take i),()))) (.inl (((),()),(cG 0 r.aJ,()))) aP (λi h=>by
  have D:=C7 0 (r.aJ.take i);rw[fU]at D;unfold Km az xG xI;dsimp only;rw[aQ,aq,aB ⟨by omega,by omega⟩,bz,YQ h];simp only[bu];cases decide (r.aJ[i] >= 4)with
  |true=>rw[aq,aq,jk,cM,aq]
  |false=>rfl) (by
  unfold Km az xG xI;dsimp only;rw[aX,au,ir]) (bF)
 rw[cm]at e
 refine(bq (λo=>Option.bind o _) e).trans ?_
 rfl
def ajI{r:dn}(C:ff r=true):Jc r=some (cG 0 r.aJ):=by
 have hl:=oE C;unfold Jc br;have e:=cD (step:=Jb) r.aJ.length (λi=>(((),(),(i:Int),()),((r.aJ,r.wait,r.eP,()),cG 0 (r.aJ.take i),()))) (.inl (((),()),(cG 0 r.aJ,()))) aP (λi h=>by
  have D:=C7 0 (r.aJ.take i);rw[fU]at D;unfold Jb az xG xI;dsimp only;rw[aQ,aq,show (⟨r.aJ,r.wait,r.eP⟩:dn)=r from rfl,Li _ (by omega),ak,C,aq,aB ⟨by omega,by omega⟩,bz,YQ h];simp only[bu];cases decide (r.aJ[i] >= 4)with
  |true=>rw[aq,aq,jk,cM,aq]
  |false=>rfl) (by
  unfold Jb az xG xI;dsimp only;rw[aX,au,ir]) (bF)
 rw[cm,List.take_zero]at e
 refine(bq (λo=>Option.bind o _) e).trans ?_
 rfl
def yd(c:av):Bool:=decide ((c.queue.length:Int) > 0) ||(decide ((c.pending.length:Int) > 0) ||decide (((cG 0 c.aS.aJ).length:Int) > 0))
def azQ{c:av}(C:ff c.aS=true):Fk c=some (yd c):=by
 unfold Fk yd;rw[YR C]
 grind
def ajJ{c:av}(C:ff c.aS=true):Cm c=some (yd c):=by
 unfold Cm yd;rw[ajI C]
 grind
def uE(r:qN)(p:fA)(b:Bool):Int:=
 bif b then (bif p.state==1 then 7 else bif p.state==2 then 9 else 0)else bif p.state==0&&decide (p.idle >= r.sleep)then 8 else bif p.state==0&&decide (p.idle >= r.down)then 6 else bif p.state==1&&decide (p.idle >= r.sleep)then 7 else 0
def azR(r:qN)(p:fA)(b:Bool)(C:xU r=true)(D:ku p=true):Qb r p b=some (uE r p b):=by
 unfold Qb uE;rw[aiw,ak,C,bB,Yl,ak,D,bB]
 grind
def azS(r:qN)(p:fA)(b:Bool)(C:xU r=true)(D:ku p=true):O3 r p b=some (uE r p b):=by
 unfold O3 uE;simp[aix,Rk,C,D,au]
 grind
def azT(r:qN)(p:fA)(b:Bool):uE r p b=0 \/ 6 <= uE r p b/\uE r p b <= 9:=by
 unfold uE
 grind
def AH(D:Nat->Bool)(v:Nat->Int)(C:Int)(i:Nat):Int:=bif D i&&(decide (C<0) ||decide (v i > v C.toNat))then (i:Int)else C
def kU(C:Nat->Bool)(v:Nat->Int)(k:Nat):Int:=(List.range k).foldl (AH C v) (-1)
def FU(C:Nat->Bool)(v:Nat->Int)(k:Nat):kU C v (k+1)=AH C v (kU C v k) k:=by
 unfold kU;rw[List.range_succ,List.foldl_append];rfl
def vU(C:Nat -> Bool)(v:Nat -> Int):∀ k,-1 <= kU C v k/\kU C v k<k
 |0=>⟨Int.le_refl _,by show (-1)<0;omega⟩
 | k+1=>by
  have D:=vU C v k;rw[FU];unfold AH
  grind
def YS(C:Nat -> Bool)(v:Nat -> Int):∀ k,kU C v k = -1 \/ C (kU C v k).toNat=true
 |0=>.inl rfl
 | k+1=>by
  have D:=YS C v k;rw[FU];unfold AH
  grind
def YT{C:Nat -> Bool}(v:Nat -> Int){i:Nat}(h:C i=true):∀ k,i<k -> 0 <= kU C v k
 |0,D=>by omega
 | k+1,D=>by
  have hb:=vU C v k;rw[FU];unfold AH;by_cases E:i=k
  ·grind
  ·have I:=YT v h k (by omega)
   grind
def uF(l:aa cE)(w:aa Bool):Int:=kU (λi=>w.getD i false) (λi=>(l.getD i ⟨0,0⟩).fJ) (min l.length w.length)
def LF(l:aa cE)(w:aa Bool)(hl:l.length<1073741824):Fp l w=some (uF l w):=by
 unfold Fp uF br;generalize O:min l.length w.length=n;have e:=cD (step:=Kp) n (λi=>((l,w,kU (λi=>w.getD i false) (λi=>(l.getD i ⟨0,0⟩).fJ) i,(i:Int),()),())) (.inl ((kU (λi=>w.getD i false) (λi=>(l.getD i ⟨0,0⟩).fJ) n,()),())) aP (λi h=>by
  have C:i<l.length:=by omega
  have L:i<w.length:=by omega
  have hb:=vU (λi=>w.getD i false) (λi=>(l.getD i ⟨0,0⟩).fJ) i;rw[FU];generalize kU (λi=>w.getD i false) (λi=>(l.getD i ⟨0,0⟩).fJ) i=D at hb;unfold Kp AH az xG xI;dsimp only;rw[aQ,aq,aQ,aq,aB ⟨by omega,by omega⟩,bz];simp only[bu,ei,bQ L,bQ C,Option.getD_some];cases w[i]with
  |false=>rfl
  | true=>
   rw[aq,bZ];by_cases E:D<0
   ·rw[aQ E];rfl
   ·have I:D.toNat<l.length:=by omega
    rw[aX E,aB ⟨by omega,C⟩,aB ⟨by omega,I⟩,bQ I,Option.getD_some];cases decide (l[i].fJ > l[D.toNat].fJ)<;>rfl) (by
  unfold Kp az xG xI;dsimp only;by_cases C:n<l.length
  ·rw[aQ,aq,aX,au]
  ·rw[aX,au]) (bF)
 rw[cm]at e
 refine(bq (λo=>Option.bind o _) e).trans ?_
 rfl
def azU:Pg=Fp:=rfl
def sV(s:cE):cE:=⟨s.weight,s.weight⟩
def ja(l:aa cE):aa cE:=l.map sV
def YU(l:aa cE)(w:aa Bool)(hl:l.length<1073741824):iter Fq aP ((w,(),(l.length:Int),(0:Int),()),(l,()))=some (.inl ((w,(),()),(ja l,()))):=by
 have e:=cD (step:=Fq) _ (λi=>((w,(),l.length,i,()),(upto sV l i,()))) (.inl ((w,(),()),(ja l,()))) aP (λi h=>by
  have hlen:=K2 sV l i;unfold Fq az xG xL;dsimp only;rw[aQ,aq,aB ⟨by omega,by omega⟩,aB,aB ⟨by omega,by omega⟩,aB,bz];simp only[bu];rw[Q0 sV l i h,<- Q1 sV l i h];rfl) (by
  unfold Fq az xG xL;dsimp only;rw[aX,au,QZ];rfl) (bF hl)
 exact e
def azV(l:aa cE)(w:aa Bool)(hl:l.length<1073741824):iter EW aP ((w,(),(0:Int),()),(l,()))=some (.inl ((w,(),()),(ja l,()))):=by
 have e:=cD (step:=EW) _ (λi=>((w,(),i,()),(upto sV l i,()))) (.inl ((w,(),()),(ja l,()))) aP (λi h=>by
  have hlen:=K2 sV l i;unfold EW az xG xL;dsimp only;rw[aQ,aq,aB ⟨by omega,by omega⟩,aB,aB ⟨by omega,by omega⟩,aB,bz];simp only[bu];rw[Q0 sV l i h,<- Q1 sV l i h];rfl) (by
  have hlen:=K2 sV l l.length;unfold EW az xG xL;dsimp only;rw[aX,au,QZ];rfl) (bF hl)
 exact e
def ajK(l:aa cE)(w:aa Bool)(hl:l.length<1073741823):Jr l w=qk l w:=by
 unfold Jr qk xA xC br xL xZ;rw[kY,azU,LF l w (by omega),Lh _ (by omega),Yb _ (by omega),ak];rw[YU l w (by omega),azV l w (by omega)];rfl
def YV{l:aa cE}(w:aa Bool)(hl:l.length<1073741823)(D:ia l=true)(T:l.length=w.length):∃ y t,qk l w=some (y,t)/\y.length=l.length:=by
 unfold qk xA xC br xL xZ;have hb:=vU (λi=>w.getD i false) (λi=>(l.getD i ⟨0,0⟩).fJ) (min l.length w.length);have E:(ja l).length=l.length:=by simp[ja]
 have I:=vU (λi=>w.getD i false) (λi=>((ja l).getD i ⟨0,0⟩).fJ) (min (ja l).length w.length);have L:=YS (λi=>w.getD i false) (λi=>(l.getD i ⟨0,0⟩).fJ) (min l.length w.length);rw[kY,LF l w (by omega),ak,Lh _ (by omega),ak,D,bB,au,List.length_nil,eN,cM,aq];unfold uF;generalize U:kU (λi=>w.getD i false) (λi=>(l.getD i ⟨0,0⟩).fJ) (min l.length w.length)=b at *
 by_cases O:b<0
 ·simp_all
 ·have C:b.toNat<l.length:=by omega
  rw[aX O,au,aB ⟨by omega,C⟩,aB C];dsimp only;cases l[b.toNat].fJ==0 with
  |false =>simp_all
  | true=>
   rw[aq,YU l w (by omega),ak];simp only[dX];rw[LF _ w (by omega),ak];have Y:0 <= uF (ja l) w:=YT _ (i:=b.toNat) (by rcases L with h|h;exact absurd h (by omega);exact h) _ (by rw[E];omega);have Z:uF (ja l) w<((min (ja l).length w.length:Nat):Int):=I.2;simp_all
def AI(m:nt)(n:Int)(a:aM):aM:=bif m.hash then ⟨(a.ay+a.row) % n,a.row,a.bO⟩else a
def ye(g:aI)(m:nt)(l:Int):aM:=AI m (aR g)
 (bif m.order==0 then ⟨l / g.aL % aR g,l / g.aL / aR g,l % g.aL⟩else bif m.order==1 then ⟨l % aR g,l / aR g / g.aL,l / aR g % g.aL⟩else ⟨l / g.aL / g.rows,l / g.aL % g.rows,l % g.aL⟩)
def FV{l a b:Int}(C:0<=l)(hb:0<b)(h:l<a*b):0<=l / b/\l / b<a/\l / b<=l:=by
 refine⟨Int.ediv_nonneg C (by omega),Int.ediv_lt_of_lt_mul hb h,?_⟩;exact Int.ediv_le_self _ C
def AJ{l b:Int}(hb:0<b):0<=l % b/\l % b<b:=⟨Int.emod_nonneg _ (by omega),Int.emod_lt_of_pos _ hb⟩
def YW{m:nt}{n:Int}{a:aM}(C:0<n)(hb:0 <= a.ay/\a.ay<n):0 <= (AI m n a).ay/\(AI m n a).ay<n/\(AI m n a).row=a.row/\(AI m n a).bO=a.bO:=by
 unfold AI;cases m.hash with
 |false=>simp_all
 |true=>exact⟨(AJ C).1,(AJ C).2,rfl,rfl⟩
def YX{m:nt}{n b r c:Int}(C:0<n)(D:n<=8)(E:0<=b/\b<=100000)(I:0<=r/\r<=100000):(bif m.hash then if n=0 then none else some ((⟨(W6 (b+r)).tmod n,r,c⟩:aM),true)else some ((⟨b,r,c⟩:aM),true))=some (AI m n ⟨b,r,c⟩,true):=by
 unfold AI;cases m.hash with
 |false=>rfl
 |true=>rw[aq,bJ,aV,qJ (by omega),aq]
def ajL{g:aI}{m:nt}{l:Int}(O:cw g=true)(hm:aN m.order 0 2=true)(D:0<=l)(hl:l<ez g):∀ (f:aj (aM×Bool)),f=(bif (m.order==(0:Int))then if g.aL=0 then none else if g.aL=0 then none else if aR g=0 then none else if g.aL=0 then none else if aR g=0 then none else bif m.hash then if aR g=0 then none else some ((⟨((W6 (((W6 (l.tdiv g.aL)).tmod (aR g))+(W6 ((W6 (l.tdiv g.aL)).tdiv (aR g))))).tmod (aR g)),(W6 ((W6 (l.tdiv g.aL)).tdiv (aR g))),(l.tmod g.aL)⟩:aM),true)else some ((⟨((W6 (l.tdiv g.aL)).tmod (aR g)),(W6 ((W6 (l.tdiv g.aL)).tdiv (aR g))),(l.tmod g.aL)⟩:aM),true)else bif (m.order==(1:Int))then if aR g=0 then none else if aR g=0 then none else if g.aL=0 then none else if aR g=0 then none else if g.aL=0 then none else bif m.hash then if aR g=0 then none else some ((⟨((W6 ((l.tmod (aR g))+(W6 ((W6 (l.tdiv (aR g))).tdiv g.aL)))).tmod (aR g)),(W6 ((W6 (l.tdiv (aR g))).tdiv g.aL)),((W6 (l.tdiv (aR g))).tmod g.aL)⟩:aM),true)else some ((⟨(l.tmod (aR g)),(W6 ((W6 (l.tdiv (aR g))).tdiv g.aL)),((W6 (l.tdiv (aR g))).tmod g.aL)⟩:aM),true)else if g.aL=0 then none else if g.aL=0 then none else if g.rows=0 then none else if g.aL=0 then none else if g.rows=0 then none else bif m.hash then if aR g=0 then none else some ((⟨((W6 ((W6 ((W6 (l.tdiv g.aL)).tdiv g.rows))+((W6 (l.tdiv g.aL)).tmod g.rows))).tmod (aR g)),((W6 (l.tdiv g.aL)).tmod g.rows),(l.tmod g.aL)⟩:aM),true)else some ((⟨(W6 ((W6 (l.tdiv g.aL)).tdiv g.rows)),((W6 (l.tdiv g.aL)).tmod g.rows),(l.tmod g.aL)⟩:aM),true))->f=some (ye g m l,true)/\dz g (ye g m l)=true:=by
 have hb:=dS g;have hp:=K3 O;have hL:=mT g;have gb:=fe O;have eL:ez g=aR g*g.rows*g.aL:=by simp[ez,O]
 have A3:aN l 0 (W6 (ez g-1))=true:=by rw[aV];exact bA.2 ⟨D,by omega⟩
 have ho:=bA.1 hm;rw[eL]at hl;have Z:¬ aR g=0:=by omega
 have tF:¬ g.aL=0:=by omega
 have iH:¬ g.rows=0:=by omega
 rintro f rfl;simp only[bJ Z,bJ tF,bJ iH];unfold ye;by_cases o0:m.order=0
 ·have C:=FV (a:=aR g*g.rows) D (show 0<g.aL by omega) hl;have E:=FV (l:=l / g.aL) (a:=g.rows) (b:=aR g) C.1 (by omega) (by rw[Int.mul_comm];exact C.2.1);have T:=AJ (l:=l / g.aL) (b:=aR g) (by omega);have a4:=AJ (l:=l) (b:=g.aL) (by omega);rw[o0,jj,aq,aq,qK D,qJ D,aV (n:=l / g.aL),qK C.1,qJ C.1,aV (n:=l / g.aL / aR g)];obtain⟨U,Y,I,L⟩:=YW (m:=m) (n:=aR g) (a:=⟨l / g.aL % aR g,l / g.aL / aR g,l % g.aL⟩) (by omega) T;refine⟨?_,vF O U Y (by rw[I];exact E.1) (by rw[I];exact E.2.1) (by rw[L];exact a4.1) (by rw[L];exact a4.2)⟩;refine Eq.trans ?_ (YX (by omega) (by omega) (by omega) (by omega));rw[bJ Z]
 ·rw[jg o0,au,au];by_cases o1:m.order=1
  ·have C:=FV (a:=g.rows*g.aL) D (show 0<aR g by omega) (by rw[Int.mul_comm,<-Int.mul_assoc];exact hl);have E:=FV (l:=l / aR g) (a:=g.rows) (b:=g.aL) C.1 (by omega) C.2.1;have T:=AJ (l:=l) (b:=aR g) (by omega);have a4:=AJ (l:=l / aR g) (b:=g.aL) (by omega);rw[o1,jj,aq,aq,qK D,qJ D,aV (n:=l / aR g),qK C.1,qJ C.1,aV (n:=l / aR g / g.aL)];obtain⟨U,Y,I,L⟩:=YW (m:=m) (n:=aR g) (a:=⟨l % aR g,l / aR g / g.aL,l / aR g % g.aL⟩) (by omega) T;refine⟨?_,vF O U Y (by rw[I];exact E.1) (by rw[I];exact E.2.1) (by rw[L];exact a4.1) (by rw[L];exact a4.2)⟩;refine Eq.trans ?_ (YX (by omega) (by omega) (by omega) (by omega));rw[bJ Z]
  ·have C:=FV (a:=aR g*g.rows) D (show 0<g.aL by omega) hl;have E:=FV (l:=l / g.aL) (a:=aR g) (b:=g.rows) C.1 (by omega) C.2.1;have T:=AJ (l:=l / g.aL) (b:=g.rows) (by omega);have a4:=AJ (l:=l) (b:=g.aL) (by omega);rw[jg o1,au,au,qK D,qJ D,aV (n:=l / g.aL),qK C.1,qJ C.1,aV (n:=l / g.aL / g.rows)];obtain⟨U,Y,I,L⟩:=YW (m:=m) (n:=aR g) (a:=⟨l / g.aL / g.rows,l / g.aL % g.rows,l % g.aL⟩) (by omega) ⟨E.1,E.2.1⟩;refine⟨?_,vF O U Y (by rw[I];exact T.1) (by rw[I];exact T.2) (by rw[L];exact a4.1) (by rw[L];exact a4.2)⟩;refine Eq.trans ?_ (YX (by omega) (by omega) (by omega) (by omega));rw[bJ Z]
def ajM{g:aI}{m:nt}{l:Int}(C:cw g=true)(D:aN m.order 0 2=true)(E:0<=l)(hl:l<ez g):Qc g m l=some (ye g m l,true)/\dz g (ye g m l)=true:=by
 have L:=mT g;have I:aN l 0 (W6 (ez g-1))=true:=by rw[aV];exact bA.2 ⟨E,by omega⟩
 refine ajL C D E hl _ ?_;unfold Qc;rw[rL,ak,C,bB,au,Ya,ak,D,bB,au,XU,ak,dR,ak,I,bB,au,mS,ak]
def azW{g:aI}{m:nt}{l:Int}(E:cw g=true)(C:aN m.order 0 2=true)(D:0<=l)(hl:l<ez g):Pa g m l=some (ye g m l,true):=by
 have L:=mT g;have I:aN l 0 (W6 (ez g-1))=true:=by rw[aV];exact bA.2 ⟨D,by omega⟩
 refine(ajL E C D hl _ ?_).1;unfold Pa;rw[show EK m=some (aN m.order 0 2)from Ya m,ak,C,bB,au,xR,ak,dN,ak,I,bB,au,me,ak]
def gB(c:av)(l:Int):aM:=
 let a:=ye (ef c.config.ax c.spare) c.config.mapping l
 ⟨a.ay,c.spare.map.getD (a.ay*(c.config.ax.rows-c.spare.bM)+a.row).toNat 0,a.bO⟩
def LG{g:aI}{s:dI}(h:kA g s=true):ef g s=⟨g.bK,g.aA,g.rows-s.bM,g.aL⟩/\cw g=true/\cw (ef g s)=true/\aR (ef g s)=aR g/\0 <= s.bM/\s.bM <= 2/\2 <= g.rows-s.bM/\g.rows <= 16:=by
 have D:=h;simp[kA,aO]at h;have⟨C,E,I,L,O⟩:=Rd h.1;have U:=fe C;have e:ef g s=⟨g.bK,g.aA,g.rows-s.bM,g.aL⟩:=by
  unfold ef;rw[D,aq,aV]
 have T:cw (ef g s)=true:=by
  rw[e];unfold cw;simp[aO,bA];omega
 refine⟨e,C,T,?_,E,I,L,O⟩;unfold aR;simp_all
def ajN{g:aI}{s:dI}(h:kA g s=true){b r:Int}(hb:0 <= b/\b<aR g)(E:0 <= r/\r<g.rows-s.bM):(b*(g.rows-s.bM)+r).toNat<s.map.length/\0 <= s.map.getD (b*(g.rows-s.bM)+r).toNat 0/\s.map.getD (b*(g.rows-s.bM)+r).toNat 0<g.rows:=by
 have⟨_,Y,_,_,Z,h2,h3,h4⟩:=LG h;have I:=dS g;simp only[kA,aO,fI,cu,fk]at h;have⟨_,hl,L⟩:=h;obtain⟨b,rfl⟩:=fz hb.1;obtain⟨r,rfl⟩:=fz E.1;have⟨R,hR⟩:=fz (show 0 <= g.rows-s.bM by omega);have⟨C,O⟩:=fz I.1;rw[hR,O,bu,bu]at hl;have hl:s.map.length=C*R:=by exact_mod_cast hl
 have T:b<C:=by omega
 have D:r<R:=by omega
 have e:((b:Int)*(g.rows-s.bM)+(r:Int)).toNat=b*R+r:=by rw[hR,<- Int.natCast_mul,<- Int.natCast_add,bu]
 have dU:=AB (R:=R) T (show r+1 <= R from D);have hi:b*R+r<s.map.length:=by omega
 have h5:=L b (by omega) r (by omega);rw[e];refine⟨hi,?_⟩;rw[ei,bQ hi,Option.getD_some];have U:(iz s.map R b)[r]?=some s.map[b*R+r]:=by rw[FH,List.getElem?_take_of_lt D,List.getElem?_drop,bQ hi]
 rw[hR,bu]at h5;unfold rS at h5;rw[U]at h5;simp only[eA,aO,fI,bA]at h5;rcases h5 with h5|h5
 ·omega
 ·grind
def azX{c:av}(h:Pk c)(E:kA c.config.ax c.spare=true)(he:c.spare.bM=c.config.bM)(hm:aN c.config.mapping.order 0 2=true){l:Int}(h0:0 <= l)(hl:l<ez (ef c.config.ax c.spare)):vE c l=some (gB c l,true)/\dz c.config.ax (gB c l)=true:=by
 have⟨Y,Z,yJ,eb,s1,s2,s3,s4⟩:=LG E;have⟨m1,m3⟩:=ajM yJ hm h0 hl;have⟨_,C,D,I,L,b5,b6⟩:=rM m3;rw[eb]at D;have gb:=fe Z;have hb:=dS c.config.ax;have er:(ef c.config.ax c.spare).rows=c.config.ax.rows-c.spare.bM:=by rw[Y]
 have ec:(ef c.config.ax c.spare).aL=c.config.ax.aL:=by rw[Y]
 rw[er]at L;rw[ec]at b6;have⟨k1,k2,k3⟩:=ajN E ⟨C,D⟩ ⟨I,L⟩;have hmul:=vG C D I L;have hM:=Q2 (a:=aR c.config.ax) (b:=c.config.ax.rows-c.spare.bM) (A:=8) (B:=16) hb.1 hb.2 (by omega) (by omega);unfold gB;generalize hA:ye (ef c.config.ax c.spare) c.config.mapping l=A at *
 dsimp only;refine⟨?_,vF Z C D k2 k3 b5 b6⟩;unfold vE;rw[Yr,ak,m1,ak];dsimp only;rw[bB,au];unfold Xw xI;have hx:Qd (ef c.config.ax c.spare) A.ay A.row=some true:=by
  unfold Qd;rw[XV,ak,vF (a:=⟨A.ay,A.row,0⟩) yJ C (by rw[eb];exact D) I (by rw[er];exact L) (Int.le_refl 0) (by rw[ec];show 0<_;omega)]
 have⟨b,hbN⟩:=fz C;have⟨r,hrN⟩:=fz I;have⟨R,hR⟩:=fz (show 0 <= c.config.ax.rows-c.spare.bM by omega);have⟨bn,hn⟩:=fz hb.1;have T:c.spare.map.length=bn*R:=by
  simp only[kA,aO,fI]at E;have:=E.2.1
  grind
 have O:b<bn:=by omega
 have U:r<R:=by omega
 have dU:=AB (R:=R) O (show r+1 <= R from U);have azY:=AB (R:=R) O (dx R);have hi:b*R+r<c.spare.map.length:=by omega
 rw[Yr,ak,hx,ak,bB,au,hbN,aiJ hR (by omega) (by omega) O T,ak];have ht:((c.spare.map.take ((b+1)*R)).drop (b*R))=iz c.spare.map R b:=rfl;have lC:(iz c.spare.map R b).length=R:=FI (by rw[T];exact iL R O);have hgx:(iz c.spare.map R b)[r]?=some c.spare.map[b*R+r]:=by rw[FH,List.getElem?_take_of_lt U,List.getElem?_drop,bQ hi]
 have hgy:(iz c.spare.map R b)[r]'(by omega)=c.spare.map[b*R+r]:=by
  grind
 dsimp only;rw[iM (by rw[iC];omega),iM (by rw[iC,T];omega),bZ,aq,hrN,aB ⟨by omega,by rw[ht,lC,bu];exact U⟩];simp only[bu,ht,hgy,ak];rw[hR,<- Int.natCast_mul,<- Int.natCast_add,bu,ei,bQ hi,Option.getD_some]
def azZ{c:av}(h:Pk c)(I:kA c.config.ax c.spare=true)(he:c.spare.bM=c.config.bM)(L:aN c.config.mapping.order 0 2=true){l:Int}(O:0<=l)(hl:l<ez (ef c.config.ax c.spare)):xB c l=some (gB c l):=by
 obtain⟨C,hg,T,eb,s1,s2,s3,s4⟩:=LG I;obtain⟨m1,m3⟩:=ajM T L O hl;have m2:=azW T L O hl;obtain⟨_,U,D,Y,E,b5,b6⟩:=rM m3;rw[eb]at D;have gb:=fe hg;have hb:=dS c.config.ax;have er:(ef c.config.ax c.spare).rows=c.config.ax.rows-c.spare.bM:=by rw[C]
 have ec:(ef c.config.ax c.spare).aL=c.config.ax.aL:=by rw[C]
 rw[er]at E;rw[ec]at b6;obtain⟨Z,k2,k3⟩:=ajN I ⟨U,D⟩ ⟨Y,E⟩;have hmul:=vG U D Y E;have hM:=Q2 (a:=aR c.config.ax) (b:=c.config.ax.rows-c.spare.bM) (A:=8) (B:=16) hb.1 hb.2 (by omega) (by omega);unfold gB;generalize hA:ye (ef c.config.ax c.spare) c.config.mapping l=A at *
 dsimp only;unfold xB xI;have hw:W6 (c.config.ax.rows-c.config.bM)=c.config.ax.rows-c.spare.bM:=by rw[<-he];exact aV
 have hw1:W6 (A.ay*(c.config.ax.rows-c.spare.bM))=A.ay*(c.config.ax.rows-c.spare.bM):=aV;have YY:W6 (A.ay*(c.config.ax.rows-c.spare.bM)+A.row)=A.ay*(c.config.ax.rows-c.spare.bM)+A.row:=aV;simp only[hw];rw[<-C,m2,ak];simp only[hw1,YY];rw[aB ⟨hmul.2.1,Z⟩,ei,bQ Z,Option.getD_some]
def FW{c:fm}{p:dY}(hl:p.weights.length<1073741823)(h:mY c p=true):nR c=true/\pJ p=true:=by
 have⟨b,e,D⟩:=Yh c p hl;have hb:b=true:=by
  rw[Lv c p hl]at e;simp_all
 subst hb;have C:=D rfl;refine⟨C,?_⟩;unfold sK at e;have⟨y,E⟩:=Yg p.fl;simp[Rf,Rh _ hl,C]at e
 grind
structure Pq (c:av):Prop where
 p:Pk c
 sp:kA c.config.ax c.spare=true
 se:c.spare.bM=c.config.bM
 mo:aN c.config.mapping.order 0 2=true
 q:∀r∈c.queue,(0<=r.line/\r.line<ez (ef c.config.ax c.spare))/\(0<=r.dL/\r.dL<=3)/\(0<=r.at_/\r.at_<=1000000)
 ql:c.queue.length<=12
 pe:∀a∈c.pending,dz c.config.ax a=true
 pl:c.pending.length<=128
 rf:ff c.aS=true
 dl:(c.aS.aJ.length:Int)=aR c.config.ax
 sh:ia c.shares=true
 shl:c.shares.length=4
 dr:mW c.drain=true
 pw:ku c.aT=true
 ps:c.aT.state=c.aY.aT
 nw:0<=c.now/\c.now<=1000000
 cap:0<=c.box.bT.cap/\c.box.bT.cap<=100000
 eB:xU c.box.bT.eB=true
def Pq.of{c:av}(D:dK c)(h:dH c=true):Pq c:=by
 have I:=Pk.of D h;have z1:c.box.bT.weights.length <= 1048576:=D.1.1;simp only[dH,aO]at h;have⟨L,h2,O,h4,h5,h6,T,U,C,E,Y,qd,Z,uy,vQ,uz,AD,C4,C5,FQ,vA,FR⟩:=h;have⟨f1,f2⟩:=FW (by omega) L;simp only[nR,aO]at f1;simp only[pJ,aO]at f2;have⟨f3,f4,f5,f6,f7,f8,f9⟩:=f2;simp only[qw,aO,fI,gW,qL,cu,fk]at C;have⟨C,g1,g2,g3,g4,g5,g6⟩:=C;simp only[iX,aO,cu,fk,fY]at E;have⟨q1,q2⟩:=E;have rI:c.shares.length=4:=by
  grind
 refine⟨I,T,by simpa using U,f1.2.2.1,λr hr=>?_,by omega,λa ha=>?_,by omega,C,g1,Y,rI,Z,uy,by simpa using vQ,bA.1 O,bA.1 f4,f9⟩
 ·obtain⟨i,hi,rfl⟩:=jb.1 hr;have hb:=q1 i hi;unfold rR at hb;rw[bQ hi]at hb;simp[pK,aO,fY]at hb;have⟨⟨k1,k2,k3,k4,k5,k6,k7⟩,_⟩:=hb;exact⟨⟨k3,k4⟩,bA.1 k2,bA.1 k7⟩
 ·obtain⟨i,hi,rfl⟩:=jb.1 ha;have hb:=g6 i hi;unfold uv at hb;simp_all
def vV(r:bU)(a:aM):Bool:=(iY r a.ay).open_&&((iY r a.ay).row==a.row)
def AK(r:bU)(a:aM)(w:Bool):aE:=
 bif !(iY r a.ay).open_ then ⟨1,a.ay,a.row,0⟩else bif (iY r a.ay).row != a.row then ⟨4,a.ay,0,0⟩else bif w then ⟨3,a.ay,0,a.bO⟩else ⟨2,a.ay,0,a.bO⟩
def AL{r:bU}{b:Int}(h:b.toNat<r.aA.length):iY r b=r.aA[b.toNat]:=by
 unfold iY;rw[ei,bQ h];rfl
def LH{b:Int}{n:Nat}(C:0<=b)(h:b.toNat<n)(D:n<=1048576):aN b 0 (W6 ((n:Int)-1))=true:=by
 rw[aV];exact bA.2 ⟨C,by omega⟩
def RN{r:bU}{a:aM}(w:Bool)(C:0 <= a.ay)(h:a.ay.toNat<r.aA.length)(hl:r.aA.length <= 1048576):xO r a w=some (AK r a w):=by
 unfold xO AK xI;rw[dR,ak,LH C h hl,bB,aB ⟨C,h⟩,AL h]
 grind
def ajO:Ah=xO:=rfl
def ajP{r:bU}{b:Int}(C:0 <= b)(h:b.toNat<r.aA.length)(hl:r.aA.length <= 1048576):Ko r b=some (bif (iY r b).open_ then (iY r b).row else -1):=by
 unfold Ko xI;rw[dR,ak,LH C h hl,bB,aB ⟨C,h⟩,AL h]
 grind
def az0:Pe=Ko:=rfl
def az1{r:bU}{a:aM}(D:0 <= a.row)(C:0 <= a.ay)(h:a.ay.toNat<r.aA.length)(hl:r.aA.length <= 1048576):Fo r a=some (vV r a):=by
 unfold Fo vV;rw[fO (by omega:¬ a.row = -1),ajP C h hl,ak];cases (iY r _).open_ with
 |false=>rw[au,jg (by omega:¬ (-1)=a.row)];rfl
 |true=>rfl
def ajQ{r:bU}{a:aM}(D:0 <= a.row)(C:0 <= a.ay)(h:a.ay.toNat<r.aA.length)(hl:r.aA.length <= 1048576):Jq r a=some (vV r a):=by
 unfold Jq vV;rw[az0,ajP C h hl,ak,ak];cases (iY r _).open_ with
 |false=>simp_all
 | true=>
  rw[aq,bZ];by_cases e:(iY r a.ay).row=a.row
  ·rw[e,jj,aq,fO (by omega:¬ a.row = -1)]
  ·grind
def az2{g:aI}{r:bU}{a:aM}(w:Bool)(h:dz g a=true):cQ g (AK r a w)=true:=by
 have⟨D,E,U,I,Y,L,Z⟩:=rM h;have O:aN _ 0 (aR g-1)=true:=bA.2 ⟨E,by omega⟩;have C:aN a.row 0 (g.rows-1)=true:=bA.2 ⟨I,by omega⟩;have T:aN a.bO 0 (g.aL-1)=true:=bA.2 ⟨L,by omega⟩;unfold AK cQ sP;cases (iY r _).open_<;>cases (iY r _).row != a.row<;>cases w<;>simp[D,aN,C]<;>simp[aN,fY]at O C T<;>omega
def vW{g:aI}{k b:Int}(C:cw g=true)(D:k=4 \/ k=5)(hb:0 <= b/\b<aR g):cQ g ⟨k,b,0,0⟩=true:=by
 have E:aN b 0 (aR g-1)=true:=bA.2 ⟨hb.1,by omega⟩;unfold cQ sP;rcases D with rfl|rfl<;>simp[C,aN]<;>simp[aN,fY]at E<;>omega
def ajR{g:aI}{a:aM}(h:dz g a=true):cQ g ⟨1,a.ay,a.row,0⟩=true:=by
 have⟨C,D,E,I,L,O,T⟩:=rM h;unfold cQ sP;simp[C,aN];omega
def LI{g:aI}{k:Int}(C:cw g=true)(D:6<=k/\k<=9):cQ g ⟨k,0,0,0⟩=true:=by
 obtain⟨n,rfl⟩:=fz (show 0<=k by omega);have:n=6\/n=7\/n=8\/n=9:=by omega
 unfold cQ;rw[C];rcases this with rfl|rfl|rfl|rfl<;>rfl
def YZ(l:aa aM)(b:Int)(hl:l.length<=1048576):CB l b=some (l.any λa=>a.ay==b):=by
 have E:=uC (λa:aM=>a.ay==b) l;unfold CB Xu Xt;rw[Lz];have e:=cD (step:=Fl) (c9 (λa:aM=>a.ay==b) l) (λi=>((l,b,(l.length:Int),(i:Int),()),())) (if c9 (λa:aM=>a.ay==b) l<l.length then .inl ((((c9 (λa:aM=>a.ay==b) l:Nat):Int),()),())else .inr (.inl ((),()))) aP (λk h=>by
  have D:=m0 h (by omega);unfold Fl az bf xG xI;dsimp only;rw[aQ,aq,aB ⟨by omega,by omega⟩];simp only[bu];rw[D,au,bz]) (by
  by_cases C:c9 (λa:aM=>a.ay==b) l<l.length
  ·have D:=qx C;unfold Fl az bf xG xI;dsimp only;rw[aQ,aq,aB ⟨by omega,by omega⟩];simp only[bu];rw[D,aq,bH C]
  ·unfold Fl az bf xG xI;dsimp only;rw[aX,au,bJ C]) (bF)
 rw[cm]at e;rw[e];by_cases C:c9 (λa:aM=>a.ay==b) l<l.length
 ·rw[bH C,aQ C];simp
 ·rw[bJ C,aX C];rfl
end Go.Proofs.YtgjfmljpdnnihaaGreat
