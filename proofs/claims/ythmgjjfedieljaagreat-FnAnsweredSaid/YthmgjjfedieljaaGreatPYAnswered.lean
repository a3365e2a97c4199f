/-
  Plain laws. Nothing here is a claim.
-/
import Derived.Test.YthmgjjfedieljaaGreatVZ
import Derived.Test.YthmgjjfedieljaaGreatOpenV
import Derived.Test.YthmgjjfedieljaaGreatG1
import Derived.Test.YthmgjjfedieljaaGreatG2
import Derived.Test.YthmgjjfedieljaaGreatG3
import Derived.Test.YthmgjjfedieljaaGreatG4
import Derived.Test.YthmgjjfedieljaaGreatG5
import Derived.Test.YthmgjjfedieljaaGreatGX
namespace Go.Proofs.YthmgjjfedieljaaGreat
set_option linter.defProp false
open Go.RowKit
set_option linter.unusedVariables false
set_option linter.unusedSimpArgs false
set_option maxRecDepth 100000
def bh{n:Int}(C:-9223372036854775808<=n:=by omega)(D:n<9223372036854775808:=by omega):W6 n=n:=by
 exact(IntKind.wrap_i64 n).trans (by omega)
def QK{α β:Type}{step:α -> ah (α⊕β)}(I:α -> Prop)(m:α -> Nat)(Q:β -> Prop)
  (h:∀x,I x -> (∃y,step x=some (.inl y)/\I y/\m y<m x) \/ ∃z,step x=some (.inr z)/\Q z):
  ∀(n:Nat) (x:α),I x -> m x<n -> ∃z,iter step n x=some z/\Q z
 |0,x,_,E=>by omega
 | n+1,x,O,E=>by
  unfold iter;rcases h x O with ⟨y,C,D,T⟩|⟨z,C,D⟩
  ·rw[C];exact QK I m Q h n y D (by omega)
  ·simp_all
def az{α β:Type}(x:α)(f:α->ah β):(some x).bind f=f x:=rfl
def og{α β T:Type}{step:α -> ah (α⊕β)}(l:aa T)(q:T -> Bool)(S:Nat -> α)(D z:β)(fuel:Nat)(I:∀ k (h:k<l.length),step (S k)=some (bif q l[k]then .inl (S (k+1))else .inr D))(O:step (S l.length)=some (.inr z))(C:l.length<fuel):
  iter step fuel (S 0)=some (bif l.all q then z else D):=by
 have key:∀ (n i fuel:Nat),i+n=l.length -> n<fuel -> iter step fuel (S i)=some (bif (l.drop i).all q then z else D):=by
  intro n
  induction n with
  | zero=>
   intro i fuel hi C
   match fuel,C with
   | f+1,_=>
    have:i=l.length:=by omega
    subst this;unfold iter;simp_all
  | succ n U=>
   intro i fuel hi C
   match fuel,C with
   | f+1,C=>
    have E:i<l.length:=by omega
    unfold iter;rw[I i E,List.drop_eq_getElem_cons E,List.all_cons];cases q l[i]with
    |true=>grind
    |false=>rfl
 exact key l.length 0 fuel (by omega) C
def gf{α β:Type}{step:α -> ah (α⊕β)}(n:Nat)(S:Nat -> α)(z:β)(fuel:Nat)(E:∀ k,k<n -> step (S k)=some (.inl (S (k+1))))(D:step (S n)=some (.inr z))(C:n<fuel):iter step fuel (S 0)=some z:=by
 have key:∀ (m i fuel),i+m=n -> m<fuel -> iter step fuel (S i)=some z:=by
  intro m
  induction m with
  | zero=>
   intro i fuel hi C
   match fuel,C with
   | f+1,_=>
    have:i=n:=by omega
    subst this;unfold iter;rw[D]
  | succ m I=>
   intro i fuel hi C
   match fuel,C with
   | f+1,C=>
    unfold iter
    grind
 simp_all
def QL{α β:Type}{step:α -> ah (α⊕β)}(n:Nat)(I:Nat -> α -> Prop)(Q:β -> Prop){x:α}(fuel:Nat)(Y:I 0 x)(E:∀ k,k<n -> ∀ x,I k x -> ∃ y,step x=some (.inl y)/\I (k+1) y)(O:∀ x,I n x -> ∃ z,step x=some (.inr z)/\Q z)(C:n<fuel):∃ z,iter step fuel x=some z/\Q z:=by
 have key:∀ (m i fuel:Nat) (x:α),i+m=n -> m<fuel -> I i x -> ∃ z,iter step fuel x=some z/\Q z:=by
  intro m
  induction m with
  | zero=>
   intro i fuel x hi C D
   match fuel,C with
   | f+1,_=>
    have:i=n:=by omega
    subst this;have⟨z,T,U⟩:=O x D;unfold iter;simp_all
  | succ m Z=>
   intro i fuel x hi C D
   match fuel,C with
   | f+1,C=>
    have⟨y,T,U⟩:=E i (by omega) x D;unfold iter
    grind
 grind
def XG{α β:Type}{step:α -> ah (α⊕β)}(n:Nat)(I:Nat -> α -> Prop)(Q:β -> Prop){x:α}(fuel:Nat)(E:I 0 x)(T:∀ k,k<n -> ∀ x,I k x -> (∃ y,step x=some (.inl y)/\I (k+1) y) \/ ∃ z,step x=some (.inr z)/\Q z)(O:∀ x,I n x -> ∃ z,step x=some (.inr z)/\Q z)(C:n<fuel):∃ z,iter step fuel x=some z/\Q z:=by
 have key:∀ (m i fuel:Nat) (x:α),i+m=n -> m<fuel -> I i x -> ∃ z,iter step fuel x=some z/\Q z:=by
  intro m
  induction m with
  | zero=>
   intro i fuel x hi C D
   match fuel,C with
   | f+1,_=>
    have:i=n:=by omega
    subst this;have⟨z,U,Y⟩:=O x D;unfold iter;simp_all
  | succ m Z=>
   intro i fuel x hi C D
   match fuel,C with
   | f+1,C=>
    unfold iter
    grind
 exact key n 0 fuel x (by omega) C E
def upto{α:Type}(f:α->α)(l:aa α)(i:Nat):aa α:=(l.take i).map f++l.drop i
def QM{α:Type}(f:α->α)(l:aa α)(i:Nat):(upto f l i).length=l.length:=by
 simp[upto];omega
def agj{α:Type}(f:α->α)(l:aa α):upto f l 0=l:=by simp[upto]
def XH{α:Type}(f:α->α)(l:aa α):upto f l l.length=l.map f:=by simp[upto]
def XI{α:Type}(f:α -> α)(l:aa α)(i:Nat)(h:i<l.length)(C:i<(upto f l i).length):(upto f l i)[i]=l[i]:=by
 simp[upto]
 grind
def XJ{α:Type}(f:α -> α)(l:aa α)(i:Nat)(h:i<l.length):(upto f l i).set i (f l[i])=upto f l (i+1):=by
 have C:min i l.length=i:=by omega
 have e:=List.drop_eq_getElem_cons h;simp only[upto];rw[List.set_append_right _ _ (by simp;omega),e,List.take_succ_eq_append_getElem h];simp only[mZ,List.map_cons,List.map_nil,fN,jK,C,Nat.sub_self,List.set_cons_zero,List.append_assoc,List.cons_append,List.nil_append]
def dy{x y:Int}(h:¬ x=y):(x==y)=false:=by simp[h]
def iW{x y:Int}(h:¬ x=y):(x != y)=true:=by simp[h]
def fR{n:Nat}(h:n<1073741824:=by omega):cB n=true:=bf h
def cC{i:Nat}(h:i<4611686018427387904:=by omega):W6 ((i:Int)+1)=((i+1:Nat):Int):=by
 rw[bh];simp
def cM{n:Nat}(h:n<1073741824:=by omega):n<bC:=by unfold bC;omega
def aT(x a b:Int):Bool:=decide (a<=x)&&decide (x<=b)
def bu{x a b:Int}:aT x a b=true ↔ a<=x/\x<=b:=by simp[aT]
def cP(x a b:Int):bY x a b=some (aT x a b):=by
 unfold bY aT;by_cases h:a<=x<;>simp[h]
def asK(x a b:Int):Gy x a b=some (aT x a b):=cP x a b
def cJ(g:aK):Bool:=aT g.cN 1 2&&aT g.aO 1 4&&aT g.rows 2 16&&aT g.aW 1 8
def vO(g:aK):sA g=some (cJ g):=by
 unfold sA cJ;simp[cP]
 grind
def agk(g:aK):Kr g=some (cJ g):=by
 unfold Kr cJ;simp[asK]
 grind
def gV{g:aK}(h:cJ g=true):1<=g.cN/\g.cN<=2/\1<=g.aO/\g.aO<=4/\2<=g.rows/\g.rows<=16/\1<=g.aW/\g.aW<=8:=by
 simp only[cJ,aT,aH,ij]at h;omega
def aE(g:aK):Int:=bif cJ g then g.cN*g.aO else 0
def dZ(g:aK):0 <= aE g/\aE g <= 8:=by
 unfold aE;cases h:cJ g with
 |false=>simp
 | true=>
  have⟨C,D,E,I,_⟩:=gV h;simp;rcases(by omega:g.cN=1 \/ g.cN=2)with e|e<;>rw[e]<;>omega
def EH{g:aK}(h:cJ g=true):1 <= aE g:=by
 have⟨C,D,E,I,_⟩:=gV h;simp[aE,h,av];rcases(by omega:g.cN=1 \/ g.cN=2)with e|e<;>rw[e]<;>omega
def l6(g:aK):mK g=some (aE g):=by
 have hb:=dZ g;unfold mK;rw[vO,az];unfold aE at hb ⊢;cases h:cJ g with
 |false=>rfl
 | true=>
  rw[h]at hb;simp at hb;simp;rw[bh]
def XK(g:aK):Gz g=some (aE g):=by
 have hb:=dZ g;unfold Gz;rw[agk,az];unfold aE at hb ⊢;cases h:cJ g with
 |false=>rfl
 | true=>
  rw[h]at hb;simp at hb;simp;rw[bh]
def iB(g:aK):Int:=bif cJ g then aE g*g.rows else 0
def ck(g:aK):Int:=bif cJ g then aE g*g.rows*g.aW else 0
def QN{a b A B:Int}(D:0<=a)(E:a<=A)(C:0<=b)(I:b<=B):0<=a*b/\a*b<=A*B:=
 ⟨Int.mul_nonneg D C,Int.le_trans (Int.mul_le_mul_of_nonneg_right E C) (Int.mul_le_mul_of_nonneg_left I (by omega))⟩
def xK(g:aK):0 <= iB g/\iB g <= 128:=by
 unfold iB;cases h:cJ g with
 |false=>simp
 | true=>
  have⟨_,_,_,_,D,C,_⟩:=gV h;have:=dZ g;exact QN this.1 this.2 (by omega) C
def rz(g:aK):0 <= ck g/\ck g <= 1024:=by
 have C:=xK g;unfold ck iB at *
 cases h:cJ g with
 |false=>simp
 | true=>
  rw[h]at C;have⟨_,_,_,_,E,I,O,D⟩:=gV h;exact QN C.1 C.2 (by omega) D
def CB(g:aK):vH g=some (ck g):=by
 have C:=rz g;have D:=xK g;unfold vH;rw[l6,az];unfold ck iB at *
 cases h:cJ g with
 |false=>simp only[aE,h,ax,Int.zero_mul];rw[show W6 0=0 from rfl,Int.zero_mul];rfl
 | true=>
  rw[h]at C D;simp only[av]at C D;simp only[av];rw[bh (n:=aE g*g.rows),bh]
def agl(g:aK):Ks g=some (ck g):=by
 have C:=rz g;have D:=xK g;unfold Ks;rw[agk,az,XK,az];unfold ck iB at *
 cases h:cJ g with
 |false=>rfl
 | true=>
  rw[h]at C D;simp at C D;simp;rw[bh (n:=aE g*g.rows),bh]
def ef(g:aK)(a:aN):Bool:=cJ g&&aT a.aA 0 (aE g-1)&&aT a.row 0 (g.rows-1)&&aT a.cu 0 (g.aW-1)
def oh{g:aK}{a:aN}(h:ef g a=true):cJ g=true/\0 <= a.aA/\a.aA<aE g/\0 <= a.row/\a.row<g.rows/\0 <= a.cu/\a.cu<g.aW:=by
 simp[ef,aT,aH,ij]at h
 grind
def xN{g:aK}{a:aN}(h:cJ g=true)(C:0 <= a.aA)(D:a.aA<aE g)(E:0 <= a.row)(I:a.row<g.rows)(O:0 <= a.cu)(T:a.cu<g.aW):ef g a=true:=by
 simp[ef,aT,aH,ij]
 grind
def EI(g:aK)(a:aN):AS g a=some (ef g a):=by
 unfold AS ef;simp[vO,l6,cP,az];have hb:=dZ g;cases h:cJ g with
 |false=>rfl
 | true=>
  have⟨_,_,_,_,C,D,E,I⟩:=gV h;rw[bh,bh,bh]
  grind
def EJ{b n r R:Int}(C:0 <= b)(D:b<n)(E:0 <= r)(I:r<R):0 <= b*R/\0 <= b*R+r/\b*R+r<n*R:=by
 have O:0 <= b*R:=Int.mul_nonneg C (by omega);have T:(b+1)*R <= n*R:=Int.mul_le_mul_of_nonneg_right (by omega) (by omega)
 grind
def vP(g:aK)(a:aN):Int:=bif ef g a then (a.aA*g.rows+a.row)*g.aW+a.cu else -1
def agm{g:aK}{a:aN}(h:ef g a=true):0 <= vP g a/\vP g a<ck g/\0 <= a.aA*g.rows/\0 <= a.aA*g.rows+a.row/\a.aA*g.rows+a.row<iB g/\0 <= (a.aA*g.rows+a.row)*g.aW:=by
 have⟨C,D,E,I,O,T,U⟩:=oh h;have⟨r0,Y,Z⟩:=EJ D E I O;have⟨l0,l1,l2⟩:=EJ Y Z T U;simp[vP,h,ck,iB,C,av];omega
def Hy(g:aK)(a:aN):Cz g a=some (vP g a):=by
 unfold Cz;rw[EI,az];cases h:ef g a with
 |false=>simp[vP,h]
 | true=>
  have hb:=agm h;have D:=rz g;have E:=xK g;have⟨C,I,O,T,U,Y,Z⟩:=oh h;have⟨_,_,_,_,g5,g6,g7,g8⟩:=gV C;simp only[vP,h,av]at hb ⊢;simp only[bI,ax];rw[bh (n:=a.aA*g.rows),bh (n:=a.aA*g.rows+a.row),bh (n:=(a.aA*g.rows+a.row)*g.aW),bh]
def Hz{α β:Type}{step:α -> ah (α⊕β)}(S:Nat -> α){z:β}:∀ (n i fuel:Nat),(∀ k,i <= k -> k<i+n -> step (S k)=some (.inl (S (k+1)))) -> step (S (i+n))=some (.inr z) -> n<fuel -> iter step fuel (S i)=some z
 | 0,i,fuel,_,C,D=>by
  match fuel,D with
  |f+1,_=>unfold iter;rw[Nat.add_zero]at C;rw[C]
 | n+1,i,fuel,E,C,D=>by
  match fuel,D with
  | f+1,D=>
   unfold iter;rw[E i (dg _) (by omega)];exact Hz S n _ f (λk I O=>E k (by omega) (by omega)) (by rw[show i+1+n=i+(n+1) by omega];exact C) (by omega)
def EK{i:Nat}(h:i<4611686018427387904:=by omega):W6 ((i:Int)+1)=((i+1:Nat):Int):=by
 rw[bh];simp
def agn(y:Int):0 <= bits .and .i64 y 255/\bits .and .i64 y 255 <= 255:=by
 have e:bits .and .i64 y 255=IntKind.wrap .i64 ((BitVec.ofInt 64 y &&& BitVec.ofInt 64 255).toNat):=rfl;have h:(BitVec.ofInt 64 y &&& BitVec.ofInt 64 255).toNat <= 255:=by
  exact Nat.le_trans Nat.and_le_right (by decide)
 rw[e,IntKind.wrap_i64];omega
structure l8 (b:List Int) (c:bH):Prop where
 eq:c.b=b
 lo:0<=c.i
 hi:c.i<=b.length
 len:b.length<=1073741823
def l8.eta{b:aa Int}{c:bH}(h:l8 b c):(⟨b,c.i,c.h⟩:bH)=c:=by
 have⟨b',i,C⟩:=c;have:=h.eq;simp_all
def Dr{α:Type}(b:aa Int)(f:ah (α×(bH×aj)))(P:α->Prop):Prop:=∃x c,f=some (x,(c,()))/\l8 b c/\P x
def Dr.bind{α β:Type}{b:aa Int}{f:ah (α×(bH×aj))}{g:α×(bH×aj) -> ah (β×(bH×aj))}{P:α -> Prop}{Q:β -> Prop}(h:Dr b f P)(C:∀ x c,P x -> l8 b c -> Dr b (g (x,(c,()))) Q):Dr b (f.bind g) Q:=by
 have⟨x,c,D,E,I⟩:=h;simp_all
def Dr.pure{α:Type}{b:aa Int}{x:α}{c:bH}{P:α->Prop}(C:l8 b c)(D:P x):Dr b (some (x,(c,()))) P:=⟨x,c,rfl,C,D⟩
def asM(l:aa Int)(h:l.length<=1073741823):∃ y,Kp l=some y:=by
 unfold Kp bZ;obtain⟨z,C,I⟩:=QK (step:=Ko)
  (λx=>∃(i:Nat) (y:Int),x=(((),y,(i:Int),()),(l,()))/\i<=l.length)
  (λx=>l.length-x.1.2.2.1.toNat) (λz=>∃ y,(Sum.elim (λO:((aj×Int×aj)×((aa Int)×aj))=>some O.1.2.1) (λz=>nomatch z)) z=some y) (by
   rintro x ⟨i,y,rfl,hi⟩;unfold Ko aM xG xI;dsimp only;by_cases D:i<l.length
   ·have E:decide ((i:Int)<(l.length:Int))=true:=by simpa using D
    have T:0<=(i:Int)/\(i:Int).toNat<l.length:=⟨by omega,by simpa using D⟩
    rw[E,av];cases U:decide ((i:Int)<4000)with
    | true=>
     rw[av,aP T];left;refine⟨_,rfl,⟨i+1,_,by rw[EK],by omega⟩,?_⟩;dsimp only;rw[EK];omega
    | false=>
     rw[ax];right;exact⟨_,rfl,_,rfl⟩
   ·have E:decide ((i:Int)<(l.length:Int))=false:=by simpa using D
    rw[E,ax];right;exact⟨_,rfl,_,rfl⟩)
  bC (((),(W6 ((97301:Int)+(l.length:Int))),((0:Nat):Int),()),(l,())) ⟨0,_,rfl,by omega⟩ (by dsimp only;unfold bC;omega)
 have C:iter Ko bC (((),(W6 ((97301:Int)+(l.length:Int))),(0:Int),()),(l,()))=some z:=C;rw[C];exact I
def asN(l:aa Int)(y:Int)(h:l.length<=1073741823):l8 l ⟨l,0,y⟩:=⟨rfl,dU _,by simp,h⟩
def L0{b:aa Int}{c:bH}(C:l8 b c):Dr b (Cm c) λx=>0<=x/\x<=255:=by
 have hb:=C.eq;have E:=C.lo;have O:=C.hi;have I:=C.len;unfold Cm xI;by_cases h:c.i<(c.b.length:Int)
 ·have D:decide (c.i<(c.b.length:Int))=true:=by simpa using h
  rw[D,av,aP ⟨E,by omega⟩];refine Dr.pure ⟨hb,?_,?_,I⟩ (agn _)
  ·show 0<=W6 (c.i+1);rw[hb]at h;rw[bh];omega
  ·show W6 (c.i+1)<=_;rw[hb]at h;rw[bh];omega
 ·have D:decide (c.i<(c.b.length:Int))=false:=by simpa using h
  rw[D,ax];exact Dr.pure ⟨hb,E,O,I⟩ (agn _)
def ago{x n:Int}(h:0<=x)(C:0<n):0<=x.tmod n/\x.tmod n<n:=by
 rw[uT h];exact⟨Int.emod_nonneg _ (by omega),Int.emod_lt_of_pos _ C⟩
def gw{b:aa Int}{c:bH}(C:l8 b c)(n:Int):Dr b (ga c n) λx=>0 <= x/\(n <= 0 -> x=0)/\(0<n -> x<n):=by
 unfold ga;by_cases U:n <= 0
 ·have O:decide (n <= 0)=true:=by simpa using U
  rw[O];exact Dr.pure C ⟨dU _,λ_=>rfl,λh=>by omega⟩
 ·have O:decide (n <= 0)=false:=by simpa using U
  have Y:¬ n=0:=by omega
  rw[O];by_cases Z:n <= 256
  ·have T:decide (n <= 256)=true:=by simpa using Z
   rw[T,av]
   refine(L0 C).bind λx c' hx hc'=>?_
   rw[aX Y];rw[C.eq,hc'.eta];have:=ago hx.1 (show 0<n by omega);exact Dr.pure hc' ⟨this.1,λh=>by omega,λ_=>this.2⟩
  ·have T:decide (n <= 256)=false:=by simpa using Z
   rw[T,ax,C.eq]
   refine(L0 C).bind λD k1 Ue uD=>?_
   dsimp only;rw[uD.eta]
   refine(L0 uD).bind λE k2 M7 kU=>?_
   dsimp only;rw[kU.eta]
   refine(L0 kU).bind λI k3 hx3 rq=>?_
   dsimp only;rw[rq.eta]
   refine(L0 rq).bind λx4 k4 hx4 yU=>?_
   rw[aX Y];dsimp only;rw[yU.eta];rw[bh (n:=D*16777216),bh (n:=E*65536),bh (n:=D*16777216+E*65536),bh (n:=I*256),bh (n:=D*16777216+E*65536+I*256),bh (n:=D*16777216+E*65536+I*256+x4)];have:=ago (x:=D*16777216+E*65536+I*256+x4) (by omega) (show 0<n by omega);exact Dr.pure yU ⟨this.1,λh=>by omega,λ_=>this.2⟩
def agp(x a b:Int):bY x a b=some (decide (a <= x)&&decide (x <= b)):=by
 unfold bY
 grind
def XL{x a b:Int}(h:a<=x)(C:x<=b):bY x a b=some true:=by
 rw[agp,bf h,bf C];rfl
def opens:Nat->aa ji->aa Int
 |_,[]=>[]
 |i,b::bs=>bif b.open_ then (i:Int)::opens (i+1) bs else opens (i+1) bs
def agq(i:Nat)(a b:aa ji):opens i (a++b)=opens i a++opens (i+a.length) b:=by
 induction a generalizing i with
 |nil=>simp[opens]
 | cons x a C=>
  simp[List.cons_append,opens]
  grind
def agr(i:Nat)(l:aa ji):(opens i l).length <= l.length:=by
 induction l generalizing i with
 |nil=>simp[opens]
 | cons x a C=>
  have:=C (i+1);simp[opens]
  grind
def EL{α:Type}{l:aa α}{i:Nat}(h:i<l.length):l.take (i+1)=l.take i++[l[i]]:=by
 rw[List.take_succ_eq_append_getElem h]
def QO(r:cr)(h:r.aO.length<1073741823):Ct r=some (opens 0 r.aO):=by
 unfold Ct bZ;have e:=Hz (step:=GR) (λi=>(((),r.aO,(r.aO.length:Int),(i:Int),()),(opens 0 (r.aO.take i),()))) (z:=.inl (((),()),(opens 0 r.aO,()))) r.aO.length 0 bC (λk _ C=>?_) ?_ (by unfold bC;omega)
 ·have e:iter GR bC (((),r.aO,r.aO.length,0,()),(([]),()))=_:=e;simp_all
 ·have C:k<r.aO.length:=by omega
  unfold GR aM xG xI;dsimp only;have D:decide ((k:Int)<(r.aO.length:Int))=true:=bf;have E:0 <= (k:Int)/\(k:Int).toNat<r.aO.length:=⟨by omega,by simpa using C⟩
  have hl:=agr 0 (r.aO.take k);rw[jK]at hl;have I:cB ((opens 0 (r.aO.take k)).length+([(k:Int)]:aa Int).length)=true:=by
   unfold cB;simp;omega
  rw[D,av,aP E,EK,EL C,agq];simp only[bD,opens,jK,gy,Nat.min_eq_left (Nat.le_of_lt C)];cases r.aO[k].open_ with
  |true=>grind
  |false=>grind
 ·rw[gy];unfold GR aM xG xI;simp_all
def gmT:Nat:=116196760129267793630862849262464326346044543732748708940920453221664288556434379745879494961270582141731748813355742142288220638766218855867759359510984593843506004200114943278699875244065120512813025380665946106619127097398772031257643617143689515450995722003729973585221105779229319991106539050771048038400
def gm(a b:Nat):Nat:=(gmT / 2 ^ (4*(16*a+b))) % 16
def pwT:Nat:=44684875893970114885940500792407720993
def pw(n:Nat):Nat:=(pwT / 2 ^ (4*n)) % 16
def tG(f:Nat->Bool):Bool:=(List.range 16).all f
def pn{f:Nat->Bool}(h:tG f=true){a:Nat}(C:a<16):f a=true:=by
 have:=cm.1 h a (gq.2 C);exact this
def jd(a b:Nat):gm a b<16:=Nat.mod_lt _ (by decide)
def ags(n:Nat):pw n<16:=Nat.mod_lt _ (by decide)
def asO:(tG λa=>tG λb=>kW (Int.ofNat a) (Int.ofNat b)==some (Int.ofNat (gm a b)))=true:=by kernel_rfl
def asP:((List.range 31).all λn=>KH 2 (Int.ofNat n)==some (Int.ofNat (pw n)))=true:=by kernel_rfl
def agt:(tG λa=>tG λb=>decide (bits .xor .i64 (Int.ofNat a) (Int.ofNat b)=Int.ofNat (a ^^^ b))&&Nat.blt (a ^^^ b) 16)=true:=by kernel_rfl
def asQ:(tG λa=>Nat.beq (gm a 1) a&&Nat.beq (gm 0 a) 0)=true:=by kernel_rfl
def asR:(tG λC=>tG λs1=>tG λs2=>
  (λy z=>(λx=>Nat.beq (gm x 1 ^^^ (gm y 1 ^^^ (gm z 1 ^^^ C))) 0&&Nat.beq (gm x 1 ^^^ (gm y 2 ^^^ (gm z 4 ^^^ s1))) 0&&Nat.beq (gm x 1 ^^^ (gm y 4 ^^^ (gm z 3 ^^^ s2))) 0) (C ^^^ y ^^^ z))
   (gm (gm 2 (C ^^^ s1) ^^^ gm 5 (C ^^^ s2)) 13) (gm (gm 3 (C ^^^ s2) ^^^ gm 5 (C ^^^ s1)) 13))=true:=by kernel_rfl
def asT:Ej 4=some 13:=by kernel_rfl
def EM{a b:Nat}(C:a<16)(hb:b<16):kW (a:Int) (b:Int)=some (gm a b:Int):=by
 have h:=pn (pn asO C) hb;exact eq_of_beq h
def asU{n:Nat}(h:n<31):KH 2 (n:Int)=some (pw n:Int):=eq_of_beq (cm.1 asP n (gq.2 h))
def zc{a b:Nat}(C:a<16)(hb:b<16):bits .xor .i64 (a:Int) (b:Int)=((a ^^^ b:Nat):Int):=by
 have h:=pn (pn agt C) hb;simp_all
def pq{a b:Nat}(C:a<16)(hb:b<16):a ^^^ b<16:=by
 have h:=pn (pn agt C) hb;simp_all
def asW{a:Nat}(C:a<16):gm 0 a=0:=by
 have h:=pn asQ C;rw[aH]at h;exact c8 h.2
abbrev cx (w:aa Nat):aa Int:=w.map λ(n:Nat)=>(n:Int)
def jE(w:aa Nat):Prop:=∀x∈w,x<16
def vQ(w:aa Nat):(cx w).length=w.length:=by simp[cx]
def QS{w:aa Nat}{k:Nat}(h:k<(cx w).length):(cx w)[k]=((w.getD k 0:Nat):Int):=by grind
def jE.get{w:aa Nat}(h:jE w)(k:Nat):w.getD k 0<16:=by
 by_cases C:k<w.length
 ·simp[cQ,bL C];exact h _ (cX C)
 ·simp_all
def XM{w:aa Nat}(E:jE w)(hl:w.length<1000)(n:Int):yY (cx w) n=some ((w.length:Int)==n):=by
 unfold yY dI;have e:=Hz (step:=Cp) (λi=>((cx w,n,cx w,((cx w).length),i,()),())) (z:=.inr (.inl ((cx w,n,()),()))) w.length 0 bC (λk _ C=>?_) ?_ (by unfold bC;omega)
 ·simp_all
 ·have C:k<(cx w).length:=by rw[vQ];omega
  unfold Cp aM bU xG xI;dsimp only;have I:decide ((k:Int)<((cx w).length:Int))=true:=bf;have D:0 <= (k:Int)/\(k:Int).toNat<(cx w).length:=⟨by omega,by simpa using C⟩
  rw[I,av,aP D];have O:(cx w)[(k:Int).toNat]'D.2=((w.getD k 0:Nat):Int):=QS C;rw[O];have:=E.get k;unfold vI;rw[XL (by omega) (by omega),az,az,EK];rfl
 ·unfold Cp aM bU xG xI;simp_all
def eX(w:aa Nat)(j:Nat):Nat->Nat
 |0=>0
 |i+1=>eX w j i ^^^ gm (w.getD i 0) (pw (i*j))
def A1(w:aa Nat)(j:Nat):∀ i,eX w j i<16
 |0=>Nat.zero_lt_succ _
 |i+1=>pq (A1 w j i) (jd _ _)
def asX{w:aa Nat}(O:jE w)(hl:w.length=11)(j:Nat)(hj:j<3)(a b:Int)(o:aa Int)(T:j<o.length)(U:o.set j 0=o):
  iter Ei bC ((cx w,(),(j:Int),a,b,cx w,((cx w).length:Int),(0:Int),()),(o,()))=some (.inl ((cx w,(),a,b,()),(o.set j (eX w j 11:Int),()))):=by
 have e:=Hz (step:=Ei) (λi=>((cx w,(),(j:Int),a,b,cx w,((cx w).length:Int),(i:Int),()),(o.set j (eX w j i:Int),()))) (z:=.inl ((cx w,(),a,b,()),(o.set j (eX w j 11:Int),()))) 11 0 bC (λk _ D=>?_) ?_ (by unfold bC;omega)
 ·have e:iter Ei bC ((cx w,(),(j:Int),a,b,cx w,((cx w).length:Int),(0:Int),()),(o.set j 0,()))=_:=e;rw[U]at e;exact e
 ·have D:k<(cx w).length:=by rw[vQ];omega
  unfold Ei aM xG xI xL;dsimp only;have E:decide ((k:Int)<((cx w).length:Int))=true:=bf;have I:0<=(k:Int)/\(k:Int).toNat<(cx w).length:=⟨by omega,by simpa using D⟩
  have C:0<=(j:Int)/\(j:Int).toNat<(o.set j (eX w j k:Int)).length:=⟨by omega,by simpa using T⟩
  have Y:(cx w)[(k:Int).toNat]'I.2=((w.getD k 0:Nat):Int):=QS D;have Z:(o.set j (eX w j k:Int))[(j:Int).toNat]'C.2=(eX w j k:Int):=List.getElem_set_self _;rw[E,av,aP I,aP C,aP C.2,Y,Z];have hkj:k*j<=20:=Nat.le_trans (Nat.mul_le_mul (show k<=10 by omega) (show j<=2 by omega)) (by decide);have c6:W6 ((k:Int)*(j:Int))=((k*j:Nat):Int):=by
   rw[<-Int.natCast_mul,bh]
  rw[c6,asU (by omega),az,EM (O.get k) (ags _),az,aP C,aP C.2,zc (A1 _ _ _) (jd _ _),EK];have c7:(o.set j (eX w j k:Int)).set (j:Int).toNat ((eX w j k ^^^ gm (w.getD k 0) (pw (k*j)):Nat):Int)=o.set j (eX w j (k+1):Int):=List.set_set ..;rw[c7]
 ·unfold Ei aM xG xI xL;dsimp only;have E:decide (((0+11:Nat):Int)<((cx w).length:Int))=false:=bz (by rw[vQ];omega);rw[E,ax]
def vR(w:aa Nat):Nat->aa Int
 |0=>[0,0,0]
 |1=>[(eX w 0 11:Int),0,0]
 |2=>[(eX w 0 11:Int),(eX w 1 11:Int),0]
 |_=>[(eX w 0 11:Int),(eX w 1 11:Int),(eX w 2 11:Int)]
def XN{w:aa Nat}(D:jE w)(hl:w.length=11):Cq (cx w)=some [(eX w 0 11:Int),(eX w 1 11:Int),(eX w 2 11:Int)]:=by
 unfold Cq bZ;have c0:((w.length:Int)==(11:Int))=true:=by rw[hl];rfl
 rw[XM D (by omega),c0,az];have e:=Hz (step:=GI) (λj=>((cx w,(),(3:Int),(j:Int),()),(vR w j,()))) (z:=.inl (((),()),(vR w 3,()))) 3 0 bC (λk _ I=>?_) ?_ (by unfold bC;omega)
 ·have e:iter GI bC ((cx w,(),((List.replicate (3:Int).toNat (0:Int)).length:Int),(0:Int),()),(List.replicate (3:Int).toNat (0:Int),()))=_:=e;rw[show (!true)=false from rfl,ax,aV (by decide),e];rfl
 ·unfold GI aM xG bZ;dsimp only;have E:decide ((k:Int)<(3:Int))=true:=bf;have C:vR w k=(vR w k).set k 0/\k<(vR w k).length/\(vR w k).set k (eX w k 11:Int)=vR w (k+1):=by
   have:k=0\/k=1\/k=2:=by omega
   rcases this with rfl|rfl|rfl
   ·exact⟨rfl,by simp[vR],rfl⟩
   ·exact⟨rfl,by simp[vR],rfl⟩
   ·exact⟨rfl,by simp[vR],rfl⟩
  rw[E,av,asX D hl k (by omega) (3:Int) (k:Int) (vR w k) C.2.1 C.1.symm,C.2.2];show some (Sum.inl ((cx w,(),(3:Int),W6 ((k:Int)+1),()),(vR w (k+1),())))=_;rw[EK]
 ·unfold GI aM xG bZ;dsimp only;rfl
def asY{w:aa Nat}(C:jE w)(hl:w.length=11):PR (cx w)=some (Nat.beq (eX w 0 11) 0&&(Nat.beq (eX w 1 11) 0&&Nat.beq (eX w 2 11) 0)):=by
 unfold PR xL;rw[XN C hl,az];generalize eX w 0 11=a;generalize eX w 1 11=b;generalize eX w 2 11=c;have q:∀ n:Nat,((n:Int)==(0:Int))=Nat.beq n 0:=by
  intro n;cases n with
  |zero=>rfl
  |succ n=>rfl
 show (bif ((a:Int)==(0:Int))then (bif ((b:Int)==(0:Int))then some ((c:Int)==(0:Int))else some false)else some false)=_
 grind
def asZ(C a1 a2:Nat)(D:C<16)(E:a1<16)(I:a2<16):
  (λy z=>(λx=>(gm x 1 ^^^ (gm y 1 ^^^ (gm z 1 ^^^ C)))=0/\(gm x 1 ^^^ (gm y 2 ^^^ (gm z 4 ^^^ a1)))=0/\(gm x 1 ^^^ (gm y 4 ^^^ (gm z 3 ^^^ a2)))=0) (C ^^^ y ^^^ z))
   (gm (gm 2 (C ^^^ a1) ^^^ gm 5 (C ^^^ a2)) 13) (gm (gm 3 (C ^^^ a2) ^^^ gm 5 (C ^^^ a1)) 13):=by
 have h:=pn (pn (pn asR D) E) I;simp_all
def as0{d:aa Nat}(O:jE d)(hl:d.length=8):∃ w,KI (cx d)=some (cx w)/\w.length=11/\jE w/\w.drop 3=d/\eX w 0 11=0/\eX w 1 11=0/\eX w 2 11=0:=by
 have U:jE (0 :: 0 :: 0 :: d):=by
  intro x hx;simp only[ig]at hx;rcases hx with rfl|rfl|rfl|hx
  ·decide
  ·decide
  ·decide
  ·exact O x hx
 have key:∀ j x y z,j<3->x<16->y<16->z<16->eX (x :: y :: z :: d) j 11=gm x (pw (0*j)) ^^^ (gm y (pw (1*j)) ^^^ (gm z (pw (2*j)) ^^^ eX (0 :: 0 :: 0 :: d) j 11)):=by
  intro j x y z hj hx hy U;simp only[eX,List.getD_cons_zero,List.getD_cons_succ,Nat.xor_assoc,Nat.zero_xor,asW (ags _)]
 have e0:∀ C a1 a2:Nat,C<16->a1<16->a2<16->Cq (cx (0 :: 0 :: 0 :: d))=some [(C:Int),(a1:Int),(a2:Int)]->
   KI (cx d)=some (cx ((C ^^^ gm (gm 2 (C ^^^ a1) ^^^ gm 5 (C ^^^ a2)) 13 ^^^ gm (gm 3 (C ^^^ a2) ^^^ gm 5 (C ^^^ a1)) 13)::gm (gm 2 (C ^^^ a1) ^^^ gm 5 (C ^^^ a2)) 13::gm (gm 3 (C ^^^ a2) ^^^ gm 5 (C ^^^ a1)) 13::d)):=by
  intro C a1 a2 D E I hs;unfold KI xL;have c0:((d.length:Int)==(8:Int))=true:=by rw[hl];rfl
  have c1:cB ((List.replicate (3:Int).toNat (0:Int)).length+(cx d).length)=true:=by
   rw[vQ,hl];rfl
  rw[XM O (by omega),az,c0,show (!true)=false from rfl,ax,aV (by decide),c1,av];have T:Cq (List.replicate (3:Int).toNat (0:Int)++cx d)=some [(C:Int),(a1:Int),(a2:Int)]:=hs;rw[T,az];show (Ej (4:Int)).bind (λY=>(kW (2:Int) (bits .xor .i64 (C:Int) (a1:Int))).bind λtD=>(kW (5:Int) (bits .xor .i64 (C:Int) (a2:Int))).bind λuG=>(kW (bits .xor .i64 tD uG) Y).bind λZ=>(kW (3:Int) (bits .xor .i64 (C:Int) (a2:Int))).bind λo9=>(kW (5:Int) (bits .xor .i64 (C:Int) (a1:Int))).bind λxJ=>(kW (bits .xor .i64 o9 xJ) Y).bind λCr=>some (bits .xor .i64 (bits .xor .i64 (C:Int) Z) Cr::Z::Cr::cx d))=_;have m2:∀b:Nat,b<16->kW (2:Int) (b:Int)=some (gm 2 b:Int):=λb hb=>EM (a:=2) (by decide) hb
  have m3:∀b:Nat,b<16->kW (3:Int) (b:Int)=some (gm 3 b:Int):=λb hb=>EM (a:=3) (by decide) hb
  have m5:∀b:Nat,b<16->kW (5:Int) (b:Int)=some (gm 5 b:Int):=λb hb=>EM (a:=5) (by decide) hb
  have m13:∀b:Nat,b<16->kW (b:Int) (13:Int)=some (gm b 13:Int):=λb hb=>EM (b:=13) hb (by decide)
  rw[asT,az,zc D E,zc D I,m2 _ (pq D E),az,m5 _ (pq D I),az,zc (jd _ _) (jd _ _),m13 _ (pq (jd _ _) (jd _ _)),az,m3 _ (pq D I),az,m5 _ (pq D E),az,zc (jd _ _) (jd _ _),m13 _ (pq (jd _ _) (jd _ _)),az,zc D (jd _ _),zc (pq D (jd _ _)) (jd _ _)];rfl
 have D:=A1 (0::0::0::d) 0 11;have E:=A1 (0::0::0::d) 1 11;have I:=A1 (0::0::0::d) 2 11;have T:=e0 _ _ _ D E I (XN U (by simp[hl]));have f:=asZ _ _ _ D E I;dsimp only at f;refine⟨_,T,by simp[hl],?_,rfl,?_,?_,?_⟩
 ·intro x hx;simp only[ig]at hx;rcases hx with rfl | rfl | rfl | hx
  ·exact pq (pq D (jd _ _)) (jd _ _)
  ·exact jd _ _
  ·exact jd _ _
  ·exact O x hx
 ·rw[key 0 _ _ _ (by decide) (pq (pq D (jd _ _)) (jd _ _)) (jd _ _) (jd _ _)];exact f.1
 ·rw[key 1 _ _ _ (by decide) (pq (pq D (jd _ _)) (jd _ _)) (jd _ _) (jd _ _)];exact f.2.1
 ·rw[key 2 _ _ _ (by decide) (pq (pq D (jd _ _)) (jd _ _)) (jd _ _) (jd _ _)];exact f.2.2
def jE.set{w:aa Nat}(h:jE w){k v:Nat}(D:v<16):jE (w.set k v):=by
 intro x C;rcases List.mem_or_eq_of_mem_set C with C|rfl
 ·exact h x C
 ·exact D
def ivT:Nat:=9460475325918865680
def iv(a:Nat):Nat:=(ivT / 2 ^ (4*a)) % 16
def as1(a:Nat):iv a<16:=Nat.mod_lt _ (by decide)
def as2:(tG λa=>Nat.beq a 0 ||Ej (Int.ofNat a)==some (Int.ofNat (iv a)))=true:=by kernel_rfl
def byL:aa Nat:=[8,14,7,1]
def byG(k:Nat):Nat:=byL.getD k 0
def XO(r:aa Nat)(m f:Nat):Nat->aa Nat
 |0=>r
 |k+1=>(XO r m f k).set (m+k) ((XO r m f k).getD (m+k) 0 ^^^ gm (byG k) f)
def as3(w:aa Nat)(k v:Nat):(cx w).set k (v:Int)=cx (w.set k v):=(List.map_set ..).symm
def out(r:aa Nat):Nat->aa Nat
 |0=>r
 |t+1=>XO (out r t) (7-t) ((out r t).getD (10-t) 0) 4
def EN(s:Int):Bool:=aT s 0 15
def zd(l:aa Int)(n:Int):Bool:=l.all EN&&decide ((l.length:Int)=n)
def agu(l:aa Int)(n:Int)(hl:l.length<1073741824):yY l n=some (zd l n):=by
 unfold yY zd dI;have e:=og (step:=Cp) l EN (λi=>((l,n,l,l.length,i,()),())) _ (.inr (.inl ((l,n,()),()))) bC (λk h=>by
  unfold Cp vI aM bU xG xI;simp (disch:=omega) [h,cC,cP,EN];cases aT l[k] 0 15<;>rfl) (by unfold Cp aM bU xG xI;simp) (cM hl)
 rw[eM]at e;rw[e];cases l.all EN<;>simp;rfl
def Sy(l:aa Int):Prop:=l.length=11/\∀s∈l,0<=s/\s<=15
def Sy.ok{l:aa Int}(h:Sy l):zd l 11=true:=by
 simp[zd,aH,cm,EN,bu];exact⟨λx C=>h.2 x C,by rw[h.1];rfl⟩
def Sy.of{l:aa Int}(h:zd l 11=true):Sy l:=by
 simp[zd,aH,cm,ij,EN,bu]at h;exact⟨by omega,h.1⟩
def XP{a b:Int}(E:0 <= a/\a <= 15)(hb:0 <= b/\b <= 15):0 <= bits .xor .i64 a b/\bits .xor .i64 a b <= 15/\bits .xor .i64 (bits .xor .i64 a b) b=a:=by
 obtain⟨x,rfl⟩:=dN E.1;obtain⟨y,rfl⟩:=dN hb.1;have D:x<16:=by omega
 have C:y<16:=by omega
 have:=pq D C;rw[zc D C];rw[zc this C]
 grind
def Sy.set{l:aa Int}(h:Sy l){k:Nat}{v:Int}(D:0<=v/\v<=15):Sy (l.set k v):=by
 refine⟨by simp[h.1],λs C=>?_⟩
 rcases List.mem_or_eq_of_mem_set C with C|rfl
 ·exact h.2 s C
 ·exact D
def Sy.get{l:aa Int}(h:Sy l){k:Nat}(C:k<l.length):0<=l[k]/\l[k]<=15:=h.2 _ (cX C)
structure fH (g:aK) (B:Int) (a:c9):Prop where
 cells:(a.cells.length:Int)=ck g
 syms:∀c∈a.cells,Sy c.symbols
 bx:(a.bx.length:Int)=iB g
 bg:(a.bg.length:Int)=iB g
 HA:∀x∈a.bx,0<=x/\x<=B
 hit:∀x∈a.bg,0<=x/\x<=100000
def agv(c:cw)(h:c.symbols.length<1073741824):KN c=some c:=by
 unfold KN xA xZ;simp[cB,h]
def agw(a:c9)(T:a.cells.length<1073741823)(C:a.bx.length<1073741824)(D:a.bg.length<1073741824)(E:∀ c∈a.cells,c.symbols.length<1073741824):El a=some a:=by
 unfold El xA bZ xZ;have e:=gf (step:=KO) a.cells.length (λi=>(((),(),a.cells,(a.cells.length:Int),(i:Int),()),(((),(),(),()),((),(),(),()),([]:aa cw),([]:aa Int),([]:aa Int),a.cells.take i,(([]:aa Int)++a.bx),(([]:aa Int)++a.bg),())))
  (.inl (((),(),()),(((),(),(),()),((),(),(),()),([]:aa cw),([]:aa Int),([]:aa Int),a.cells,(([]:aa Int)++a.bx),(([]:aa Int)++a.bg),()))) bC (λk h=>by
  unfold KO aM xG xI;have I:min k a.cells.length=k:=by omega
  have O:cB (k+1)=true:=fR;simp (disch:=omega) [h,cC,agv _ (E _ (cX h)),I,O]) (by unfold KO aM xG xI;simp) (cM)
 rw[eM,List.take_zero]at e;rw[e];simp[cB,C,D]
def fH.lens{g:aK}{B:Int}{a:c9}(h:fH g B a):a.cells.length<1073741823/\a.bx.length<1073741824/\a.bg.length<1073741824/\∀ c∈a.cells,c.symbols.length<1073741824:=by
 have D:=h.cells;have E:=h.bx;have I:=h.bg;have O:=rz g;have T:=xK g;exact⟨by omega,by omega,by omega,λc C=>by rw[(h.syms c C).1];omega⟩
def fH.copy{g:aK}{B:Int}{a:c9}(h:fH g B a):El a=some a:=
 let ⟨C,D,E,I⟩:=h.lens;agw a C D E I
def L1(c:cw):Bool:=zd c.symbols 11
def A3(p:Int×Int):Bool:=aT p.1 0 100000&&aT p.2 0 100000
def pz(g:aK)(a:c9):Bool:=cJ g&&(decide ((a.cells.length:Int)=ck g)&&(decide ((a.bx.length:Int)=iB g)&&(decide ((a.bg.length:Int)=iB g)&&(a.cells.all L1&&(a.bx.zip a.bg).all A3))))
def agx(g:aK)(a:c9)(I:∀ c∈a.cells,c.symbols.length<1073741824):En g a=some (pz g a):=by
 unfold En pz dI;rw[l6,az,vO,az,CB];cases O:cJ g with
 |false=>rfl
 | true=>
  have Y:=rz g;have Z:=xK g;have er:aE g*g.rows=iB g:=by simp[iB,O]
  simp only[bI,ax,az,dn,er];rw[bh];by_cases C:(a.cells.length:Int)=ck g
  ·by_cases D:(a.bx.length:Int)=iB g
   ·by_cases E:(a.bg.length:Int)=iB g
    ·have hl:a.bx.length=a.bg.length:=by omega
     have l1:=og (step:=KT) a.cells L1 (λi=>(((),a.cells,(a.cells.length:Int),(i:Int),()),((a.cells,a.bx,a.bg,()),()))) (.inl ((false,()),())) (.inr (.inl (((),()),((a.cells,a.bx,a.bg,()),())))) bC (λk h=>by
      unfold KT aM bU xG xI;simp (disch:=omega) [h,cC,agu _ 11 (I _ (cX h)),L1];cases zd a.cells[k].symbols 11<;>rfl) (by unfold KT aM bU xG xI;simp) (cM)
     have l2:=og (step:=KU) (a.bx.zip a.bg) A3 (λi=>(((),(a.bx.length:Int),(i:Int),()),((a.cells,a.bx,a.bg,()),()))) (.inl ((false,()),())) (.inr (.inl ((),()))) bC (λk h=>by
      have T:k<a.bx.length:=by simp at h;omega
      have U:k<a.bg.length:=by omega
      unfold KU aM bU xG xI;simp (disch:=omega) [T,U,cC,cP,A3];cases aT a.bx[k] 0 100000<;>cases aT a.bg[k] 0 100000<;>rfl) (by unfold KU aM bU xG xI;simp[hl]) (cM (by simp;omega))
     rw[eM]at l1 l2;simp only[C,D,E,bne_self_eq_false,ax,decide_true,dn];rw[<-C,l1];cases h1:a.cells.all L1 with
     |false=>simp
     | true=>
      simp only[av,Option.bind_some,Sum.elim_inr,iJ];rw[l2];cases (a.bx.zip a.bg).all A3<;>simp
    ·simp[C,D,iW E,E]
   ·simp[C,iW D,D]
  ·simp[iW C,C]
def fH.ok{g:aK}{B:Int}{a:c9}(h:fH g B a)(E:cJ g=true)(hB:B <= 100000):En g a=some true:=by
 rw[agx g a (λc C=>by rw[(h.syms c C).1];omega)];have I:=h.cells;have O:=h.bx;have T:=h.bg;have U:a.cells.all L1=true:=cm.2 λc C=>(h.syms c C).ok
 have Y:(a.bx.zip _).all A3=true:=cm.2 λp Z=>by
  obtain⟨x,y⟩:=p;have D:=List.of_mem_zip Z;have a1:=h.HA x D.1;have a2:=h.hit y D.2;simp[A3,aH,bu];omega
 simp[pz,E,I,O,T,U,Y]
def QT{b:aa Int}{c:bH}(C:l8 b c)(l:aa Int)(hl:0<l.length):Dr b (Cn c l) λx=>x∈l:=by
 unfold Cn xI;rw[C.eq]
 refine(gw C _).bind λI O E D=>?_
 rw[aP ⟨E.1,by dsimp only;omega⟩];rw[D.eta];exact Dr.pure D (cX _)
def QU{b:aa Int}{c:bH}(C:l8 b c)(n:Int):Dr b (Ee c n) λ_=>True:=by
 unfold Ee;rw[C.eq]
 refine(gw C _).bind λE I O D=>?_
 rw[D.eta];exact Dr.pure D trivial
def uI(g:aK):(⟨g.cN,g.aO,g.rows,g.aW⟩:aK)=g:=rfl
def as4{b:aa Int}{c:bH}(D:l8 b c){g:aK}(C:cJ g=true):Dr b (O2 c g) λa=>ef g a=true:=by
 have Z:=EH C;have⟨_,_,_,_,g5,g6,g7,g8⟩:=gV C;unfold O2;rw[XK,az,D.eq]
 refine(gw D _).bind λx1 k1 E I=>?_
 dsimp only;rw[I.eta]
 refine(gw I _).bind λx2 k2 O T=>?_
 dsimp only;rw[T.eta]
 refine(gw T _).bind λx3 k3 U Y=>?_
 dsimp only;rw[Y.eta];exact Dr.pure Y (xN C E.1 (E.2.2 (by omega)) O.1 (O.2.2 (by omega)) U.1 (U.2.2 (by omega)))
def qA(n x:Int):Int:=if 100000<x+n then 100000 else x+n
def agy(l:aa Int)(h:∀ s∈l,0 <= s/\s <= 15):cx (l.map Int.toNat)=l/\jE (l.map Int.toNat):=by
 constructor
 ·induction l with
  |nil=>rfl
  | cons x l C=>
   have D:=h x (.head _);have:=C λs E=>h s (.tail _ E)
   grind
 ·intro x D
  grind
def agz{w:aa Nat}(D:jE w)(hl:w.length=11):Sy (cx w):=by
 refine⟨by rw[vQ,hl],λs C=>?_⟩
 simp at C;obtain⟨x,E,rfl⟩:=C;have:=D x E;omega
def Sy.mem{l:aa cw}(h:∀c∈l,Sy c.symbols){k:Nat}(C:k<l.length):Sy l[k].symbols:=h _ (cX C)
def Sy.bK{l:aa cw}(h:∀c∈l,Sy c.symbols){k:Nat}{d:cw}(C:Sy d.symbols):∀c∈l.set k d,Sy c.symbols:=by grind
def QV{l:aa Int}{B C:Int}(h:∀x∈l,B <= x/\x <= C){k:Nat}{v:Int}(D:B <= v/\v <= C):∀x∈l.set k v,B <= x/\x <= C:=by grind
def CC(l:lN)(a:c9)(i:Nat):Bool:=decide (a.bx.getD i 0 > l.bx) ||decide (a.bg.getD i 0 > l.bg)
def as5{l:aa Int}{B C:Int}(h:∀ x∈l,B<=x/\x<=C)(k:Nat)(D:B<=0/\0<=C):B<=l.getD k 0/\l.getD k 0<=C:=by
 rw[cQ];cases E:l[k]? with
 |none=>exact D
 |some x=>exact h x (iR E)
def agA{x:Int}(h:0<=x/\x<=100000){n:Int}(C:0<=n):0<=qA n x/\qA n x<=100000:=by
 unfold qA;split<;>omega
def rA(k:Nat)(h:aa Int):aa Int:=h.set k (qA 1 (h.getD k 0))
def XQ(k:Nat)(h:aa Int):(rA k h).length=h.length:=by simp[rA]
def XR{k:Nat}{h:aa Int}(hb:∀ x∈h,0<=x/\x<=100000):∀ x∈rA k h,0<=x/\x<=100000:=
 QV hb (agA (as5 hb k ⟨by omega,by omega⟩) (by omega))
def as6{k:Nat}{h:aa Int}(C:k<h.length):rA k h=h.set k (qA 1 h[k]):=by
 unfold rA;rw[cQ,bL C];rfl
def ze(row:Int)(i:Nat)(h:aa Int):aa Int:=bif decide (0<row)then rA (i-1) (h.set i 0)else h.set i 0
def rB(R row:Int)(i:Nat)(h:aa Int):aa Int:=bif decide (row<R-1)then rA (i+1) (ze row i h)else ze row i h
def as7(row:Int)(i:Nat)(h:aa Int):(ze row i h).length=h.length:=by
 unfold ze;cases decide (0<row)<;>simp[XQ]
def as8(R row:Int)(i:Nat)(h:aa Int):(rB R row i h).length=h.length:=by
 unfold rB;cases decide (row<R-1)<;>simp[XQ,as7]
def as9{row:Int}{i:Nat}{h:aa Int}(hb:∀ x∈h,0<=x/\x<=100000):∀ x∈ze row i h,0<=x/\x<=100000:=by
 have C:=QV hb (k:=i) (v:=0) ⟨by omega,by omega⟩;unfold ze;cases decide (0<row)
 ·exact C
 ·exact XR C
def ata{R row:Int}{i:Nat}{h:aa Int}(hb:∀ x∈h,0<=x/\x<=100000):∀ x∈rB R row i h,0<=x/\x<=100000:=by
 have C:=as9 (row:=row) (i:=i) hb;unfold rB;cases decide (row<R-1)
 ·exact C
 ·exact XR C
def uJ(t:dw):aa Int:=[t.uV,t.rp,t.lM,t.wu,t.sV,t.nR,t.wz,t.wA,t.qN,t.wr,t.wC,t.wD,t.zF,t.yl,t.ym,t.xp,t.xs]
def HB(x:Int):Bool:=aT x 1 64
def nG(t:dw):Bool:=(uJ t).all HB&&(decide (t.uV<=t.lM)&&(decide (t.wu<=t.sV)&&(decide (t.wz<=t.wA)&&decide (t.wC<=t.wD))))
def QW(t:dw):GD t=some (nG t):=by
 unfold GD nG dI;change (iter GC bC (((),(),((uJ t).length:Int),(0:Int),()),(t,uJ t,()))).bind _=_;have C:(uJ t).length=17:=rfl;generalize uJ t=l at *
 have e:=og (step:=GC) l HB (λi=>(((),(),(l.length:Int),(i:Int),()),(t,l,()))) _ (.inr (.inl (((),()),(t,())))) bC (λk h=>by
  unfold GC aM bU xG xL;simp (disch:=omega) [h,cC,cP,HB];cases aT l[k] 1 64<;>rfl) (by unfold GC aM bU xG xL;simp) (cM)
 rw[eM]at e;rw[e];cases l.all HB<;>simp
 grind
def atb(t:dw):∃ y,Ef t=some y:=by
 unfold Ef;rw[QW];cases nG t<;>exact⟨_,rfl⟩
def agB(R i:Nat):Int:=((i % R:Nat):Int)
def uK(n R:Nat):aa Int:=(List.range n).map (agB R)
def agC(n R:Nat):(uK n R).length=n:=by simp[uK]
def qB(g:aK)(n:Int):Bool:=cJ g&&(aT n 0 2&&decide (2<=g.rows-n))
def zf(g:aK)(n:Int):gv×Bool:=bif qB g n then (⟨n,uK ((aE g).toNat*(g.rows-n).toNat) (g.rows-n).toNat⟩,true)else (⟨0,[]⟩,false)
def agD{g:aK}{n:Int}(h:qB g n=true):cJ g=true/\0 <= n/\n <= 2/\2 <= g.rows-n/\g.rows <= 16:=by
 simp[qB,aH,bu,ij]at h;have⟨C,⟨D,E⟩,I⟩:=h;have:=gV C;simp_all
def atc(b R:Nat)(hR:0<R)(j:Nat)(C:j <= R):uK (b*R+j) R=uK (b*R) R++(List.range j).map (λi:Nat=>(i:Int)):=by
 unfold uK;rw[List.range_add,mZ,List.map_map];congr 1
 refine rP λi hi=>?_
 have hi:=gq.1 hi;simp only[Function.comp,agB];rw[Nat.mul_comm,Nat.mul_add_mod,Nat.mod_eq_of_lt (by omega)]
def XS(g:aK)(n:Int):GB g n=some (zf g n):=by
 unfold GB zf bZ;rw[vO,az];cases C:cJ g with
 |false=>simp[qB,C]
 | true=>
  simp only[bI,ax,cP,az];cases D:aT n 0 2 with
  |false=>simp[qB,D]
  | true=>
   have Z:=bu.1 D;have gb:=gV C;simp only[bI,ax];rw[bh];by_cases I:g.rows-n<2
   ·have:decide (2<=g.rows-n)=false:=bz;rw[bf I,av];simp[qB,this]
   ·have T:qB g n=true:=by simp[qB,C,D];omega
    rw[bz I,ax,T,av];have U:=dZ g;obtain⟨E,hb⟩:=dN U.1;obtain⟨R,hR⟩:=dN (show 0<=g.rows-n by omega);have O:W6 (g.rows-n)=(R:Int):=by rw[hR];exact bh
    have inner:∀ b:Nat,b<E->iter GA bC ((n,(),(),(),(b:Int),(0:Int),()),((g.cN,g.aO,g.rows,g.aW,()),((0:Int),(),()),(n,(),()),([]:aa Int),uK (b*R) R,()))=some (.inl ((n,(),(),(),(b:Int),()),((g.cN,g.aO,g.rows,g.aW,()),((0:Int),(),()),(n,(),()),([]:aa Int),uK ((b+1)*R) R,()))):=by
     intro b L2;have hm:b*R<=8*16:=Nat.mul_le_mul (by omega) (by omega);have e:=gf (step:=GA) R (λj=>((n,(),(),(),(b:Int),(j:Int),()),((g.cN,g.aO,g.rows,g.aW,()),((0:Int),(),()),(n,(),()),([]:aa Int),uK (b*R) R++(List.range j).map (λi:Nat=>(i:Int)),())))
      (.inl ((n,(),(),(),(b:Int),()),((g.cN,g.aO,g.rows,g.aW,()),((0:Int),(),()),(n,(),()),([]:aa Int),uK (b*R) R++(List.range R).map (λi:Nat=>(i:Int)),()))) bC (λk h=>by
      unfold GA aM xG;have Y:cB ((uK (b*R) R++(List.range k).map (λi:Nat=>(i:Int))).length+1)=true:=fR (by simp[agC];omega);dsimp only;rw[O,bf,av];simp only[List.length_cons,List.length_nil,gy];rw[Y,av,cC,List.range_succ,mZ,List.append_assoc];rfl) (by
      unfold GA aM xG;dsimp only;rw[O,bz,ax]) (cM)
     rw[eM,List.range_zero,List.map_nil,List.append_nil]at e;rw[e,<-atc b R (by omega) R (dg _),jv]
    have e:=gf (step:=Kx) E (λi=>((n,(),(),(),(i:Int),()),((g.cN,g.aO,g.rows,g.aW,()),((0:Int),(),()),(n,(),()),([]:aa Int),uK (i*R) R,())))
     (.inl (((),(),()),(((0:Int),(),()),(n,(),()),([]:aa Int),uK (E*R) R,()))) bC (λk h=>by
     unfold Kx aM xG bZ;dsimp only;rw[uI,l6,az,hb,bf,av]
     refine(bE (λo=>Option.bind o _) (inner k h)).trans ?_
     rw[az];simp only[iJ];rw[cC]) (by
     unfold Kx aM xG bZ;dsimp only;rw[uI,l6,az,hb,bz,ax]) (cM)
    rw[eM,Nat.zero_mul]at e
    refine(bE (λo=>Option.bind o _) e).trans ?_
    rw[hb,hR];rfl
def HC(t:dw):Int:=(Ef t).getD 0
def agE(t:dw):Ef t=some (HC t):=by
 obtain⟨y,e⟩:=atb t;unfold HC;rw[e];rfl
def agF(m:rQ):Ky m=some (aT m.order 0 2):=by
 unfold Ky;rw[cP];rfl
def tH(c:fB):Bool:=cJ c.aq&&(nG c.bP&&(aT c.mapping.order 0 2&&(qB c.aq c.cc&&(aT c.interval (HC c.bP) 10000&&(aT c.jj 1 16&&(aT c.dX.bx (W6 ((6:Int)*c.interval)) 100000&&aT c.dX.bg 0 100000))))))
def agG(g:aK)(n:Int):(zf g n).2=qB g n:=by
 unfold zf;cases qB g n<;>rfl
def L3(c:fB):Pc c=some (tH c):=by
 unfold Pc tH;simp only[XS,vO,QW,agF,agE,cP,az,agG];cases cJ c.aq<;>cases nG c.bP<;>cases aT c.mapping.order 0 2<;>cases qB c.aq c.cc<;>cases aT c.interval (HC c.bP) 10000<;>cases aT c.jj 1 16<;>cases aT c.dX.bx (W6 ((6:Int)*c.interval)) 100000<;>rfl
def agH{c:fB}(h:tH c=true):cJ c.aq=true/\nG c.bP=true/\qB c.aq c.cc=true/\aT c.jj 1 16=true:=by
 simp[tH,aH]at h;simp_all
def atd{t:dw}(h:nG t=true):(1 <= t.lM/\t.lM <= 64)/\1 <= t.rp/\t.rp <= 64:=by
 simp[nG,aH,cm]at h;have C:=h.1 t.lM (by simp[uJ]);have D:=h.1 t.rp (by simp[uJ]);simp[HB,bu]at C D;simp_all
def sB(s:dz):Bool:=aT s.weight 1 9&&aT s.eS 0 s.weight
def ki(l:aa dz):Bool:=l.all sB&&aT (l.length:Int) 1 4
def HD(l:aa dz)(hl:l.length<1073741824):GF l=some (ki l):=by
 unfold GF ki dI;have e:=og (step:=Kz) l sB (λi=>((l,l,l.length,i,()),())) _ (.inr (.inl ((l,()),()))) bC (λk h=>by
  unfold Kz aM bU xG xI;simp (disch:=omega) [h,cC,cP,sB];cases aT l[k].weight 1 9<;>cases aT l[k].eS 0 l[k].weight<;>rfl) (by unfold Kz aM bU xG xI;simp) (cM hl)
 rw[eM]at e;rw[e];cases l.all sB<;>simp[cP]
def rC(w:Int):dz:=⟨w,w⟩
def EO(l:aa Int):aa dz×Bool:=bif ki (l.map rC)then (l.map rC,true)else ([],false)
def ate{l:aa Int}{k:Nat}(h:k<l.length):(l.take (k+1)).map rC=(l.take k).map rC++[⟨l[k],l[k]⟩]:=by
 rw[List.take_succ_eq_append_getElem h,mZ];rfl
def XT(l:aa Int)(hl:l.length<1073741823):AO l=some (EO l):=by
 unfold AO EO bZ;have e:=gf (step:=KA) l.length (λi=>(((),l,(l.length:Int),(i:Int),()),((l.take i).map rC,()))) _ bC (λk h=>by
  unfold KA aM xG xI;have C:cB (((l.take k).map rC).length+1)=true:=fR (by simp;omega);dsimp only;rw[bf,av,aP ⟨by omega,by omega⟩];simp only[List.length_cons,List.length_nil,gy,bD];rw[C,av,cC,ate h]) (by
  unfold KA aM xG xI;dsimp only;rw[bz,ax,qc]) (cM)
 refine(bE (λo=>Option.bind o _) e).trans ?_
 rw[az];simp only[iJ];rw[HD _ (by simp;omega),az]
 grind
def atf(l:aa Int):(EO l).2=ki (l.map rC):=by
 unfold EO;cases ki (l.map rC)<;>rfl
def tJ(d:m0):Bool:=decide (d.low >= 0)&&(decide (d.low<d.high)&&decide (d.high<=12))
def QX(d:m0):Eg d=some (tJ d):=by
 unfold Eg tJ
 grind
def HE(r:zG):Bool:=aT r.down 1 10000&&(decide (r.sleep > r.down)&&decide (r.sleep<=20000))
def agI(r:zG):KB r=some (HE r):=by
 unfold KB HE;rw[cP]
 grind
def vS(p:fA):Bool:=aT p.gA 0 1&&(aT p.cap 0 100000&&(aT p.dx 3 1000&&(tJ ⟨false,p.low,p.high⟩&&((p.weights.length:Int)==4&&(ki (p.weights.map rC)&&HE p.eT)))))
def atg(x:Int):aT x 0 1=(x==0 || x==1):=by
 rw[Bool.eq_iff_iff];simp[aT];omega
def EP(p:fA)(hl:p.weights.length<1073741823):GG p=some (vS p):=by
 unfold GG vS;simp[XT _ hl,az,cP,QX,agI,atf,atg]
 grind
def agJ(x:Int):∃ y,yX x=some y:=by
 unfold yX;rw[cP];cases aT x 3 1000<;>exact⟨_,rfl⟩
def XU(c:fB)(p:fA)(hl:p.weights.length<1073741823):∃ b,tE c p=some b/\(b=true->tH c=true):=by
 unfold tE;obtain⟨y,e⟩:=agJ p.dx;simp only[L3,EP _ hl,e,az];cases C:tH c with
 |false=>exact⟨false,rfl,λh=>by cases h⟩
 | true=>
  have E:=atd (agH C).2.1;have D:¬ W6 (c.bP.lM+c.bP.rp)=0:=by
   rw[bh];omega
  cases vS p with
  |false=>exact⟨false,rfl,λ_=>rfl⟩
  | true=>
   simp only[aX D,bI,ax,av];cases decide (W6 (y+2)<=c.dX.bg)<;>exact⟨_,rfl,λ_=>by first|rfl|trivial⟩
def agK(i:Nat)(l:aa ji):((opens i l).length==0)=l.all λb=>!b.open_:=by
 induction l generalizing i with
 |nil=>rfl
 | cons x a C=>
  simp[opens,List.all_cons]
  grind
def CD(g:aK)(b:ji):Bool:=aT b.row 0 (g.rows-1)&&(b.open_ ||b.row==0)
def om(g:aK)(r:cr):Bool:=cJ g&&(((r.aO.length:Int)==aE g)&&(aT r.aS 0 2&&(r.aO.all (CD g)&&(r.aS != 2 ||r.aO.all λb=>!b.open_))))
def agL(g:aK)(r:cr):KQ g r=some (om g r):=by
 unfold KQ om dI;rw[vO,az,l6];cases D:cJ g with
 |false=>rfl
 | true=>
  simp only[bI,ax,az,dn];by_cases C:(r.aO.length:Int)=aE g
  ·have I:=dZ g;have gb:=gV D;simp only[C,bne_self_eq_false,ax,gu,dn,cP,az];cases O:aT r.aS 0 2 with
   |false=>rfl
   | true=>
    have e:=og (step:=KP) r.aO (CD g) (λi=>(((),(),r.aO,(r.aO.length:Int),(i:Int),()),((g.cN,g.aO,g.rows,g.aW,()),(r.aO,r.aS,()),()))) (.inl ((false,()),())) (.inr (.inl (((),()),((r.aO,r.aS,()),())))) bC (λk h=>by
     unfold KP aM bU xG xI;dsimp only;rw[bf,av,aP ⟨by omega,by omega⟩];simp only[bD,cP,az];rw[bh (n:=g.rows-1),cC];unfold CD;cases aT r.aO[k].row 0 (g.rows-1)with
     |false=>rfl
     | true=>
      cases r.aO[k].open_ with
      |true=>rfl
      | false=>
       simp[bne];cases r.aO[k].row==0<;>rfl) (by
     unfold KP aM bU xG xI;dsimp only;rw[bz,ax]) (cM)
    rw[eM,C]at e;simp only[bI,ax,dn]
    refine(bE (λo=>Option.bind o _) e).trans ?_
    rw[az];cases r.aO.all (CD g)with
    |false=>rfl
    | true=>
     simp only[av,Sum.elim_inr,iJ,dn];cases T:r.aS != 2 with
     |true=>rfl
     | false=>
      simp;rw[QO ⟨r.aO,r.aS⟩ (by show r.aO.length<_;omega),az,<- agK 0 r.aO];congr 1
      grind
  ·have E:((r.aO.length:Int)==aE g)=false:=by simp[C]
   rw[iW C,E];rfl
def L4(d:Int):Bool:=aT d (-2) 5
def fS(r:eC):Bool:=r.aB.all L4&&(aT (r.aB.length:Int) 1 8&&aT r.wait 1 10000)
def HF(r:eC)(hl:r.aB.length<1073741824):AT r=some (fS r):=by
 unfold AT fS dI;have e:=og (step:=K1) _ L4 (λi=>(((),r.aB,r.aB.length,i,()),((r.aB,r.wait,r.bO,()),()))) _ (.inr (.inl (((),()),((r.aB,r.wait,r.bO,()),())))) bC (λk h=>by
  unfold K1 aM bU xG xI;simp (disch:=omega) [h,cC,cP,L4];cases aT r.aB[k] _ 5<;>rfl) (by unfold K1 aM bU xG xI;simp) (cM hl)
 rw[eM]at e;rw[e];cases r.aB.all L4<;>simp[cP]
 grind
def jP{T:Type}(p:T->Bool)(l:aa T):Int:=match l.findIdx? p with
 |some i=>(i:Int)
 |none=>-1
def HG{α β T:Type}{step:α -> ah (α⊕β)}(l:aa T)(p:T -> Bool)(S:Nat -> α)(D:Nat -> β)(z:β)(fuel:Nat)(E:∀ k (h:k<l.length),step (S k)=some (bif p l[k]then .inr (D k)else .inl (S (k+1))))(I:step (S l.length)=some (.inr z))(C:l.length<fuel):
  iter step fuel (S 0)=some (match l.findIdx? p with|some i=>D i|none=>z):=by
 have key:∀ (n i fuel:Nat),i+n=l.length -> n<fuel -> (∀ j (h:j<l.length),j<i -> p l[j]=false) -> iter step fuel (S i)=some (match l.findIdx? p with | some i=>D i | none=>z):=by
  intro n
  induction n with
  | zero=>
   intro i fuel hi C O
   match fuel,C with
   | f+1,_=>
    have:i=l.length:=by omega
    subst this;have e:l.findIdx? p=none:=by
     rw[List.findIdx?_eq_none_iff];intro x U;obtain⟨j,Y,rfl⟩:=jL.1 U
     grind
    unfold iter;rw[I,e]
  | succ n Z=>
   intro i fuel hi C O
   match fuel,C with
   | f+1,C=>
    have dA:i<l.length:=by omega
    unfold iter;rw[E i dA];cases hp:p l[i]with
    | true=>
     have e:l.findIdx? p=some i:=by
      rw[tV]
      grind
     rw[e];rfl
    | false=>
     simp only[ax]
     refine Z (i+1) f (by omega) (by omega) λj Y J6=>?_
     by_cases e:j=i
     ·grind
     ·grind
 exact key l.length 0 fuel (by omega) C λj _ h=>by omega
def agM{T:Type}{p:T -> Bool}{l:aa T}{i:Nat}(h:i<l.length)(E:p l[i]=true):(jP p l != (i:Int))=(l.take i).any p:=by
 unfold jP;cases C:(l.take i).any p with
 | false=>
  have e:l.findIdx? p=some i:=by
   rw[tV]
   refine⟨h,E,λj D=>?_⟩
   have:=jV.1 C l[j] (jL.2 ⟨j,by simp;omega,by simp⟩);exact this
  rw[e];simp
 | true=>
  have⟨x,I,U⟩:=List.any_eq_true.1 C;obtain⟨j,D,rfl⟩:=jL.1 I;rw[jK]at D;cases O:l.findIdx? p with
  |none=>simp
  | some k=>
   have⟨Y,Z,k3⟩:=tV.1 O;have:k≠i:=by
    grind
   simp only;simp;omega
def XV(x:Int):Bool:=aT x 0 4294967295
def sC(n:Int)(r:aR):Bool:=aT r.id 1 100000&&(aT r.cS 0 3&&(decide (r.line >= 0)&&(decide (r.line<n)&&(XV r.data&&((r.write ||r.data==0)&&aT r.at_ 0 1000000)))))
def ath(n:Int)(r:aR):PG n r=some (sC n r):=by
 unfold PG sC Eh XV;simp[cP]
 grind
def gp(x y:aR):Bool:=decide (x.at_<y.at_) ||(x.at_==y.at_&&decide (x.id<y.id))
def XW(x y:aR):K5 x y=some (gp x y):=by
 unfold K5 gp
 grind
def vT(n:Int)(q:aa aR)(i:Nat):Bool:=match q[i]? with
 |some r=>sC n r&&((i==0 ||(match q[i-1]? with|some x=>gp x r|none=>false)) && !((q.take i).any λx=>x.id==r.id))
 |none=>false
def agN{n:Int}{q:aa aR}(h:0<q.length):vT n q 0=sC n q[0]:=by
 unfold vT;rw[bL h];simp
def QY{n:Int}{q:aa aR}{i:Nat}(h:i+1<q.length):vT n q (i+1)=(sC n q[i+1]&&(gp q[i] q[i+1] && !((q.take (i+1)).any λx=>x.id==q[i+1].id))):=by
 unfold vT
 grind
def gS(n:Int)(q:aa aR):Bool:=(List.range q.length).all (vT n q)&&decide ((q.length:Int)<=12)
def ati(n:Int)(q:aa aR){i:Nat}(h:i<q.length)(hl:q.length<1073741824):
  iter GX bC ((n,q,(),q,(q.length:Int),(i:Int),((q.take i).drop 0),(((q.take i).drop 0).length:Int),(0:Int),()),((q[i].id,q[i].cS,q[i].line,q[i].write,q[i].data,q[i].at_,()),()))=some (bif (q.take i).any (λx=>x.id==q[i].id)then .inl ((false,()),())else .inr (.inl ((n,q,q,(q.length:Int),(i:Int),()),()))):=by
 rw[List.drop_zero];have hlen:(q.take i).length=i:=by rw[jK];omega
 generalize C:q[i]=r;generalize D:q.take i=t at *
 have e:=og (step:=GX) t (λx=>!(x.id==r.id)) (λj=>((n,q,(),q,(q.length:Int),(i:Int),t,(t.length:Int),(j:Int),()),((r.id,r.cS,r.line,r.write,r.data,r.at_,()),()))) (.inl ((false,()),())) _ bC (λk h=>by
  unfold GX aM bU xG xI;dsimp only;rw[bf,av,aP ⟨by omega,by omega⟩];simp only[bD];rw[cC];cases t[k].id==r.id<;>rfl) (by
  unfold GX aM bU xG xI;dsimp only;rw[bz,ax]) (cM)
 grind
def XX(n:Int)(q:aa aR)(hl:q.length<1073741824):Er n q=some (gS n q):=by
 unfold Er gS dI;have e:=og (step:=K6) (List.range q.length) (vT n q) (λi=>((n,q,q,(q.length:Int),(i:Int),()),())) (.inl ((false,()),())) (.inr (.inl ((q,()),()))) bC (λk h=>by
   rw[fO]at h;rw[qb];unfold K6 aM bU xG xI dI;dsimp only;rw[bf,av,aP ⟨by omega,by omega⟩];simp only[bD,ath,az];have C:=ati n q h hl;cases k with
   | zero=>
    rw[agN h];cases sC n q[0]with
    |false=>rfl
    | true=>
     simp only[bI,ax,av];rw[bz,ax,aV ⟨by omega,by omega,by omega⟩]
     refine(bE (λo=>Option.bind o _) C).trans ?_
     simp;rfl
   | succ k=>
    rw[QY h];cases sC n q[k+1]with
    |false=>rfl
    | true=>
     simp only[bI,ax,dn];have D:W6 (((k+1:Nat):Int)-1)=(k:Int):=by rw[bh];omega
     simp only[D,bD];rw[bf,av,aP ⟨by omega,by omega⟩,XW,az];cases gp q[k] q[k+1]with
     |false=>rfl
     | true=>
      simp only[bI,ax,dn];rw[aV ⟨by omega,by omega,by omega⟩]
      refine(bE (λo=>Option.bind o _) C).trans ?_
      rw[az];cases (q.take (k+1)).any λx=>x.id==q[k+1].id with
      |true=>rfl
      | false=>
       simp only[ax,Sum.elim_inr,iJ];rw[cC];rfl) (by
   rw[fO];unfold K6 aM bU xG xI dI;dsimp only;rw[bz,ax]) (by rw[fO];exact cM)
 rw[eM]at e
 refine(bE (λo=>Option.bind o _) e).trans ?_
 rw[az];cases (List.range q.length).all (vT n q)<;>rfl
def nH(p:jM):Bool:=aT p.state 0 2&&(aT p.since 0 1000000&&aT p.idle 0 1000000)
def QZ(p:jM):Es p=some (nH p):=by
 unfold Es nH;simp[cP]
 grind
def CE(e:cY):Bool:=aT e.line 0 1023&&((e.code==1 ||e.code==2)&&aT e.times 1 999)
def tK(e x:cY):Bool:=x.line==e.line&&x.code==e.code
def Q0(l:aa cY)(i:Nat):Bool:=match l[i]? with
 |some e=>CE e && !((l.take i).any (tK e))
 |none=>false
def XY{l:aa cY}{i:Nat}(h:i<l.length):Q0 l i=(CE l[i] && !((l.take i).any (tK l[i]))):=by
 unfold Q0;rw[bL h]
def rD(l:aa cY):Bool:=(List.range l.length).all (Q0 l)&&decide ((l.length:Int)<=6)
def atj(l:aa cY){i:Nat}(h:i<l.length)(hl:l.length<1073741824):
  iter GZ bC ((l,(),l,(l.length:Int),(i:Int),((l.take i).drop 0),(((l.take i).drop 0).length:Int),(0:Int),()),((l[i].line,l[i].code,l[i].times,()),()))=some (bif (l.take i).any (tK l[i])then .inl ((false,()),())else .inr (.inl ((l,l,(l.length:Int),(i:Int),()),()))):=by
 rw[List.drop_zero];have hlen:(l.take i).length=i:=by rw[jK];omega
 generalize C:l[i]=r;generalize D:l.take i=t at *
 have e:=og (step:=GZ) t (λx=>!(tK r x)) (λj=>((l,(),l,(l.length:Int),(i:Int),t,(t.length:Int),(j:Int),()),((r.line,r.code,r.times,()),()))) _ _ bC (λk h=>by
  unfold GZ tK aM bU xG xI;dsimp only;rw[bf,av,aP ⟨by omega,by omega⟩];simp only[bD];rw[cC,BEq.comm (a:=r.line),BEq.comm (a:=r.code)];cases t[k].line==r.line<;>cases t[k].code==r.code<;>rfl) (by
  unfold GZ aM bU xG xI;dsimp only;rw[bz,ax]) (cM)
 grind
def agO(l:aa cY)(hl:l.length<1073741824):K8 l=some (rD l):=by
 unfold K8 rD dI;have e:=og (step:=K7) _ (Q0 l) (λi=>((l,l,l.length,i,()),())) _ _ bC (λk h=>by
   rw[fO]at h;rw[qb,XY h];have C:=atj l h hl;unfold K7 CE aM bU xG xI dI;dsimp only;rw[bf,av,aP ⟨by omega,by omega⟩];simp only[bD,cP,az,bne];rw[aV ⟨by omega,by omega,by omega⟩];rw[show (0:Int).toNat=0 from rfl,C];cases aT l[k].line 0 1023<;>cases l[k].code==1<;>cases l[k].code==2<;>cases aT l[k].times 1 999<;>cases (l.take k).any (tK l[k])<;>first|rfl|(simp only[av,ax,bI,Bool.not_false,az,Sum.elim_inr,iJ];rw[cC];rfl)) (by
   rw[fO];unfold K7 aM bU xG xI dI;dsimp only;rw[bz,ax]) (by rw[fO];exact cM)
 refine(bE (λo=>Option.bind o _) e).trans ?_
 cases (List.range _).all _<;>rfl
def Q1(l:aa Int)(x:Int)(hl:l.length<1073741824):Ep l x=some (jP (λe=>x==e) l):=by
 unfold Ep jP;have e:=HG (step:=K2) l (λe=>x==e) (λi=>((l,x,l.length,i,()),())) _ _ bC (λk h=>by
  unfold K2 aM bU xG xI;dsimp only;rw[bf,av,aP ⟨by omega,by omega⟩];simp only[bD];rw[cC];cases x==l[k]<;>rfl) (by
  unfold K2 aM bU xG xI;dsimp only;rw[bz,ax]) (cM hl)
 rw[eM]at e;rw[e];cases l.findIdx? _<;>rfl
def L5(t:dc)(i:Nat):Bool:=match t.rows[i]?,t.counts[i]? with
 |some r,some c=>aT r (-1) 15&&(aT c t.gj 100000&&((r != -1 ||c==0)&&(r == -1 ||!((t.rows.take i).any λx=>r==x))))
 |_,_=>false
def Q2{t:dc}{i:Nat}(h:i<t.rows.length)(C:i<t.counts.length):L5 t i=(aT t.rows[i] (-1) 15&&(aT t.counts[i] t.gj 100000&&((t.rows[i] != -1 || t.counts[i]==0)&&(t.rows[i] == -1 || !((t.rows.take i).any λx=>t.rows[i]==x))))):=by
 unfold L5;rw[bL h,bL C]
def oq(t:dc):Bool:=aT (t.rows.length:Int) 1 16&&((t.rows.length:Int)==(t.counts.length:Int)&&(aT t.gj 0 100000&&(List.range t.rows.length).all (L5 t)))
def XZ(t:dc):Cu t=some (oq t):=by
 unfold Cu oq dI;simp only[cP,az];cases D:aT (t.rows.length:Int) 1 16 with
 |false=>rfl
 | true=>
  have D:=bu.1 D;by_cases C:(t.rows.length:Int)=(t.counts.length:Int)
  ·simp only[C,bne_self_eq_false,gu,bI,ax,dn];cases T:aT t.gj 0 100000 with
   |false=>rfl
   | true=>
    have e:=og (step:=K3) (List.range t.rows.length) (L5 t) (λi=>(((),t.rows,(t.rows.length:Int),(i:Int),()),((t.rows,t.counts,t.gj,()),()))) (.inl ((false,()),())) (.inr (.inl ((),()))) bC (λk h=>by
     rw[fO]at h;have E:k<t.counts.length:=by omega
     rw[qb,Q2 h E];unfold K3 aM bU xG xI;dsimp only;rw[bf,av,aP ⟨by omega,by omega⟩,aP ⟨by omega,by omega⟩,aP ⟨by omega,by omega⟩];simp only[bD,cP,az,Q1 _ _ (show t.rows.length<1073741824 by omega)];rw[agM (p:=λe=>t.rows[k]==e) h (by simp),cC];simp only[bne];cases aT t.rows[k] (-1) 15<;>cases aT t.counts[k] t.gj 100000<;>cases t.rows[k] == -1<;>cases t.counts[k]==0<;>cases (t.rows.take k).any (λe=>t.rows[k]==e)<;>rfl) (by
     rw[fO];unfold K3 aM bU xG xI;dsimp only;rw[bz,ax]) (by rw[fO];exact cM)
    rw[eM,C]at e;simp only[bI,ax,dn]
    refine(bE (λo=>Option.bind o _) e).trans ?_
    rw[az];cases (List.range t.rows.length).all (L5 t)<;>rfl
  ·have I:((t.rows.length:Int)==(t.counts.length:Int))=false:=by simp[C]
   have O:((t.counts.length:Int) != (t.rows.length:Int))=true:=iW λh=>C h.symm
   rw[I,O];rfl
def w9(g:aK):W6 ((9:Int)*(W6 (aE g+(1:Int))))=9*(aE g+1):=by
 have:=dZ g;rw[bh (n:=aE g+1),bh]
def L6(k:Int):AR k=some (aT k 1 5):=by
 unfold AR;rw[cP];rfl
def atk(n:Int)(u:Bool)(k:Int):Eu n u k=some (bif u then aT n 0 (W6 (k-1))else n==0):=by
 unfold Eu;rw[cP];cases u<;>rfl
def tL(g:aK)(i:Nat):Bool:=decide ((i:Int) / 9<aE g)==decide ((i:Int) % 9+1<=5)
def atl(g:aK){i:Nat}(hi:i<1000):∃ c,Em g (i:Int)=some (c,tL g i):=by
 unfold Em tL;rw[l6,az,uU (by omega),uT (by omega),bh,bh,L6];have:aT (i % 9+1) 1 5=decide ((i:Int) % 9+1 <= 5):=by
  simp[aT];omega
 rw[this];cases decide (i / 9<aE g)<;>exact⟨_,rfl⟩
def L7(g:aK)(l:aa Int)(i:Nat):Bool:=match l[i]? with
 |some e=>aT e (-1) 1000000&&(tL g i ||e == -1)
 |none=>false
def Q3{g:aK}{l:aa Int}{i:Nat}(h:i<l.length):L7 g l i=(aT l[i] (-1) 1000000&&(tL g i || l[i] == -1)):=by
 unfold L7;rw[bL h]
def tM(l:aa Int)(i:Nat):Bool:=match l[i]? with
 |some e=>aT e 0 1000000&&(i==0 ||(match l[i-1]? with|some x=>!(decide (x >= e))|none=>false))
 |none=>false
def Q4{l:aa Int}(h:0<l.length):tM l 0=aT l[0] 0 1000000:=by
 unfold tM;rw[bL h];simp
def L8{l:aa Int}{i:Nat}(h:i+1<l.length):tM l (i+1)=(aT l[i+1] 0 1000000 && !(decide (l[i] >= l[i+1]))):=by
 unfold tM
 grind
def kX(g:aK)(r:fj):Bool:=cJ g&&((r.last.length:Int)==9*(aE g+1)&&(!(decide ((r.bq.length:Int) > 4))&&((List.range r.last.length).all (L7 g r.last)&&(List.range r.bq.length).all (tM r.bq))))
def X0(g:aK)(r:fj):GS g r=some (kX g r):=by
 unfold GS kX dI;rw[vO,az,l6];cases T:cJ g with
 |false=>rfl
 | true=>
  simp only[bI,ax,az,dn,w9];by_cases C:(r.last.length:Int)=9*(aE g+1)
  ·have U:=dZ g;rw[C,bne_self_eq_false,ax,gu,dn,<-C];cases D:decide ((r.bq.length:Int) > 4)with
   |true=>rfl
   | false=>
    have D:=of_decide_eq_false D;have l1:=og (step:=KR) (List.range r.last.length) (L7 g r.last) (λi=>(((),(),r.last,(r.last.length:Int),(i:Int),()),((g.cN,g.aO,g.rows,g.aW,()),(r.last,r.bq,()),()))) (.inl ((false,()),())) (.inr (.inl (((),()),((r.last,r.bq,()),())))) bC (λk h=>by
     rw[fO]at h;obtain⟨c,E⟩:=atl g (i:=k) (by omega);rw[qb,Q3 h];unfold KR aM bU xG xI;dsimp only;rw[bf,av,aP ⟨by omega,by omega⟩];simp only[bD,cP,az,uI,E,bne];rw[cC];cases aT r.last[k] (-1) 1000000<;>cases tL g k<;>cases r.last[k] == -1<;>rfl) (by
     rw[fO];unfold KR aM bU xG xI;dsimp only;rw[bz,ax]) (by rw[fO];exact cM)
    have l2:=og (step:=KS) (List.range r.bq.length) (tM r.bq) (λi=>(((),r.bq,(r.bq.length:Int),(i:Int),()),((r.last,r.bq,()),()))) (.inl ((false,()),())) (.inr (.inl ((),()))) bC (λk h=>by
     rw[fO]at h;rw[qb];unfold KS aM bU xG xI;dsimp only;rw[bf,av,aP ⟨by omega,by omega⟩];simp only[bD,cP,az];cases k with
     | zero=>
      rw[Q4 h];cases aT r.bq[0] 0 1000000 with
      |false=>rfl
      | true=>
       rw[bz];rfl
     | succ k=>
      rw[L8 h];have I:W6 (((k+1:Nat):Int)-1)=(k:Int):=by rw[bh];omega
      simp only[I,bD];rw[bf (show ((k+1:Nat):Int) > 0 by omega),aP ⟨by omega,by omega⟩,cC];cases aT r.bq[k+1] 0 1000000<;>cases decide (r.bq[k] >= r.bq[k+1])<;>rfl) (by
     rw[fO];unfold KS aM bU xG xI;dsimp only;rw[bz,ax]) (by rw[fO];exact cM)
    rw[eM]at l1 l2;simp only[Bool.not_false,ax,dn]
    refine(bE (λo=>Option.bind o _) l1).trans ?_
    rw[az];cases (List.range r.last.length).all (L7 g r.last)with
    |false=>rfl
    | true=>
     simp only[av,Sum.elim_inr,iJ,dn]
     refine(bE (λo=>Option.bind o _) l2).trans ?_
     rw[az];cases (List.range r.bq.length).all (tM r.bq)<;>rfl
  ·have O:((r.last.length:Int)==9*(aE g+1))=false:=by simp[C]
   rw[iW C,O];rfl
def atm(l:aa Int)(x:Int)(hl:l.length<1073741824):PC l x=some (l.count x:Int):=by
 unfold PC bZ;have e:=gf (step:=KV) _ (λi=>((x,((l.take i).count x),l,l.length,i,()),())) _ bC (λk h=>by
  unfold KV aM xG xI;have C:(l.take k).count x <= k:=Nat.le_trans List.count_le_length (by rw[jK];omega);dsimp only;rw[bf,av,aP ⟨by omega,by omega⟩];simp only[bD];rw[List.take_succ_eq_append_getElem h,List.count_append,List.count_singleton,cC,cC];cases l[k]==x<;>rfl) (by
  unfold KV aM xG xI;dsimp only;rw[bz,ax,qc]) (cM hl)
 simp_all
def agP{x:Int}:∀ (l:aa Int),(∀ j (h:j<l.length),l[j]=x -> x ∉ l.take j) -> l.count x <= 1
 |[],_=>by simp
 | y :: ys,h=>by
  rw[List.count_cons];by_cases e:y=x
  ·have:x ∉ ys:=by
    intro C;have⟨j,E,D⟩:=jL.1 C;refine h (j+1) (by simp;omega) (by simpa using D) ?_;simp_all
   grind
  ·have:=agP ys λj E D C=>h (j+1) (by simp;omega) (by simpa using D) (by rw[List.take_succ_cons];exact List.mem_cons_of_mem _ C)
   simp_all
def atn{x:Int}:∀ (l:aa Int) (j:Nat) (h:j<l.length),l[j]=x -> x∈l.take j -> 2 <= l.count x:=by
 intro l j h e C;have D:=List.count_pos_iff.2 C;have E:1 <= (l.drop j).count x:=List.count_pos_iff.2 (by rw[<- e];exact jL.2 ⟨0,by simp;omega,by simp⟩);have:l.count x=(l.take j).count x+(l.drop j).count x:=by rw[<- List.count_append,List.take_append_drop]
 omega
def xO(R M:Int)(L:aa Int)(j:Nat):Bool:=match L[j]? with
 |some e=>e==(j:Int) ||(aT e R M && !(decide ((L.count e:Int) > 1)))
 |none=>false
def HH(R M:Int)(L:aa Int)(j:Nat):Bool:=match L[j]? with
 |some e=>e==(j:Int) ||(aT e R M && !((L.take j).any λx=>x==e))
 |none=>false
def agQ(R M:Int)(L:aa Int)(hR:(L.length:Int)=R):(List.range L.length).all (xO R M L)=(List.range L.length).all (HH R M L):=by
 rw[Bool.eq_iff_iff,cm,cm];simp only[gq];constructor
 ·intro h j C;have:=h j C;unfold xO at this;unfold HH;rw[bL C]at *
  simp only[eZ,aH,ff,sS]at *
  rcases this with D|⟨D,U⟩
  ·simp_all
  ·refine .inr ⟨D,?_⟩;rw[jV];intro x O I;have I:x=L[j]:=by simpa using I
   have:=atn L j C rfl (I ▸ O);omega
 ·intro h j C;have:=h j C;unfold HH at this;unfold xO;rw[bL C]at *
  simp only[eZ,aH,ff,sS]at *
  rcases this with D|⟨D,U⟩
  ·simp_all
  ·refine .inr ⟨D,?_⟩;have Y:=(bu.1 D).1;have:=agP (x:=L[j]) L λk T e O=>by
    have E:=h k T;unfold HH at E;rw[bL T]at E;simp only[eZ,aH,ff]at E;rcases E with Z|⟨_,h4⟩
    ·grind
    ·grind
   omega
def iC(m:aa Int)(R b:Nat):aa Int:=(m.take ((b+1)*R)).drop (b*R)
def Q5(m:aa Int)(R b:Nat):iC m R b=(m.drop (b*R)).take R:=by
 unfold iC;rw[List.drop_take,jv,Nat.add_sub_cancel_left]
def L9{m:aa Int}{R b:Nat}(h:(b+1)*R<=m.length):(iC m R b).length=R:=by
 rw[Q5,jK,List.length_drop];rw[jv]at h;omega
def HI{C R b j:Nat}(hb:b<C)(D:j <= R):b*R+j <= C*R:=by
 have:=ju R hb
 grind
def ot(g:aK)(s:gv):Bool:=qB g s.cc&&((s.map.length:Int)==((aE g).toNat*(g.rows-s.cc).toNat:Nat)&&(List.range (aE g).toNat).all λb=>(List.range (g.rows-s.cc).toNat).all (xO (g.rows-s.cc) (g.rows-1) (iC s.map (g.rows-s.cc).toNat b)))
def Q6{g:aK}{s:gv}{R C b:Nat}(hR:g.rows-s.cc=(R:Int))(D:R<=16)(E:C<=8)(hb:b<C)(hl:s.map.length=C*R):Eo g s (b:Int)=some (b*R,(b+1)*R):=by
 have U:C*R<=8*16:=Nat.mul_le_mul E D;have Y:b*R+R<=C*R:=HI hb (dg R);have I:W6 (g.rows-s.cc)=(R:Int):=by rw[hR];exact bh
 have O:W6 ((b:Int)*(R:Int))=((b*R:Nat):Int):=by rw[<-Int.natCast_mul];exact bh
 have T:W6 (((b+1:Nat):Int)*(R:Int))=(((b+1)*R:Nat):Int):=by
  rw[<-Int.natCast_mul];exact bh (by omega) (by rw[jv];omega)
 unfold Eo;rw[I,cC,O,T,jv,aV ⟨by omega,by omega,by omega⟩];simp only[bD]
def ato{g:aK}{s:gv}(R b:Int)(L:aa Int)(C:cJ g=true)(D:L.length<1073741824):
  iter GU bC (((),(),R,b,L,L,(L.length:Int),(0:Int),()),((g.cN,g.aO,g.rows,g.aW,()),(s.cc,s.map,()),()))=some (bif (List.range L.length).all (xO R (g.rows-1) L)then .inr (.inl (((),(),R,b,()),((g.cN,g.aO,g.rows,g.aW,()),(s.cc,s.map,()),())))else .inl ((false,()),())):=by
 have gb:=gV C;have e:=og (step:=GU) (List.range L.length) (xO R _ L) (λi=>(((),(),R,b,L,L,L.length,i,()),((g.cN,g.aO,g.rows,g.aW,()),(s.cc,s.map,()),()))) _ _ bC (λk h=>by
  rw[fO]at h;rw[qb];unfold GU xO aM bU xG xI;dsimp only;rw[bf,av,aP ⟨by omega,by omega⟩,bL h];simp only[bD,cP,az,atm _ _ D,bne];rw[cC,bh (n:=g.rows-1)];cases L[k]==(k:Int)<;>cases aT L[k] R (g.rows-1)<;>cases decide ((L.count L[k]:Int) > 1)<;>rfl) (by
  rw[fO];unfold GU aM bU xG xI;dsimp only;rw[bz,ax]) (by rw[fO];exact cM)
 simp_all
def agR(g:aK)(s:gv):KZ g s=some (ot g s):=by
 unfold KZ ot dI;rw[XS,az,agG];cases D:qB g s.cc with
 |false=>rfl
 | true=>
  obtain⟨I,s0,s2,ua,Q7⟩:=agD D;have O:=dZ g;have T:((zf g s.cc).1.map.length:Int)=(((aE g).toNat*(g.rows-s.cc).toNat:Nat):Int):=by
   unfold zf;rw[D,av,agC]
  rw[T];obtain⟨C,hb⟩:=dN O.1;obtain⟨R,hR⟩:=dN (show 0<=g.rows-s.cc by omega);rw[hb,hR];simp only[bD,bI,ax,dn];by_cases hl:(s.map.length:Int)=((C*R:Nat):Int)
  ·have E:s.map.length=C*R:=by omega
   rw[hl,bne_self_eq_false,ax,gu,dn];have U:W6 (R:Int)=(R:Int):=bh;have e:=og (step:=KW) (List.range C) (λb=>(List.range R).all (xO (R:Int) (g.rows-1) (iC s.map R b))) (λi=>(((),(),(R:Int),(i:Int),()),((g.cN,g.aO,g.rows,g.aW,()),(s.cc,s.map,()),()))) (.inl ((false,()),())) (.inr (.inl ((),()))) bC (λk h=>by
    rw[fO]at h;rw[qb];have Y:=HI (R:=R) h (dg R);have hlen:(iC s.map R k).length=R:=L9 (by rw[jv,E];exact Y);have Z:=ato (g:=g) (s:=s) (R:Int) (k:Int) (iC s.map R k) I (by omega);unfold KW aM bU xG dI;dsimp only;rw[uI,l6,az,hb,bf,av];have hbr:Eo g (⟨s.cc,s.map⟩:gv) (k:Int)=some (k*R,(k+1)*R):=Q6 (s:=⟨s.cc,s.map⟩) hR (by omega) (by omega) h E;rw[hbr,az];have hc:(Nat.ble (k*R) ((k+1)*R)&&Nat.ble ((k+1)*R) s.map.length)=true:=by
     rw[aH];exact⟨jI (by rw[jv];omega),jI (by rw[jv];omega)⟩
    rw[hc,av]
    refine(bE (λo=>Option.bind o _) Z).trans ?_
    rw[az,hlen];cases (List.range R).all (xO (R:Int) (g.rows-1) (iC s.map R k))with
    |false=>rfl
    | true=>
     simp only[av,Sum.elim_inr,iJ];rw[cC]) (by
    rw[fO];unfold KW aM bU xG dI;dsimp only;rw[uI,l6,az,hb,bz,ax]) (by rw[fO];exact cM)
   rw[eM]at e;rw[U]
   refine(bE (λo=>Option.bind o _) e).trans ?_
   rw[az];cases (List.range C).all λb=>(List.range R).all (xO (R:Int) (g.rows-1) (iC s.map R b))<;>rfl
  ·have e2:((s.map.length:Int)==((C*R:Nat):Int))=false:=by simp only[beq_eq_false_iff_ne];exact hl
   rw[iW hl,e2];rfl
def dG(g:aK)(s:gv):aK:=bif ot g s then ⟨g.cN,g.aO,W6 (g.rows-s.cc),g.aW⟩else ⟨0,0,0,0⟩
def ER(g:aK)(s:gv):AU g s=some (dG g s):=by
 unfold AU dG;rw[agR,az];cases ot g s<;>rfl
def CF(c:au):au:=c
def eG(a x:aN):Bool:=x.aA==a.aA&&(x.row==a.row&&(x.cu==a.cu&&true))
def agS(l:aa aN)(a:aN)(hl:l.length<1073741824):GW l a=some (jP (eG a) l):=by
 unfold GW jP;have e:=HG (step:=K4) l (eG a) (λi=>((l,(),l.length,i,()),((a.aA,a.row,a.cu,()),()))) _ _ bC (λk h=>by
  unfold K4 eG aM bU xG xI;dsimp only;rw[bf,av,aP ⟨by omega,by omega⟩];simp only[bD];rw[cC,BEq.comm (a:=a.aA),BEq.comm (a:=a.row),BEq.comm (a:=a.cu)];cases (l[k].aA==a.aA&&(l[k].row==a.row&&(l[k].cu==a.cu&&true)))<;>rfl) (by
  unfold K4 aM bU xG xI;dsimp only;rw[bz,ax]) (cM hl)
 rw[eM]at e;rw[e];cases l.findIdx? _<;>rfl
def partAt(c:au)(i:Nat):Bool:=match c.bF[i]?,c.guard[i]? with
 |some t,some x=>oq t&&aT x 3 1000
 |_,_=>false
def CG(c:au)(i:Nat):Bool:=match c.pending[i]? with
 |some a=>ef c.config.aq a&&(a.cu==0 && !((c.pending.take i).any (eG a)))
 |none=>false
def vU(c:au):Bool:=(c.ay.aB.length:Int)==aE c.config.aq&&((c.bF.length:Int)==aE c.config.aq&&((c.guard.length:Int)==aE c.config.aq&&(!(decide ((c.pending.length:Int) > 128))&&((List.range c.bF.length).all (partAt c)&&(List.range c.pending.length).all (CG c)))))
def agT(c:au)(G:(Int×Int×Int×Int×aj))(n i:Int):PD (((),(),n,i,()),(CF c,G,()))=(bif (decide (i<n))then if C:0<=i/\i.toNat<c.bF.length then (Cu (c.bF[i.toNat]'C.2)).bind λD=>bif (!D)then some (.inr (.inl ((false,()),())))else if E:0<=i/\i.toNat<c.guard.length then (bY (c.guard[i.toNat]'E.2) (3:Int) (1000:Int)).bind λI=>bif (!I)then some (.inr (.inl ((false,()),())))else some (.inl (((),(),n,(W6 (i+(1:Int))),()),(CF c,G,())))else none else none else some (.inr (.inr (.inl (((),(),()),(CF c,G,())))))):=rfl
def agU(c:au)(g:aK)(l:aa aN)(n i:Int):PE (((),(),l,n,i,()),(CF c,(g.cN,g.aO,g.rows,g.aW,()),()))=(bif (decide (i<n))then if C:0<=i/\i.toNat<l.length then (AS g (l[i.toNat]'C.2)).bind λD=>bif (!D)then some (.inr (.inl ((false,()),())))else bif ((l[i.toNat]'C.2).cu != (0:Int))then some (.inr (.inl ((false,()),())))else (GW c.pending (l[i.toNat]'C.2)).bind λE=>bif (E != i)then some (.inr (.inl ((false,()),())))else some (.inl (((),(),l,n,(W6 (i+(1:Int))),()),(CF c,(g.cN,g.aO,g.rows,g.aW,()),())))else none else some (.inr (.inr (.inl ((),()))))):=rfl
def atp(c:au)(T:c.ay.aB.length<1073741824):PF c=some (fS c.ay&&vU c):=by
 unfold PF vU dI;rw[l6,az,HF _ T,az];cases fS c.ay with
 |false=>rfl
 |true=>
 simp only[bI,ax,dn];have b1:=dZ c.config.aq;by_cases C:(c.ay.aB.length:Int)=aE c.config.aq
 ·by_cases D:(c.bF.length:Int)=aE c.config.aq
  ·by_cases E:(c.guard.length:Int)=aE c.config.aq
   ·have U:((c.ay.aB.length:Int) != aE c.config.aq)=false:=by simp[C]
    have Y:((c.bF.length:Int) != aE c.config.aq)=false:=by simp[D]
    have Z:((c.guard.length:Int) != aE c.config.aq)=false:=by simp[E]
    have q1:((c.ay.aB.length:Int)==aE c.config.aq)=true:=by simp[C]
    have q2:((c.bF.length:Int)==aE c.config.aq)=true:=by simp[D]
    have q3:((c.guard.length:Int)==aE c.config.aq)=true:=by simp[E]
    rw[U,Y,Z,q1,q2,q3];simp only[ax,dn];cases I:decide ((c.pending.length:Int) > 128)with
    |true=>rfl
    | false=>
     have I:=of_decide_eq_false I;have l1:=og (step:=PD) (List.range c.bF.length) (partAt c) (λi=>(((),(),(c.bF.length:Int),(i:Int),()),(CF c,(c.config.aq.cN,c.config.aq.aO,c.config.aq.rows,c.config.aq.aW,()),()))) (.inl ((false,()),())) (.inr (.inl (((),(),()),(CF c,(c.config.aq.cN,c.config.aq.aO,c.config.aq.rows,c.config.aq.aW,()),())))) bC (λk h=>by
      rw[fO]at h;rw[qb,agT,bf,av,aP ⟨by omega,by omega⟩,aP ⟨by omega,by omega⟩];simp only[bD,XZ,cP,az];unfold partAt;rw[bL h,bL (show k<c.guard.length by omega),cC];simp only;cases oq c.bF[k]<;>cases aT (c.guard[k]'(by omega)) 3 1000<;>rfl) (by
      rw[fO,agT,bz,ax]) (by rw[fO];exact cM)
     have l2:=og (step:=PE) (List.range c.pending.length) (CG c) (λi=>(((),(),c.pending,(c.pending.length:Int),(i:Int),()),(CF c,(c.config.aq.cN,c.config.aq.aO,c.config.aq.rows,c.config.aq.aW,()),()))) (.inl ((false,()),())) (.inr (.inl ((),()))) bC (λk h=>by
      rw[fO]at h;rw[qb,agU,bf,av,aP ⟨by omega,by omega⟩];simp only[bD,EI,az,agS _ _ (show c.pending.length<1073741824 by omega),bne];have O:=agM (p:=eG c.pending[k]) h (by simp[eG]);rw[bne]at O;rw[O];unfold CG;rw[bL h,cC];simp only;cases ef c.config.aq c.pending[k]<;>cases c.pending[k].cu==0<;>cases (c.pending.take k).any (eG c.pending[k])<;>rfl) (by
      rw[fO,agU,bz,ax]) (by rw[fO];exact cM)
     rw[eM]at l1 l2;simp only[Bool.not_false,ax,dn]
     refine(bE (λo=>Option.bind o _) l1).trans ?_
     rw[az];cases (List.range c.bF.length).all (partAt c)with
     |false=>rfl
     | true=>
      simp only[av,Sum.elim_inr,iJ,dn]
      refine(bE (λo=>Option.bind o _) l2).trans ?_
      rw[az];cases (List.range c.pending.length).all (CG c)<;>rfl
   ·simp[C,D,iW E,E]
  ·simp[C,iW D,D]
 ·simp[iW C,C]
def xP(n:Int)(u:Bool)(k:Int):Bool:=bif u then aT n 0 (k-1)else n==0
def cD(g:aK)(c:aQ):Bool:=cJ g&&(aT c.kind 1 9&&(xP c.aA (aT c.kind 1 5) (aE g)&&(xP c.row (c.kind==1) g.rows&&xP c.cu (c.kind==2 ||c.kind==3) g.aW)))
def atq(k:Int):PZ k=some (k==1):=by
 unfold PZ;rfl
def atr(k:Int):P0 k=some (k==2 || k==3):=by
 unfold P0;cases k==2<;>rfl
def X3{n k:Int}(u:Bool)(h:-1000<k/\k<1000):Eu n u k=some (xP n u k):=by
 rw[atk,bh];rfl
def X4(g:aK)(c:aQ):G5 g c=some (cD g c):=by
 unfold G5 cD;rw[vO];cases C:cJ g with
 |false=>rfl
 | true=>
  have D:=dZ g;have gb:=gV C;unfold Xe;simp only[av,l6,az,cP,L6,atq,atr,X3 _ (show -1000<aE g/\aE g<1000 by omega),X3 _ (show -1000<g.rows/\g.rows<1000 by omega),X3 _ (show -1000<g.aW/\g.aW<1000 by omega),dn]
  grind
def xQ{g:aK}{c:aQ}(h:cD g c=true):cJ g=true/\(1 <= c.kind/\c.kind <= 9)/\(c.kind <= 5 -> 0 <= c.aA/\c.aA<aE g)/\(5<c.kind -> c.aA=0):=by
 simp[cD,aH,bu]at h
 refine⟨h.1,h.2.1,λD=>?_,λD=>?_⟩
 ·have:=h.2.2.1;rw[xP,show aT _ 1 5=true from bu.2 ⟨h.2.1.1,D⟩,av,bu]at this;omega
 ·have:=h.2.2.1;have C:aT c.kind 1 5=false:=by
   cases C:aT _ 1 5 with
   |false=>rfl
   |true=>have:=bu.1 C;omega
  rwa [xP,C,ax,dO]at this
def kinds{k:Int}(h:1<=k/\k<=9):k=1\/k=2\/k=3\/k=4\/k=5\/k=6\/k=7\/k=8\/k=9:=by omega
def cK(r:cr)(b:Int):ji:=r.aO.getD b.toNat ⟨false,0⟩
def kj(r:cr)(c:aQ):Bool:=
 bif c.kind==1 ||c.kind==5 then r.aS==0 && !(cK r c.aA).open_ else
 bif c.kind==2 ||c.kind==3 ||c.kind==4 then r.aS==0&&(cK r c.aA).open_ else
 bif c.kind==6 then r.aS==0 else
 bif c.kind==8 then r.aS==0&&r.aO.all (λb=>!b.open_)else
 bif c.kind==7 then r.aS==1 else r.aS==2
def cZ(r:cr)(c:aQ):cr:=
 bif c.kind==1 then ⟨r.aO.set c.aA.toNat ⟨true,c.row⟩,r.aS⟩else
 bif c.kind==4 then ⟨r.aO.set c.aA.toNat ⟨false,0⟩,r.aS⟩else
 bif c.kind==6 then ⟨r.aO,1⟩else
 bif c.kind==8 then ⟨r.aO,2⟩else
 bif c.kind==7 ||c.kind==9 then ⟨r.aO,0⟩else r
def att{r:cr}{b:Int}(h:b.toNat<r.aO.length):r.aO[b.toNat]=cK r b:=by
 simp[cK,h]
def atu(r:cr):(((opens 0 r.aO).length:Int)==0)=r.aO.all λb=>!b.open_:=by
 rw[<-agK 0 r.aO,Bool.eq_iff_iff];simp only[dO];omega
def X5(g:aK)(r:cr)(c:aQ):Lq g r c=some (om g r&&(cD g c&&kj r c)):=by
 unfold Lq xI;rw[agL,az];cases C:om g r with
 |false=>rfl
 | true=>
  rw[X4,az];cases D:cD g c with
  |false=>rfl
  | true=>
   have⟨I,E,hb,_⟩:=xQ D;have hlen:(r.aO.length:Int)=aE g:=by
    simp[om,aH,dO]at C;simp_all
   have O:=dZ g;have hb:c.kind <= 5 -> 0 <= c.aA/\c.aA.toNat<r.aO.length:=λh=>by have:=hb h;omega
   have hl:r.aO.length<1073741823:=by omega
   simp only[bI,ax,dn];unfold kj;rcases kinds E with h|h|h|h|h|h|h|h|h
   case inr.inr.inr.inr.inr.inr.inr.inl=>simp[h,QO r hl,atu];cases r.aS==0<;>rfl
   all_goals (try (have hb:=hb (by omega)))<;>simp[h,hb,att]<;>(cases r.aS==0<;>rfl)
def pJ(g:aK)(r:cr)(c:aQ):Bool:=om g r&&(cD g c&&kj r c)
def X6(g:aK)(r:cr)(c:aQ):cr×Bool:=bif pJ g r c then (cZ r c,true)else (r,false)
def zg{g:aK}{r:cr}{c:aQ}(h:pJ g r c=true):cJ g=true/\(r.aO.length:Int)=aE g/\(1 <= c.kind/\c.kind <= 9)/\(c.kind <= 5 -> 0 <= c.aA/\c.aA.toNat<r.aO.length):=by
 simp[pJ,aH]at h;have⟨D,E,hb,_⟩:=xQ h.2.1;have C:=h.1;simp[om,aH,dO]at C;simp_all
def atv(r:cr)(h:r.aO.length<1073741824):GM r=some r:=by
 unfold GM xA xZ;rw[show ([]).length+r.aO.length=r.aO.length by simp,fR h];rfl
def atw(g:aK)(r:cr)(c:aQ)(h:r.aO.length<1073741824):LI g r c=some (X6 g r c):=by
 unfold LI X6 xL;rw[atv r h,X5];change (bif !(pJ g r c)then _ else _)=_;cases C:pJ g r c with
 |false=>rfl
 | true=>
  have⟨D,hlen,E,hb⟩:=zg C;unfold cZ
  grind
def CH(g:aK):cr:=⟨List.replicate (aE g).toNat ⟨false,0⟩,0⟩
def atx(g:aK):Pe g=some (CH g):=by
 have D:=dZ g;unfold Pe CH;rw[vO,az];cases C:cJ g with
 | false=>
  have:aE g=0:=by simp[aE,C]
  rw[this];rfl
 | true=>
  simp only[bI,ax,l6,az];rw[aV ⟨by omega,by omega,by omega⟩]
def aty(r:cr)(c:aQ):(cZ r c).aO.length=r.aO.length:=by
 unfold cZ
 grind
def mP(t:dw)(a b:Int):Int:=
 bif a==1 then (bif b==2 ||b==3 then t.uV else bif b==4 then t.lM else bif b==1 ||b==5 then W6 (t.lM+t.rp)else 0)else
 bif a==2 then (bif b==4 then t.qN else bif b==1 ||b==5 then W6 (t.qN+t.rp)else 0)else
 bif a==3 then (bif b==4 then t.wr else bif b==1 ||b==5 then W6 (t.wr+t.rp)else 0)else
 bif a==4 then (bif b==1 ||b==5 then t.rp else 0)else
 bif a==5 then (bif b==1 ||b==5 then t.yl else 0)else 0
def qC(t:dw)(a b:Int)(C:Bool):Int:=
 bif a==7 then t.xp else bif a==9 then t.xs else
 bif (a==6&&b==7) ||(a==8&&b==9)then t.ym else
 bif a==1&&b==1 then (bif C then t.sV else t.wu)else
 bif (a==2&&b==2) ||(a==3&&b==3)then (bif C then t.wA else t.wz)else
 bif a==3&&b==2 then (bif C then t.wD else t.wC)else
 bif a==2&&b==3 then t.zF else
 bif a==5&&b==5 then t.sV else
 bif a==2&&b==6 then t.qN else bif a==3&&b==6 then t.wr else
 bif b==8 then mP t a 1 else 0
def atz(t:dw){a b:Int}(C:1<=a/\a<=9)(hb:1<=b/\b<=9):P1 t a b=some (mP t a b):=by
 rcases kinds C with rfl|rfl|rfl|rfl|rfl|rfl|rfl|rfl|rfl<;>rcases kinds hb with rfl|rfl|rfl|rfl|rfl|rfl|rfl|rfl|rfl<;>kernel_rfl
def X7(t:dw){a b:Int}(C:Bool)(D:1<=a/\a<=9)(hb:1<=b/\b<=9):P2 t a b C=some (qC t a b C):=by
 cases C<;>rcases kinds D with rfl|rfl|rfl|rfl|rfl|rfl|rfl|rfl|rfl<;>rcases kinds hb with rfl|rfl|rfl|rfl|rfl|rfl|rfl|rfl|rfl<;>kernel_rfl
def ou(a b:aQ):Bool:=aT a.kind 1 5&&aT b.kind 1 5
def sD(g:aK)(a b:aQ):Bool:=ou a b&&(W6 (a.aA.tdiv g.aO)==W6 (b.aA.tdiv g.aO))
def eH(g:aK)(t:dw)(a b:aQ):Int:=
 bif ou a b&&a.aA==b.aA then max (max 1 (qC t a.kind b.kind (sD g a b))) (mP t a.kind b.kind)else max 1 (qC t a.kind b.kind (sD g a b))
def agV(x y:Int):(if x > y then x else y)=max x y:=by
 rw[Int.max_def];split<;>split<;>omega
def agW{g:aK}{b:Int}(h:0<=b/\b<aE g)(C:cJ g=true):Lt g b=some (W6 (b.tdiv g.aO)):=by
 have D:=dZ g;have gb:=gV C;unfold Lt;rw[l6,az,cP,az,bh,bu.2 ⟨h.1,by omega⟩,bI,ax,aX]
def agX{k:Int}(h:1<=k/\k<=9):aT k 1 5=decide (k<=5):=by
 unfold aT;rw[bf h.1,dn]
def atA{g:aK}(t:dw){a b:aQ}(E:cJ g=true)(C:1 <= a.kind/\a.kind <= 9)(D:1 <= b.kind/\b.kind <= 9)(I:a.kind <= 5 -> 0 <= a.aA/\a.aA<aE g)(bb:b.kind <= 5 -> 0 <= b.aA/\b.aA<aE g):Lu g t a b=some (eH g t a b):=by
 unfold Lu eH sD ou;simp only[L6,az];cases O:aT a.kind 1 5 with
 | false=>
  simp;rw[X7 t false C D,az,agV,Int.max_comm]
 | true=>
  cases T:aT b.kind 1 5 with
  | false=>
   simp;rw[X7 t false C D,az,agV,Int.max_comm]
  | true=>
   have U:=bu.1 O;have Y:=bu.1 T;simp only[av,dn];rw[agW (I U.2) E,az,agW (bb Y.2) E,az,X7 t _ C D,az,atz t C D];cases a.aA==b.aA with
   |false=>grind
   |true =>grind
def atB(g:aK)(t:dw)(a b:aQ):1<=eH g t a b:=by
 unfold eH;cases ou a b&&a.aA==b.aA<;>simp only[av,ax]<;>omega
def X8{t:dw}(h:nG t=true):∀ x∈uJ t,1 <= x/\x <= 64:=by
 simp[nG,aH,cm]at h;exact λx C=>bu.1 (h.1 x C)
def agY{t:dw}(h:nG t=true)(a b:Int):0 <= mP t a b/\mP t a b <= 128:=by
 have hb:=X8 h;simp only[uJ,ig,List.not_mem_nil,or_false,forall_eq_or_imp,forall_eq]at hb;have⟨C,D,E,I,O,T,U,Y,Z,HJ,CI,sj,tN,zh,zi,qy,ES⟩:=hb;unfold mP;rw[bh (n:=t.lM+t.rp),bh (n:=t.qN+t.rp),bh (n:=t.wr+t.rp)]
 grind
def jF{c:Bool}{x y a b:Int}(C:a<=x/\x<=b)(D:a<=y/\y<=b):a<=(bif c then x else y)/\(bif c then x else y)<=b:=by
 cases c
 ·exact D
 ·exact C
def atC{t:dw}(h:nG t=true)(a b:Int)(n:Bool):0 <= qC t a b n/\qC t a b n <= 128:=by
 have hb:=X8 h;simp[uJ,ig,forall_eq_or_imp,forall_eq]at hb;have C:=agY h a 1
 repeat' (first|exact C|refine jF ?_ ?_|omega)
def iL(g:aK)(c:aQ):Int:=9*(bif aT c.kind 1 5 then c.aA else aE g)+c.kind-1
def HK{g:aK}{c:aQ}(h:cD g c=true):0 <= iL g c/\iL g c<9*(aE g+1):=by
 have⟨C,D,hb,_⟩:=xQ h;have E:=dZ g;unfold iL
 grind
def atD{g:aK}{c:aQ}(h:cD g c=true):Qj g c=some (iL g c):=by
 have⟨C,D,hb,_⟩:=xQ h;have E:=dZ g;unfold Qj iL;simp[l6,az,L6];cases hu:aT _ 1 5 with
 | true=>
  have:=bu.1 hu;simp;rw[bh (n:=9*c.aA),bh (n:=9*c.aA+c.kind),bh]
 | false=>
  simp;rw[bh (n:=9*aE g),bh (n:=9*aE g+c.kind),bh]
def atE(r:fj)(C:r.last.length<1073741824)(D:r.bq.length<1073741824):GN r=some r:=by
 unfold GN xA xZ;rw[show ([]).length+r.last.length=r.last.length by simp,fR C,show ([]).length+r.bq.length=r.bq.length by simp,fR D];rfl
def vV(r:fj)(x:Int):Bool:=match r.bq.getLast? with
 |some y=>decide (x<=y)
 |none=>false
def CJ(l:aa Int)(x:Int):aa Int:=(l++[x]).drop (l.length+1-4)
def iF(g:aK)(r:fj)(e:eB):fj:=
 bif kX g r&&(cD g e.cmd&&(aT e.at_ 0 1000000 && !(e.cmd.kind==1&&vV r e.at_)))then ⟨r.last.set (iL g e.cmd).toNat e.at_,bif e.cmd.kind==1 then CJ r.bq e.at_ else r.bq⟩else r
def HL{g:aK}{r:fj}(h:kX g r=true):cJ g=true/\(r.last.length:Int)=9*(aE g+1)/\r.bq.length <= 4:=by
 simp[kX,aH,dO,ff,sS]at h
 grind
def atF{l:aa Int}(h:0<l.length)(C:(W6 ((l.length:Int)-1)).toNat<l.length)(hl:l.length<1073741824):l.getLast?=some (l[(W6 ((l.length:Int)-1)).toNat]'C):=by
 have e:(W6 ((l.length:Int)-1)).toNat=l.length-1:=by rw[bh];omega
 simp only[e];rw[List.getLast?_eq_getElem?,bL (by omega)]
def atG(g:aK)(r:fj)(e:eB)(T:r.last.length<1073741824)(U:r.bq.length<1073741824):Ql g r e=some (iF g r e):=by
 unfold Ql iF xA xI xL xZ;rw[atE r T U,az,X0,az];cases Y:kX g r with
 |false=>rfl
 | true=>
  simp only[bI,ax,dn];rw[X4,az];cases D:cD g e.cmd with
  |false=>rfl
  | true=>
   simp only[bI,ax,dn];rw[cP,az];cases ha:aT e.at_ 0 1000000 with
   |false=>rfl
   | true=>
    obtain⟨hg,hl,h4⟩:=HL Y;have E:=HK D;have b1:=dZ g;simp only[bI,ax,dn,atD D,az];cases hk:(e.cmd.kind==1)with
    | false=>
     simp only[ax,Bool.false_and,Bool.not_false,av];rw[aP ⟨E.1,by omega⟩,aP]
    | true=>
     have tl:∀ (A B:ah fj),(if sj:0<=iL g e.cmd/\(iL g e.cmd).toNat<r.last.length then if tN:(iL g e.cmd).toNat<r.last.length then (bif cB (r.bq.length+([e.at_]:aa Int).length)then if 0<=(if W6 (((r.bq++[e.at_]).length:Int)-4) > 0 then W6 (((r.bq++[e.at_]).length:Int)-4)else 0)/\(if W6 (((r.bq++[e.at_]).length:Int)-4) > 0 then W6 (((r.bq++[e.at_]).length:Int)-4)else 0)<=((r.bq++[e.at_]).length:Int)/\((r.bq++[e.at_]).length:Int)<=((r.bq++[e.at_]).length:Int)then bif cB (([]:aa Int).length+(((r.bq++[e.at_]).take (((r.bq++[e.at_]).length:Int).toNat)).drop ((if W6 (((r.bq++[e.at_]).length:Int)-4) > 0 then W6 (((r.bq++[e.at_]).length:Int)-4)else 0).toNat)).length)then some (⟨(r.last.set (iL g e.cmd).toNat e.at_),(([]:aa Int)++(((r.bq++[e.at_]).take (((r.bq++[e.at_]).length:Int).toNat)).drop ((if W6 (((r.bq++[e.at_]).length:Int)-4) > 0 then W6 (((r.bq++[e.at_]).length:Int)-4)else 0).toNat)))⟩:fj)else none else none else none)else A else B)=some ⟨r.last.set (iL g e.cmd).toNat e.at_,CJ r.bq e.at_⟩:=by
      intro A B;have I:(r.bq++[e.at_]).length=r.bq.length+1:=by simp
      have Z:(if W6 (((r.bq.length+1:Nat):Int)-4) > 0 then W6 (((r.bq.length+1:Nat):Int)-4)else 0)=((r.bq.length+1-4:Nat):Int):=by
       rw[bh];split<;>omega
      rw[aP ⟨E.1,by omega⟩,aP,fR (by simp;omega),av,I,Z,aV ⟨by omega,by omega,by omega⟩,fR (by simp;omega),av];unfold CJ;simp only[bD,List.nil_append];rw[<-I,qc]
     simp only[av,dn];unfold vV;by_cases C:0<r.bq.length
     ·have O:(W6 ((r.bq.length:Int)-1))=((r.bq.length-1:Nat):Int):=by rw[bh];omega
      have hi:(W6 ((r.bq.length:Int)-1)).toNat<r.bq.length:=by rw[O];omega
      rw[bf (show (r.bq.length:Int) > 0 by omega),av,aP ⟨by rw[O];omega,hi⟩,atF C hi (by omega)];dsimp only;cases decide (e.at_<=r.bq[(W6 ((r.bq.length:Int)-1)).toNat])with
      |true=>rfl
      | false=>
       simp only[ax,Bool.not_false,av];exact tl _ _
     ·have C:r.bq=[]:=uS (by omega);rw[bz (by rw[C];simp),ax];rw[show r.bq.getLast?=none by rw[C];rfl];simp only[Bool.not_false,av];exact tl _ _
def xR{A T:Type}(f:Nat->A->T->ah A):Nat->aa T->A->ah A
 |_,[],a=>some a
 | k,x :: l,a=>match f k a x with
  |some C=>xR f (k+1) l C
  |none=>none
def rE(l:aa eB):aa Int:=(l.filter λe=>e.cmd.kind==1).map (·.at_)
def Q8(g:aK)(e:eB):Bool:=cD g e.cmd&&aT e.at_ 0 1000000
def agZ{g:aK}{e:eB}(h:Q8 g e=true):cD g e.cmd=true/\0<=e.at_/\e.at_<=1000000:=by
 simp only[Q8,aH,bu]at h;exact h
def ag0{t:dw}(C:nG t=true)(g:aK)(a b:aQ):1 <= eH g t a b/\eH g t a b <= 128:=by
 have D:=atC C a.kind b.kind (sD g a b);have E:=agY C a.kind b.kind;unfold eH
 grind
def X9(g:aK)(t:dw)(l:aa eB)(e:eB):Bool:=l.any λx=>decide (e.at_-x.at_<eH g t x.cmd e.cmd)
def Ya(t:dw)(A:aa Int)(x:Int):Bool:=decide (4<=A.length)&&decide (x-A.getD (A.length-4) 0<t.nR)
def atH{t:dw}(C:nG t=true):1<=t.nR/\t.nR<=64:=X8 C _ (by simp[uJ])
def Yb{T:Type}{p:T -> Bool}{l:aa T}{i:Nat}{x:T}(h:l.all p=true)(C:p x=true):(l.set i x).all p=true:=by grind
def zj{g:aK}{r:cr}(h:om g r=true):cJ g=true/\(r.aO.length:Int)=aE g/\(0 <= r.aS/\r.aS <= 2)/\r.aO.all (CD g)=true/\(r.aS=2 -> (r.aO.all λb=>!b.open_)=true):=by
 simp only[om,aH,dO,bu,eZ,bne_iff_ne]at h
 grind
def HM{g:aK}{r:cr}(C:cJ g=true)(D:(r.aO.length:Int)=aE g)(E:0 <= r.aS/\r.aS <= 2)(I:r.aO.all (CD g)=true)(O:r.aS=2 -> (r.aO.all λb=>!b.open_)=true):om g r=true:=by
 simp only[om,aH,dO,bu,eZ,bne_iff_ne]
 grind
def ag1{g:aK}{r:cr}{c:aQ}(O:om g r=true)(I:cD g c=true)(D:kj r c=true):om g (cZ r c)=true:=by
 have⟨C,hlen,Z,E,hz⟩:=zj O;have⟨_,T,hb,_⟩:=xQ I;have gb:=gV C;have U:c.kind=1 -> 0 <= c.row/\c.row <= g.rows-1:=by
  intro h;simp[cD,aH]at I;have:=I.2.2.2.1;rw[xP,h]at this
  simpa [bu]using this
 rcases kinds T with h|h|h|h|h|h|h|h|h
 ·have e:cZ r c=⟨r.aO.set c.aA.toNat ⟨true,c.row⟩,r.aS⟩:=by simp[cZ,h]
  have Y:r.aS=0:=by simp[kj,h]at D;exact D.1
  rw[e];exact HM C (by simpa using hlen) (by omega) (Yb E (by simp only[CD,aH,bu];exact⟨U h,by simp⟩)) (λe=>by simp only at e;omega)
 ·have e:cZ r c=r:=by simp[cZ,h]
  simp_all
 ·have e:cZ r c=r:=by simp[cZ,h]
  simp_all
 ·have e:cZ r c=⟨r.aO.set c.aA.toNat ⟨false,0⟩,r.aS⟩:=by simp[cZ,h]
  have Y:r.aS=0:=by simp[kj,h]at D;exact D.1
  rw[e];exact HM C (by simpa using hlen) (by omega) (Yb E (by simp only[CD,aH,bu];exact⟨by omega,by simp⟩)) (λe=>by simp only at e;omega)
 ·have e:cZ r c=r:=by simp[cZ,h]
  simp_all
 ·have e:cZ r c=⟨r.aO,1⟩:=by simp[cZ,h]
  rw[e];exact HM C hlen (by simp) E (λe=>by simp at e)
 ·have e:cZ r c=⟨r.aO,0⟩:=by simp[cZ,h]
  rw[e];exact HM C hlen (by simp) E (λe=>by simp at e)
 ·have e:cZ r c=⟨r.aO,2⟩:=by simp[cZ,h]
  rw[e];exact HM C hlen (by simp) E (λ_=>by simp[kj,h]at D;simpa using D.2)
 ·have e:cZ r c=⟨r.aO,0⟩:=by simp[cZ,h]
  rw[e];exact HM C hlen (by simp) E (λe=>by simp at e)
def HN(l:aa eB)(k:Nat)(e:eB):Bool:=match k with
 |0=>true
 | k+1=>match l[k]? with
  |some x=>decide (x.at_<e.at_)
  |none=>true
def fT(g:aK)(t:dw)(l:aa eB)(k:Nat)(r:cr)(e:eB):ah cr:=
 bif !cD g e.cmd then none else bif !aT e.at_ 0 1000000 then none else bif !HN l k e then none else bif !kj r e.cmd then none else
 bif X9 g t (l.take k) e then none else bif e.cmd.kind==1&&Ya t (rE (l.take k)) e.at_ then none else some (cZ r e.cmd)
def runT(g:aK)(t:dw)(l:aa eB):ah cr:=xR (fT g t l) 0 l (CH g)
def xS(n k:Nat):aa Int:=List.replicate k (-1)++List.replicate (n-k) 0
def atI{n k:Nat}(h:k<=n):(xS n k).length=n:=by
 unfold xS;simp;omega
def atJ{n k:Nat}(h:k<n):(xS n k).set k (-1)=xS n (k+1):=by
 obtain⟨m,rfl⟩:∃m,n=k+1+m:=⟨n-k-1,by omega⟩
 unfold xS;rw[show k+1+m-k=m+1 by omega,show k+1+m-(k+1)=m by omega,List.set_append_right _ _ (by simp),oF,Nat.sub_self,List.replicate_succ,List.replicate_succ',List.append_assoc];rfl
def atK(n:Nat):xS n 0=List.replicate n 0:=by simp[xS]
def atM(n:Nat):xS n n=List.replicate n (-1):=by simp[xS]
def HO(g:aK):fj:=⟨List.replicate (9*(aE g+1)).toNat (-1),[]⟩
def atO{g:aK}(C:cJ g=true):Pf g=some (HO g):=by
 have hb:=dZ g;obtain⟨n,D⟩:∃n:Nat,9*(aE g+1)=(n:Int):=⟨(9*(aE g+1)).toNat,by omega⟩
 have E:n<1073741824:=by omega
 have e:=gf (step:=KD) n (λi=>(((),(),(n:Int),(i:Int),()),(((),(),()),((),(),()),([]:aa Int),([]:aa Int),xS n i,([]:aa Int),()))) (.inl (((),(),()),(((),(),()),((),(),()),([]:aa Int),([]:aa Int),xS n n,([]:aa Int),()))) bC (λk h=>by
  have hl:=atI (show k<=n by omega);unfold KD aM xG xL;dsimp only;rw[bf,av,aP ⟨by omega,by omega⟩,aP,cC,bD,atJ h]) (by
  unfold KD aM xG xL;dsimp only;rw[bz,ax]) (cM)
 rw[atK,atM,eM]at e;unfold Pf HO bZ;rw[vO,az,C,bI,ax,l6,az,w9,D,aV ⟨by omega,by omega,by omega⟩,bD,oF];exact(bE (λo=>Option.bind o _) e).trans rfl
def atP(g:aK)(r:fj)(e:eB):(iF g r e).last.length=r.last.length/\(r.bq.length <= 4 -> (iF g r e).bq.length <= 4):=by
 unfold iF;cases (kX g r&&(cD g e.cmd&&(aT e.at_ 0 1000000 && !(e.cmd.kind==1&&vV r e.at_))))with
 |false=>simp_all
 | true=>
  refine⟨by simp,λh=>?_⟩
  cases e.cmd.kind==1 with
  |false=>exact h
  | true=>
   simp[av,CJ,List.length_drop,jh,mj];omega
def ag2(g:aK)(l:aa eB):fj:=l.foldl (iF g) (HO g)
def fE(g:aK)(_:Nat)(r:cr)(e:eB):ah cr:=bif pJ g r e.cmd then some (cZ r e.cmd)else none
def ag3(g:aK)(l:aa eB):ah cr:=xR (fE g) 0 l (CH g)
def atQ(a b:aa Int):Bool:=((a.length:Int)==(b.length:Int))&&(a.zip b).all λp=>p.1==p.2
def HP(x:fA):Prop:=(x.weights.length<=1048576)
def pE(x y:fA):Bool:=(x.gA==y.gA)&&((x.cap==y.cap)&&((x.dx==y.dx)&&((x.low==y.low)&&((x.high==y.high)&&(atQ x.weights y.weights&&((x.eT.down==y.eT.down)&&((x.eT.sleep==y.eT.sleep)&&true)))))))
def iE(u a:jk):Bool:=((u.request.id==a.request.id)&&((u.request.cS==a.request.cS)&&((u.request.line==a.request.line)&&((u.request.write==a.request.write)&&((u.request.data==a.request.data)&&((u.request.at_==a.request.at_)&&true))))))&&((u.n==a.n)&&((u.Bk==a.Bk)&&(((u.addr.aA==a.addr.aA)&&((u.addr.row==a.addr.row)&&((u.addr.cu==a.addr.cu)&&true)))&&pE u.jl a.jl)))
def atT{α:Type}{p:α->Bool}{l:aa α}(h:∀ j (C:j<l.length),p l[j]=false):l.find? p=none:=by
 rw[List.find?_eq_none];intro x D;obtain⟨j,C,rfl⟩:=jL.1 D;rw[h j C];simp
def ag4{α:Type}{p:α->Bool}{l:aa α}{i:Nat}(hi:i<l.length)(h:∀ j (C:j<i),p (l[j]'(by omega))=false)(D:p l[i]=true):l.find? p=some l[i]:=by
 rw[List.find?_eq_some_iff_getElem];exact⟨D,i,hi,rfl,λj C=>by rw[h j C];rfl⟩
def ag5(l:aa aR)(id:Int)(h:l.length<1073741824):LX l id=some (match l.find? (λr=>r.id==id)with | some r=>(r,true) | none=>((⟨0,0,0,false,0,0⟩:aR),false)):=by
 unfold LX dI;obtain⟨z,I,Y⟩:=QK (step:=LW)
  (λx=>∃i:Nat,x=((id,(),l,(l.length:Int),(i:Int),()),(((0:Int),(0:Int),(0:Int),false,(0:Int),(0:Int),()),()))/\i<=l.length/\∀j (D:j<i) (hl:j<l.length),((l[j]'hl).id==id)=false)
  (λx=>l.length-x.1.2.2.2.2.1.toNat)
  (λz=>(Sum.elim (λC=>some ((⟨C.2.1.1,C.2.1.2.1,C.2.1.2.2.1,C.2.1.2.2.2.1,C.2.1.2.2.2.2.1,C.2.1.2.2.2.2.2.1⟩:aR),C.1.2.1)) (Sum.elim (λz4=>some ((⟨(0:Int),(0:Int),(0:Int),false,(0:Int),(0:Int)⟩:aR),false)) (λz=>nomatch z)) z)=some (match l.find? (λr=>r.id==id)with | some r=>(r,true) | none=>((⟨0,0,0,false,0,0⟩:aR),false))) (by
   rintro x ⟨i,rfl,hi,D⟩;unfold LW aM bU xG xI;dsimp only;by_cases E:i<l.length
   ·have O:decide ((i:Int)<(l.length:Int))=true:=by simpa using E
    have Z:0<=(i:Int)/\(i:Int).toNat<l.length:=⟨by omega,by simpa using E⟩
    rw[O,av,aP Z];simp only[bD];cases T:(l[i].id==id)with
    | true=>
     right;refine⟨_,by rw[av],?_⟩;rw[ag4 (p:=λr=>r.id==id) E (λj U=>D j U (by omega)) T];rfl
    | false=>
     left
     refine⟨_,by rw[ax],⟨i+1,?_,by omega,λj U hl=>?_⟩,?_⟩
     ·rw[bh];simp
     ·by_cases e:j=i
      ·subst e;exact T
      ·exact D j (by omega) hl
     ·dsimp only;rw[bh];omega
   ·right;have O:decide ((i:Int)<(l.length:Int))=false:=by simpa using E
    rw[O,ax];refine⟨_,rfl,?_⟩;rw[atT (p:=λr=>r.id==id) (λj wM=>D j (by omega) wM)];rfl)
  bC _ ⟨0,rfl,by omega,λj h=>by omega⟩ (by dsimp only;unfold bC;omega)
 have I:iter LW bC ((id,(),l,(l.length:Int),(0:Int),()),(((0:Int),(0:Int),(0:Int),false,(0:Int),(0:Int),()),()))=some z:=I;rw[I];exact Y
def place(l:aa aR)(id:Int):Int:=match l.findIdx? (λr=>r.id==id)with
 |some i=>(i:Int)
 |none=>-1
def CK(l:aa aR)(C:Int)(x:cI):Int:=match l.find? (λr=>r.id==x.id)with
 |some r=>if W6 (x.at_-r.at_) > C then W6 (x.at_-r.at_)else C
 |none=>C
def Yc{α β:Type}(f:β->α->β)(b:β)(l:aa α)(i:Nat)(h:i<l.length):(l.take (i+1)).foldl f b=f ((l.take i).foldl f b) l[i]:=by
 rw[List.take_add_one,List.foldl_append,bL h];rfl
def atU(l:aa aR)(rs:aa cI)(h:l.length<1073741824)(Y:rs.length<1073741824):QJ l rs=some (rs.foldl (CK l) 0):=by
 unfold QJ bZ;obtain⟨z,D,O⟩:=QK (step:=LY)
  (λx=>∃i:Nat,x=((l,(rs.take i).foldl (CK l) 0,rs,(rs.length:Int),(i:Int),()),())/\i<=rs.length)
  (λx=>rs.length-x.1.2.2.2.2.1.toNat)
  (λz=>(Sum.elim (λT=>some T.1.1) (λz=>nomatch z) z)=some (rs.foldl (CK l) 0)) (by
   rintro x ⟨i,rfl,hi⟩;unfold LY aM xG xI;dsimp only;by_cases C:i<rs.length
   ·have E:decide ((i:Int)<(rs.length:Int))=true:=by simpa using C
    have U:0<=(i:Int)/\(i:Int).toNat<rs.length:=⟨by omega,by simpa using C⟩
    rw[E,av,aP U];simp only[bD];rw[ag5 l _ h,az];left;cases I:l.find? (λr=>r.id==rs[i].id)with
    | some r=>
     simp only[av];refine⟨_,rfl,⟨i+1,?_,by omega⟩,?_⟩
     ·rw[bh (n:=(i:Int)+1),Yc _ _ _ _ C]
      conv=>rhs;unfold CK
      rw[I];rfl
     ·dsimp only;rw[bh (n:=(i:Int)+1)];omega
    | none=>
     simp only[ax];refine⟨_,rfl,⟨i+1,?_,by omega⟩,?_⟩
     ·rw[bh (n:=(i:Int)+1),Yc _ _ _ _ C]
      conv=>rhs;unfold CK
      rw[I];rfl
     ·dsimp only;rw[bh (n:=(i:Int)+1)];omega
   ·right;have E:decide ((i:Int)<(rs.length:Int))=false:=by simpa using C
    rw[E,ax];refine⟨_,rfl,?_⟩;have:i=rs.length:=by omega
    rw[this,qc];rfl)
  bC _ ⟨0,rfl,by omega⟩ (by dsimp only;unfold bC;omega)
 have D:iter LY bC ((l,(0:Int),rs,(rs.length:Int),(0:Int),()),())=some z:=D;rw[D];exact O
def rF(lines:Int)(l:aa aR)(st:aa Int×aa mq)(x:cI):aa Int×aa mq:=
 match l.find? (λr=>r.id==x.id)with
 |none=>st
 |some r=>if 0<=r.line/\r.line<=lines-1 then (if r.write=true then (st.1.set r.line.toNat r.data,st.2++[⟨r.line,0,0⟩])else (st.1,st.2++[⟨r.line,st.1.getD r.line.toNat 0,x.code⟩]))else st
def iM(lines:Int)(l:aa aR)(rs:aa cI):aa Int×aa mq:=rs.foldl (rF lines l) (List.replicate lines.toNat 0,[])
def atV(lines:Int)(l:aa aR)(st:aa Int×aa mq)(x:cI):(rF lines l st x).1.length=st.1.length/\(rF lines l st x).2.length<=st.2.length+1:=by
 unfold rF;split
 ·exact⟨rfl,by omega⟩
 ·split
  ·split<;>simp
  ·exact⟨rfl,by omega⟩
def ag6(lines:Int)(l:aa aR)(rs:aa cI):(iM lines l rs).1.length=lines.toNat/\(iM lines l rs).2.length<=rs.length:=by
 have key:∀ (rs:aa cI) st,(rs.foldl (rF lines l) st).1.length=st.1.length/\(rs.foldl (rF lines l) st).2.length<=st.2.length+rs.length:=by
  intro rs
  induction rs with
  |nil=>intro st;simp
  | cons x rs C=>
   intro st;have D:=atV lines l st x;have E:=C (rF lines l st x);simp only[List.foldl_cons,List.length_cons];omega
 have:=key rs (List.replicate lines.toNat 0,[])
 simpa [iM]using this
def atW(lines:Int)(l:aa aR)(rs:aa cI){i:Nat}(h:i<rs.length):iM lines l (rs.take (i+1))=rF lines l (iM lines l (rs.take i)) rs[i]:=Yc _ _ _ _ h
def zk(lines:Int)(l:aa aR)(rs:aa cI):aa mq:=if 1<=lines/\lines<=1024 then (iM lines l rs).2 else []
def NF{α:Type}{out:aa α}{x:α}(h:out.length<1073741822):cB (out.length+[x].length)=true:=by
 unfold cB;refine bf ?_;simp;omega
def bw(x a b:Int)(h:¬ (a<=x/\x<=b)):bY x a b=some false:=by
 rw[agp];by_cases C:a<=x
 ·have:¬ x<=b:=λD=>h ⟨C,D⟩
  rw[bf C,bz this];rfl
 ·rw[bz C];rfl
def atX(lines:Int)(l:aa aR)(rs:aa cI)(h:l.length<1073741820)(T:rs.length<1073741820):QH lines l rs=some (zk lines l rs):=by
 unfold QH zk bZ;by_cases hl:1<=lines/\lines<=1024
 ·rw[XL hl.1 hl.2,az,aV hl];simp only[bI,ax];rw[aV ⟨by omega,by omega,by omega⟩];have e:=Hz (step:=Hw) (λi=>((lines,l,(),(),rs,(rs.length:Int),(i:Int),()),((iM lines l (rs.take i)).1,(iM lines l (rs.take i)).2,()))) (z:=.inl (((),()),((iM lines l rs).2,()))) rs.length 0 bC (λi _ hi=>?_) ?_ (by unfold bC;omega)
  ·have e:iter Hw bC ((lines,l,(),(),rs,(rs.length:Int),(0:Int),()),((List.replicate lines.toNat (0:Int)),([]:aa mq),()))=_:=e;rw[e];rfl
  ·have hi:i<rs.length:=by omega
   unfold Hw aM xG xI xL;dsimp only;have D:decide ((i:Int)<(rs.length:Int))=true:=bf;have I:0<=(i:Int)/\(i:Int).toNat<rs.length:=⟨by omega,by simpa using hi⟩
   obtain⟨O,E⟩:=ag6 lines l (rs.take i);rw[jK]at E;rw[D,av,aP I,EK,atW lines l rs hi];simp only[bD];generalize iM lines l (rs.take i)=st at O E;rw[ag5 l _ (by omega),az];unfold rF;cases U:l.find? (λr=>r.id==rs[i].id)with
   |none=>rfl
   | some r=>
    simp only[bI,ax];rw[bh (n:=lines-1)];by_cases hb:0<=r.line/\r.line<=lines-1
    ·rw[XL hb.1 hb.2,az,aV hb];have C:0<=r.line/\r.line.toNat<st.1.length:=⟨hb.1,by omega⟩
     simp only[bI,ax];cases hw:r.write with
     | true=>
      rw[av,aP C,aP C.2,NF (by omega)];rfl
     | false=>
      rw[ax,aP C,aP C.2,NF (by omega)];rw[cQ,bL C.2];rfl
    ·rw[bw _ _ _ hb,az,aX hb];rfl
  ·rw[gy];unfold Hw aM xG xI xL;dsimp only;have D:decide ((rs.length:Int)<(rs.length:Int))=false:=bz;rw[D,ax,qc]
 ·rw[bw _ _ _ hl,az,aX hl];rfl
def ag7(l:aa (Int×Bool))(k j:Int):nt (mC l k true) j=(j==k || nt l j):=by
 induction l with
 |nil =>rfl
 | cons p ps D=>
  simp only[mC];cases C:(k==p.1)with
  | true=>
   have e:k=p.1:=by simpa using C
   rw[av];simp[nt]
   grind
  | false=>
   rw[ax];simp only[nt]
   grind
def ET(l:aa cI):aa (Int×Bool):=l.foldl (λm x=>mC m x.id true) []
def ag8(l:aa cI)(x:cI):ET (l++[x])=mC (ET l) x.id true:=by
 unfold ET;rw[List.foldl_append];rfl
def ag9(l:aa cI)(k:Int):nt (ET l) k=l.any λx=>x.id==k:=by
 rcases List.eq_nil_or_concat l with rfl|⟨xs,x,rfl⟩
 ·rfl
 ·rw[List.concat_eq_append,ag8,ag7,ag9 xs k,List.any_append];simp only[List.any_cons,List.any_nil,Bool.or_false];rw[Bool.or_comm];congr 1;exact Bool.eq_iff_iff.2 ⟨λh=>by simpa using (by simpa using h:k=x.id).symm,λh=>by simpa using (by simpa using h:x.id=k).symm⟩
 termination_by l.length
 decreasing_by subst_vars;simp
def Q9(rs:aa cI)(fs:aa mq)(i:Nat):Bool:=match rs[i]?,fs[i]? with
 |some x,some f=>!((rs.take i).any λy=>y.id==x.id)&&(x.data==f.data ||(x.code==2&&x.data==0))
 |_,_=>false
def Ra(rs:aa cI)(fs:aa mq):Bool:=(List.range rs.length).all (Q9 rs fs)
def aha{rs:aa cI}{fs:aa mq}{i:Nat}(h:i<rs.length)(C:i<fs.length):Q9 rs fs i=(!((rs.take i).any λy=>y.id==rs[i].id)&&(rs[i].data==fs[i].data || (rs[i].code==2&&rs[i].data==0))):=by
 unfold Q9;rw[bL h,bL C]
def atY(x y:Int):(x==y)=(y==x):=Bool.eq_iff_iff.2 ⟨λh=>by simpa using (by simpa using h:x=y).symm,λh=>by simpa using (by simpa using h:y=x).symm⟩
def atZ(rs:aa cI)(fs:aa mq)(hl:rs.length<1073741820)(T:fs.length=rs.length):
  iter Hx bC (((),(),rs,(rs.length:Int),(0:Int),()),(fs,([]:aa (Int×Bool)),()))=some (bif Ra rs fs then .inr (.inl ((),()))else .inl ((false,()),())):=by
 have e:=og (step:=Hx) (List.range rs.length) (Q9 rs fs) (λi=>(((),(),rs,(rs.length:Int),(i:Int),()),(fs,ET (rs.take i),()))) (.inl ((false,()),())) (.inr (.inl ((),()))) bC (λi hi=>?_) ?_ (by rw[fO];exact cM)
 ·exact e
 ·rw[fO]at hi;have I:(List.range rs.length)[i]'(by rw[fO];exact hi)=i:=qb _;rw[I,aha hi (by omega)];unfold Hx aM bU xG xI xL;dsimp only;rw[bf,av,aP ⟨by omega,by omega⟩];simp only[bD];rw[ag9];have O:mC (ET (rs.take i)) rs[i].id true=ET (rs.take (i+1)):=by rw[List.take_succ_eq_append_getElem hi,ag8]
  cases U:(rs.take i).any λy=>y.id==rs[i].id with
  |true=>rfl
  | false=>
   rw[ax,aP ⟨by omega,by omega⟩,aP,cC,O];cases C:(rs[i].data==fs[i].data)with
   | true=>
    have:(rs[i].data != fs[i].data)=false:=by rw[bne,C];rfl
    rw[this];rfl
   | false=>
    have:(rs[i].data != fs[i].data)=true:=by rw[bne,C];rfl
    rw[this,av];cases D:(rs[i].code==(2:Int))with
    | false=>
     have:(rs[i].code != (2:Int))=true:=by rw[bne,D];rfl
     rw[this];rfl
    | true=>
     have:(rs[i].code != (2:Int))=false:=by rw[bne,D];rfl
     rw[this,ax];cases E:(rs[i].data==(0:Int))with
     | false=>
      have:(rs[i].data != (0:Int))=true:=by rw[bne,E];rfl
      rw[this];rfl
     | true=>
      have:(rs[i].data != (0:Int))=false:=by rw[bne,E];rfl
      rw[this];rfl
 ·rw[fO];unfold Hx aM bU xG xI xL;dsimp only;rw[bz,ax]
def Rb(lines:Int)(l:aa aR)(rs:aa cI):Bool:=aT lines 1 1024&&((zk lines l rs).length:Int)==(rs.length:Int)&&Ra rs (zk lines l rs)
def at0(lines:Int)(l:aa aR)(rs:aa cI)(h:l.length<1073741820)(C:rs.length<1073741820):QI lines l rs=some (Rb lines l rs):=by
 unfold QI Rb dI;rw[atX _ _ _ h C,az,cP,az];cases aT lines 1 1024 with
 |false=>rfl
 | true=>
  rw[bI,ax,dn];cases he:(((zk lines l rs).length:Int)==(rs.length:Int))with
  | false=>
   have:(((zk lines l rs).length:Int) != (rs.length:Int))=true:=by rw[bne,he];rfl
   rw[this];rfl
  | true=>
   have:(((zk lines l rs).length:Int) != (rs.length:Int))=false:=by rw[bne,he];rfl
   have D:(zk lines l rs).length=rs.length:=Int.ofNat.inj (by simpa using he);rw[this,ax,atZ _ _ C D,az,dn];cases Ra rs (zk lines l rs)<;>rfl
def eI(g:aK)(a:aN):Nat:=(vP g a).toNat
def EU{g:aK}{a:aN}(h:ef g a=true):vP g a=(eI g a:Int)/\(eI g a:Int)<ck g:=by
 have:=agm h;unfold eI;omega
def fH.lt{g:aK}{B:Int}{a:c9}(C:fH g B a){at_:aN}(h:ef g at_=true):eI g at_<a.cells.length:=by
 have:=EU h;have:=C.cells;omega
def fH.EV{g:aK}{B:Int}{a:c9}(C:fH g B a)(k:Nat){c:cw}(D:Sy c.symbols):fH g B ⟨a.cells.set k c,a.bx,a.bg⟩:=
 ⟨by simp[C.cells],Sy.bK C.syms D,C.bx,C.bg,C.HA,C.hit⟩
def at3{g:aK}{B:Int}{a:c9}(C:fH g B a)(hB:B<=100000){at_:aN}(h:ef g at_=true)(hl:eI g at_<a.cells.length){k:Nat}(Y:k<11)(D:k<a.cells[eI g at_].symbols.length){x:Int}(E:0<=x/\x<=15):
  Hu g a at_ (k:Int) x=some ⟨a.cells.set (eI g at_) ⟨a.cells[eI g at_].symbols.set k (bits .xor .i64 a.cells[eI g at_].symbols[k] x),a.cells[eI g at_].qd⟩,a.bx,a.bg⟩:=by
 obtain⟨I,_⟩:=oh h;obtain⟨O,Z⟩:=EU h;have T:aT (k:Int) 0 10=true:=by rw[bu];omega
 have U:aT x 0 15=true:=bu.2 E;unfold Hu vI xC xL xM;simp[C.copy,C.ok I hB,EI,h,cP,T,U,Hy,O,hl,D]
def je(R row:Int):aa Int:=(bif decide (0<row)then [row-1]else [])++(bif decide (row<R-1)then [row+1]else [])
def ahb{R row:Int}(O:2<=R)(T:R<=16)(U:0<=row)(Y:row<R):Hq R row=some (je R row):=by
 unfold Hq je xA xZ;have C:aT R 2 16=true:=by rw[bu];omega
 have D:aT row 0 (R-1)=true:=by rw[bu];omega
 rw[cP,az,C,bh (n:=R-1),cP,bh (n:=row-1),bh (n:=row+1)];by_cases E:0<row<;>by_cases I:row<R-1<;>simp[D,E,I,cB]
def ahc{R row:Int}(D:0 <= row)(E:row<R):∀ n∈je R row,0 <= n/\n<R:=by
 intro n C;unfold je at C
 grind
def at4(R row:Int):(je R row).length <= 2:=by
 unfold je
 grind
def at5{R row k:Int}{i:Nat}(hi:k+row=(i:Int))(C:0 <= k)(D:0 <= row)(H:aa Int):(je R row).foldl (λh n=>rA (k+n).toNat h) (H.set i 0)=rB R row i H:=by
 unfold je rB ze
 grind
def ahd(k:Int):∀ (l:aa Int) (H:aa Int),(l.foldl (λh n=>rA (k+n).toNat h) H).length=H.length
 |[],H=>rfl
 |x::l,H=>by rw[List.foldl_cons,ahd k l,XQ]
def ahe(k:Int):∀ (l:aa Int) (H:aa Int),(∀ x∈H,0<=x/\x<=100000)->∀ x∈l.foldl (λh n=>rA (k+n).toNat h) H,0<=x/\x<=100000
 |[],H,h=>h
 |x::l,H,h=>by rw[List.foldl_cons];exact ahe k l _ (XR h)
def at6{g:aK}(D:cJ g=true){B:Int}{a:c9}(C:fH g B a)(hB:B <= 100000){n:Int}(O:0 <= n)(T:n <= 100000):Li g a n=some ⟨a.cells,a.bx.map (qA n),a.bg⟩:=by
 have U:=xK g;have a1:=C.bx;have E:aT n 0 100000=true:=by rw[bu];omega
 unfold Li bZ;rw[C.copy,az,C.ok D hB,az,cP,az,E];have e:=gf (step:=Lh) _ (λi=>((n,(),(),(a.bx.length:Int),(i:Int),()),(((),(),(),()),((),(),(),()),([]:aa cw),([]:aa Int),([]:aa Int),a.cells,upto (qA n) a.bx i,a.bg,()))) (.inl (((),(),()),(((),(),(),()),((),(),(),()),([]:aa cw),([]:aa Int),([]),a.cells,a.bx.map (qA n),a.bg,()))) bC (λk h=>by
  unfold Lh aM xG xL;have Y:=C.HA _ (cX h);have I:=XJ (qA n) a.bx k h;have D:=XI (qA n) a.bx k h (by rw[QM];exact h);simp (disch:=omega) [QM,h,D,bh];rw[<- I];rfl) (by unfold Lh aM xG xL;simp[XH]) (cM)
 rw[eM,agj]at e;simp_all
def at7(y:Int):0 <= bits .and .i64 y 15/\bits .and .i64 y 15 <= 15:=by
 have e:bits .and .i64 y 15=IntKind.wrap .i64 ((BitVec.ofInt 64 y &&& BitVec.ofInt 64 15).toNat):=rfl;have h:(BitVec.ofInt 64 y &&& BitVec.ofInt 64 15).toNat <= 15:=by
  exact Nat.le_trans Nat.and_le_right (by decide)
 rw[e,IntKind.wrap_i64];omega
def Rc{b r b' r' R:Int}(C:0<=r)(D:r<R)(E:0<=r')(I:r'<R)(h:b*R+r=b'*R+r'):b=b'/\r=r':=by
 have key:∀ {b r b' r':Int},0<=r->r<R->0<=r'->r'<R->b*R+r=b'*R+r'->¬ b<b':=by
  intro b r b' r' C D E I h O;have:=Int.mul_le_mul_of_nonneg_right (show b+1<=b' by omega) (show 0<=R by omega);rw[Int.add_mul]at this;omega
 have T:=key C D E I h;have U:=key E I C D h.symm;have e:b=b':=by omega
 subst e;exact⟨rfl,by omega⟩
def Rd{g:aK}{a b:aN}(C:ef g a=true)(hb:ef g b=true)(h:eI g a=eI g b):a=b:=by
 have D:=(EU C).1;have E:=(EU hb).1;rw[h,<-E]at D;obtain⟨_,a1,a2,a3,a4,I,O⟩:=oh C;obtain⟨_,b1,b2,T,U,Y,Z⟩:=oh hb;simp only[vP,C,hb,av]at D;obtain⟨e1,e2⟩:=Rc I O Y Z D;obtain⟨e3,e4⟩:=Rc a3 a4 T U e1;cases a;cases b;simp_all
def i0:an6 0:=⟨by decide,by decide⟩
def lg(a:Nat):Nat:=(14688061253356765440 / 2 ^ (4*a)) % 16
def okB(C s1 s2 i:Nat):Bool:=!Nat.beq C 0&&(Nat.beq (gm C (pw i)) s1&&Nat.beq (gm s1 (pw i)) s2)
def loc(C s1 s2:Nat):ah Nat:=(List.range 11).find? (okB C s1 s2)
def HQ:ah Nat->Nat
 |some n=>n
 |none=>99
def at8:(tG λa=>Nat.beq a 0 ||PS (Int.ofNat a)==some (Int.ofNat (lg a)))=true:=by kernel_rfl
def ahf:(tG λC=>tG λs1=>tG λs2=>bif Nat.beq C 0 || Nat.beq s1 0 then Nat.beq (HQ (loc C s1 s2)) 99 else
  (λx=>!Nat.beq x 0&&Nat.beq (HQ (loc C s1 s2)) (bif Nat.blt (lg x) 11&&Nat.beq (gm s1 x) s2 then lg x else 99)) (gm s1 (iv C)))=true:=by kernel_rfl
def EW(w:aa Nat):Bool:=Nat.beq (eX w 0 11) 0&&(Nat.beq (eX w 1 11) 0&&Nat.beq (eX w 2 11) 0)
def lI(w:aa Nat):aa Nat×Int×Int:=bif EW w then (w,0,-1)else match loc (eX w 0 11) (eX w 1 11) (eX w 2 11)with
 |some k=>(w.set k (w.getD k 0 ^^^ eX w 0 11),1,(k:Int))
 |none=>(w,2,-1)
def ahg(n m:Nat):((n:Int)==(m:Int))=Nat.beq n m:=by
 cases h:Nat.beq n m with
 |true=>simp_all
 | false=>
  have:n≠m:=by rintro rfl;simp at h
  grind
def ahh{D s1 s2 k:Nat}(h:loc D s1 s2=some k):k<11/\okB D s1 s2 k=true /\ ∀ i,i<k -> okB D s1 s2 i=false:=by
 refine⟨gq.1 (sR h),List.find?_some h,λi hi=>?_⟩
 have⟨O,l1,l2,E,T⟩:=List.find?_eq_some_iff_append.1 h;have U:l1.length=k/\l1=List.range k:=by
  have C:(List.range 11)[l1.length]?=some k:=by rw[E];simp
  have I:l1.length<11:=by have:=bE List.length E;simp at this;omega
  rw[List.getElem?_range I]at C;injection C with C;refine⟨C,?_⟩;have Y:(List.range 11).take l1.length=l1:=by rw[E];simp
  grind
 simp_all
def ahi{C s1 s2:Nat}(D:C<16)(E:s1<16)(I:s2<16)(h:C=0 \/ s1=0):loc C s1 s2=none:=by
 have t:=pn (pn (pn ahf D) E) I;have O:(Nat.beq C 0 ||Nat.beq s1 0)=true:=by rcases h with rfl|rfl<;>simp
 rw[O]at t;have t:=c8 t;cases hl:loc C s1 s2 with
 |none=>rfl
 | some k=>
  rw[hl]at t;have:=(ahh hl).1;simp[HQ]at t;omega
def at9{C s1 s2:Nat}(E:C<16)(I:s1<16)(O:s2<16)(T:C≠0)(U:s1≠0):gm s1 (iv C)≠0/\loc C s1 s2=bif Nat.blt (lg (gm s1 (iv C))) 11&&Nat.beq (gm s1 (gm s1 (iv C))) s2 then some (lg (gm s1 (iv C)))else none:=by
 have t:=pn (pn (pn ahf E) I) O;have c0:Nat.beq C 0=false:=by cases h:Nat.beq C 0 with|false=>rfl|true=>exact absurd (c8 h) T
 have Y:Nat.beq s1 0=false:=by cases h:Nat.beq s1 0 with|false=>rfl|true=>exact absurd (c8 h) U
 dsimp only at t;rw[c0,Y,Bool.or_false,ax,aH]at t;have⟨t1,D⟩:=t;have D:=c8 D;refine⟨(by rintro e;rw[e]at t1;cases t1),?_⟩;cases hb:(Nat.blt (lg (gm s1 (iv C))) 11&&Nat.beq (gm s1 (gm s1 (iv C))) s2)with
 | true=>
  rw[hb,av]at D;rw[aH]at hb;have Z:lg (gm s1 (iv C))<11:=cH hb.1;cases hl:loc C s1 s2 with
  |none=>rw[hl]at D;simp[HQ]at D;omega
  |some k=>rw[hl]at D;simp[HQ]at D;rw[D];rfl
 | false=>
  rw[hb,ax]at D;cases hl:loc C s1 s2 with
  |none=>rfl
  | some k=>
   have:=(ahh hl).1;rw[hl]at D;simp[HQ]at D;omega
def aua{a:Nat}(h:a<16)(C:a≠0):Ej (a:Int)=some (iv a:Int):=by
 have t:=pn as2 h;simp_all
def aub{a:Nat}(h:a<16)(C:a≠0):PS (a:Int)=some (lg a:Int):=by
 have t:=pn at8 h;simp_all
def ahj{w:aa Nat}(U:jE w)(hl:w.length=11):Ll (cx w)=some (cx (lI w).1,(lI w).2.1,(lI w).2.2):=by
 have ho:cB (([]:aa Int).length+(cx w).length)=true:=fR (by simp[vQ,hl]);have h0:∀n:Nat,((n:Int)==(0:Int))=Nat.beq n 0:=λn=>ahg n 0
 have C:=A1 w 0 11;have D:=A1 w 1 11;have Y:=A1 w 2 11;have O:∀i (h:i<(cx w).length),(cx w)[i]=((w.getD i 0:Nat):Int):=λi h=>QS h
 have T:∀ k,(cx w).set k (bits .xor .i64 ((w.getD k 0:Nat):Int) ((eX w 0 11:Nat):Int))=cx (w.set k (w.getD k 0 ^^^ eX w 0 11)):=λk=>by
  rw[zc (U.get k) C,as3]
 have hlen:(cx w).length=11:=by rw[vQ,hl]
 unfold Ll xA xC xL xZ;rw[XN U hl,az,asY U hl,ho];have auc:lz [((eX w 0 11:Nat):Int),((eX w 1 11:Nat):Int),((eX w 2 11:Nat):Int)]=false:=rfl;rw[auc,ax,av,az];unfold lI EW;cases hz:(Nat.beq (eX w 0 11) 0&&(Nat.beq (eX w 1 11) 0&&Nat.beq (eX w 2 11) 0))with
 |true=>simp
 | false=>
  simp only[ax,List.nil_append];generalize Z:cx w=W at O T hlen ⊢;generalize hg0:eX w 0 11=E at *
  generalize hg1:eX w 1 11=s1 at *
  generalize wN:eX w 2 11=s2 at *
  have bQ:∀n:Nat,((n:Int) != (0:Int)) = !Nat.beq n 0:=λn=>by rw[bne,h0]
  by_cases I:E=0
  ·rw[ahi C D Y (.inl I)];subst I;simp[Z]
  ·have c0:Nat.beq E 0=false:=by cases h:Nat.beq E 0 with | false=>rfl | true=>exact absurd (c8 h) I
   by_cases n1:s1=0
   ·rw[ahi C D Y (.inr n1)];simp_all
   ·have c1:Nat.beq s1 0=false:=by cases h:Nat.beq s1 0 with | false=>rfl | true=>exact absurd (c8 h) n1
    have⟨nx,TO⟩:=at9 C D Y I n1;have e1:=aua C I;have e2:=EM D (as1 E);rw[TO];generalize hx:gm s1 (iv E)=x at *
    have ahk:x<16:=by rw[<- hx];exact jd _ _
    have e3:=aub ahk nx;have e4:=EM D ahk;generalize hn:lg x=n at *
    by_cases q1:n<11
    ·have d1:Nat.blt n 11=true:=jI q1;have d2:(n:Int)<11:=by omega
     have dA:n<W.length:=by omega
     have O:=O n dA;have T:=T n;cases q2:Nat.beq (gm s1 x) s2 with
     | true=>
      simp only[d1,dn,av];generalize w.getD n 0=c at O T ⊢;simp_all
     | false=>
      simp[ e1,e2,e3,e4,ahg,q2,Z]
    ·have d1:Nat.blt n 11=false:=by
      cases h:Nat.blt n 11 with
      |false=>rfl
      |true=>exact absurd (cH h) (by omega)
     have d2:¬ (n:Int)<11:=by omega
     simp only[d1,Bool.false_and,ax];simp[bQ,c0,c1,e1,e2,e3,d2,Z]
def Re{w:aa Nat}(C:jE w)(hl:w.length=11):(lI w).1.length=11/\jE (lI w).1/\((lI w).2.1=0 \/ (lI w).2.1=1 \/ (lI w).2.1=2):=by
 have D:=A1 w 0 11;unfold lI;cases EW w with
 |true=>simp_all
 | false=>
  cases loc _ _ _ with
  |none=>simp_all
  |some k=>exact⟨by simp[hl],C.set (pq (C.get k) D),.inr (.inl rfl)⟩
def aud{w:aa Nat}(h:EW w=true):lI w=(w,0,-1):=by simp[lI,h]
def aue{w:aa Nat}(C:jE w)(hl:w.length=11):PU (cx w)=some (cx (w.drop 3)):=by
 unfold PU xA xZ;have c0:((w.length:Int)==(11:Int))=true:=by rw[hl];rfl
 have D:(cx w).length=11:=by rw[vQ,hl]
 rw[XM C (by omega),az,c0,show (!true)=false from rfl,ax,D];have e:((cx w).take ((11:Nat):Int).toNat).drop (3:Int).toNat=cx (w.drop 3):=by
  rw[List.take_of_length_le (by omega)];simp_all
 have E:cB (([]:aa Int).length+(cx (w.drop 3)).length)=true:=by
  rw[vQ,List.length_drop,hl];rfl
 simp_all
def HR(x:lO):Prop:=HP x.bW/\HP x.next
def ahl(x:cr):Prop:=(x.aO.length<=1048576)
def auf(x:fj):Prop:=(x.last.length<=1048576)/\(x.bq.length<=1048576)
def Yd(x:cw):Prop:=(x.symbols.length<=1048576)
def Rf(x:c9):Prop:=(x.cells.length<=1048576/\∀y∈x.cells,Yd y)/\(x.bx.length<=1048576)/\(x.bg.length<=1048576)
def aug(x:gv):Prop:=(x.map.length<=1048576)
def EX(x:eC):Prop:=(x.aB.length<=1048576)
def pL(x:dc):Prop:=(x.rows.length<=1048576)/\(x.counts.length<=1048576)
def bR(x:au):Prop:=HR x.box/\ahl x.aG/\auf x.ready/\Rf x.array/\aug x.spare/\EX x.ay/\(x.bF.length<=1048576/\∀y∈x.bF,pL y)/\(x.guard.length<=1048576)/\(x.pending.length<=1048576)/\(x.queue.length<=1048576)/\(x.shares.length<=1048576)/\(x.errors.length<=1048576)/\(x.trace.length<=1048576)/\(x.aZ.length<=1048576)
def ov(c:fB)(p:fA):Bool:=(tE c p).getD false
def A4(c:fB)(p:fA)(hl:p.weights.length<1073741823):tE c p=some (ov c p):=by
 obtain⟨b,e,_⟩:=XU c p hl;unfold ov;rw[e];rfl
def ba1(a x:Bool):(bif a then some x else some false)=some (a&&x):=by cases a<;>rfl
def ba2(a x:Bool):(bif !a then some false else some x)=some (a&&x):=by cases a<;>rfl
def ba3(a b:Int)(x:Bool):(bif a != b then some false else some x)=some (a==b&&x):=by
 rw[bne];cases a==b<;>rfl
theorem ba4(p:Prop)[Decidable p](x:Bool):(bif decide p then some false else some x)=some (!decide p&&x):=by cases decide p<;>rfl
def bM(c:au):Bool:=
 ov c.config c.box.bW&&(ov c.config c.box.next&&(aT c.now 0 1000000&&(om c.config.aq c.aG&&(kX c.config.aq c.ready&&(pz c.config.aq c.array&&(ot c.config.aq c.spare&&(c.spare.cc==c.config.cc&&((fS c.ay&&vU c)&&(gS (ck (dG c.config.aq c.spare)) c.queue&&(ki c.shares&&((c.shares.length:Int)==4&&(tJ c.drain&&(nH c.aS&&(c.aS.state==c.aG.aS&&(!decide (c.aS.since > c.now)&&(aT c.dJ.every 1 100000&&(aT c.dJ.wait 1 c.dJ.every&&(aT c.dJ.next 0 (W6 (ck c.config.aq-1))&&(rD c.errors&&(decide ((c.trace.length:Int)<=2000)&&decide ((c.aZ.length:Int)<=400)))))))))))))))))))))
def sE(c:au)(C:bR c):AV c=some (bM c):=by
 have⟨⟨D,E⟩,Y,⟨Z,z5⟩,⟨⟨z6,I⟩,z7,z8⟩,z9,O,⟨nJ,ayE⟩,ow,mO,ox,rG,z16,z17,z18⟩:=C;unfold HP at D E;have T:∀ x∈c.array.cells,x.symbols.length<1073741824:=λx U=>by
  have:=I x U;unfold Yd at this;omega
 unfold EX at O;unfold AV bM;simp only[A4 _ _ (show c.box.bW.weights.length<1073741823 by omega),A4 _ _ (show c.box.next.weights.length<1073741823 by omega),cP,agL,X0,agx _ _ T,agR,atp _ (show c.ay.aB.length<1073741824 by omega),ER,CB,XX _ _ (show c.queue.length<1073741824 by omega),HD _ (show c.shares.length<1073741824 by omega),QX,QZ,agO _ (show c.errors.length<1073741824 by omega),az,ba1,ba2,ba3,ba4]
def Ye{g:aK}{a:c9}(h:pz g a=true):cJ g=true/\(a.bx.length:Int)=iB g/\(a.bg.length:Int)=iB g:=by
 simp[pz,aH,ij]at h;simp_all
def ahm(p:fA):Prop:=(0<=p.gA/\p.gA<=1)/\(0<=p.cap/\p.cap<=200)/\(0<=p.low/\p.low<=2)/\(p.low<p.high/\p.high<=6)/\(∃(i:Nat) (w:Int),i<4/\1<=w/\w<=4/\p.weights=[1,1,1,1].set i w)/\(5<=p.eT.down/\p.eT.down<=24)/\(60<=p.eT.sleep/\p.eT.sleep<=119)
def zl(p:fA):Prop:=ahm p/\8<=p.dx/\p.dx<=17
def auh{b:aa Int}{c:bH}(T:l8 b c):Dr b (O1 c) ahm:=by
 unfold O1 xL;rw[T.eq];show Dr b (Option.bind (some _) _) _;rw[az]
 refine(gw T 2).bind λx1 k1 U Y=>?_
 dsimp only;rw[Y.eta]
 refine(QT Y _ (by decide)).bind λZ k2 h2 kU=>?_
 dsimp only;rw[kU.eta]
 refine(gw kU 6).bind λx3 k3 h3 rq=>?_
 dsimp only;rw[rq.eta]
 refine(gw rq 3).bind λC k4 D yU=>?_
 dsimp only;rw[yU.eta]
 refine(gw yU 4).bind λE k5 h5 xu=>?_
 dsimp only;rw[xu.eta]
 refine(gw xu 4).bind λx6 k6 h6 CL=>?_
 dsimp only;rw[CL.eta]
 refine(gw CL 4).bind λx7 k7 h7 CM=>?_
 have a1:=U.2.2 (by omega);have a3:=h3.2.2 (by omega);have a4:=D.2.2 (by omega);have a5:=h5.2.2 (by omega);have a6:=h6.2.2 (by omega);have a7:=h7.2.2 (by omega);have b3:=h3.1;have b4:=D.1;have b5:=h5.1;have b6:=h6.1;have b7:=h7.1;have hl:x6.toNat<([1,1,1,1]:aa Int).length:=by simp only[List.length_cons,List.length_nil];omega
 dsimp only;rw[aP ⟨b6,hl⟩,aP hl,CM.eta]
 refine(gw CM 20).bind λI k8 h8 Ma=>?_
 dsimp only;rw[Ma.eta]
 refine(gw Ma 60).bind λO k9 h9 Mb=>?_
 dsimp only;rw[Mb.eta];have a8:=h8.2.2 (by omega);have a9:=h9.2.2 (by omega);have b8:=h8.1;have b9:=h9.1;rw[bh (n:=3+x3),bh (n:=C+1),bh (n:=C+1+E),bh (n:=1+x7),bh (n:=5+I),bh (n:=60+O)];simp only[ig,List.not_mem_nil,or_false]at h2;refine Dr.pure Mb ⟨⟨U.1,by show x1<=_;omega⟩,⟨by show 0<=Z;omega,by show Z<=_;omega⟩,⟨D.1,by show C<=_;omega⟩,⟨by show C<C+1+E;omega,by show C+1+E<=_;omega⟩,⟨x6.toNat,1+x7,by omega,by omega,by omega,rfl⟩,⟨by show 5<=5+I;omega,by show 5+I<=_;omega⟩,⟨by show 60<=60+O;omega,by show 60+O<=_;omega⟩⟩
def ahn{b:aa Int}{c:bH}(C:l8 b c):Dr b (Kq c) zl:=by
 unfold Kq;rw[C.eq]
 refine(auh C).bind λT U O D=>?_
 dsimp only;rw[D.eta]
 refine(gw D 10).bind λE Y Z I=>?_
 dsimp only;rw[I.eta];rw[bh];exact Dr.pure I ⟨O,by show 8 <= 8+E;omega,by show 8+E <= _;omega⟩
def aui{b:aa Int}{c:bH}(C:l8 b c):Dr b (OX c) λg=>g.cN=1/\1<=g.aO/\g.aO<=2/\1<=g.aW/\g.aW<=2:=by
 unfold OX;rw[C.eq]
 refine(gw C 2).bind λD k1 E I=>?_
 dsimp only;rw[I.eta]
 refine(gw I 3).bind λx2 k2 O T=>?_
 dsimp only;rw[T.eta]
 refine(gw T 2).bind λU k3 Y Z=>?_
 dsimp only;rw[Z.eta];have a1:=E.2.2 (by omega);have a2:=O.2.2 (by omega);have a3:=Y.2.2 (by omega);have b1:=E.1;have b2:=O.1;have b3:=Y.1;rw[bh,bh,bh];exact Dr.pure Z ⟨rfl,by show 1<=1+D;omega,by show 1+D<=_;omega,by show 1<=1+U;omega,by show 1+U<=_;omega⟩
def auj{b:aa Int}{c:bH}(C:l8 b c):Dr b (OZ c) λm=>0 <= m.order/\m.order <= 2:=by
 unfold OZ;rw[C.eq]
 refine(gw C 3).bind λI T O D=>?_
 rw[D.eta]
 refine(QU D 2).bind λU Y Z E=>?_
 rw[E.eta];exact Dr.pure E ⟨O.1,by show I <= 2;omega⟩
def gZ(qN wr:Int):dw:=⟨3,3,7,2,3,10,2,3,qN,wr,4,5,4,12,3,4,16⟩
def Md(g:aK):Prop:=(1<=g.cN/\g.cN<=2)/\(1<=g.aO/\g.aO<=2)/\(4<=g.rows/\g.rows<=6)/\(1<=g.aW/\g.aW<=2)
def gB(x:fB):Prop:=Md x.aq/\(∃r w:Int,1<=r/\r<=4/\4<=w/\w<=8/\x.bP=gZ r w)/\(0<=x.mapping.order/\x.mapping.order<=2)/\(0<=x.cc/\x.cc<=2)/\(200<=x.interval/\x.interval<=259)/\x.jj=16/\x.dX=⟨6*x.interval,40⟩
def auk{b:aa Int}{c:bH}(O:l8 b c):Dr b (O0 c) gB:=by
 unfold O0;rw[O.eq]
 refine(aui O).bind λg kg hg T=>?_
 dsimp only;rw[T.eta];obtain⟨g1,g2,g3,g4,g5⟩:=hg;show Dr b (Option.bind (some _) _) _;rw[az]
 refine(auj T).bind λm km U Y=>?_
 dsimp only;rw[Y.eta]
 refine(gw Y 60).bind λC k1 Z uD=>?_
 dsimp only;rw[uD.eta]
 refine(gw uD 3).bind λD k2 h2 kU=>?_
 dsimp only;rw[kU.eta]
 refine(gw kU 2).bind λE k3 h3 rq=>?_
 dsimp only;rw[rq.eta]
 refine(gw rq 3).bind λx4 k4 h4 yU=>?_
 dsimp only;rw[yU.eta]
 refine(QU yU 3).bind λx5 k5 h5 I=>?_
 dsimp only;rw[I.eta];have a1:=Z.2.2 (by omega);have a2:=h2.2.2 (by omega);have a3:=h3.2.2 (by omega);have a4:=h4.2.2 (by omega);have b1:=Z.1;have b2:=h2.1;have b3:=h3.1;have b4:=h4.1;have e1:W6 (200+C)=200+C:=bh;have e2:W6 (6*(200+C))=6*(200+C):=bh;have e3:W6 (4+D)=4+D:=bh;have e4:W6 (1+E)=1+E:=bh;rw[e1,e2,e3,e4];have hG:Md ⟨1+E,g.aO,4+D,g.aW⟩:=⟨⟨by show 1<=1+E;omega,by show 1+E<=2;omega⟩,⟨g2,g3⟩,⟨by show 4<=4+D;omega,by show 4+D<=6;omega⟩,⟨g4,g5⟩⟩
 cases x5 with
 | true=>
  rw[av]
  refine(gw I 5).bind λx6 k6 h6 CL=>?_
  dsimp only;rw[CL.eta]
  refine(gw CL 4).bind λx7 k7 h7 CM=>?_
  dsimp only;rw[CM.eta];have a6:=h6.2.2 (by omega);have a7:=h7.2.2 (by omega);have b6:=h6.1;have b7:=h7.1;rw[bh (n:=1+x7),bh (n:=4+x6)];exact Dr.pure CM ⟨hG,⟨1+x7,4+x6,by omega,by omega,by omega,by omega,rfl⟩,U,⟨b4,by show x4<=2;omega⟩,⟨by show 200<=200+C;omega,by show 200+C<=259;omega⟩,rfl,rfl⟩
 |false=>exact Dr.pure I ⟨hG,⟨3,6,by omega,by omega,by omega,by omega,rfl⟩,U,⟨b4,by show x4<=2;omega⟩,⟨by show 200<=200+C;omega,by show 200+C<=259;omega⟩,rfl,rfl⟩
def mb(p:aR->Bool)(q:aa aR):Nat:=(q.findIdx? p).getD q.length
def Rg(p:aR -> Bool)(q:aa aR):mb p q <= q.length:=by
 unfold mb;cases h:q.findIdx? p with
 |none=>simp_all
 | some k=>
  have⟨C,_⟩:=tV.1 h
  grind
def ko(p:aR->Bool)(q:aa aR)(r:aR):aa aR:=(q.take (mb p q)++[r])++q.drop (mb p q)
def Yf(p:aR->Bool)(q:aa aR)(r:aR):(ko p q r).length=q.length+1:=by
 have:=Rg p q;simp[ko];omega
def aul{p:aR -> Bool}{q:aa aR}{i:Nat}(h:i<mb p q)(hi:i<q.length):p q[i]=false:=by
 unfold mb at h;cases C:q.findIdx? p with
 |none =>simp_all
 | some k=>
  rw[C]at h;have⟨_,_,D⟩:=tV.1 C;simp_all
def aum{p:aR -> Bool}{q:aa aR}(h:mb p q<q.length):p q[mb p q]=true:=by
 unfold mb at h;cases C:q.findIdx? p with
 |none=>grind
 | some k=>
  have⟨D,E,_⟩:=tV.1 C;have e:mb p q=k:=by unfold mb;rw[C];rfl
  simp_all
def Yg{n:Int}{l:aa aR}(h:gS n l=true){i j:Nat}(E:i<j)(D:j<l.length):(l[i].id==l[j].id)=false:=by
 unfold gS at h;rw[aH,cm]at h;have C:=h.1 j (gq.2 D);unfold vT at C;rw[bL D]at C;simp at C;have:=C.2.2 l[i] (jL.2 ⟨i,by simp;omega,by simp⟩);simp_all
def aho{n:Int}{p:aR->Bool}{q:aa aR}{r:aR}(h:gS n (ko p q r)=true):∀ x∈q,(x.id==r.id)=false:=by
 intro x D;have E:=Rg p q;have hl:=Yf p q r;obtain⟨i,hi,rfl⟩:=jL.1 D;have C:(ko p q r)[mb p q]'(by omega)=r:=by
  unfold ko;rw[List.getElem_append_left (by simp;omega),List.getElem_append_right (by simp;omega)];simp
 by_cases c:i<mb p q
 ·have e:(ko p q r)[i]'(by omega)=q[i]:=by
   unfold ko;rw[List.getElem_append_left (by simp;omega),List.getElem_append_left (by simp;omega),List.getElem_take]
  have:=Yg h c (by omega);rw[e,C]at this;exact this
 ·have e:(ko p q r)[i+1]'(by omega)=q[i]:=by
   unfold ko;rw[List.getElem_append_right (by simp;omega),List.getElem_drop];congr 1;simp;omega
  have:=Yg h (show mb p q<i+1 by omega) (by omega);rw[e,C]at this;rw[atY];exact this
def ahp{p C:aR->Bool}:∀ {q:aa aR},(∀ x∈q,p x=C x)->q.findIdx? p=q.findIdx? C
 |[],_=>rfl
 | y :: q,h=>by
  rw[List.findIdx?_cons,List.findIdx?_cons,h y (.head _),ahp λx D=>h x (.tail _ D)]
def ahq{n:Int}{q:aa aR}{r:aR}(h:gS n (ko (λx=>!gp x r) q r)=true\/gS n (ko (λx=>gp r x) q r)=true):ko (λx=>!gp x r) q r=ko (λx=>gp r x) q r:=by
 have E:∀ x∈q,(x.id==r.id)=false:=by
  rcases h with h|h
  ·exact aho h
  ·exact aho h
 have C:∀ x∈q,(!gp x r)=gp r x:=by
  intro x C;have D:=E x C;have D:¬ x.id=r.id:=by simpa using D
  unfold gp;rw[Bool.eq_iff_iff];simp only[ff,qM,Bool.and_eq_false_iff,sS,beq_eq_false_iff_ne,eZ,aH,ij,dO];omega
 have e:mb (λx=>!gp x r) q=mb (λx=>gp r x) q:=by
  unfold mb;rw[ahp C]
 unfold ko;rw[e]
def EY(n:Int)(q:aa aR)(r:aR):aa aR×Bool:=bif gS n q&&gS n (ko (λx=>gp r x) q r)then (ko (λx=>gp r x) q r,true)else (q,false)
def Yh(q:aa aR)(h:q.length<1073741824):Lc q=some q:=by
 unfold Lc xA xZ;rw[fR (by simpa using h)];rfl
def Yi(r:aR):(⟨r.id,r.cS,r.line,r.write,r.data,r.at_⟩:aR)=r:=rfl
def aun(n:Int)(q:aa aR)(r:aR)(hl:q.length<1000000000):PJ n q r=some (EY n q r):=by
 have E:=Rg (λx=>!gp x r) q;unfold PJ bZ;have e:=gf (step:=Ld) (mb (λx=>!gp x r) q) (λi=>((n,q,(),(i:Int),()),((r.id,r.cS,r.line,r.write,r.data,r.at_,()),()))) (.inl ((n,q,(),((mb (λx=>!gp x r) q:Nat):Int),()),((r.id,r.cS,r.line,r.write,r.data,r.at_,()),()))) bC (λk h=>by
  have C:=aul h (by omega);have C:gp q[k] r=true:=by simpa using C
  unfold Ld aM xG xI;dsimp only;rw[bf,av,aP ⟨by omega,by omega⟩];simp only[bD];rw[Yi,XW,az,C,av,cC]) (by
  unfold Ld aM xG xI;dsimp only;by_cases c:mb (λx=>!gp x r) q<q.length
  ·have C:=aum c;have C:gp q[mb (λx=>!gp x r) q] r=false:=by simpa using C
   rw[bf,av,aP ⟨by omega,by omega⟩];simp only[bD];rw[Yi,XW,az,C,ax]
  ·rw[bz,ax]) (cM)
 rw[eM]at e;rw[e,az];simp only[iJ];rw[aV ⟨by omega,by omega,by omega⟩,aV ⟨by omega,by omega,by omega⟩];simp only[bD,Int.toNat_zero,List.drop_zero,qc];rw[Yi,Yh _ (by simp;omega),az,fR (by simp;omega),av,fR (by simp;omega),av,XX n q (by omega),az];unfold EY;have I:=Yf (λx=>!gp x r) q r;cases O:gS n q with
 | false=>
  rw[Bool.not_false,av,Yh _ (by omega),az];rfl
 | true=>
  rw[bI,ax];show (Er n (ko (λx=>!gp x r) q r)).bind _=_;rw[XX n _ (by omega),az,dn];cases C:gS n (ko (λx=>!gp x r) q r)with
  | false=>
   have D:gS n (ko (λx=>gp r x) q r)=false:=by
    cases D:gS n (ko (λx=>gp r x) q r)with
    |false=>rfl
    |true=>rw[ahq (.inr D),D]at C;cases C
   rw[D,Bool.not_false,av,Yh _ (by omega),az];rfl
  | true=>
   have D:=ahq (.inl C);rw[<-D,C,bI,ax,av];rfl
abbrev auo:=((aj×aj×aj×(aa dc)×Int×Int×aj)×(au×au×(Int×Int×Int×Int×Int×Int×Int×Int×Int×Int×Int×Int×Int×Int×Int×Int×Int×Int×Int×Int×Int×Int×Bool×Int×Int×Int×Int×Int×Int×Int×Int×Int×Int×aj×Int×Int×Int×Int×Int×Int×Int×aj×Int×Int×Bool×Int×aj×Int×aj×aj×aj×aj×aj×Int×aj×aj×Int×Bool×aj×(aa Int)×(aa aN)×(aa aR)×(aa dz)×Bool×Int×Int×Int×Int×Int×Int×Int×Int×(aa cY)×(aa eB)×(aa cI)×aj)×(aa Int)×(aa Int)×(aa ji)×(aa Int)×(aa Int)×(aa cw)×(aa Int)×(aa Int)×(aa Int)×(aa Int)×(aa dc)×aj))
def qD{α:Type}(l:aa α)(h:l.length<=1048577:=by omega):cB (([]:aa α).length+l.length)=true:=fR (by simp;omega)
def ahr(t:dc)(h:pL t):GO t=some t:=by
 unfold GO xA xZ;have C:=h.1;have D:=h.2;rw[qD _,qD _];rfl
def aup(s:auo)(D:s.1.2.2.2.2.2.1=0)(E:s.1.2.2.2.2.1=(s.1.2.2.2.1.length:Int))(I:s.2.2.2.2.2.2.2.2.2.2.2.2.2.2.1=[])(C:s.1.2.2.2.1.length <= 1048576 /\ ∀ y∈s.1.2.2.2.1,pL y):iter GP bC s=some (.inl (((),(),(),()),(s.2.1,s.2.2.1,s.2.2.2.1,s.2.2.2.2.1,s.2.2.2.2.2.1,s.2.2.2.2.2.2.1,s.2.2.2.2.2.2.2.1,s.2.2.2.2.2.2.2.2.1,s.2.2.2.2.2.2.2.2.2.1,s.2.2.2.2.2.2.2.2.2.2.1,s.2.2.2.2.2.2.2.2.2.2.2.1,s.2.2.2.2.2.2.2.2.2.2.2.2.1,s.2.2.2.2.2.2.2.2.2.2.2.2.2.1,s.1.2.2.2.1,s.2.2.2.2.2.2.2.2.2.2.2.2.2.2.2))):=by
 have e:=gf (step:=GP) s.1.2.2.2.1.length (λi=>(((),(),(),s.1.2.2.2.1,s.1.2.2.2.1.length,i,()),(s.2.1,s.2.2.1,s.2.2.2.1,s.2.2.2.2.1,s.2.2.2.2.2.1,s.2.2.2.2.2.2.1,s.2.2.2.2.2.2.2.1,s.2.2.2.2.2.2.2.2.1,s.2.2.2.2.2.2.2.2.2.1,s.2.2.2.2.2.2.2.2.2.2.1,s.2.2.2.2.2.2.2.2.2.2.2.1,s.2.2.2.2.2.2.2.2.2.2.2.2.1,s.2.2.2.2.2.2.2.2.2.2.2.2.2.1,s.1.2.2.2.1.take i,s.2.2.2.2.2.2.2.2.2.2.2.2.2.2.2))) _ bC (λk h=>by
  unfold GP aM xG xI;dsimp only;rw[bf,av,aP ⟨by omega,by omega⟩];simp only[bD];rw[ahr _ (C.2 _ (cX _)),az,fR (by simp;omega),av,cC,EL h]) (by
  unfold GP aM xG xI;dsimp only;rw[bz,ax,qc]) (cM)
 grind
def ahs(l:aa Int)(h:l.length <= 1048577):Pu l=some l:=by
 cases l with
 |nil=>rfl
 | cons a l=>
  show (bif cB _ then some _ else none)=_;rw[qD _ h];rfl
def auq(l:aa aN)(h:l.length <= 1048577):WX l=some l:=by
 cases l with
 |nil=>rfl
 | cons a l=>
  show (bif cB _ then some _ else none)=_;rw[qD _ h];rfl
def aur(l:aa aR)(h:l.length <= 1048577):WY l=some l:=by
 cases l with
 |nil=>rfl
 | cons a l=>
  show (bif cB _ then some _ else none)=_;rw[qD _ h];rfl
def aus(l:aa dz)(h:l.length <= 1048577):WZ l=some l:=by
 cases l with
 |nil=>rfl
 | cons a l=>
  show (bif cB _ then some _ else none)=_;rw[qD _ h];rfl
def aut(l:aa cY)(h:l.length <= 1048577):W0 l=some l:=by
 cases l with
 |nil=>rfl
 | cons a l=>
  show (bif cB _ then some _ else none)=_;rw[qD _ h];rfl
def auu(l:aa eB)(h:l.length <= 1048577):W2 l=some l:=by
 cases l with
 |nil=>rfl
 | cons a l=>
  show (bif cB _ then some _ else none)=_;rw[qD _ h];rfl
def auv(l:aa cI)(h:l.length <= 1048577):W3 l=some l:=by
 cases l with
 |nil=>rfl
 | cons a l=>
  show (bif cB _ then some _ else none)=_;rw[qD _ h];rfl
def Rh(b:lO)(h:HR b):GL b=some b:=by
 have C:b.bW.weights.length <= 1048576:=h.1;have D:b.next.weights.length <= 1048576:=h.2
 unfold GL vJ xA xZ;rw[qD _,av,qD _];rfl
def sF(c:au)(D:bR c):AQ c=some c:=by
 obtain⟨E,I,O,C,T,U,Y,z8,z9,lZ,nJ,ow,mO,ox⟩:=D;have y2:c.aG.aO.length<=1048576:=I;obtain⟨y3,y3'⟩:=O;have y5:c.spare.map.length<=1048576:=T;have y6:c.ay.aB.length<=1048576:=U;unfold AQ bZ;rw[Rh _ E,az];unfold GM GN AP xA xZ;rw[qD _,av,az,qD _,av,qD _,av,az,agw _ (by have:=C.1.1;omega) (by have:=C.2.1;omega) (by have:=C.2.2;omega) (λx Z=>by have:x.symbols.length<=1048576:=C.1.2 x Z;omega),az,ahs _ (by omega),az,qD _,av,az]
 refine(bE (λo=>Option.bind o _) (aup _ rfl rfl rfl Y)).trans ?_
 rw[az];simp only[iJ];rw[ahs c.guard (by omega),az,auq c.pending (by omega),az,aur c.queue (by omega),az,aus c.shares (by omega),az,aut c.errors (by omega),az,auu c.trace (by omega),az,auv c.aZ (by omega),az];rfl
def gi{α:Type}(p:α->Bool)(q:aa α):Nat:=(q.findIdx? p).getD q.length
def HS{α:Type}(p:α -> Bool)(q:aa α):gi p q <= q.length:=by
 unfold gi;cases h:q.findIdx? p with
 |none=>simp_all
 | some k=>
  have⟨C,_⟩:=tV.1 h
  grind
def xT{α:Type}{p:α -> Bool}{q:aa α}{i:Nat}(h:i<gi p q)(hi:i<q.length):p q[i]=false:=by
 unfold gi at h;cases C:q.findIdx? p with
 |none =>simp_all
 | some k=>
  rw[C]at h;have⟨_,_,D⟩:=tV.1 C;simp_all
def CN{α:Type}{p:α -> Bool}{q:aa α}(h:gi p q<q.length):p q[gi p q]=true:=by
 unfold gi at h;cases C:q.findIdx? p with
 |none=>grind
 | some k=>
  have⟨D,E,_⟩:=tV.1 C;have e:gi p q=k:=by unfold gi;rw[C];rfl
  simp_all
def Yj{α:Type}(p:α -> Bool)(q:aa α):q.any p=decide (gi p q<q.length):=by
 by_cases c:gi p q<q.length
 ·rw[bf c,List.any_eq_true];exact⟨_,cX c,CN c⟩
 ·rw[bz c,jV];intro x C;obtain⟨i,hi,rfl⟩:=jL.1 C;rw[xT (p:=p) (by omega) hi];simp
def auw(l:aa cI)(r:aR)(hl:l.length<=1048576):PL l r=some (l.any λx=>x.id==r.id):=by
 have D:=HS (λx:cI=>x.id==r.id) l;unfold PL Xa;rw[Yj];have e:=gf (step:=Le) (gi (λx:cI=>x.id==r.id) l) (λi=>((l,r,(l.length:Int),(i:Int),()),())) (if gi (λx:cI=>x.id==r.id) l<l.length then .inl ((((gi (λx:cI=>x.id==r.id) l:Nat):Int),()),())else .inr (.inl ((),()))) bC (λk h=>by
  have C:=xT h (by omega);unfold Le aM bU xG xI;dsimp only;rw[bf,av,aP ⟨by omega,by omega⟩];simp only[bD];rw[C,ax,cC]) (by
  unfold Le aM bU xG xI;dsimp only;by_cases c:gi (λx:cI=>x.id==r.id) l<l.length
  ·rw[bf,av,aP ⟨by omega,by omega⟩,aV c];simp only[bD];rw[CN c,av]
  ·rw[bz,ax,aX c]) (cM)
 rw[eM]at e;rw[e,az];by_cases c:gi (λx:cI=>x.id==r.id) l<l.length
 ·rw[aV c,bf c,iJ,az];dsimp only;rw[bf]
 ·rw[aX c,bz c,Sum.elim_inr,iJ,az];rfl
def iG(c:au)(r:aR):aR:=⟨r.id,r.cS,r.line,r.write,r.data,c.now⟩
def pO(c:au)(r:aR):aa aR×Bool:=EY (ck (dG c.config.aq c.spare)) c.queue (iG c r)
def kY(c:au)(r:aR):au×Bool:=bif (!bM c) ||((!(pO c r).2) ||(c.aZ.any λx=>x.id==r.id))then (c,false)else ({ c with queue:=(pO c r).1 },true)
def aht(c:au)(r:aR)(C:bR c):PN c r=some (kY c r):=by
 unfold PN kY;rw[sF c C,az,sE c C,az];obtain⟨E,I,O,T,U,Y,Z,z8,z9,lZ,nJ,ow,mO,D⟩:=C;cases h:bM c with
 |false=>rfl
 | true=>
  rw[bI,ax,lK,ER,az,CB,az,aun _ _ _ (by omega),az,auw _ _ D,az];show (bif !(pO c r).2 then some (c,false)else bif (c.aZ.any λx=>x.id==r.id)then some (c,false)else some ({ c with queue:=(pO c r).1 },true))=_;cases (pO c r).2<;>cases (c.aZ.any λx=>x.id==r.id)<;>rfl
def auy(c:au)(r:aR)(h:c.queue.length <= 1048576):(pO c r).1.length <= 1048576:=by
 unfold pO EY;cases C:(gS _ _&&gS _ _)with
 |false=>exact h
 | true=>
  rw[av];rw[aH]at C;have:=C.2;unfold gS at this
  grind
def auz(c:au)(r:aR)(C:bR c):bR (kY c r).1:=by
 unfold kY;cases hb:((!bM c) ||((!(pO c r).2) ||(c.aZ.any λx=>x.id==r.id)))with
 |true=>exact C
 | false=>
  have⟨D,E,I,O,T,U,Y,Z,z9,lZ,nJ,ow,mO,ox⟩:=C;exact⟨D,E,I,O,T,U,Y,Z,z9,auy c r lZ,nJ,ow,mO,ox⟩
def nb(l:aa UInt8):aa Int:=l.map λb=>(b.toNat:Int)
def eY(c:au)(a:c9):au:=⟨c.config,c.box,c.now,c.aG,c.ready,a,c.spare,c.ay,c.bF,c.guard,c.pending,c.queue,c.shares,c.drain,c.aS,c.dJ,c.errors,c.trace,c.aZ⟩
def xU:cw:=⟨[],false⟩
def Mf(d:cw):cw:=⟨(d.symbols.set 0 (bits .xor .i64 (d.symbols.getD 0 0) 5)).set 1 (bits .xor .i64 (d.symbols.getD 1 0) 10),d.qd⟩
def tO(base:Nat):Nat->aa cw->aa cw
 |0,cs=>cs
 |n+1,cs=>(tO base n cs).set (base+n) (Mf ((tO base n cs).getD (base+n) xU))
def Ri(base:Nat):∀ (n:Nat) (cs:aa cw),(tO base n cs).length=cs.length
 |0,_=>rfl
 | n+1,cs=>by
  show ((tO base n cs).set _ _).length=_;rw[jg,Ri]
def auA{d:cw}(h:Sy d.symbols):Sy (Mf d).symbols:=by
 have C:0<d.symbols.length:=by rw[h.1];omega
 have l1:1<d.symbols.length:=by rw[h.1];omega
 have I:d.symbols.getD 0 0=d.symbols[0]:=by rw[cQ,bL C];rfl
 have O:d.symbols.getD 1 0=d.symbols[1]:=by rw[cQ,bL l1];rfl
 have D:=XP (h.get (k:=0) C) (b:=5) ⟨by omega,by omega⟩;have E:=XP (h.get l1) (b:=10) ⟨by omega,by omega⟩;unfold Mf;rw[I,O];exact(h.set ⟨D.1,D.2.1⟩).set ⟨E.1,E.2.1⟩
def Yk{base:Nat}:∀ (n:Nat) {cs:aa cw},base+n <= cs.length -> (∀ c∈cs,Sy c.symbols) -> ∀ c∈tO base n cs,Sy c.symbols
 |0,cs,_,h=>h
 | n+1,cs,hl,h=>by
  have C:=Yk (base:=base) n (by omega) h;have hlen:=Ri base n cs;refine Sy.bK C (auA ?_)
  grind
def vW(g:aK)(l:lN)(a:c9)(b r:Int):c9:=
 ⟨bif CC l a (b*g.rows+r).toNat then tO ((b*g.rows+r)*g.aW).toNat g.aW.toNat a.cells else a.cells,a.bx.set (b*g.rows+r).toNat 0,rB g.rows r (b*g.rows+r).toNat a.bg⟩
def Yl{g:aK}(C:cJ g=true){b r k:Int}(E:0 <= b)(I:b<aE g)(O:0 <= r)(T:r<g.rows)(U:0 <= k)(Y:k<g.aW):0 <= (b*g.rows+r)*g.aW/\(b*g.rows+r)*g.aW+k<ck g/\0 <= b*g.rows+r/\b*g.rows+r<iB g:=by
 have er:aE g*g.rows=iB g:=by simp[iB,C]
 have⟨r0,Z,D⟩:=EJ E I O T;rw[er]at D;have⟨q0,q1,q2⟩:=EJ Z D U Y;have el:iB g*g.aW=ck g:=by simp[iB,ck,C]
 simp_all
def auB{g:aK}(C:cJ g=true)(c:au){b r:Int}(hc:(c.array.cells.length:Int)=ck g)(Y:∀ x∈c.array.cells,Sy x.symbols)(E:0<=b)(I:b<aE g)(O:0<=r)(T:r<g.rows):
  iter EG bC (((),b,r,(),(0:Int),()),(c,(g.cN,g.aO,g.rows,g.aW,()),()))=some (.inl (((),b,r,(),()),(eY c ⟨tO ((b*g.rows+r)*g.aW).toNat g.aW.toNat c.array.cells,c.array.bx,c.array.bg⟩,(g.cN,g.aO,g.rows,g.aW,()),()))):=by
 obtain⟨_,_,_,_,g5,g6,g7,g8⟩:=gV C;have b1:=rz g;obtain⟨n,Z⟩:=dN (show 0<=g.aW by omega);obtain⟨B,hB⟩:∃B,B=((b*g.rows+r)*g.aW).toNat:=⟨_,rfl⟩
 have yz:g.aW.toNat=n:=by omega
 rw[<-hB,yz];have oJ:B+n<=c.array.cells.length:=by
  have:=Yl C E I O T (show 0<=g.aW-1 by omega) (by omega);omega
 have e:=gf (step:=EG) n (λk=>(((),b,r,(),(k:Int),()),(eY c ⟨tO B k c.array.cells,c.array.bx,c.array.bg⟩,(g.cN,g.aO,g.rows,g.aW,()),()))) (.inl (((),b,r,(),()),(eY c ⟨tO B n c.array.cells,c.array.bx,c.array.bg⟩,(g.cN,g.aO,g.rows,g.aW,()),()))) bC (λk hk=>by
  have hat:ef g ⟨b,r,(k:Int)⟩=true:=xN C E I O T (by dsimp only;omega) (by dsimp only;omega);have hix:vP g ⟨b,r,(k:Int)⟩=((B+k:Nat):Int):=by
   have:=Yl C E I O T (show 0<=(k:Int) by omega) (by omega);unfold vP;rw[hat,av];dsimp only;omega
  have hlen:=Ri B k c.array.cells;have U:=Yk k (by omega:B+k<=c.array.cells.length) Y;show EG (((),b,r,(),(k:Int),()),(eY c ⟨tO B k c.array.cells,c.array.bx,c.array.bg⟩,(g.cN,g.aO,g.rows,g.aW,()),()))=some (.inl (((),b,r,(),((k+1:Nat):Int),()),(eY c ⟨(tO B k c.array.cells).set (B+k) (Mf ((tO B k c.array.cells).getD (B+k) xU)),c.array.bx,c.array.bg⟩,(g.cN,g.aO,g.rows,g.aW,()),())));generalize tO B k c.array.cells=cs at hlen U;have D:B+k<cs.length:=by omega
  have s1:=Sy.mem U D;have l1:(0:Nat)<cs[B+k].symbols.length:=by rw[s1.1];omega
  have l2:(1:Nat)<cs[B+k].symbols.length:=by rw[s1.1];omega
  have c2:decide ((k:Int)<g.aW)=true:=bf;have Ca:cs.getD (B+k) xU=cs[B+k]:=by rw[cQ,bL D];rfl
  have f0:cs[B+k].symbols.getD 0 0=cs[B+k].symbols[0]:=by rw[cQ,bL l1];rfl
  have f1:cs[B+k].symbols.getD 1 0=cs[B+k].symbols[1]:=by rw[cQ,bL l2];rfl
  rw[Ca];unfold Mf;rw[f0,f1];unfold EG eY xC aM xG xL xM;dsimp only;rw[c2,av,uI g,Hy,az,hix];generalize B+k=j at D s1 l1 l2;simp (disch:=omega) [D,cC,l1,l2]) (by unfold EG xC aM xG xL xM;simp[Z]) (cM)
 exact e
def auC(c:au){R k:Int}{nb:aa Int}(hl:nb.length<1000)(E:∀ n∈nb,0<=n/\n<R)(U:0<=k)(Y:k+R<=(c.array.bg.length:Int))(Z:c.array.bg.length<1000000)(hb:∀ x∈c.array.bg,0<=x/\x<=100000):
  iter CA bC (((),k,(),(nb.length:Int),(0:Int),()),(c,nb,()))=some (.inl ((),(eY c ⟨c.array.cells,c.array.bx,nb.foldl (λh n=>rA (k+n).toNat h) c.array.bg⟩,()))):=by
 have e:=gf (step:=CA) nb.length (λi=>(((),k,(),(nb.length:Int),(i:Int),()),(eY c ⟨c.array.cells,c.array.bx,(nb.take i).foldl (λh n=>rA (k+n).toNat h) c.array.bg⟩,nb,()))) (.inl ((),(eY c ⟨c.array.cells,c.array.bx,nb.foldl (λh n=>rA (k+n).toNat h) c.array.bg⟩,()))) bC (λj h=>by
  have hx:=E _ (cX h);have I:=ahd k (nb.take j) c.array.bg;have hB:=ahe k (nb.take j) c.array.bg hb;rw[List.take_succ_eq_append_getElem h,List.foldl_append];simp only[List.foldl_cons,List.foldl_nil];generalize (nb.take j).foldl (λh n=>rA (k+n).toNat h) c.array.bg=G at I hB;obtain⟨q,D⟩:=dN (show 0<=k+nb[j] by omega);have C:q<G.length:=by omega
  have hg:=hB _ (cX C);have O:W6 (k+nb[j])=(q:Int):=by rw[D];exact bh
  have T:W6 (G[q]+1)=G[q]+1:=bh;rw[D,bD,as6 C];unfold CA eY aM xG xL;simp (disch:=omega) [h,O,C,T,cC,qA]) (by unfold CA aM xG xL;simp) (cM)
 rw[eM,List.take_zero,List.foldl_nil]at e;exact e
def Ym{g:aK}(D:cJ g=true)(l:lN){B:Int}(hB:0 <= B){a:c9}(C:fH g B a){b r:Int}(E:0 <= b)(I:b<aE g)(O:0 <= r)(T:r<g.rows):fH g B (vW g l a b r):=by
 have⟨_,_,_,_,Y,Z,g7,g8⟩:=gV D;have U:((b*g.rows+r)*g.aW).toNat+g.aW.toNat <= a.cells.length:=by
  have:=Yl D E I O T (show 0 <= g.aW-1 by omega) (by omega);have:=C.cells;omega
 unfold vW;refine⟨?_,?_,by simp[C.bx],by simp[as8,C.bg],QV C.HA ⟨by omega,by omega⟩,ata C.hit⟩
 ·dsimp only;cases CC l a (b*g.rows+r).toNat with
  |false=>exact C.cells
  |true=>rw[av,Ri];exact C.cells
 ·dsimp only;cases CC l a (b*g.rows+r).toNat with
  |false=>exact C.syms
  |true=>rw[av];exact Yk _ U C.syms
def ahu{g:aK}(Y:cJ g=true)(l:lN){B:Int}(c:au)(C:fH g B c.array){b r:Int}(Z:0<=b)(h2:b<aE g)(D:0<=r)(E:r<g.rows):LJ g l c b r=some ((),(eY c (vW g l c.array b r),())):=by
 obtain⟨_,_,_,_,g5,g6,g7,g8⟩:=gV Y;have b2:=xK g;have er:aE g*g.rows=iB g:=by simp[iB,Y]
 obtain⟨r0,r1,r2⟩:=EJ Z h2 D E;rw[er]at r2;have hk:b*g.rows+g.rows<=iB g:=by
  have:=(EJ Z h2 (show 0<=g.rows-1 by omega) (show g.rows-1<g.rows by omega)).2.2;omega
 have a1:=C.bx;have a2:=C.bg;have I:W6 (b*g.rows)=b*g.rows:=bh;have e2:W6 (b*g.rows+r)=b*g.rows+r:=bh;have eL:=auB Y c C.cells C.syms Z h2 D E;unfold vW;generalize tO ((b*g.rows+r)*g.aW).toNat g.aW.toNat c.array.cells=cs at eL;obtain⟨i,hi⟩:=dN r1;obtain⟨k,O⟩:∃k,k=b*g.rows:=⟨_,rfl⟩
 rw[<-O]at hi hk I e2 r0 r1 r2;unfold LJ bZ xL;rw[<-O,I,e2];rw[hi]at r2;rw[hi,bD];have T:i<c.array.bx.length:=by omega
 have U:i<c.array.bg.length:=by omega
 have Us:Qn g l c.array b r=some (CC l c.array i):=by
  unfold Qn xI;have Mg:W6 (i:Int)=i:=bh;simp only[<-O,I,hi,Mg];unfold CC;simp only[cQ,bL T,bL U,Option.getD_some];by_cases h:c.array.bx[i] > l.bx<;>simp[T,U,h]
 rw[Us,az];have b1:=QV C.hit (k:=i) (v:=0) ⟨by omega,by omega⟩;have As:=ahb g5 g6 D E;have vj:=at4 g.rows r;have Yn:∀ cells:aa cw,iter CA bC (((),k,(),((je g.rows r).length:Int),(0:Int),()),(eY c ⟨cells,c.array.bx.set i 0,c.array.bg.set i 0⟩,je g.rows r,()))=some (.inl ((),(eY c ⟨cells,c.array.bx.set i 0,rB g.rows r i c.array.bg⟩,()))):=λcells=>by
  have:=auC (eY c ⟨cells,c.array.bx.set i 0,c.array.bg.set i 0⟩) (R:=g.rows) (k:=k) (nb:=je g.rows r) (by omega) (ahc D E) r0 (by simp[eY];omega) (by simp[eY];omega) b1;simp only[eY]at this ⊢;rw[at5 hi r0 D]at this;exact this
 have h2x:Xx=CA:=rfl;unfold eY at Yn eL ⊢;cases CC l c.array i with
 | false=>
  simp[T,U,As,h2x,Yn]
 | true=>
  rw[av,eL];have Mg:W6 (i:Int)=i:=bh;simp[<-O,I,Mg,hi,T,U,As,Yn]
def auD{c:fB}{p:fA}(hl:p.weights.length<1073741823)(h:ov c p=true):nG c.bP=true:=by
 have⟨b,e,C⟩:=XU c p hl;have hb:b=true:=by
  rw[A4 c p hl]at e;simp_all
 have:=C hb;simp[tH,aH]at this;simp_all
def ku(i:Nat):aQ:=⟨(i:Int) % 9+1,if (i:Int) % 9+1<=5 then (i:Int) / 9 else 0,0,0⟩
def uL(n m:Int):Int:=if n > m then n else m
def Rj(g:aK)(t:dw)(l:aa Int)(c:aQ)(m:Int)(i:Nat):Int:=match l[i]? with
 |some n=>bif decide (n<0)then m else uL (n+eH g t (ku i) c) m
 |none=>m
def uM(g:aK)(t:dw)(l:aa Int)(c:aQ)(k:Nat):Int:=(List.range k).foldl (Rj g t l c) 0
def me(g:aK)(t:dw)(r:fj)(c:aQ):Int:=
 bif c.kind==1&&(r.bq.length:Int)==4 then uL (r.bq.getD 0 0+t.nR) (uM g t r.last c r.last.length)else uM g t r.last c r.last.length
def Rk(g:aK)(t:dw)(l:aa Int)(c:aQ)(k:Nat):uM g t l c (k+1)=Rj g t l c (uM g t l c k) k:=by
 unfold uM;rw[List.range_succ,List.foldl_append];rfl
def Ro{g:aK}{t:dw}{l:aa Int}{c:aQ}{m:Int}{i:Nat}(h:i<l.length):Rj g t l c m i=bif decide (l[i]<0)then m else uL (l[i]+eH g t (ku i) c) m:=by
 unfold Rj;rw[bL h]
def auE{a b C:Int}(D:a<=C)(hb:0<=b/\b<=C):0<=uL a b/\uL a b<=C:=by
 unfold uL;split<;>omega
structure Mh (g:aK) (t:dw) (r:fj):Prop where
 vX:cJ g=true
 Rp:nG t=true
 len:r.last.length<1000
 last:∀(i:Nat) (h:i<r.last.length),(-1<=r.last[i]/\r.last[i]<=1000000)/\(r.last[i] = -1\/tL g i=true)
 a4:r.bq.length<=4
 act:∀x∈r.bq,0<=x/\x<=1000000
def auF{g:aK}{t:dw}{r:fj}(E:nG t=true)(h:kX g r=true):Mh g t r:=by
 have hb:=dZ g;simp only[kX,aH,cm,gq]at h;have⟨I,C,D,O,T⟩:=h;have C:(r.last.length:Int)=9*(aE g+1):=by simpa using C
 have D:¬ (r.bq.length:Int) > 4:=by simpa using D
 refine⟨I,E,by omega,λi hi=>?_,by omega,λx U=>?_⟩
 ·have e:=O i hi;rw[Q3 hi]at e;simp only[aH,eZ]at e;refine⟨bu.1 e.1,?_⟩
  grind
 ·obtain⟨i,hi,rfl⟩:=jL.1 U;have e:=T i hi;cases i with
  |zero=>rw[Q4 hi]at e;exact bu.1 e
  |succ i=>rw[L8 hi]at e;simp at e;exact bu.1 e.1
def auG(i:Nat):1<=(ku i).kind/\(ku i).kind<=9:=by
 unfold ku;dsimp only;omega
def auH{g:aK}{i:Nat}(C:tL g i=true):(ku i).kind <= 5 -> 0 <= (ku i).aA/\(ku i).aA<aE g:=by
 unfold tL at C;unfold ku
 grind
def auI{g:aK}{i:Nat}(hi:i<1000)(C:tL g i=true):∃ b,Em g (i:Int)=some (ku i,b):=by
 have E:=C;unfold tL at C;unfold Em ku;rw[l6,az,uU (by omega),uT (by omega),bh,bh,L6,az];cases D:decide ((i:Int) / 9<aE g)with
 |true =>simp_all
 | false=>
  rw[D]at C;have I:¬ (i:Int) % 9+1 <= 5:=by
   simp_all
  simp[*]
def Yo{g:aK}{t:dw}{r:fj}(h:Mh g t r)(c:aQ):∀ k,k <= r.last.length -> 0 <= uM g t r.last c k/\uM g t r.last c k <= 1000128
 |0,_=>⟨dU _,by show 0 <= _;omega⟩
 | k+1,D=>by
  have C:=Yo h c k (by omega);rw[Rk,Ro (by omega)];have E:=ag0 h.Rp g (ku k) c;have hl:=(h.last k (by omega)).1;cases decide (r.last[k]<0)with
  |true=>exact C
  |false=>exact auE (by omega) C
def auJ{g:aK}{t:dw}{r:fj}(h:Mh g t r)(c:aQ):0 <= me g t r c:=by
 have C:=Yo h c _ (dg _);unfold me uL
 grind
def auK{g:aK}{t:dw}{r:fj}{c:aQ}(h:Mh g t r)(Z:kX g r=true)(C:cD g c=true):P3 g t r c=some (bif decide (me g t r c > 1000000)then -1 else me g t r c):=by
 have hb:=λk D=>Yo h c k D
 have T:(1<=c.kind/\c.kind<=9)/\(c.kind<=5->0<=c.aA/\c.aA<aE g):=by
  simp only[cD,aH]at C
  refine⟨bu.1 C.2.1,λh5=>?_⟩
  have E:=C.2.2.1;rw[agX (bu.1 C.2.1),bf h5]at E;have:=bu.1 E;omega
 have e:=gf (step:=Lw) r.last.length (λi=>(((),(),(),(),uM g t r.last c i,r.last,(r.last.length:Int),(i:Int),()),((g.cN,g.aO,g.rows,g.aW,()),t,(r.last,r.bq,()),(c.kind,c.aA,c.row,c.cu,()),()))) (.inl (((),(),(),uM g t r.last c r.last.length,()),(t,(r.last,r.bq,()),(c.kind,c.aA,c.row,c.cu,()),()))) bC (λk D=>by
  have E:=h.len;have h2:=(h.last k D).1;have h3:=hb k (by omega);have hg:=ag0 h.Rp g (ku k) c;unfold Lw aM xG xI;dsimp only;rw[bf,av,aP ⟨by omega,by omega⟩,cC];simp only[bD];rw[Rk,Ro D];cases hd:decide (r.last[k]<0)with
  |true=>rfl
  | false=>
   have ayF:¬ r.last[k]<0:=by simpa using hd
   have U:tL g k=true:=by
    rcases(h.last k D).2 with h9|h9
    ·omega
    ·exact h9
   obtain⟨b,eb⟩:=auI (g:=g) (i:=k) (by omega) U;rw[ax,ax,uI,eb,az];show Option.bind (Lu g t (ku k) c) _=_;rw[atA t h.vX (auG k) T.1 (auH U) T.2,az,bh (n:=r.last[k]+_)];rfl) (by
  unfold Lw aM xG xI;dsimp only;rw[bz,ax]) (cM (by have:=h.len;omega))
 rw[eM]at e;unfold P3 me xI bZ;rw[QW,az,h.Rp,bI,ax,X0,az,Z,bI,ax,X4,az,C,bI,ax]
 refine(bE (λo=>Option.bind o _) e).trans ?_
 rw[az];simp only[iJ];have hL:=hb r.last.length (dg _);have hf:=atH h.Rp;have I:∀m:Int,(bif decide (m > 1000000)then some (-1:Int)else some m)=some (bif decide (m > 1000000)then -1 else m):=λm=>by cases decide (m > 1000000)<;>rfl
 cases c.kind==(1:Int)with
 |false=>exact I _
 | true=>
  cases Y:(r.bq.length:Int)==(4:Int)with
  |false=>exact I _
  | true=>
   have Y:(r.bq.length:Int)=4:=by simpa using Y
   have O:0<r.bq.length:=by omega
   have ha:=h.act _ (cX O);rw[av,av,aP ⟨by omega,O⟩];show (bif decide ((if W6 (r.bq[0]+t.nR) > _ then W6 (r.bq[0]+t.nR)else _) > 1000000)then _ else some (if W6 (r.bq[0]+t.nR) > _ then W6 (r.bq[0]+t.nR)else _))=_;rw[bh,cQ,bL O];exact I _
def cq(c:au)(x:aQ):Bool:=kj c.aG x&&(decide (me c.config.aq c.config.bP c.ready x<=1000000)&&decide (me c.config.aq c.config.bP c.ready x<=c.now))
structure Pk (c:au):Prop where
 z:bR c
 ok:bM c=true
 rk:om c.config.aq c.aG=true
 Yp:kX c.config.aq c.ready=true
 R:Mh c.config.aq c.config.bP c.ready
 bl:(c.aG.aO.length:Int)=aE c.config.aq
def Pk.of{c:au}(C:bR c)(h:bM c=true):Pk c:=by
 have T:c.box.bW.weights.length <= 1048576:=C.1.1;have I:=h;simp[bM,aH]at h;have⟨O,U,Y,D,E,Z,h7,h8,h9,HJ,CI,sj,tN,zh,zi,qy,ES,HT,HU,Mi,Ez,Mj⟩:=h;have hb:c.aG.aO.length=aE c.config.aq:=by
  simp[om,aH]at D;simp_all
 exact⟨C,I,D,E,auF (auD (by omega) O) E,hb⟩
def iP{g:aK}{x:aQ}(C:cD g x=true):(1 <= x.kind/\x.kind <= 9)/\(x.kind <= 5 -> 0 <= x.aA/\x.aA<aE g):=by
 simp[cD,aH]at C
 refine⟨bu.1 C.2.1,λE=>?_⟩
 have D:=C.2.2.1;rw[agX (bu.1 C.2.1),bf E]at D;have:=bu.1 D;omega
def A5{c:au}(h:Pk c){x:aQ}(C:cD c.config.aq x=true):kf c x=some (cq c x):=by
 have D:=auJ h.R x;unfold kf cq;rw[X5,az,h.rk,C,dn,dn,auK h.R h.Yp C,az]
 grind
def bV(i:Nat):aa Int->aa Int
 |[]=>[]
 |d::l=>bif decide (d >= 4)then (i:Int)::bV (i+1) l else bV (i+1) l
def auL(i:Nat)(a b:aa Int):bV i (a++b)=bV i a++bV (i+a.length) b:=by
 induction a generalizing i with
 |nil=>rfl
 | cons d a C=>
  rw[List.cons_append,bV,bV,C,show i+1+a.length=i+(a.length+1) by omega]
  grind
def Yq(i:Nat)(l:aa Int):(bV i l).length <= l.length:=by
 induction l generalizing i with
 |nil=>exact dg _
 | cons d l C=>
  have:=C (i+1);unfold bV
  grind
def auM{l:aa Int}{i:Nat}(h:i<l.length):bV 0 (l.take (i+1))=bif decide (l[i] >= 4)then bV 0 (l.take i)++[(i:Int)]else bV 0 (l.take i):=by
 rw[EL h,auL,jK,Nat.min_eq_left (by omega),gy];show _++(bif decide _ then _::bV _ []else bV _ [])=_;cases decide (l[i] >= 4)with
 |true=>rfl
 |false=>exact List.append_nil _
def ahv{l:aa Int}{i:Nat}{b:Int}(h:b∈bV i l):∃ j:Nat,b=((i+j:Nat):Int)/\j<l.length/\l.getD j 0 >= 4:=by
 induction l generalizing i with
 |nil=>cases h
 | cons d l D=>
  unfold bV at h;have tl:b∈bV (i+1) l -> ∃ j:Nat,b=((i+j):Int)/\j<(d :: l).length/\(d :: l).getD j 0 >= 4:=λh=>by
   have⟨j,E,I,O⟩:=D h;exact⟨j+1,by rw[E];omega,by simpa using I,by simpa using O⟩
  cases C:decide (d >= 4)with
  | true=>
   rw[C]at h;rcases ig.1 h with rfl|h
   ·exact⟨0,rfl,by simp,by simpa using C⟩
   ·exact tl h
  |false =>grind
def xV{r:eC}(h:fS r=true):r.aB.length<=8/\1<=r.aB.length:=by
 simp only[fS,aH]at h;have:=bu.1 h.2.1;omega
def Yr{r:eC}(C:fS r=true):G4 r=some (bV 0 r.aB):=by
 have hl:=xV C;unfold G4 bZ;rw[HF _ (by omega),az,C,bI,ax];have e:=gf (step:=Lk) r.aB.length (λi=>(((),r.aB,(r.aB.length:Int),(i:Int),()),(bV 0 (r.aB.take i),()))) (.inl (((),()),(bV 0 r.aB,()))) bC (λi h=>by
  have D:=Yq 0 (r.aB.take i);rw[jK]at D;unfold Lk aM xG xI;dsimp only;rw[bf,av,aP ⟨by omega,by omega⟩,cC,auM h];simp only[bD];cases decide (r.aB[i] >= 4)with
  |true=>rw[av,av,mj,fR,av]
  |false=>rfl) (by
  unfold Lk aM xG xI;dsimp only;rw[bz,ax,qc]) (cM)
 rw[eM]at e
 refine(bE (λo=>Option.bind o _) e).trans ?_
 rfl
def sG(c:au):Bool:=decide ((c.queue.length:Int) > 0) ||(decide ((c.pending.length:Int) > 0) ||decide (((bV 0 c.ay.aB).length:Int) > 0))
def ahw{c:au}(C:fS c.ay=true):Cv c=some (sG c):=by
 unfold Cv sG;rw[Yr C]
 grind
def A6(r:zG)(p:jM)(b:Bool):Int:=
 bif b then (bif p.state==1 then 7 else bif p.state==2 then 9 else 0)else bif p.state==0&&decide (p.idle >= r.sleep)then 8 else bif p.state==0&&decide (p.idle >= r.down)then 6 else bif p.state==1&&decide (p.idle >= r.sleep)then 7 else 0
def auN(r:zG)(p:jM)(b:Bool)(C:HE r=true)(D:nH p=true):P5 r p b=some (A6 r p b):=by
 unfold P5 A6;rw[agI,az,C,bI,QZ,az,D,bI]
 grind
def auO(r:zG)(p:jM)(b:Bool):A6 r p b=0 \/ 6 <= A6 r p b/\A6 r p b <= 9:=by
 unfold A6
 grind
def CO(may:Nat->Bool)(v:Nat->Int)(C:Int)(i:Nat):Int:=bif may i&&(decide (C<0) ||decide (v i > v C.toNat))then (i:Int)else C
def lJ(may:Nat->Bool)(v:Nat->Int)(k:Nat):Int:=(List.range k).foldl (CO may v) (-1)
def HV(may:Nat->Bool)(v:Nat->Int)(k:Nat):lJ may v (k+1)=CO may v (lJ may v k) k:=by
 unfold lJ;rw[List.range_succ,List.foldl_append];rfl
def tP(may:Nat -> Bool)(v:Nat -> Int):∀ k,-1 <= lJ may v k/\lJ may v k<k
 |0=>⟨dU _,by show (-1)<0;omega⟩
 | k+1=>by
  have C:=tP may v k;rw[HV];unfold CO
  grind
def A7(may:Nat -> Bool)(v:Nat -> Int):∀ k,lJ may v k = -1 \/ may (lJ may v k).toNat=true
 |0=>.inl rfl
 | k+1=>by
  have C:=A7 may v k;rw[HV];unfold CO
  grind
def EZ{may:Nat -> Bool}(v:Nat -> Int){i:Nat}(h:may i=true):∀ k,i<k -> 0 <= lJ may v k
 |0,C=>by omega
 | k+1,C=>by
  have hb:=tP may v k;rw[HV];unfold CO;by_cases D:i=k
  ·grind
  ·have E:=EZ v h k (by omega)
   grind
def jf(l:aa dz)(w:aa Bool):Int:=lJ (λi=>w.getD i false) (λi=>(l.getD i ⟨0,0⟩).eS) (min l.length w.length)
def CP(l:aa dz)(w:aa Bool)(hl:l.length<1073741824):Lz l w=some (jf l w):=by
 unfold Lz jf bZ;generalize T:min l.length w.length=n;have e:=gf (step:=Ly) n (λi=>((l,w,lJ (λi=>w.getD i false) (λi=>(l.getD i ⟨0,0⟩).eS) i,(i:Int),()),())) (.inl ((lJ (λi=>w.getD i false) (λi=>(l.getD i ⟨0,0⟩).eS) n,()),())) bC (λi h=>by
  have C:i<l.length:=by omega
  have O:i<w.length:=by omega
  have hb:=tP (λi=>w.getD i false) (λi=>(l.getD i ⟨0,0⟩).eS) i;rw[HV];generalize lJ (λi=>w.getD i false) (λi=>(l.getD i ⟨0,0⟩).eS) i=D at hb;unfold Ly CO aM xG xI;dsimp only;rw[bf,av,bf,av,aP ⟨by omega,by omega⟩,cC];simp only[bD,cQ,bL O,bL C,Option.getD_some];cases w[i]with
  |false=>rfl
  | true=>
   rw[av,dn];by_cases E:D<0
   ·rw[bf E];rfl
   ·have I:D.toNat<l.length:=by omega
    rw[bz E,aP ⟨by omega,C⟩,aP ⟨by omega,I⟩,bL I,Option.getD_some];cases decide (l[i].eS > l[D.toNat].eS)<;>rfl) (by
  unfold Ly aM xG xI;dsimp only;by_cases C:n<l.length
  ·rw[bf,av,bz,ax]
  ·rw[bz,ax]) (cM)
 rw[eM]at e
 refine(bE (λo=>Option.bind o _) e).trans ?_
 rfl
def E0(s:dz):dz:=⟨s.weight,s.weight⟩
def fq(l:aa dz):aa dz:=l.map E0
def Rq(l:aa dz)(w:aa Bool)(hl:l.length<1073741824):iter Hf bC ((w,(),(l.length:Int),(0:Int),()),(l,()))=some (.inl ((w,(),()),(fq l,()))):=by
 have e:=gf (step:=Hf) _ (λi=>((w,(),l.length,i,()),(upto E0 l i,()))) (.inl ((w,(),()),(fq l,()))) bC (λi h=>by
  have hlen:=QM E0 l i;unfold Hf aM xG xL;dsimp only;rw[bf,av,aP ⟨by omega,by omega⟩,aP,aP ⟨by omega,by omega⟩,aP,cC];simp only[bD];rw[XI E0 l i h,<- XJ E0 l i h];rfl) (by
  unfold Hf aM xG xL;dsimp only;rw[bz,ax,XH];rfl) (cM hl)
 exact e
def Ys{l:aa dz}(w:aa Bool)(hl:l.length<1073741823)(D:ki l=true)(U:l.length=w.length):∃ y t,pg l w=some (y,t)/\y.length=l.length:=by
 unfold pg xA xC bZ xL xZ;have hb:=tP (λi=>w.getD i false) (λi=>(l.getD i ⟨0,0⟩).eS) (min l.length w.length);have E:(fq l).length=l.length:=by simp[fq]
 have I:=tP (λi=>w.getD i false) (λi=>((fq l).getD i ⟨0,0⟩).eS) (min (fq l).length w.length);have O:=A7 (λi=>w.getD i false) (λi=>(l.getD i ⟨0,0⟩).eS) (min l.length w.length);rw[List.nil_append,CP l w (by omega),az,HD _ (by omega),az,D,bI,ax,List.length_nil,gy,fR,av];unfold jf;generalize Y:lJ (λi=>w.getD i false) (λi=>(l.getD i ⟨0,0⟩).eS) (min l.length w.length)=b at *
 by_cases T:b<0
 ·simp_all
 ·have C:b.toNat<l.length:=by omega
  rw[bz T,ax,aP ⟨by omega,C⟩,aP C];dsimp only;cases l[b.toNat].eS==0 with
  |false =>simp_all
  | true=>
   rw[av,Rq l w (by omega),az];simp only[iJ];rw[CP _ w (by omega),az];have Z:0 <= jf (fq l) w:=EZ _ (i:=b.toNat) (by rcases O with h|h;exact absurd h (by omega);exact h) _ (by rw[E];omega);have hq:jf (fq l) w<((min (fq l).length w.length:Nat):Int):=I.2;simp_all
def xW(m:rQ)(n:Int)(a:aN):aN:=bif m.hash then ⟨(a.aA+a.row) % n,a.row,a.cu⟩else a
def rH(g:aK)(m:rQ)(l:Int):aN:=xW m (aE g)
 (bif m.order==0 then ⟨l / g.aW % aE g,l / g.aW / aE g,l % g.aW⟩else bif m.order==1 then ⟨l % aE g,l / aE g / g.aW,l / aE g % g.aW⟩else ⟨l / g.aW / g.rows,l / g.aW % g.rows,l % g.aW⟩)
def CQ{l a b:Int}(C:0<=l)(hb:0<b)(h:l<a*b):0<=l / b/\l / b<a/\l / b<=l:=by
 refine⟨Int.ediv_nonneg C (by omega),Int.ediv_lt_of_lt_mul hb h,?_⟩;exact Int.ediv_le_self _ C
def vY{l b:Int}(hb:0<b):0<=l % b/\l % b<b:=⟨Int.emod_nonneg _ (by omega),Int.emod_lt_of_pos _ hb⟩
def Yt{m:rQ}{n:Int}{a:aN}(C:0<n)(hb:0 <= a.aA/\a.aA<n):0 <= (xW m n a).aA/\(xW m n a).aA<n/\(xW m n a).row=a.row/\(xW m n a).cu=a.cu:=by
 unfold xW;cases m.hash with
 |false=>simp_all
 |true=>exact⟨(vY C).1,(vY C).2,rfl,rfl⟩
def Yu{m:rQ}{n b r c:Int}(C:0<n)(D:n<=8)(E:0<=b/\b<=100000)(I:0<=r/\r<=100000):(bif m.hash then if n=0 then none else some ((⟨(W6 (b+r)).tmod n,r,c⟩:aN),true)else some ((⟨b,r,c⟩:aN),true))=some (xW m n ⟨b,r,c⟩,true):=by
 unfold xW;cases m.hash with
 |false=>rfl
 |true=>rw[av,aX,bh,uT (by omega),av]
def auP{g:aK}{m:rQ}{l:Int}(I:cJ g=true)(hm:aT m.order 0 2=true)(C:0<=l)(hl:l<ck g):∀ (f:ah (aN×Bool)),f=(bif (m.order==(0:Int))then if g.aW=0 then none else if g.aW=0 then none else if aE g=0 then none else if g.aW=0 then none else if aE g=0 then none else bif m.hash then if aE g=0 then none else some ((⟨((W6 (((W6 (l.tdiv g.aW)).tmod (aE g))+(W6 ((W6 (l.tdiv g.aW)).tdiv (aE g))))).tmod (aE g)),(W6 ((W6 (l.tdiv g.aW)).tdiv (aE g))),(l.tmod g.aW)⟩:aN),true)else some ((⟨((W6 (l.tdiv g.aW)).tmod (aE g)),(W6 ((W6 (l.tdiv g.aW)).tdiv (aE g))),(l.tmod g.aW)⟩:aN),true)else bif (m.order==(1:Int))then if aE g=0 then none else if aE g=0 then none else if g.aW=0 then none else if aE g=0 then none else if g.aW=0 then none else bif m.hash then if aE g=0 then none else some ((⟨((W6 ((l.tmod (aE g))+(W6 ((W6 (l.tdiv (aE g))).tdiv g.aW)))).tmod (aE g)),(W6 ((W6 (l.tdiv (aE g))).tdiv g.aW)),((W6 (l.tdiv (aE g))).tmod g.aW)⟩:aN),true)else some ((⟨(l.tmod (aE g)),(W6 ((W6 (l.tdiv (aE g))).tdiv g.aW)),((W6 (l.tdiv (aE g))).tmod g.aW)⟩:aN),true)else if g.aW=0 then none else if g.aW=0 then none else if g.rows=0 then none else if g.aW=0 then none else if g.rows=0 then none else bif m.hash then if aE g=0 then none else some ((⟨((W6 ((W6 ((W6 (l.tdiv g.aW)).tdiv g.rows))+((W6 (l.tdiv g.aW)).tmod g.rows))).tmod (aE g)),((W6 (l.tdiv g.aW)).tmod g.rows),(l.tmod g.aW)⟩:aN),true)else some ((⟨(W6 ((W6 (l.tdiv g.aW)).tdiv g.rows)),((W6 (l.tdiv g.aW)).tmod g.rows),(l.tmod g.aW)⟩:aN),true))->f=some (rH g m l,true)/\ef g (rH g m l)=true:=by
 have hb:=dZ g;have hp:=EH I;have hL:=rz g;have gb:=gV I;have eL:ck g=aE g*g.rows*g.aW:=by simp[ck,I]
 have zW:aT l 0 (W6 (ck g-1))=true:=by rw[bh];exact bu.2 ⟨C,by omega⟩
 have ho:=bu.1 hm;rw[eL]at hl;have U:¬ aE g=0:=by omega
 have oR:¬ g.aW=0:=by omega
 have jw:¬ g.rows=0:=by omega
 rintro f rfl;simp only[aX U,aX oR,aX jw];unfold rH;by_cases Y:m.order=0
 ·have a1:=CQ (a:=aE g*g.rows) C (show 0<g.aW by omega) hl;have a2:=CQ (l:=l / g.aW) (a:=g.rows) (b:=aE g) a1.1 (by omega) (by rw[Int.mul_comm];exact a1.2.1);have a3:=vY (l:=l / g.aW) (b:=aE g) (by omega);have a4:=vY (l:=l) (b:=g.aW) (by omega);rw[Y,gu,av,av,uU C,uT C,bh (n:=l / g.aW),uU a1.1,uT a1.1,bh (n:=l / g.aW / aE g)];obtain⟨O,T,D,E⟩:=Yt (m:=m) (n:=aE g) (a:=⟨l / g.aW % aE g,l / g.aW / aE g,l % g.aW⟩) (by omega) a3;refine⟨?_,xN I O T (by rw[D];exact a2.1) (by rw[D];exact a2.2.1) (by rw[E];exact a4.1) (by rw[E];exact a4.2)⟩;refine Eq.trans ?_ (Yu (by omega) (by omega) (by omega) (by omega));rw[aX U]
 ·rw[dy Y,ax,ax];by_cases Z:m.order=1
  ·have a1:=CQ (a:=g.rows*g.aW) C (show 0<aE g by omega) (by rw[Int.mul_comm,<-Int.mul_assoc];exact hl);have a2:=CQ (l:=l / aE g) (a:=g.rows) (b:=g.aW) a1.1 (by omega) a1.2.1;have a3:=vY (l:=l) (b:=aE g) (by omega);have a4:=vY (l:=l / aE g) (b:=g.aW) (by omega);rw[Z,gu,av,av,uU C,uT C,bh (n:=l / aE g),uU a1.1,uT a1.1,bh (n:=l / aE g / g.aW)];obtain⟨O,T,D,E⟩:=Yt (m:=m) (n:=aE g) (a:=⟨l % aE g,l / aE g / g.aW,l / aE g % g.aW⟩) (by omega) a3;refine⟨?_,xN I O T (by rw[D];exact a2.1) (by rw[D];exact a2.2.1) (by rw[E];exact a4.1) (by rw[E];exact a4.2)⟩;refine Eq.trans ?_ (Yu (by omega) (by omega) (by omega) (by omega));rw[aX U]
  ·have a1:=CQ (a:=aE g*g.rows) C (show 0<g.aW by omega) hl;have a2:=CQ (l:=l / g.aW) (a:=aE g) (b:=g.rows) a1.1 (by omega) a1.2.1;have a3:=vY (l:=l / g.aW) (b:=g.rows) (by omega);have a4:=vY (l:=l) (b:=g.aW) (by omega);rw[dy Z,ax,ax,uU C,uT C,bh (n:=l / g.aW),uU a1.1,uT a1.1,bh (n:=l / g.aW / g.rows)];obtain⟨O,T,D,E⟩:=Yt (m:=m) (n:=aE g) (a:=⟨l / g.aW / g.rows,l / g.aW % g.rows,l % g.aW⟩) (by omega) ⟨a2.1,a2.2.1⟩;refine⟨?_,xN I O T (by rw[D];exact a3.1) (by rw[D];exact a3.2) (by rw[E];exact a4.1) (by rw[E];exact a4.2)⟩;refine Eq.trans ?_ (Yu (by omega) (by omega) (by omega) (by omega));rw[aX U]
def ahx{g:aK}{m:rQ}{l:Int}(C:cJ g=true)(D:aT m.order 0 2=true)(E:0<=l)(hl:l<ck g):P6 g m l=some (rH g m l,true)/\ef g (rH g m l)=true:=by
 have O:=rz g;have I:aT l 0 (W6 (ck g-1))=true:=by rw[bh];exact bu.2 ⟨E,by omega⟩
 refine auP C D E hl _ ?_;unfold P6;rw[vO,az,C,bI,ax,agF,az,D,bI,ax,CB,az,cP,az,I,bI,ax,l6,az]
def dM(c:au)(l:Int):aN:=
 let a:=rH (dG c.config.aq c.spare) c.config.mapping l
 ⟨a.aA,c.spare.map.getD (a.aA*(c.config.aq.rows-c.spare.cc)+a.row).toNat 0,a.cu⟩
def HW{g:aK}{s:gv}(h:ot g s=true):dG g s=⟨g.cN,g.aO,g.rows-s.cc,g.aW⟩/\cJ g=true/\cJ (dG g s)=true/\aE (dG g s)=aE g/\0 <= s.cc/\s.cc <= 2/\2 <= g.rows-s.cc/\g.rows <= 16:=by
 have D:=h;simp[ot,aH]at h;have⟨C,E,I,O,T⟩:=agD h.1;have gb:=gV C;have e:dG g s=⟨g.cN,g.aO,g.rows-s.cc,g.aW⟩:=by
  unfold dG;rw[D,av,bh]
 have U:cJ (dG g s)=true:=by
  rw[e];unfold cJ;simp[aH,bu];omega
 refine⟨e,C,U,?_,E,I,O,T⟩;unfold aE;simp_all
def auQ{g:aK}{s:gv}(h:ot g s=true){b r:Int}(hb:0 <= b/\b<aE g)(E:0 <= r/\r<g.rows-s.cc):(b*(g.rows-s.cc)+r).toNat<s.map.length/\0 <= s.map.getD (b*(g.rows-s.cc)+r).toNat 0/\s.map.getD (b*(g.rows-s.cc)+r).toNat 0<g.rows:=by
 have⟨_,Z,_,_,h1,h2,h3,h4⟩:=HW h;have I:=dZ g;simp only[ot,aH,dO,cm,gq]at h;have⟨_,hl,O⟩:=h;obtain⟨b,rfl⟩:=dN hb.1;obtain⟨r,rfl⟩:=dN E.1;have⟨R,hR⟩:=dN (show 0 <= g.rows-s.cc by omega);have⟨C,T⟩:=dN I.1;rw[hR,T,bD,bD]at hl;have hl:s.map.length=C*R:=by exact_mod_cast hl
 have U:b<C:=by omega
 have D:r<R:=by omega
 have e:((b:Int)*(g.rows-s.cc)+(r:Int)).toNat=b*R+r:=by rw[hR,<- Int.natCast_mul,<- Int.natCast_add,bD]
 have dA:=HI (R:=R) U (show r+1 <= R from D);have hi:b*R+r<s.map.length:=by omega
 have h5:=O b (by omega) r (by omega);rw[e];refine⟨hi,?_⟩;rw[cQ,bL hi,Option.getD_some];have Y:(iC s.map R b)[r]?=some s.map[b*R+r]:=by rw[Q5,List.getElem?_take_of_lt D,List.getElem?_drop,bL hi]
 rw[hR,bD]at h5;unfold xO at h5;rw[Y]at h5;simp only[eZ,aH,dO,bu]at h5;rcases h5 with h5|h5
 ·omega
 ·grind
def Rr{c:au}(h:Pk c)(E:ot c.config.aq c.spare=true)(he:c.spare.cc=c.config.cc)(hm:aT c.config.mapping.order 0 2=true){l:Int}(h0:0 <= l)(hl:l<ck (dG c.config.aq c.spare)):zb c l=some (dM c l,true)/\ef c.config.aq (dM c l)=true:=by
 have⟨Z,hg,wN,eb,s1,s2,s3,s4⟩:=HW E;have⟨m1,m3⟩:=ahx wN hm h0 hl;have⟨_,C,D,I,O,b5,b6⟩:=oh m3;rw[eb]at D;have gb:=gV hg;have hb:=dZ c.config.aq;have er:(dG c.config.aq c.spare).rows=c.config.aq.rows-c.spare.cc:=by rw[Z]
 have ec:(dG c.config.aq c.spare).aW=c.config.aq.aW:=by rw[Z]
 rw[er]at O;rw[ec]at b6;have⟨k1,k2,k3⟩:=auQ E ⟨C,D⟩ ⟨I,O⟩;have hmul:=EJ C D I O;have hM:=QN (a:=aE c.config.aq) (b:=c.config.aq.rows-c.spare.cc) (A:=8) (B:=16) hb.1 hb.2 (by omega) (by omega);unfold dM;generalize hA:rH (dG c.config.aq c.spare) c.config.mapping l=A at *
 dsimp only;refine⟨?_,xN hg C D k2 k3 b5 b6⟩;unfold zb;rw[ER,az,m1,az];dsimp only;rw[bI,ax];unfold Ex xI;have hx:Cx (dG c.config.aq c.spare) A.aA A.row=some true:=by
  unfold Cx;rw[EI,az,xN (a:=⟨A.aA,A.row,0⟩) wN C (by rw[eb];exact D) I (by rw[er];exact O) (dU 0) (by rw[ec];show 0<_;omega)]
 have⟨b,hbN⟩:=dN C;have⟨r,hrN⟩:=dN I;have⟨R,hR⟩:=dN (show 0 <= c.config.aq.rows-c.spare.cc by omega);have⟨bn,hn⟩:=dN hb.1;have U:c.spare.map.length=bn*R:=by
  simp only[ot,aH,dO]at E;have:=E.2.1
  grind
 have T:b<bn:=by omega
 have Y:r<R:=by omega
 have dA:=HI (R:=R) T (show r+1 <= R from Y);have ayG:=HI (R:=R) T (dg R);have hi:b*R+r<c.spare.map.length:=by omega
 rw[ER,az,hx,az,bI,ax,hbN,Q6 hR (by omega) (by omega) T U,az];have ht:((c.spare.map.take ((b+1)*R)).drop (b*R))=iC c.spare.map R b:=rfl;have iw:(iC c.spare.map R b).length=R:=L9 (by rw[U];exact ju R T);have hgx:(iC c.spare.map R b)[r]?=some c.spare.map[b*R+r]:=by rw[Q5,List.getElem?_take_of_lt Y,List.getElem?_drop,bL hi]
 have Yv:(iC c.spare.map R b)[r]'(by omega)=c.spare.map[b*R+r]:=by
  grind
 dsimp only;rw[jI (by rw[jv];omega),jI (by rw[jv,U];omega),dn,av,hrN,aP ⟨by omega,by rw[ht,iw,bD];exact Y⟩];simp only[bD,ht,Yv,az];rw[hR,<- Int.natCast_mul,<- Int.natCast_add,bD,cQ,bL hi,Option.getD_some]
def zm{c:fB}{p:fA}(hl:p.weights.length<1073741823)(h:ov c p=true):tH c=true/\vS p=true:=by
 have⟨b,e,D⟩:=XU c p hl;have hb:b=true:=by
  rw[A4 c p hl]at e;simp_all
 subst hb;have C:=D rfl;refine⟨C,?_⟩;unfold tE at e;have⟨y,E⟩:=agJ p.dx;simp[L3,EP _ hl,C]at e
 grind
structure Pq (c:au):Prop where
 p:Pk c
 sp:ot c.config.aq c.spare=true
 se:c.spare.cc=c.config.cc
 mo:aT c.config.mapping.order 0 2=true
 q:∀r∈c.queue,(0<=r.line/\r.line<ck (dG c.config.aq c.spare))/\(0<=r.cS/\r.cS<=3)/\(0<=r.at_/\r.at_<=1000000)
 ql:c.queue.length<=12
 pe:∀a∈c.pending,ef c.config.aq a=true
 pl:c.pending.length<=128
 rf:fS c.ay=true
 dl:(c.ay.aB.length:Int)=aE c.config.aq
 sh:ki c.shares=true
 shl:c.shares.length=4
 dr:tJ c.drain=true
 pw:nH c.aS=true
 ps:c.aS.state=c.aG.aS
 nw:0<=c.now/\c.now<=1000000
 cap:0<=c.box.bW.cap/\c.box.bW.cap<=100000
 eT:HE c.box.bW.eT=true
def Pq.of{c:au}(D:bR c)(h:bM c=true):Pq c:=by
 have I:=Pk.of D h;have z1:c.box.bW.weights.length <= 1048576:=D.1.1;simp only[bM,aH]at h;have⟨O,h2,T,h4,h5,h6,U,Y,C,E,Z,sj,tN,zh,zi,qy,ES,HT,HU,Mi,Ez,Mj⟩:=h;have⟨f1,f2⟩:=zm (by omega) O;simp only[tH,aH]at f1;simp only[vS,aH]at f2;have⟨f3,f4,f5,f6,f7,f8,f9⟩:=f2;simp only[vU,aH,dO,ff,sS,cm,gq]at C;have⟨C,g1,g2,g3,g4,g5,g6⟩:=C;simp only[gS,aH,cm,gq,ij]at E;have⟨q1,q2⟩:=E;have Hp:c.shares.length=4:=by
  grind
 refine⟨I,U,by simpa using Y,f1.2.2.1,λr hr=>?_,by omega,λa ha=>?_,by omega,C,g1,Z,Hp,tN,zh,by simpa using zi,bu.1 T,bu.1 f4,f9⟩
 ·obtain⟨i,hi,rfl⟩:=jL.1 hr;have hb:=q1 i hi;unfold vT at hb;rw[bL hi]at hb;simp[sC,aH,ij]at hb;have⟨⟨k1,k2,k3,k4,k5,k6,k7⟩,_⟩:=hb;exact⟨⟨k3,k4⟩,bu.1 k2,bu.1 k7⟩
 ·obtain⟨i,hi,rfl⟩:=jL.1 ha;have hb:=g6 i hi;unfold CG at hb;simp_all
def sH(r:cr)(a:aN):Bool:=(cK r a.aA).open_&&((cK r a.aA).row==a.row)
def kZ(r:cr)(a:aN)(w:Bool):aQ:=
 bif !(cK r a.aA).open_ then ⟨1,a.aA,a.row,0⟩else bif (cK r a.aA).row != a.row then ⟨4,a.aA,0,0⟩else bif w then ⟨3,a.aA,0,a.cu⟩else ⟨2,a.aA,0,a.cu⟩
def Mk{r:cr}{b:Int}(h:b.toNat<r.aO.length):cK r b=r.aO[b.toNat]:=by
 unfold cK;rw[cQ,bL h];rfl
def Rs{b:Int}{n:Nat}(C:0<=b)(h:b.toNat<n)(D:n<=1048576):aT b 0 (W6 ((n:Int)-1))=true:=by
 rw[bh];exact bu.2 ⟨C,by omega⟩
def ahy{r:cr}{a:aN}(w:Bool)(C:0 <= a.aA)(h:a.aA.toNat<r.aO.length)(hl:r.aO.length <= 1048576):Ey r a w=some (kZ r a w):=by
 unfold Ey kZ xI;rw[cP,az,Rs C h hl,bI,aP ⟨C,h⟩,Mk h]
 grind
def auR{r:cr}{b:Int}(C:0 <= b)(h:b.toNat<r.aO.length)(hl:r.aO.length <= 1048576):Qa r b=some (bif (cK r b).open_ then (cK r b).row else -1):=by
 unfold Qa xI;rw[cP,az,Rs C h hl,bI,aP ⟨C,h⟩,Mk h]
 grind
def auS{r:cr}{a:aN}(D:0 <= a.row)(C:0 <= a.aA)(h:a.aA.toNat<r.aO.length)(hl:r.aO.length <= 1048576):He r a=some (sH r a):=by
 unfold He sH;rw[iW (by omega:¬ a.row = -1),auR C h hl,az];cases (cK r _).open_ with
 |false=>rw[ax,dy (by omega:¬ (-1)=a.row)];rfl
 |true=>rfl
def auT{g:aK}{r:cr}{a:aN}(w:Bool)(h:ef g a=true):cD g (kZ r a w)=true:=by
 have⟨D,E,Y,I,Z,O,b6⟩:=oh h;have T:aT _ 0 (aE g-1)=true:=bu.2 ⟨E,by omega⟩;have C:aT a.row 0 (g.rows-1)=true:=bu.2 ⟨I,by omega⟩;have U:aT a.cu 0 (g.aW-1)=true:=bu.2 ⟨O,by omega⟩;unfold kZ cD xP;cases (cK r _).open_<;>cases (cK r _).row != a.row<;>cases w<;>simp[D,aT,C]<;>simp[aT,ij]at T C U<;>omega
def A8{g:aK}{k b:Int}(C:cJ g=true)(D:k=4 \/ k=5)(hb:0 <= b/\b<aE g):cD g ⟨k,b,0,0⟩=true:=by
 have E:aT b 0 (aE g-1)=true:=bu.2 ⟨hb.1,by omega⟩;unfold cD xP;rcases D with rfl|rfl<;>simp[C,aT]<;>simp[aT,ij]at E<;>omega
def ahz{g:aK}{a:aN}(h:ef g a=true):cD g ⟨1,a.aA,a.row,0⟩=true:=by
 have⟨C,D,E,I,O,T,U⟩:=oh h;unfold cD xP;simp[C,aT];omega
def Ru{g:aK}{k:Int}(C:cJ g=true)(D:6<=k/\k<=9):cD g ⟨k,0,0,0⟩=true:=by
 obtain⟨n,rfl⟩:=dN (show 0<=k by omega);have:n=6\/n=7\/n=8\/n=9:=by omega
 unfold cD;rw[C];rcases this with rfl|rfl|rfl|rfl<;>rfl
def Yw(l:aa aN)(b:Int)(hl:l.length<=1048576):Ew l b=some (l.any λa=>a.aA==b):=by
 have E:=HS (λa:aN=>a.aA==b) l;unfold Ew Xo Xn;rw[Yj];have e:=gf (step:=G8) (gi (λa:aN=>a.aA==b) l) (λi=>((l,b,(l.length:Int),(i:Int),()),())) (if gi (λa:aN=>a.aA==b) l<l.length then .inl ((((gi (λa:aN=>a.aA==b) l:Nat):Int),()),())else .inr (.inl ((),()))) bC (λk h=>by
  have D:=xT h (by omega);unfold G8 aM bU xG xI;dsimp only;rw[bf,av,aP ⟨by omega,by omega⟩];simp only[bD];rw[D,ax,cC]) (by
  by_cases C:gi (λa:aN=>a.aA==b) l<l.length
  ·have D:=CN C;unfold G8 aM bU xG xI;dsimp only;rw[bf,av,aP ⟨by omega,by omega⟩];simp only[bD];rw[D,av,aV C]
  ·unfold G8 aM bU xG xI;dsimp only;rw[bz,ax,aX C]) (cM)
 rw[eM]at e;rw[e];by_cases C:gi (λa:aN=>a.aA==b) l<l.length
 ·rw[aV C,bf C];simp
 ·rw[aX C,bz C];rfl
def tQ(t:dc)(row:Int):ah Nat:=match t.rows.findIdx? (λe=>e==row)with
 |some i=>some i
 |none=>t.counts.findIdx? (λe=>e==t.gj)
def jQ(t:dc)(row:Int):dc:=match t.rows.findIdx? (λe=>e==row)with
 |some i=>⟨t.rows,t.counts.set i (t.counts.getD i 0+1),t.gj⟩
 | none=>match t.counts.findIdx? (λe=>e==t.gj)with
  |some i=>⟨t.rows.set i row,t.counts.set i (t.gj+1),t.gj⟩
  |none=>⟨t.rows,t.counts,t.gj+1⟩
def qE(t:dc)(row cT:Int):dc×Bool:=bif oq t&&(aT row 0 15&&aT cT 2 1000)then (bif oq (jQ t row)then (jQ t row,match tQ t row with
    |some i=>((jQ t row).counts.getD i 0).tmod cT==0
    |none=>false)else (t,false))else (t,false)
structure Tk (t:dc):Prop where
 rl:t.rows.length<=16
 cl:t.counts.length=t.rows.length
 sp:0<=t.gj/\t.gj<=100000
 cs:∀i (h:i<t.counts.length),0<=t.counts[i]/\t.counts[i]<=100000
def Tk.of{t:dc}(h:oq t=true):Tk t:=by
 simp[oq,aH,dO,cm,gq]at h;have⟨D,I,C,E⟩:=h;have D:=bu.1 D;have C:=bu.1 C
 refine⟨by omega,by omega,C,λi hi=>?_⟩
 have hb:=E i (by omega);rw[Q2 (by omega) hi,aH,aH]at hb;have:=bu.1 hb.2.1;omega
def CR{T:Type}{p:T -> Bool}{l:aa T}{i:Nat}(h:l.findIdx? p=some i):∃ hi:i<l.length,p l[i]=true:=by
 have⟨hi,C,_⟩:=tV.1 h;simp_all
def ahA{t:dc}(row:Int):(jQ t row).rows.length=t.rows.length/\(jQ t row).counts.length=t.counts.length:=by
 unfold jQ
 grind
def auU{t:dc}(h:Tk t){row:Int}{i:Nat}(hi:tQ t row=some i):i<t.counts.length:=by
 have:=h.cl;unfold tQ at hi;split at hi
 next j C=>cases hi;have⟨D,_⟩:=CR C;omega
 ·exact(CR hi).1
def auV(t:dc)(hz:pL t)(row cT:Int):Qo t row cT=some (qE t row cT):=by
 have sw:∀x:Int,(λe:Int=>x==e)=λe=>e==x:=λx=>funext λe=>by rw[Bool.eq_iff_iff,dO,dO];exact eq_comm
 unfold Qo qE xL;rw[ahr t hz,az,XZ,az];dsimp only;cases ht:oq t with
 |false=>rfl
 | true=>
  have T:=Tk.of ht;have r1:=T.rl;have r2:=T.cl;have yx:=T.sp;rw[bI,ax,cP,az,dn];cases h1:aT row 0 15 with
  |false=>rfl
  | true=>
   rw[bI,ax,cP,az,dn];cases h2:aT cT 2 1000 with
   |false=>rfl
   | true=>
    have hl:=bu.1 h2;rw[bI,ax,av,Q1 _ _ (by omega),az,sw row];have Yx:∀ (E:Int) (D:dc),D=jQ t row->(E=match tQ t row with | some i=>(i:Int) | none=>-1)->
      ((Cu D).bind λo9=>bif (!o9)then ((some t).bind λxJ=>some (xJ,false))else (bif (decide (E >= (0:Int)))then if h24:0<=E/\E.toNat<D.counts.length then if h25:E.toNat<D.counts.length then (if cT=0 then none else some (D,(D.counts[E.toNat]'h25).tmod cT==(0:Int)))else none else none else some (D,false)))=some (bif oq (jQ t row)then (jQ t row,match tQ t row with
        |some i=>((jQ t row).counts.getD i 0).tmod cT==0
        |none=>false)else (t,false)):=by
     intro E D U e2;subst U;rw[XZ,az];cases h3:oq (jQ t row)with
     |false=>rfl
     | true=>
      rw[bI,ax,av,e2];cases h4:tQ t row with
      |none=>rfl
      | some i=>
       have hi:i<(jQ t row).counts.length:=by rw[(ahA row).2];exact auU T h4
       simp only[bD];rw[bf,av,aP ⟨by omega,hi⟩,aP hi,aX,cQ,bL hi];rfl
    cases C:t.rows.findIdx? (λe=>e==row)with
    | some i=>
     obtain⟨hi,_⟩:=CR C;have O:i<t.counts.length:=by omega
     have hc:=T.cs i O;have Y:tQ t row=some i:=by unfold tQ;rw[C]
     have Z:jQ t row=⟨t.rows,t.counts.set i (t.counts[i]+1),t.gj⟩:=by unfold jQ;simp only[C];rw[cQ,bL O];rfl
     have U:jP (λe=>e==row) t.rows=(i:Int):=by unfold jP;rw[C]
     rw[U,bz,ax];simp only[bD];rw[bf,av,aP ⟨by omega,O⟩,aP O,aP ⟨by omega,O⟩,aP O];have hw:W6 (t.counts[i]+1)=t.counts[i]+1:=bh;simp only[hw];exact Yx (i:Int) ⟨t.rows,t.counts.set i (t.counts[i]+1),t.gj⟩ Z.symm (by rw[Y])
    | none=>
     have U:jP (λe=>e==row) t.rows = -1:=by unfold jP;rw[C]
     rw[U,bf,av,Q1 _ _ (by omega),az,sw t.gj];cases I:t.counts.findIdx? (λe=>e==t.gj)with
     | some i=>
      obtain⟨hi,hp⟩:=CR I;have hir:i<t.rows.length:=by omega
      have hp:t.counts[i]=t.gj:=by simpa using hp
      have Y:tQ t row=some i:=by unfold tQ;rw[C];exact I
      have Z:jQ t row=⟨t.rows.set i row,t.counts.set i (t.gj+1),t.gj⟩:=by unfold jQ;rw[C];simp only[I]
      have e3:jP (λe=>e==t.gj) t.counts=(i:Int):=by unfold jP;rw[I]
      rw[e3];simp only[bD];rw[bf,av,aP ⟨by omega,hir⟩,aP hir,av,aP ⟨by omega,hi⟩,aP hi,aP ⟨by omega,hi⟩,aP hi];have hw:W6 (t.gj+1)=t.gj+1:=bh;simp only[hp,hw];exact Yx (i:Int) ⟨t.rows.set i row,t.counts.set i (t.gj+1),t.gj⟩ Z.symm (by rw[Y])
     | none=>
      have Y:tQ t row=none:=by unfold tQ;rw[C];exact I
      have Z:jQ t row=⟨t.rows,t.counts,t.gj+1⟩:=by unfold jQ;rw[C];simp only[I]
      have e3:jP (λe=>e==t.gj) t.counts = -1:=by unfold jP;rw[I]
      have hw:W6 (t.gj+1)=t.gj+1:=bh;rw[e3,bz,ax,ax];simp only[hw];exact Yx (-1) ⟨t.rows,t.counts,t.gj+1⟩ Z.symm (by rw[Y])
def rI(k:Int):dc:=⟨List.replicate k.toNat (-1),List.replicate k.toNat 0,0⟩
def auW{k:Int}(h:aT k 1 16=true):GJ k=some (rI k,true):=by
 have hb:=bu.1 h;unfold GJ;have e:Ea ([(-1:Int)]) k=some (List.replicate k.toNat (-1)):=by
  unfold Ea;simp_all
 rw[cP,az,h,bI,e,az,aV ⟨by omega,dU _,by omega⟩];rfl
def oy(r:eC)(b:Int):eC:=bif decide (r.aB.getD b.toNat 0 = -2)then r else ⟨r.aB.set b.toNat (r.aB.getD b.toNat 0-1),r.wait,r.bO⟩
def E1{r:eC}(h:fS r=true):∀ x∈r.aB,-2 <= x/\x <= 5:=by
 simp[fS,aH,cm]at h;exact λx C=>bu.1 (h.1 x C)
def auX{α β:Type}{o:ah (α×β)}{a:α}(h:o.map Prod.fst=some a):∃b,o=some (a,b):=by simp_all
def auY{r:eC}(h:fS r=true){b:Int}(D:0 <= b)(C:b.toNat<r.aB.length):∃ y,Qu r b=some (oy r b,y):=by
 have hl:=xV h;have O:=E1 h _ (cX C);have I:r.aB.getD b.toNat 0=r.aB[b.toNat]:=by rw[cQ,bL C];rfl
 unfold Qu AP oy xI xL xA xZ;rw[fR (by simp;omega),av,az,HF _ (by omega),az,h,bI,ax,cP,az,Rs D C (by omega),bI,ax,aP ⟨D,C⟩,I];dsimp only;by_cases E:r.aB[b.toNat] = -2
 ·simp_all
 ·rw[dy E,bz E,List.nil_append,aP ⟨D,C⟩,aP C,aP ⟨D,C⟩,aP C,bh];simp_all
def A9(p:jM)(k now:Int):jM:=bif nH p&&aT now p.since 1000000 then
 (bif (k==6)&&(p.state==0)then ⟨1,now,p.idle⟩else bif (k==8)&&(p.state==0)then ⟨2,now,p.idle⟩else bif (k==7)&&(p.state==1)then ⟨0,now,p.idle⟩else bif (k==9)&&(p.state==2)then ⟨0,now,p.idle⟩else p)else p
def Rv(p:jM){k:Int}(C:6 <= k/\k <= 9)(now:Int):∃ y,Qy p k now=some (A9 p k now,y):=by
 refine auX ?_;unfold Qy A9;rw[QZ,az];cases nH p with
 |false=>rfl
 | true=>
  rw[bI,ax,cP,az];cases aT now p.since 1000000 with
  |false=>rfl
  | true=>
   have:k=6 \/ k=7 \/ k=8 \/ k=9:=by omega
   grind
def ahB{α β T:Type}{step:α -> ah (α⊕β)}(p:T -> Bool)(S:Nat -> Nat -> aa T -> α)(Z:Nat -> aa T -> β)
  (hs:∀i j s (E:j<s.length),i <= j -> j<1073741824 -> step (S i j s)=some (.inl (bif p s[j]then S i (j+1) s else S (i+1) (j+1) (s.set i s[j]))))
  (hz:∀i s,i <= s.length -> step (S i s.length s)=some (.inr (Z i s))):
  ∀(n i j fuel:Nat) (s:aa T),j+n=s.length -> i <= j -> s.length<1073741824 -> n<fuel -> ∃C D,iter step fuel (S i j s)=some (Z D C)/\C.length=s.length/\D <= s.length/\C.take D=s.take i++(s.drop j).filter (λx=>!p x):=by
 intro n
 induction n with
 | zero=>
  intro i j fuel s hn hi hl hf;obtain⟨f,rfl⟩:∃f,fuel=f+1:=⟨fuel-1,by omega⟩
  have ej:j=s.length:=by omega
  subst ej;refine⟨s,i,?_,rfl,hi,by simp⟩;unfold iter;simp_all
 | succ n I=>
  intro i j fuel s hn hi hl hf;obtain⟨f,rfl⟩:∃f,fuel=f+1:=⟨fuel-1,by omega⟩
  have E:j<s.length:=by omega
  unfold iter;rw[hs i j s E hi (by omega)];have hd:=List.drop_eq_getElem_cons E;cases hp:p s[j]with
  | true=>
   have⟨C,D,O,U,Y,h4⟩:=I i (j+1) f s (by omega) (by omega) hl (by omega)
   grind
  | false=>
   have⟨C,D,O,U,Y,h4⟩:=I (i+1) (j+1) f (s.set i s[j]) (by simp;omega) (by omega) (by simp;omega) (by omega);refine⟨C,D,O,by simpa using U,by simpa using Y,?_⟩;rw[h4,hd,List.filter_cons_of_pos (by simp[hp]),List.drop_set_of_lt (by omega),List.take_add_one,List.getElem?_set_self (by omega),List.take_set_of_le (by omega)];simp
def ahC{T:Type}{p:T -> Bool}{l:aa T}{k:Nat}(h:l.findIdx? p=some k):l.filter (λx=>!p x)=l.take k++(l.drop (k+1)).filter (λx=>!p x):=by
 have⟨D,E,I⟩:=tV.1 h;have e:l=l.take k++l[k] :: l.drop (k+1):=by
  simp[*]
 have O:(l.take k).filter (λx=>!p x)=l.take k:=by
  rw[List.filter_eq_self];intro a C;obtain⟨i,hi,rfl⟩:=jL.1 C
  grind
 grind
def Yy{T:Type}(s r:aa T)(i:Nat)(h:i <= s.length):(splice s i r).take i=s.take i:=by
 unfold splice;simp_all
def auZ(l:aa aN)(a:aN)(hl:l.length<1073741824):Qp l a=some (jP (eG a) l):=by
 unfold Qp jP;have e:=HG (step:=LK) l (eG a) (λi=>((l,a,(l.length:Int),(i:Int),()),())) (λi=>.inl (((i:Int),()),())) (.inr (.inl ((),()))) bC (λk h=>by
  unfold LK eG aM bU xG xI;dsimp only;rw[bf,av,aP ⟨by omega,by omega⟩];simp only[bD];rw[cC];cases (l[k].aA==a.aA&&(l[k].row==a.row&&(l[k].cu==a.cu&&true)))<;>rfl) (by
  unfold LK aM bU xG xI;dsimp only;rw[bz,ax]) (cM hl)
 rw[eM]at e;rw[e];cases l.findIdx? (eG a)<;>rfl
def au0(l:aa aN)(x:aQ)(hl:l.length<1073741824):Qz l x=some (jP (λa=>a.aA==x.aA) l):=by
 unfold Qz jP;have e:=HG (step:=LO) l (λa=>a.aA==x.aA) (λi=>((l,x,(l.length:Int),(i:Int),()),())) (λi=>.inl (((i:Int),()),())) (.inr (.inl ((),()))) bC (λk h=>by
  unfold LO aM bU xG xI;dsimp only;rw[bf,av,aP ⟨by omega,by omega⟩];simp only[bD];rw[cC];cases (l[k].aA==x.aA)<;>rfl) (by
  unfold LO aM bU xG xI;dsimp only;rw[bz,ax]) (cM hl)
 rw[eM]at e;rw[e];cases l.findIdx? (λa=>a.aA==x.aA)<;>rfl
def au1(l:aa aN)(a:aN)(hl:l.length<1000000):Qq l a=some (l.filter (λx=>!eG a x),([],())):=by
 unfold Qq;rw[auZ l a (by omega),az];unfold jP;cases C:l.findIdx? (eG a)with
 | none=>
  have e:l.filter (λx=>!eG a x)=l:=by
   rw[List.filter_eq_self];intro x D;have:=List.findIdx?_eq_none_iff.1 C x D;simp[this]
  rw[e];rfl
 | some k=>
  obtain⟨O,T,U⟩:=tV.1 C;rw[ahC C];simp only;rw[dy (show ¬ (k:Int) = -1 by omega),ax,cC];obtain⟨Y,Z,E,h2,h3,I⟩:=ahB (step:=LL) (eG a) (λi j s=>(((),a,(i:Int),(j:Int),()),(s,()))) (λi s=>.inl (((),(i:Int),()),(s,()))) (λi j s hj hi hb=>by
   unfold LL eG aM xG xL;dsimp only;rw[bf,av,aP ⟨by omega,by omega⟩,aP];simp only[bD];rw[cC,cC,aP ⟨by omega,by omega⟩,aP];cases (s[j].aA==a.aA&&(s[j].row==a.row&&(s[j].cu==a.cu&&true)))<;>rfl) (λi s hi=>by
   unfold LL aM xG xL;dsimp only;rw[bz,ax]) (l.length-(k+1)) k (k+1) bC l (by omega) (by omega) (by omega) (by unfold bC;omega)
  rw[E,az,iJ];dsimp only;rw[aV ⟨by omega,by omega,by omega⟩,aV ⟨by omega,by omega⟩,aV ⟨by omega,by omega,by
   rw[wG _ _ _ (by simp;omega)];omega⟩]
  rw[Yy _ _ _ (by omega),bD,I]
def au2(l:aa aN)(c:aQ)(hl:l.length<1000000):QA l c=some (l.filter (λx=>!(x.aA==c.aA)),([],())):=by
 unfold QA;rw[au0 l c (by omega),az];unfold jP;cases C:l.findIdx? (λa=>a.aA==c.aA)with
 | none=>
  have e:l.filter (λx=>!(x.aA==c.aA))=l:=by
   rw[List.filter_eq_self];intro x D;have:=List.findIdx?_eq_none_iff.1 C x D;simp[this]
  rw[e];rfl
 | some k=>
  obtain⟨O,T,U⟩:=tV.1 C;rw[ahC C];simp only;rw[dy (show ¬ (k:Int) = -1 by omega),ax,cC];obtain⟨Y,Z,E,h2,h3,I⟩:=ahB (step:=LP) (λx=>x.aA==c.aA) (λi j s=>(((),c,(i:Int),(j:Int),()),(s,()))) (λi s=>.inl (((),(i:Int),()),(s,()))) (λi j s hj hi hb=>by
   unfold LP aM xG xL;dsimp only;rw[bf,av,aP ⟨by omega,by omega⟩,aP];simp only[bD];rw[cC,cC,aP ⟨by omega,by omega⟩,aP];cases (s[j].aA==c.aA)<;>rfl) (λi s hi=>by
   unfold LP aM xG xL;dsimp only;rw[bz,ax]) (l.length-(k+1)) k (k+1) bC l (by omega) (by omega) (by omega) (by unfold bC;omega)
  rw[E,az,iJ];dsimp only;rw[aV ⟨by omega,by omega,by omega⟩,aV ⟨by omega,by omega⟩,aV ⟨by omega,by omega,by
   rw[wG _ _ _ (by simp;omega)];omega⟩]
  rw[Yy _ _ _ (by omega),bD,I]
def iX(b:Int)(pd:aa aN)(n:Int):aa aN:=bif pd.any (eG ⟨b,n,0⟩)then pd else pd++[⟨b,n,0⟩]
def zn(c:au)(t:aa dc)(gd:aa Int)(pd:aa aN):au:=⟨c.config,c.box,c.now,c.aG,c.ready,c.array,c.spare,c.ay,t,gd,pd,c.queue,c.shares,c.drain,c.aS,c.dJ,c.errors,c.trace,c.aZ⟩
def ahD{T:Type}(p:T -> Bool)(l:aa T):decide (jP p l<0) = !l.any p/\decide (jP p l >= 0)=l.any p:=by
 unfold jP
 grind
def Yz(b:Int):∀ (ns:aa Int) (pd:aa aN),(ns.foldl (iX b) pd).length <= pd.length+ns.length
 |[],pd=>dg _
 | n :: ns,pd=>by
  have:=Yz b ns (iX b pd n);have C:(iX b pd n).length <= pd.length+1:=by
   unfold iX
   grind
  grind
def au3{T U:Type}(f:U->T->U)(l:aa T)(u:U){k:Nat}(h:k<l.length):(l.take (k+1)).foldl f u=f ((l.take k).foldl f u) l[k]:=by
 rw[List.take_add_one,bL h,List.foldl_append];rfl
def au4(c:au)(x:aQ)(ns:aa Int)(C:ns.length <= 1000)(D:c.pending.length <= 1000):iter Hr bC (((),(),(),(ns.length:Int),(0:Int),()),(c,(x.kind,x.aA,x.row,x.cu,()),ns,()))=some (.inl ((),(zn c c.bF c.guard (ns.foldl (iX x.aA) c.pending),()))):=by
 have e:=gf (step:=Hr) _ (λi=>(((),(),(),ns.length,i,()),(zn c c.bF c.guard ((ns.take i).foldl _ _),(x.kind,x.aA,x.row,x.cu,()),ns,()))) _ bC (λk h=>by
  have hl:=Yz x.aA (ns.take k) c.pending;rw[jK]at hl;rw[au3 _ _ _ h];generalize (ns.take k).foldl (iX x.aA) c.pending=pd at hl;unfold Hr iX zn Xw aM xG xL;dsimp only;rw[bf,av,aP ⟨by omega,by omega⟩,aP];simp only[bD];rw[agS _ _ (by omega),az,az,(ahD _ _).2,cC,fR (by simp;omega)];cases pd.any (eG ⟨x.aA,ns[k],0⟩)<;>rfl) (by
  unfold Hr zn aM xG xL;dsimp only;rw[bz,ax]) (cM)
 rw[ qc]at e;exact e
def zT:dc:=⟨[],[],0⟩
def xX(c:au)(x:aQ):dc×Bool:=qE (c.bF.getD x.aA.toNat zT) x.row (c.guard.getD x.aA.toNat 0)
def vZ(c:au)(x:aQ):aa aN:=c.pending.filter (λa=>!eG ⟨x.aA,x.row,0⟩ a)
def uN(c:au)(x:aQ):au:=
 zn (eY c (vW c.config.aq c.config.dX c.array x.aA x.row)) (c.bF.set x.aA.toNat (xX c x).1) c.guard (bif (xX c x).2 then (je c.config.aq.rows x.row).foldl (iX x.aA) (vZ c x)else vZ c x)
def fU{T:Type}{l:aa T}{i:Nat}(d:T)(h:i<l.length):l.getD i d=l[i]:=by
 rw[cQ,bL h];rfl
def YA(R r:Int):(je R r).length <= 2:=by
 unfold je
 grind
def au5{T:Type}(p:T->Bool)(l:aa T):(l.filter p).length<=l.length:=List.length_filter_le p l
def au6{B:Int}(c:au)(x:aQ)(I:cJ c.config.aq=true)(Y:fH c.config.aq B c.array)(hp:c.pending.length <= 200)(Z:∀ t∈c.bF,pL t)(D:0 <= x.aA)(h2:x.aA<aE c.config.aq)(O:0 <= x.row)(T:x.row<c.config.aq.rows)(C:x.aA.toNat<c.bF.length)(E:x.aA.toNat<c.guard.length):Qr c x=some ((),(uN c x,())):=by
 have⟨_,_,_,_,g5,g6,g7,g8⟩:=gV I;have U:=ahu I c.config.dX c Y D h2 O T;have e2:=au1 c.pending ⟨x.aA,x.row,0⟩ (by omega);have hf:(vZ c x).length <= c.pending.length:=List.length_filter_le _ _;have vj:=YA c.config.aq.rows x.row;simp only[eY]at U;unfold Qr bZ xL xM
 refine(bE (λo=>Option.bind o _) U).trans ?_
 rw[az];dsimp only
 refine(bE (λo=>Option.bind o _) e2).trans ?_
 rw[az];dsimp only;rw[aP ⟨D,C⟩,aP C,aP ⟨D,E⟩,aP E,aP C,aP C];rw[auV _ (Z _ (cX C)),az,aP ⟨D,C⟩,aP C];unfold uN xX;rw[fU _ C,fU _ E];cases (qE (c.bF[x.aA.toNat]'C) x.row (c.guard[x.aA.toNat]'E)).2 with
 |false=>rfl
 | true=>
  rw[bI,ax,ahb (by omega) (by omega) O T,az]
  refine(bE (λo=>Option.bind o _) (au4 (zn (eY c (vW _ _ c.array x.aA x.row)) _ c.guard (vZ c x)) x _ (by omega) (by unfold zn;dsimp only;omega))).trans ?_
  rfl
def E2(l:aa aN):Prop:=∀i (h:i<l.length),(l.take i).any (eG l[i])=false
def E3{a b:aN}:eG a b=true ↔ a=b:=by
 have⟨a1,a2,a3⟩:=a;have⟨C,D,E⟩:=b;simp[eG,aH,dO,and_true,aN.mk.injEq]
 grind
def rJ{U:Type}(f:U->Nat->U)(u:U)(k:Nat):(List.range (k+1)).foldl f u=f ((List.range k).foldl f u) k:=by
 rw[List.range_succ,List.foldl_append];rfl
def gN(g:aK)(l:lN)(a:c9)(b:Int)(n:Nat):c9:=(List.range n).foldl (λa (r:Nat)=>vW g l a b (r:Int)) a
def Ml{g:aK}(C:cJ g=true)(l:lN){B:Int}(hB:0<=B){a:c9}(D:fH g B a){b:Int}(E:0<=b)(I:b<aE g):∀ n:Nat,(n:Int)<=g.rows->fH g B (gN g l a b n)
 |0,_=>D
 | n+1,h=>by
  unfold gN;rw[rJ];exact Ym C l hB (Ml C l hB D E I n (by omega)) E I (by omega) (by omega)
def ahE{B:Int}(hB:0 <= B)(c:au)(C:cJ c.config.aq=true)(O:fH c.config.aq B c.array){b:Int}(D:0 <= b)(E:b<aE c.config.aq):Qt c b=some ((),(eY c (gN c.config.aq c.config.dX c.array b c.config.aq.rows.toNat),())):=by
 have⟨_,_,_,_,T,U,g7,Y⟩:=gV C;have e:=gf (step:=LM) c.config.aq.rows.toNat (λi=>(((),b,i,()),(eY c (gN _ _ _ b i),()))) _ bC (λk h=>by
  have I:=ahu C c.config.dX (eY c (gN c.config.aq c.config.dX c.array b k)) (Ml C c.config.dX hB O D E k (by omega)) D E (show 0 <= (k:Int) by omega) (by omega);simp only[eY]at I;unfold LM eY aM xG;dsimp only;rw[bf,av,I,az,cC];dsimp only;unfold gN;rw[rJ]) (by
  unfold LM eY aM xG;dsimp only;rw[bz,ax]) (cM)
 refine(bE (λo=>Option.bind o _) e).trans ?_
 rfl
def Rw(c:au)(b:Int)(pd:aa aN):au:=
 zn (eY c (gN c.config.aq c.config.dX c.array b c.config.aq.rows.toNat)) (c.bF.set b.toNat (rI c.config.jj)) (c.guard.set b.toNat c.box.bW.dx) pd
def ahF(c:au)(I:aT c.config.jj 1 16=true){b:Int}(C:0<=b)(D:b.toNat<c.bF.length)(E:b.toNat<c.guard.length):LN c b=some ((),(zn c (c.bF.set b.toNat (rI c.config.jj)) (c.guard.set b.toNat c.box.bW.dx) c.pending,())):=by
 unfold LN xL;rw[auW I,az,aP ⟨C,D⟩,aP D,aP ⟨C,E⟩,aP E];rfl
def jR(c:au)(k:Nat)(pd:aa aN):au:=
 ⟨c.config,c.box,c.now,c.aG,c.ready,(List.range k).foldl (λa (b:Nat)=>gN c.config.aq c.config.dX a (b:Int) c.config.aq.rows.toNat) c.array,c.spare,⟨(List.range k).foldl (λd b=>d.set b 0) c.ay.aB,c.ay.wait,c.ay.bO⟩,(List.range k).foldl (λd b=>d.set b (rI c.config.jj)) c.bF,(List.range k).foldl (λd b=>d.set b c.box.bW.dx) c.guard,pd,c.queue,c.shares,c.drain,c.aS,c.dJ,c.errors,c.trace,c.aZ⟩
def zo{T:Type}(x:T)(l:aa T):∀ k:Nat,((List.range k).foldl (λd b=>d.set b x) l).length=l.length
 |0=>rfl
 |k+1=>by rw[rJ,jg,zo x l k]
def Rx{g:aK}(C:cJ g=true)(l:lN){B:Int}(hB:0 <= B){a:c9}(D:fH g B a):∀ k:Nat,(k:Int) <= aE g -> fH g B ((List.range k).foldl (λa (b:Nat)=>gN g l a (b:Int) g.rows.toNat) a)
 |0,_=>D
 | k+1,h=>by
  have⟨_,_,_,_,E,I,g7,O⟩:=gV C;rw[rJ];exact Ml C l hB (Rx C l hB D k (by omega)) (by omega) (by omega) _ (by omega)
structure zp (B:Int) (c:au):Prop where
 hB:0<=B
 g:cJ c.config.aq=true
 a:fH c.config.aq B c.array
 k:aT c.config.jj 1 16=true
 p:c.pending.length<=200
 t:(c.bF.length:Int)=aE c.config.aq
 d:(c.guard.length:Int)=aE c.config.aq
 r:(c.ay.aB.length:Int)=aE c.config.aq
def zp.YB{B:Int}{c:au}(h:zp B c)(k:Nat)(C:(k:Int)<=aE c.config.aq)(pd:aa aN)(D:pd.length<=200):zp B (jR c k pd):=
 ⟨h.hB,h.g,Rx h.g c.config.dX h.hB h.a k C,h.k,D,(bE (λn:Nat=>(n:Int)) (zo _ _ k)).trans h.t,(bE (λn:Nat=>(n:Int)) (zo _ _ k)).trans h.d,(bE (λn:Nat=>(n:Int)) (zo _ _ k)).trans h.r⟩
def au7(c:au)(k:Nat)(pd C:aa aN):jR c (k+1) C=⟨c.config,c.box,c.now,c.aG,c.ready,(Rw (jR c k pd) (k:Int) C).array,c.spare,⟨(jR c k pd).ay.aB.set k 0,c.ay.wait,c.ay.bO⟩,(Rw (jR c k pd) (k:Int) C).bF,(Rw (jR c k pd) (k:Int) C).guard,C,c.queue,c.shares,c.drain,c.aS,c.dJ,c.errors,c.trace,c.aZ⟩:=by
 unfold jR;simp only[rJ];rfl
def au8{B:Int}{c:au}(h:zp B c):iter A0 bC (((),(c.bF.length:Int),(0:Int),()),(jR c 0 [],()))=some (.inl ((),(jR c c.bF.length [],()))):=by
 have U:=dZ c.config.aq;have Y:=h.t;have e:=gf (step:=A0) c.bF.length (λi=>(((),c.bF.length,i,()),(jR c i [],()))) _ bC (λk Z=>by
  have C:=h.YB k (by omega) [] (by simp);have w1:=C.t;have E:=C.d;have I:=C.r;have D:aE (jR c k []).config.aq=aE c.config.aq:=rfl;rw[D]at w1 E I;have O:=ahE C.hB _ C.g C.a (b:=(k:Int)) (by omega) (by rw[D];omega);have T:=ahF (eY (jR c k []) (gN (jR c k []).config.aq (jR c k []).config.dX (jR c k []).array (k:Int) (jR c k []).config.aq.rows.toNat)) C.k (b:=(k:Int)) (by omega) (by show (k:Int).toNat<(jR c k []).bF.length;omega) (by show (k:Int).toNat<(jR c k []).guard.length;omega);rw[au7 c k [] []];unfold A0 aM xG xL;dsimp only;rw[bf,av,O,az,T,az,cC];have w4:k<(jR c k []).ay.aB.length:=by omega
  rw[aP ⟨by omega,by show (k:Int).toNat<(jR c k []).ay.aB.length;omega⟩,aP (by show (k:Int).toNat<(jR c k []).ay.aB.length;omega)];rfl) (by
  unfold A0 aM xG xL;dsimp only;rw[bz,ax]) (cM)
 simp_all
def wv(l:aa Int):Nat->Int
 |0=>0
 |i+1=>bits .or .i64 (wv l i) (W6 (l.getD i 0*2 ^ (min (4*(i:Int)).toNat IntKind.i64.bits)))
def au9{l:aa Int}(h:l.length=8)(C:∀ s∈l,0 <= s/\s <= 15):zd l 8=true:=by
 simp[zd,aH,cm,EN,bu];simp_all
def ava{l:aa Int}(h:l.length=8)(D:∀ s∈l,0<=s/\s<=15):PT l=some (wv l 8,true):=by
 unfold PT bZ;rw[agu _ _ (by omega),au9 h D,az];have e:=gf (step:=Ln) 8 (λi=>((wv l i,l,(l.length:Int),(i:Int),()),())) (.inl ((wv l 8,()),())) bC (λi hi=>by
  have C:i<l.length:=by omega
  have E:W6 (4*(i:Int))=4*(i:Int):=bh;have I:¬ 4*(i:Int)<0:=by omega
  have O:l.getD i 0=l[i]:=by rw[cQ,bL C];rfl
  have T:wv l (i+1)=bits .or .i64 (wv l i) (W6 (l.getD i 0*2 ^ (min (4*(i:Int)).toNat IntKind.i64.bits))):=rfl;unfold Ln aM xG xI;rw[T,O];simp (disch:=omega) [C,E,I,cC]) (by unfold Ln aM xG xI;simp[h]) (cM)
 rw[eM]at e;simp only[bI,ax];have U:wv l 0=0:=rfl;rw[U]at e;rw[e];rfl
def avb{w:aa Nat}(D:jE w)(hl:w.length=11):(cx (w.drop 3)).length=8 /\ ∀ s∈cx (w.drop 3),0 <= s/\s <= 15:=by
 refine⟨by rw[vQ];simp[hl],λs C=>?_⟩
 simp only[ iZ]at C;obtain⟨x,E,rfl⟩:=C;have:=D x (List.mem_of_mem_drop E);omega
def Ry(w:aa Nat):Int:=bif (lI w).2.1==2 then 0 else wv (cx ((lI w).1.drop 3)) 8
def avc{w:aa Nat}(C:jE w)(hl:w.length=11):PW (cx w)=some (Ry w,(lI w).2.1,(lI w).2.2):=by
 have⟨D,E,_⟩:=Re C hl;have⟨d1,d2⟩:=avb E D;unfold PW Ry;rw[ahj C hl,az];cases h:(lI w).2.1==2 with
 |true=>simp
 | false=>
  rw[ aue E D,az,ava d1 d2];rfl
def nw(c:cw):aa Nat:=c.symbols.map Int.toNat
def Rz{c:cw}(h:Sy c.symbols):cx (nw c)=c.symbols/\jE (nw c)/\(nw c).length=11:=by
 have⟨C,D⟩:=agy _ h.2;exact⟨C,D,by simp[nw,h.1]⟩
def ld(c:cw):Int:=bif c.qd then 2 else (lI (nw c)).2.1
def oz(c:cw):cw:=bif c.qd then c else bif (lI (nw c)).2.1==1 then ⟨cx (lI (nw c)).1,c.qd⟩else bif (lI (nw c)).2.1==2 then ⟨c.symbols,true⟩else c
def avd{l:aa cw}{j:Nat}(h:j<l.length):l.set j l[j]=l:=List.set_getElem_self h
def YC{c:cw}(h:Sy c.symbols):Sy (oz c).symbols:=by
 have⟨O,C,D⟩:=Rz h;have⟨E,I,_⟩:=Re C D;unfold oz;cases c.qd with
 |true=>exact h
 | false=>
  cases (lI _).2.1==1 with
  |true=>exact agz I E
  |false=>grind
def Ba(x:Int)(k:Nat):Int:=bits .and .i64 (x.fdiv (2 ^ (min (4*(k:Int)).toNat IntKind.i64.bits))) 15
def mS(x:Int):Nat->aa Int
 |0=>[]
 |k+1=>mS x k++[Ba x k]
def RB(x:Int):∀ k,(mS x k).length=k
 |0=>rfl
 |k+1=>by simp[mS,RB x k]
def ahG(x:Int):∀ k,∀ s∈mS x k,0<=s/\s<=15
 |0,s,h=>by cases h
 | k+1,s,h=>by
  rcases gE.1 h with h|h
  ·exact ahG x k s h
  ·rw[gz.1 h];exact at7 _
def ave{x:Int}(U:0<=x)(Y:x<=4294967295):Ph x=some (mS x 8):=by
 have C:aT x 0 4294967295=true:=by rw[bu];omega
 unfold Ph Eh bZ;rw[cP,az,az,C,bI,ax];have e:=gf (step:=KJ) 8 (λk=>((x,(),(k:Int),()),(mS x k,()))) (.inl (((),()),(mS x 8,()))) bC (λk Z=>by
  have D:(k:Int)<8:=by omega
  have E:cB ((mS x k).length+1)=true:=fR (by rw[RB];omega);have I:W6 (4*(k:Int))=4*(k:Int):=bh;have O:¬ 4*(k:Int)<0:=by omega
  unfold KJ aM xG;simp (disch:=omega) [D,I,O,E,cC,mS,Ba]) (by
  unfold KJ aM xG;simp) (cM)
 rw[eM]at e;have T:mS x 0=[]:=rfl;rw[T]at e;rw[e];rfl
def avf{a b:aa Nat}(h:cx a=cx b):a=b:=(List.map_inj_right (λx y h=>by
 omega)).1 h
def E4(x:Int):aa Int:=(Cs x).getD []
def Mn{x:Int}(E:0 <= x)(I:x <= 4294967295):Cs x=some (E4 x)/\Sy (E4 x) /\ ∃ w,E4 x=cx w/\w.length=11/\jE w/\cx (w.drop 3)=mS x 8/\EW w=true:=by
 have O:aT x 0 4294967295=true:=by rw[bu];omega
 have⟨t1,t2⟩:=agy _ (ahG x 8);have tl:((mS x 8).map Int.toNat).length=8:=by rw[fN,RB]
 have⟨w,C,l1,d1,T,U,Y,Z⟩:=as0 t2 tl;have z1:EW w=true:=by simp[EW,U,Y,Z]
 rw[t1]at C;have D:Cs x=some (cx w):=by
  unfold Cs Eh;rw[cP,az,az,O,bI,ax,ave E I,az,C,az]
 have ee:E4 x=cx w:=by unfold E4;rw[D];rfl
 rw[ee];exact⟨D,agz d1 l1,w,rfl,l1,d1,by rw[T,t1],z1⟩
def avg{a b:Nat}(E:a<9223372036854775808)(hb:b<9223372036854775808):bits .or .i64 (a:Int) (b:Int)=((a ||| b:Nat):Int):=by
 have e:bits .or .i64 (a:Int) (b:Int)=W6 ((BitVec.ofInt 64 (a:Int) |||BitVec.ofInt 64 (b:Int)).toNat:Int):=rfl;have h:a |||b<2 ^ 63:=Nat.or_lt_two_pow (by omega) (by omega);have C:BitVec.ofInt 64 (a:Int)=BitVec.ofNat 64 a:=BitVec.ofInt_natCast 64 a;have D:BitVec.ofInt 64 (b:Int)=BitVec.ofNat 64 b:=BitVec.ofInt_natCast 64 b;rw[e,C,D,BitVec.toNat_or,BitVec.toNat_ofNat,BitVec.toNat_ofNat,Nat.mod_eq_of_lt (by omega),Nat.mod_eq_of_lt (by omega),bh]
def ahH(a:Nat)(I:a<9223372036854775808):bits .and .i64 (a:Int) 15=((a % 16:Nat):Int):=by
 have e:bits .and .i64 (a:Int) 15=W6 ((BitVec.ofInt 64 (a:Int) &&& BitVec.ofInt 64 15).toNat:Int):=rfl;have C:BitVec.ofInt 64 (a:Int)=BitVec.ofNat 64 a:=BitVec.ofInt_natCast 64 a;have D:(BitVec.ofInt 64 15).toNat=15:=rfl;have E:a &&& 15=a % 16:=Nat.and_two_pow_sub_one_eq_mod a 4;rw[e,C,BitVec.toNat_and,BitVec.toNat_ofNat,Nat.mod_eq_of_lt (by omega),D,E,bh]
def nv(d:aa Nat):Nat->Nat
 |0=>0
 |k+1=>nv d k+d.getD k 0*16 ^ k
def Mo{d:aa Nat}(C:jE d):∀ k,nv d k<16 ^ k
 |0=>Nat.one_pos
 | k+1=>by
  have D:=Mo C k;have E:=C.get k;have I:d.getD k 0*16 ^ k <= 15*16 ^ k:=ju _ (by omega);show nv d k+d.getD k 0*16 ^ k<16 ^ (k+1)
  grind
def YD(k:Nat)(C:k<8):(min (4*(k:Int)).toNat IntKind.i64.bits)=4*k:=by
 have:IntKind.i64.bits=64:=rfl;rw[this];omega
def YE{d:aa Nat}(C:jE d)(hl:d.length=8):∀ k,k<=8->wv (cx d) k=(nv d k:Int)
 |0,_=>rfl
 | k+1,h=>by
  have E:=Mo C k;have T:=C.get k;have U:(16:Nat) ^ k<=16 ^ 7:=Nat.pow_le_pow_right (by decide) (by omega);have D:(2:Nat) ^ (4*k)=16 ^ k:=by rw[Nat.pow_mul]
  have Y:d.getD k 0*16 ^ k<=15*16 ^ k:=ju _ (by omega);have I:(cx d).getD k 0=((d.getD k 0:Nat):Int):=by
   rw[cQ,bL (by rw[vQ];omega)];exact QS (by rw[vQ];omega)
  have O:((d.getD k 0:Nat):Int)*2 ^ (4*k)=((d.getD k 0*16 ^ k:Nat):Int):=by
   rw[<-D]
   push_cast
   rfl
  show bits .or .i64 (wv (cx d) k) (W6 ((cx d).getD k 0*2 ^ (min (4*(k:Int)).toNat IntKind.i64.bits)))=((nv d k+d.getD k 0*16 ^ k:Nat):Int)
  rw[YE C hl k (by omega),YD k (by omega),I,O,bh,avg (by omega) (by omega)];congr 1;have:=Nat.two_pow_add_eq_or_of_lt (i:=4*k) (b:=nv d k) (by rw[D];exact E) (d.getD k 0);rw[D,Nat.mul_comm]at this;rw[Nat.or_comm,<-this];omega
def ahI{d:aa Nat}(C:jE d):∀ n k,k<n -> nv d n / 16 ^ k % 16=d.getD k 0
 |0,k,h=>by omega
 | n+1,k,h=>by
  have D:=Mo C n;have I:=C.get n;show (nv d n+d.getD n 0*16 ^ n) / 16 ^ k % 16=_;by_cases e:k=n
  ·subst e;rw[Nat.add_mul_div_right _ _ (Nat.pow_pos (by decide)),Nat.div_eq_of_lt D,gy];omega
  ·have O:n=(n-k-1)+1+k:=by omega
   have E:d.getD n 0*16 ^ n=(d.getD n 0*16 ^ (n-k-1)*16)*16 ^ k:=by
    grind
   rw[E,Nat.add_mul_div_right _ _ (Nat.pow_pos (by decide)),Nat.add_mul_mod_self_right,ahI C n k (by omega)]
def avh{d:aa Nat}(C:jE d)(hl:d.length=8):mS (wv (cx d) 8) 8=cx d:=by
 have O:nv d 8<16 ^ 8:=Mo C 8;rw[YE C hl 8 (dg _)];have key:∀ k,k <= 8 -> mS (nv d 8:Int) k=cx (d.take k):=by
  intro k
  induction k with
  |zero=>intro _;rfl
  | succ k D=>
   intro T;have U:(2:Nat) ^ (4*k)=16 ^ k:=by rw[Nat.pow_mul]
   have E:(nv d 8:Int).fdiv (2 ^ (4*k))=((nv d 8 / 16 ^ k:Nat):Int):=by
    grind
   have I:Ba (nv d 8:Int) k=((d.getD k 0:Nat):Int):=by
    unfold Ba;rw[YD k (by omega),E,ahH _ (Nat.lt_of_le_of_lt (Nat.div_le_self _ _) (by omega)),ahI C 8 k (by omega)]
   show mS (nv d 8:Int) k++[Ba (nv d 8:Int) k]=_;rw[D (by omega),I,List.take_add_one,bL (by omega),cQ,bL (by omega)];exact(mZ (f:=λn:Nat=>(n:Int)) (l₁:=d.take k) (l₂:=[d[k]])).symm
 rw[key 8 (dg _),<- hl,qc]
def avi{d:aa Nat}(C:jE d)(hl:d.length=8):0 <= wv (cx d) 8/\wv (cx d) 8 <= 4294967295:=by
 have D:=Mo C 8;rw[YE C hl 8 (dg _)];omega
def CS(d:cw):Int:=bif d.qd then 0 else Ry (nw d)
def zq(c:au)(j:Nat)(d:cw):au:=eY c ⟨c.array.cells.set j d,c.array.bx,c.array.bg⟩
def avj{c:au}{j:Nat}(h:j<c.array.cells.length):zq c j c.array.cells[j]=c:=by
 unfold zq eY;rw[avd h]
def ahJ{c:au}{j:Nat}(C:j<c.array.cells.length)(T:Sy c.array.cells[j].symbols):AZ c (j:Int)=some ((CS c.array.cells[j],ld c.array.cells[j]),(zq c j (oz c.array.cells[j]),())):=by
 have⟨U,D,E⟩:=Rz T;have I:=ahj D E;have O:=avc D E;rw[U]at I O;have Z:=avj C;unfold AZ ld oz CS xL xM;rw[aP ⟨by omega,by omega⟩,aP];simp only[bD];cases Y:c.array.cells[j].qd with
 |true =>simp_all
 | false=>
  rw[ax,ax,ax,ax,aP C,aP C,I,az,aP C,aP C,O,az];dsimp only;rcases(Re D E).2.2 with q|q|q
  ·grind
  ·rw[q,gu,aP C,Y];rfl
  ·rw[q,dy (by omega),ax,gu,aP C];rfl
def CT(q:aa aR)(i:Nat):Bool:=match q[i]? with
 |some r=>(q.take i).any λx=>x.line==r.line
 |none=>false
def ahK{q:aa aR}{i:Nat}(h:i<q.length):CT q i=(q.take i).any λx=>x.line==q[i].line:=by
 unfold CT;rw[bL h]
def avk{q:aa aR}{i:Nat}(h:i<q.length)(I:q.length <= 1000):P8 q (i:Int)=some (CT q i):=by
 have O:=HS (λx:aR=>x.line==q[i].line) (q.take i);have hlen:(q.take i).length=i:=by rw[jK];omega
 unfold P8 dI;rw[cP,az,Rs (by omega) (by omega) (by omega),bI,ax,aV ⟨by omega,by omega,by omega⟩,ahK h,Yj];simp only[bD,Int.toNat_zero,List.drop_zero];generalize T:q.take i=t at *
 have e:=gf (step:=G9) (gi (λx:aR=>x.line==q[i].line) t) (λj=>((q,(i:Int),t,(t.length:Int),(j:Int),()),())) (if gi (λx:aR=>x.line==q[i].line) t<t.length then .inl ((true,()),())else .inr (.inl ((),()))) bC (λk E=>by
  have D:=xT E (by omega);unfold G9 aM bU xG xI;dsimp only;rw[bf,av,aP ⟨by omega,by omega⟩,aP ⟨by omega,by omega⟩];simp only[bD];rw[D,ax,cC]) (by
  by_cases C:gi (λx:aR=>x.line==q[i].line) t<t.length
  ·have D:=CN C;unfold G9 aM bU xG xI;dsimp only;rw[bf,av,aP ⟨by omega,by omega⟩,aP ⟨by omega,by omega⟩]
   grind
  ·unfold G9 aM bU xG xI;dsimp only;rw[bz,ax,aX C]) (cM)
 rw[eM]at e
 refine(bE (λo=>Option.bind o _) e).trans ?_
 by_cases C:gi (λx:aR=>x.line==q[i].line) t<t.length
 ·rw[aV C,bf C];rfl
 ·rw[aX C,bz C];rfl
def CU(d:m0)(n:Int)(w:Bool):Bool:=bif w then d.on ||decide (n<1)else !d.on
def avl{d:m0}(n:Int)(w:Bool)(h:tJ d=true):P9 d n w=some (CU d n w):=by
 unfold P9 CU;rw[QX,h]
 grind
def v9(p:Nat->Bool)(k:Nat):Int:=((List.range k).countP p:Nat)
def ahL(p:Nat -> Bool)(k:Nat):v9 p (k+1)=v9 p k+(bif p k then 1 else 0):=by
 unfold v9;rw[List.range_succ,List.countP_append,List.countP_singleton]
 grind
def ahM(p:Nat -> Bool)(k:Nat):0 <= v9 p k/\v9 p k <= k:=by
 unfold v9;have:=List.countP_le_length (p:=p) (l:=List.range k);simp_all
def uO(f:Nat->Bool)(n k:Nat):aa Bool:=(List.range k).map f++List.replicate (n-k) false
def RC{f:Nat->Bool}{n k:Nat}(h:k<=n):(uO f n k).length=n:=by unfold uO;simp;omega
def RD{f:Nat -> Bool}{n k:Nat}(h:k<n):(uO f n k).set k (f k)=uO f n (k+1):=by
 unfold uO;rw[List.set_append_right _ _ (by simp),fN,fO,Nat.sub_self,show n-k=(n-(k+1))+1 by omega,List.replicate_succ,List.range_succ,mZ,List.append_assoc];rfl
def YF(f:Nat->Bool)(n:Nat):uO f n 0=List.replicate n false:=rfl
def RE(f:Nat->Bool)(n:Nat):uO f n n=(List.range n).map f:=by unfold uO;simp
def Mp{f:Nat->Bool}{n k:Nat}(h:k<n)(C:k<((List.range n).map f).length):((List.range n).map f)[k]=f k:=by simp
def mU(q:aa aR)(i:Nat):Bool:=match q[i]? with
 |some r=>r.write
 |none=>false
def RG{q:aa aR}{i:Nat}(h:i<q.length):mU q i=q[i].write:=by
 unfold mU;rw[bL h]
def mW(q:aa aR)(i:Nat):Bool:=!CT q i
def zu(q:aa aR)(k:Nat):Int:=v9 (λi=>mW q i && !mU q i) k
def zv(q:aa aR)(k:Nat):Int:=v9 (λi=>mW q i&&mU q i) k
def jS(c:au)(i:Nat):Bool:=mW c.queue i&&(CU c.drain (zu c.queue c.queue.length) (mU c.queue i) ||(!mU c.queue i&&zv c.queue c.queue.length==0))
def iQ(c:au):aa aN:=c.queue.map λr=>dM c r.line
def Bb(c:au):(iQ c).length=c.queue.length:=by unfold iQ;rw[fN]
def ahN{c:au}{i:Nat}(h:i<c.queue.length)(C:i<(iQ c).length):(iQ c)[i]=dM c c.queue[i].line:=by simp only[iQ,List.getElem_map]
def RH{c:au}(h:Pq c){r:aR}(C:r∈c.queue):zb c r.line=some (dM c r.line,true)/\ef c.config.aq (dM c r.line)=true:=
 Rr h.p h.sp h.se h.mo (h.q r C).1.1 (h.q r C).1.2
def avm{c:au}(h:Pq c):P7 c=some (iQ c):=by
 have D:=h.ql;have e:=gf (step:=Lx) c.queue.length (λi=>(((),(),c.queue,c.queue.length,i,()),(c,(c.queue.take i).map _,()))) (.inl (((),()),(iQ c,()))) bC (λk C=>by
  have hl:((c.queue.take k).map (λr=>dM c r.line)).length=k:=by simp;omega
  unfold Lx aM xG xI;dsimp only;rw[bf,av,aP ⟨by omega,by omega⟩];simp only[bD];rw[(RH h (cX C)).1,az,cC,hl,mj,fR,av,EL C,mZ];rfl) (by
  unfold Lx aM xG xI;dsimp only;rw[bz,ax,qc];rfl) (cM)
 unfold P7 bZ;simp_all
def zA:aN:=⟨0,0,0⟩
def zQ:aR:=⟨0,0,0,false,0,0⟩
def ey(c:au)(i:Nat):aN:=(iQ c).getD i zA
def gI(c:au)(i:Nat):aR:=c.queue.getD i zQ
def E5{c:au}{i:Nat}(h:i<(iQ c).length):(iQ c)[i]=ey c i:=by
 unfold ey;rw[cQ,bL h];rfl
def HX{c:au}{i:Nat}(h:i<c.queue.length):c.queue[i]=gI c i:=by
 unfold gI;rw[cQ,bL h];rfl
def E6{c:au}(h:Pq c){i:Nat}(hi:i<c.queue.length):ef c.config.aq (ey c i)=true/\0 <= (ey c i).aA/\(ey c i).aA.toNat<c.aG.aO.length/\(ey c i).aA.toNat<c.ay.aB.length/\(ey c i).aA<aE c.config.aq/\0 <= (ey c i).row:=by
 have e:=ahN hi (by rw[Bb];exact hi);rw[E5]at e;have C:=(RH h (cX hi)).2;rw[<- e]at C;have⟨_,D,E,I,O,T,U⟩:=oh C;have:=h.p.bl;have:=h.dl;simp_all
def HY{c:au}(h:Pq c):c.aG.aO.length<=1048576:=by
 have:=h.p.bl;have:=dZ c.config.aq;omega
def ez(c:au)(i:Nat):Bool:=sH c.aG (ey c i)
def avn{c:au}(h:Pq c)(C:aa Int)(D:aa aN)(Z:Int×Int×Int×Int×aj)(P:Int×Int×Int×Int×Int×(aa Int)×Int×Int×aj):iter Hh bC ((C,D,(),(),(),(),(0:Int),(0:Int),c.queue,(c.queue.length:Int),(0:Int),()),(c,Z,P,List.replicate c.queue.length false,()))=some (.inl ((C,D,(),(),(),(),zu c.queue c.queue.length,zv c.queue c.queue.length,()),(c,Z,P,(List.range c.queue.length).map (mW c.queue),()))):=by
 have O:=h.ql;have e:=gf (step:=Hh) c.queue.length (λi=>((C,D,(),(),(),(),zu c.queue i,zv c.queue i,c.queue,(c.queue.length:Int),(i:Int),()),(c,Z,P,uO (mW c.queue) c.queue.length i,()))) (.inl ((C,D,(),(),(),(),zu c.queue c.queue.length,zv c.queue c.queue.length,()),(c,Z,P,(List.range c.queue.length).map (mW c.queue),()))) bC (λk E=>by
  have T:=ahM (λi=>mW c.queue i && !mU c.queue i) k;have U:=ahM (λi=>mW c.queue i&&mU c.queue i) k;have I:mW c.queue k = !CT c.queue k:=rfl;have hl:=RC (f:=mW c.queue) (n:=c.queue.length) (k:=k) (by omega);have Y:((uO (mW c.queue) c.queue.length k).set k (!CT c.queue k)).length=c.queue.length:=by rw[jg,hl]
  rw[<- RD E];unfold Hh aM xG xI xL;dsimp only;rw[bf,av,aP ⟨by omega,by omega⟩,avk E (by omega),az,aP ⟨by omega,by omega⟩,aP,aP ⟨by omega,by simp only[bD];omega⟩,aP (by simp only[bD];omega),cC];simp only[bD,List.getElem_set_self];unfold zu zv at *
  rw[ahL,ahL];simp only[I,RG E];cases CT c.queue k with
  | true=>
   simp[*]
  | false=>
   rw[Bool.not_false,av];cases c.queue[k].write with
   |true=>rw[ bh];simp
   | false=>
    rw[ax,aP ⟨by omega,by rw[jg];omega⟩,aP (by rw[jg];omega),bh];simp) (by
  unfold Hh aM xG xI xL;dsimp only;rw[bz,ax,RE]) (cM)
 rw[eM,YF]at e;exact e
def we(c:au):Nat->aa (Int×Bool)
 |0=>[]
 |k+1=>bif jS c k&&ez c k then mC (we c k) (ey c k).aA true else we c k
def E7(c:au)(k:Nat)(b:Int):Bool:=(List.range k).any λi=>jS c i&&ez c i&&b==(ey c i).aA
def ahO(c:au)(b:Int):∀ k,nt (we c k) b=E7 c k b
 |0=>rfl
 | k+1=>by
  have C:=ahO c b k;have e:E7 c (k+1) b=(E7 c k b || (jS c k&&ez c k&&b==(ey c k).aA)):=by
   unfold E7
   grind
  rw[e,<- C];show nt (bif jS c k&&ez c k then mC _ (ey c k).aA true else we c k) b=_;cases jS c k&&ez c k with
  |false=>simp
  |true=>rw[av,ag7,dn,Bool.or_comm]
def avo{c:au}(h:Pq c)(D:aa Int)(Z:Int×Int×Int×Int×aj)(P:Int×Int×Int×Int×Int×(aa Int)×Int×Int×aj):iter Hi bC ((D,iQ c,(),(),(),(),zu c.queue c.queue.length,zv c.queue c.queue.length,(),(),(),c.queue,(c.queue.length:Int),(0:Int),()),(c,Z,P,(List.range c.queue.length).map (mW c.queue),List.replicate c.queue.length false,List.replicate c.queue.length false,([]:aa (Int×Bool)),()))=some (.inl ((D,iQ c,(),(),(),(),(),(),()),(c,Z,P,(List.range c.queue.length).map (jS c),(List.range c.queue.length).map (ez c),we c c.queue.length,()))):=by
 have hq:=h.ql;have E:=HY h;have e:=gf (step:=Hi) c.queue.length (λi=>((D,iQ c,(),(),(),(),zu c.queue c.queue.length,zv c.queue c.queue.length,(),(),(),c.queue,(c.queue.length:Int),(i:Int),()),(c,Z,P,(List.range c.queue.length).map (mW c.queue),uO (jS c) c.queue.length i,uO (ez c) c.queue.length i,we c i,()))) (.inl ((D,iQ c,(),(),(),(),(),(),()),(c,Z,P,(List.range c.queue.length).map (jS c),(List.range c.queue.length).map (ez c),we c c.queue.length,()))) bC (λk C=>by
  have hl:=RC (f:=jS c) (n:=c.queue.length) (k:=k) (by omega);have I:=RC (f:=ez c) (n:=c.queue.length) (k:=k) (by omega);have O:=Bb c;have hl4:((List.range c.queue.length).map (mW c.queue)).length=c.queue.length:=by simp
  obtain⟨ho,T,U,o3,o4,Y⟩:=E6 h C;have hh:=auS (r:=c.aG) (a:=ey c k) Y T U E;have hd:jS c k=(mW c.queue k&&(CU c.drain (zu c.queue c.queue.length) c.queue[k].write ||(!c.queue[k].write&&zv c.queue c.queue.length==0))):=by unfold jS;rw[RG C]
  have YG:we c (k+1)=bif jS c k&&ez c k then mC (we c k) (ey c k).aA true else we c k:=rfl;have hit:ez c k=sH c.aG (ey c k):=rfl;rw[<-RD C,<-RD C,YG];unfold Hi aM xG xI xL;dsimp only;rw[bf,av,aP ⟨by omega,by omega⟩,aP ⟨by omega,by omega⟩,aP];simp only[bD,Mp C,avl _ _ h.dr,az,E5,hh,cC (show k<4611686018427387904 by omega),List.getElem_set_self,jg,hl,I,O];rw[hd,hit];cases mW c.queue k<;>cases CU c.drain (zu c.queue c.queue.length) c.queue[k].write<;>cases c.queue[k].write<;>cases sH c.aG (ey c k)<;>cases zv c.queue c.queue.length==0<;>simp[C]) (by
  unfold Hi aM xG xI xL;dsimp only;rw[bz,ax,RE,RE]) (cM)
 rw[eM,YF,YF]at e;exact e
def RI(e:cY):cY:=⟨e.line,e.code,(if (999:Int)<(W6 (e.times+(1:Int)))then (999:Int)else (W6 (e.times+(1:Int))))⟩
def zEE:cY:=⟨0,0,0⟩
def wg(l:aa cY)(line code:Int):aa cY:=match l.findIdx? (tK ⟨line,code,1⟩)with
 |some i=>l.set i (RI (l.getD i zEE))
 |none=>bif ((l.length:Int)==(6:Int))then l.drop 1++[⟨line,code,1⟩]else l++[⟨line,code,1⟩]
def avp{l:aa cY}(h:rD l=true){line code:Int}(D:0<=line/\line<=1023)(E:code=1\/code=2):PX l line code=some (wg l line code,true):=by
 have hl:l.length<=6:=by
  simp only[rD,aH,ij]at h;omega
 have I:aT line 0 1023=true:=bu.2 D;unfold PX Lo wg dI xA xZ;rw[fR (by simp;omega),av,az,agO _ (by omega),az,h,bI,ax,cP,az,I,bI,ax,List.nil_append];have e:=HG (step:=Lp) l (tK ⟨line,code,1⟩) (λk=>((line,code,(),(),(l.length:Int),(k:Int),()),(l,()))) (λi=>.inl (((),true,()),(l.set i (RI (l.getD i zEE)),()))) (.inr (.inl ((line,code,(),()),(l,())))) bC (λk O=>by
  unfold Lp tK aM bU xG xL;dsimp only;rw[bf,av,aP ⟨by omega,by omega⟩,aP];simp only[bD];rw[aP ⟨by omega,by omega⟩,aP,cC,fU _ O];cases l[k].line==line<;>cases l[k].code==code<;>rfl) (by
  unfold Lp aM bU xG xL;dsimp only;rw[bz,ax]) (cM)
 rw[eM]at e;have T:iter Xd bC ((line,code,(),(),(l.length:Int),(0:Int),()),(l,()))=_:=e;rcases E with rfl|rfl
 ·rw[bne_self_eq_false,ax,T];cases l.findIdx? (tK ⟨line,1,1⟩)with
  |some i=>rfl
  | none=>
   rw[az,Sum.elim_inr,iJ];dsimp only;cases C:(l.length:Int)==(6:Int)with
   |false=>rw[ax,ax,fR (by simp;omega)];rfl
   | true=>
    have C:=eq_of_beq C;rw[av,av,aV ⟨by omega,by omega,by omega⟩,fR (by simp;omega),av,az,fR (by simp;omega),av];simp
 ·rw[iW (by omega),av,bne_self_eq_false,ax,e];cases l.findIdx? (tK ⟨line,2,1⟩)with
  |some i=>rfl
  | none=>
   rw[az,Sum.elim_inr,iJ];dsimp only;cases C:(l.length:Int)==(6:Int)with
   |false=>rw[ax,ax,fR (by simp;omega)];rfl
   | true=>
    have C:=eq_of_beq C;rw[av,av,aV ⟨by omega,by omega,by omega⟩,fR (by simp;omega),av,az,fR (by simp;omega),av];simp
def RJ(c:au)(l:aa cY):au:=⟨c.config,c.box,c.now,c.aG,c.ready,c.array,c.spare,c.ay,c.bF,c.guard,c.pending,c.queue,c.shares,c.drain,c.aS,c.dJ,l,c.trace,c.aZ⟩
def RK(c:au)(n code:Int):au:=bif code != 0 then RJ c (wg c.errors n code)else c
def ahP{c:au}(h:rD c.errors=true){n code:Int}(C:0<=n/\n<=1023)(h2:code=0\/code=1\/code=2):AY c n code=some ((),(RK c n code,())):=by
 unfold AY RK;rcases h2 with rfl|h2
 ·rfl
 ·rw[avp h C h2,iW (by omega)];rfl
def avq(q:aa aR):Prop:=∀i (h:i<q.length),(q.take i).any (λx=>x.id==q[i].id)=false
def avr{q:aa aR}{i:Nat}(h:i<q.length)(hl:q.length<=12):Qv q (i:Int) (W6 ((i:Int)+1))=some (q.take i++q.drop (i+1),([],())):=by
 have C:(splice q i ((q.take ((q.length:Int).toNat)).drop (i+1))).length=q.length:=by
  rw[wG _ _ _ (by simp;omega)]
 have E:((q.take ((q.length:Int).toNat)).drop (i+1))=q.drop (i+1):=by rw[bD,qc]
 unfold Qv;rw[cC,aV ⟨by omega,by omega,by omega,by omega⟩,dy (by omega),ax,aV ⟨by omega,by omega,by omega⟩,aV ⟨by omega,by omega,by omega⟩];simp only[bD]at C ⊢;rw[aV ⟨by omega,by omega,by omega,by omega⟩,aV ⟨by omega,by omega,by omega⟩,aV ⟨by omega,by omega⟩];have D:i+(q.length-(i+1))-0=i+(q.length-(i+1)):=by omega
 rw[D,Yy _ _ _ (by omega)];unfold splice;rw[qc,List.take_append_of_le_length (by simp;omega),List.take_of_length_le (by simp;omega)]
def pU:aR:=⟨0,0,0,false,0,0⟩
def E8(s:aa dz)(t:Int):aa dz:=match pg s ((List.replicate 4 false).set t.toNat true)with
 |some (l,_)=>l
 |none=>[]
def tR(c:au)(i:Nat)(a:c9)(e:aa cY)(x:cI):au:=
 ⟨c.config,c.box,c.now,c.aG,c.ready,a,c.spare,c.ay,c.bF,c.guard,c.pending,c.queue.take i++c.queue.drop (i+1),E8 c.shares (c.queue.getD i pU).cS,c.drain,c.aS,c.dJ,e,c.trace,c.aZ++[x]⟩
def gx(c:au)(i:Nat):au:=
 let r:=c.queue.getD i pU
 let n:=eI c.config.aq (dM c r.line)
 bif r.write then tR c i ⟨c.array.cells.set n ⟨E4 r.data,false⟩,c.array.bx,c.array.bg⟩ c.errors ⟨r.id,c.now,0,0⟩
 else tR c i ⟨c.array.cells.set n (oz (c.array.cells.getD n xU)),c.array.bx,c.array.bg⟩ (bif ld (c.array.cells.getD n xU) != 0 then wg c.errors (n:Int) (ld (c.array.cells.getD n xU))else c.errors) ⟨r.id,c.now,CS (c.array.cells.getD n xU),ld (c.array.cells.getD n xU)⟩
def YH{d:cw}(h:Sy d.symbols):ld d=0 \/ ld d=1 \/ ld d=2:=by
 have⟨E,C,D⟩:=Rz h;unfold ld;cases d.qd with
 |true=>simp_all
 |false=>exact(Re C D).2.2
structure sI (c:au) (i:Nat) (B:Int):Prop where
 ad:∀r∈c.queue,zb c r.line=some (dM c r.line,true)/\ef c.config.aq (dM c r.line)=true
 tn:∀r∈c.queue,0<=r.cS/\r.cS<=3
 ql:c.queue.length<=12
 sh:ki c.shares=true
 shl:c.shares.length=4
 u:avq c.queue
 i:i<c.queue.length
 d:∀r∈c.queue,0<=r.data/\r.data<=4294967295
 a:fH c.config.aq B c.array
 e:rD c.errors=true
 r:c.aZ.length<=1000
def sI.facts{c:au}{i:Nat}{B:Int}(h:sI c i B){r:aR}(C:r∈c.queue):zb c r.line=some (dM c r.line,true)/\vP c.config.aq (dM c r.line)=(eI c.config.aq (dM c r.line):Int)/\eI c.config.aq (dM c r.line)<c.array.cells.length/\(eI c.config.aq (dM c r.line):Int) <= 1023/\pg c.shares ((List.replicate 4 false).set r.cS.toNat true)=some (E8 c.shares r.cS,(pg c.shares ((List.replicate 4 false).set r.cS.toNat true)).get!.2)/\0 <= r.cS/\r.cS.toNat<4:=by
 obtain⟨a1,a3⟩:=h.ad _ C;have D:=h.tn _ C;obtain⟨E,I⟩:=EU a3;have O:=h.a.cells;have hl:=rz c.config.aq;obtain⟨y,t,e,_⟩:=Ys ((List.replicate 4 false).set _ true) (by have:=h.shl;omega) h.sh (by simp[h.shl]);refine⟨a1,E,by omega,by omega,?_,D.1,by omega⟩;unfold E8;rw[e];rfl
def ahQ{c:au}{i:Nat}{B:Int}(h:sI c i B):Qx c (i:Int)=some ((),(gx c i,())):=by
 have hi:=h.i;have⟨f1,f3,f4,f5,f6,f7,f8⟩:=h.facts (cX hi);have C:=h.d _ (cX hi);have D:=h.a.syms _ (cX f4);have E:c.queue.getD i pU=c.queue[i]:=fU _ hi;have O:=h.r;unfold Qx xL;rw[aP ⟨by omega,by omega⟩,aP];simp only[bD];rw[f1,az,avr hi h.ql,az,aV (by decide)];have I:(4:Int).toNat=4:=rfl;rw[I,aP ⟨f7,by simpa using f8⟩,aP (by simpa using f8)];dsimp only;rw[f6,az];dsimp only;unfold gx;rw[E];dsimp only;cases hw:c.queue[i].write with
 | true=>
  rw[ Hy,az,(Mn C.1 C.2).1,az,aP ⟨by omega,by omega⟩,aP,fR (by simp;omega)];unfold tR;simp_all
 | false=>
  rw[ax,ax,Hy,az,f3,fU _ f4]
  refine(bE (λo=>Option.bind o _) (ahJ (c:=⟨c.config,c.box,c.now,c.aG,c.ready,c.array,c.spare,c.ay,c.bF,c.guard,c.pending,c.queue.take i++c.queue.drop (i+1),E8 c.shares c.queue[i].cS,c.drain,c.aS,c.dJ,c.errors,c.trace,c.aZ⟩) f4 D)).trans ?_
  rw[az];unfold zq eY;dsimp only;rw[fR (by simp;omega),av,az]
  refine(bE (λo=>Option.bind o _) (ahP (by exact h.e) ⟨by omega,f5⟩ (YH D))).trans ?_
  rw[az];unfold RK tR RJ;rw[E];dsimp only;cases ld c.array.cells[eI c.config.aq (dM c c.queue[i].line)] != 0<;>rfl
def cg(c:au)(x:aQ):au:=⟨c.config,c.box,c.now,cZ c.aG x,iF c.config.aq c.ready ⟨c.now,x⟩,c.array,c.spare,c.ay,c.bF,c.guard,c.pending,c.queue,c.shares,c.drain,c.aS,c.dJ,c.errors,c.trace++[⟨c.now,x⟩],c.aZ⟩
def ahR(c:au)(p:jM):au:=⟨c.config,c.box,c.now,c.aG,c.ready,c.array,c.spare,c.ay,c.bF,c.guard,c.pending,c.queue,c.shares,c.drain,p,c.dJ,c.errors,c.trace,c.aZ⟩
def HZ(c:au)(r:eC):au:=⟨c.config,c.box,c.now,c.aG,c.ready,c.array,c.spare,r,c.bF,c.guard,c.pending,c.queue,c.shares,c.drain,c.aS,c.dJ,c.errors,c.trace,c.aZ⟩
def E9(c:au)(k:Int):au:=ahR c (A9 c.aS k c.now)
def CV(c:au)(b:Int):au:=HZ (Rw c b (c.pending.filter (λa=>!(a.aA==b)))) (oy c.ay b)
def br(c:au)(x:aQ)(i:Int):au:=
 bif x.kind==1 then uN (cg c x) x else
 bif x.kind==5 then CV (cg c x) x.aA else
 bif x.kind==2 ||x.kind==3 then gx (cg c x) i.toNat else
 bif x.kind==4 then cg c x else
 bif x.kind==9 then jR (E9 (cg c x) 9) c.bF.length []else E9 (cg c x) x.kind
structure Bs (c:au):Prop where
 w:zp 100000 c
 u:E2 c.pending
 pk:∀a∈c.pending,0<=a.aA/\a.aA<aE c.config.aq
 zt:∀t∈c.bF,pL t
 rf:fS c.ay=true
 bl:(c.aG.aO.length:Int)=aE c.config.aq
 l1:c.ready.last.length<1073741824
 l2:c.ready.bq.length<1073741824
 tl:c.trace.length<10000
def Bs.cg{c:au}(h:Bs c)(x:aQ):zp 100000 (cg c x):=⟨h.w.hB,h.w.g,h.w.a,h.w.k,h.w.p,h.w.t,h.w.d,h.w.r⟩
def sI.cg{c:au}{n:Nat}{B:Int}(h:sI c n B)(x:aQ):sI (cg c x) n B:=⟨h.ad,h.tn,h.ql,h.sh,h.shl,h.u,h.i,h.d,h.a,h.e,h.r⟩
def avs{c:au}(h:zp 100000 c):iter A0 bC (((),(c.bF.length:Int),(0:Int),()),((⟨c.config,c.box,c.now,c.aG,c.ready,c.array,c.spare,c.ay,c.bF,c.guard,([]:aa aN),c.queue,c.shares,c.drain,c.aS,c.dJ,c.errors,c.trace,c.aZ⟩:au),()))=some (.inl ((),(jR c c.bF.length [],()))):=au8 h
def CW{g:aK}{x:aQ}(h:cD g x=true)(C:x.kind=1):0 <= x.row/\x.row<g.rows:=by
 simp[cD,aH]at h;have D:=h.2.2.2.1;rw[xP,C,show ((1:Int)==1)=true from rfl,av,bu]at D;omega
def avt{c:au}(h:Bs c){x:aQ}(E:pJ c.config.aq c.aG x=true){i:Int}(I:x.kind=2 \/ x.kind=3 -> sI c i.toNat 100000/\0 <= i):LQ c x i=some ((),(br c x i,())):=by
 have⟨hg,hlen,O,hb⟩:=zg E;have T:cD c.config.aq x=true:=by
  simp only[pJ,aH]at E
  grind
 have b1:=dZ c.config.aq;have w:=h.cg x;have ht:=h.w.t;have hd:=h.w.d;have hr:=h.w.r;have CX:=h.tl;have er:LI c.config.aq c.aG x=some (cZ c.aG x,true):=by
  rw[atw _ _ _ (by omega)];unfold X6;simp_all
 unfold LQ br bZ;rw[fR (by simp;omega),av,atG _ _ _ h.l1 h.l2,az,er,az];rcases kinds O with q|q|q|q|q|q|q|q|q<;>rw[q]<;>simp only[Int.reduceBEq,Int.reduceBNe,av,ax,Bool.or_true,Bool.or_false,Bool.true_or,lK,Bool.or_self]
 ·have⟨C,U⟩:=hb (by omega);have⟨Y,Z⟩:=CW T q
  refine(bE (λo=>Option.bind o _) (au6 (c:=cg c x) x w.g w.a w.p h.zt C (by show x.aA<aE c.config.aq;omega) Y Z (by show x.aA.toNat<c.bF.length;omega) (by show x.aA.toNat<c.guard.length;omega))).trans ?_
  rfl
 ·have⟨s,D⟩:=I (.inl q);have e:=ahQ (s.cg x);rw[Int.toNat_of_nonneg D]at e
  refine(bE (λo=>Option.bind o _) e).trans ?_
  rfl
 ·have⟨s,D⟩:=I (.inr q);have e:=ahQ (s.cg x);rw[Int.toNat_of_nonneg D]at e
  refine(bE (λo=>Option.bind o _) e).trans ?_
  rfl
 ·rfl
 ·have⟨C,U⟩:=hb (by omega);have⟨y,e4⟩:=auY h.rf (b:=x.aA) C (by omega)
  refine(bE (λo=>Option.bind o _) (ahE w.hB (cg c x) w.g w.a C (by show x.aA<aE c.config.aq;omega))).trans ?_
  rw[az];unfold eY;dsimp only;rw[au2 _ _ (by show c.pending.length<1000000;have:=h.w.p;omega),az];dsimp only
  refine(bE (λo=>Option.bind o _) (ahF _ (by exact w.k) C (by show x.aA.toNat<c.bF.length;omega) (by show x.aA.toNat<c.guard.length;omega))).trans ?_
  rw[az];unfold zn;dsimp only
  refine(bE (λo=>Option.bind o _) e4).trans ?_
  rfl
 ·have⟨y,e⟩:=Rv c.aS (k:=6) (by omega) c.now;rw[e,az];rfl
 ·have⟨y,e⟩:=Rv c.aS (k:=7) (by omega) c.now;rw[e,az];rfl
 ·have⟨y,e⟩:=Rv c.aS (k:=8) (by omega) c.now;rw[e,az];rfl
 ·have⟨y,e⟩:=Rv c.aS (k:=9) (by omega) c.now;rw[e,az]
  refine(bE (λo=>Option.bind o _) (avs (c:=E9 (cg c x) 9) ⟨w.hB,w.g,w.a,w.k,w.p,w.t,w.d,w.r⟩)).trans ?_
  rfl
def avu{l m:aa Int}(h:l.length=m.length)(D:(l.zip m).all A3=true):(∀ x∈l,0 <= x/\x <= 100000) /\ ∀ x∈m,0 <= x/\x <= 100000:=by
 rw[cm]at D;have key:∀ i _ (E:i<m.length),(0 <= l[i]/\l[i] <= 100000)/\(0 <= m[i]/\m[i] <= 100000):=λi O E=>by
  have I:i<(l.zip m).length:=by rw[List.length_zip];omega
  have:=D _ (cX I);rw[List.getElem_zip]at this;simp[A3,aH,bu]at this;exact this
 constructor
 ·intro x C;obtain⟨i,hi,rfl⟩:=jL.1 C
  grind
 ·intro x C;obtain⟨i,hi,rfl⟩:=jL.1 C;simp_all
def fH.uP{g:aK}{a:c9}(h:pz g a=true):fH g 100000 a:=by
 simp only[pz,aH,ij]at h;have⟨Z,C,D,E,I,O⟩:=h;have⟨T,U⟩:=avu (by omega) O
 refine⟨C,λc Y=>?_,D,E,T,U⟩
 exact Sy.of (cm.1 I c Y)
def Bs.of{c:au}(D:bR c)(h:bM c=true)(I:c.trace.length<10000):Bs c:=by
 have E:=Pq.of D h;have z1:c.box.bW.weights.length <= 1048576:=D.1.1;have h0:=h;simp only[bM,aH]at h;have⟨O,h2,h3,h4,T,U,h7,h8,C,HJ,CI,sj,tN,zh,zi,qy,ES,HT,HU,Mi,Ez,Mj⟩:=h;have⟨f1,f2⟩:=zm (by omega) O;simp only[tH,aH]at f1;simp only[vU,aH,dO,ff,sS,cm,gq]at C;have⟨C,Y,Z,g3,g4,g5,g6⟩:=C;have Bo:=E.pl;have⟨hg,rl,ra⟩:=HL T;have b1:=dZ c.config.aq
 refine⟨⟨by decide,hg,fH.uP U,f1.2.2.2.2.2.1,by omega,Z,g3,Y⟩,λi hi=>?_,λa ha=>?_,D.2.2.2.2.2.2.1.2,C,E.p.bl,by omega,by omega,I⟩
 ·have hb:=g6 i hi;unfold CG at hb
  grind
 ·have⟨_,k1,k2,_⟩:=oh (E.pe a ha);simp_all
def sI.of{c:au}(O:bR c)(h:bM c=true){n:Nat}(T:n<c.queue.length)(C:c.aZ.length <= 1000):sI c n 100000:=by
 have D:=Pq.of O h;simp[bM,aH]at h;have⟨Z,h2,h3,h4,h5,U,h7,h8,h9,E,CI,sj,tN,zh,zi,qy,ES,HT,HU,Y,Ez,Mj⟩:=h;simp[gS,aH,cm,gq]at E;have⟨I,q2⟩:=E
 refine⟨λr C=>RH D C,λr C=>(D.q r C).2.1,D.ql,D.sh,D.shl,λi hi=>?_,T,λr C=>?_,fH.uP U,Y,C⟩
 ·cases i with
  |zero=>simp
  | succ i=>
   have hb:=I _ hi;rw[QY hi]at hb;simp_all
 ·obtain⟨i,hi,rfl⟩:=jL.1 C;have hb:=I i hi;unfold vT at hb;rw[bL hi]at hb;simp[sC,XV,aH,bu]at hb;simp_all
def zw{g:aK}{B:Int}{a:c9}(h:fH g B a):Rf a:=by
 have D:=h.cells;have E:=h.bx;have I:=h.bg;have O:=rz g;have T:=xK g;exact⟨⟨by omega,λc C=>by unfold Yd;rw[(h.syms c C).1];omega⟩,by omega,by omega⟩
def YI{l:aa dc}(h:l.length <= 1048576 /\ ∀y∈l,pL y){t:dc}(C:pL t)(i:Nat):(l.set i t).length <= 1048576 /\ ∀y∈l.set i t,pL y:=by grind
def ahS{k:Int}(h:aT k 1 16=true):pL (rI k):=by
 have:=bu.1 h;unfold rI pL
 grind
def avv{t:dc}(h:pL t)(row cT:Int):pL (qE t row cT).1:=by
 have hl:=ahA (t:=t) row;unfold pL at h ⊢;unfold qE
 grind
def avw{c:au}(E:bR c)(I:c.ready.bq.length <= 4)(ht:c.trace.length <= 10000)(x:aQ):bR (cg c x):=by
 have⟨O,C,⟨T,z4⟩,U,Y,Z,z8,z9,lZ,nJ,ow,mO,ox,rG⟩:=E;have D:=atP c.config.aq c.ready ⟨c.now,x⟩;refine⟨O,by unfold ahl at C ⊢;show (cZ _ x).aO.length <= _;rw[aty];exact C,⟨by show (iF _ _ _).last.length <= _;rw[D.1];exact T,Nat.le_trans (D.2 I) (by decide)⟩,U,Y,Z,z8,z9,lZ,nJ,ow,mO,by simp[cg];omega,rG⟩
def RL{c:au}(C:bR c){a:c9}(D:Rf a){r:eC}(E:EX r){t:aa dc}(I:t.length <= 1048576 /\ ∀ y∈t,pL y){gd:aa Int}(O:gd.length <= 1048576){pd:aa aN}(T:pd.length <= 1048576)(pw:jM):bR ⟨c.config,c.box,c.now,c.aG,c.ready,a,c.spare,r,t,gd,pd,c.queue,c.shares,c.drain,pw,c.dJ,c.errors,c.trace,c.aZ⟩:=by
 have⟨U,Y,Z,z5,z6,z7,z8,z9,lZ,nJ,ow,mO,ox,rG⟩:=C;exact⟨U,Y,Z,D,z6,E,I,O,T,nJ,ow,mO,ox,rG⟩
def avx{c:au}(C:bR c)(h:zp 100000 c)(x:aQ)(D:0 <= x.aA)(E:x.aA<aE c.config.aq)(I:0 <= x.row)(O:x.row<c.config.aq.rows):bR (uN c x):=by
 have zt:=C.2.2.2.2.2.2.1;have hb:x.aA.toNat<c.bF.length:=by have:=h.t;omega
 have T:=h.p;refine RL C (zw (Ym h.g _ h.hB h.a D E I O)) C.2.2.2.2.2.1 (YI zt ?_ _) C.2.2.2.2.2.2.2.1 ?_ _
 ·unfold xX;rw[fU];exact avv (zt.2 _ (cX hb)) _ _
 ·have U:(vZ c x).length <= c.pending.length:=List.length_filter_le _ _;have Y:=YA c.config.aq.rows x.row;have Z:=Yz x.aA (je c.config.aq.rows x.row) (vZ c x)
  grind
def ahT(r:eC)(b:Int):(oy r b).aB.length=r.aB.length:=by
 unfold oy;cases decide (r.aB.getD b.toNat 0 = -2)<;>simp
def avy{c:au}(C:bR c)(h:zp 100000 c){b:Int}(D:0 <= b)(E:b<aE c.config.aq):bR (CV c b):=by
 have⟨_,_,_,_,I,O,g7,T⟩:=gV h.g;have zt:=C.2.2.2.2.2.2.1;have U:=h.p;have Y:=au5 (λa:aN=>!(a.aA==b)) c.pending;exact RL C (zw (Ml h.g _ h.hB h.a D E _ (by omega))) (by unfold EX;rw[ahT];exact C.2.2.2.2.2.1) (YI zt (ahS h.k) _) (by show (c.guard.set _ _).length <= _;rw[jg];exact C.2.2.2.2.2.2.2.1) (by show (c.pending.filter _).length <= _;omega) _
def ahU{l:aa dc}(h:l.length<=1048576/\∀ y∈l,pL y){t:dc}(C:pL t):∀ k:Nat,((List.range k).foldl (λd b=>d.set b t) l).length<=1048576/\∀ y∈(List.range k).foldl (λd b=>d.set b t) l,pL y
 |0=>h
 |k+1=>by rw[rJ];exact YI (ahU h C k) C k
def avz{c:au}(C:bR c)(h:zp 100000 c)(k:Nat)(D:(k:Int)<=aE c.config.aq):bR (jR c k []):=
 RL C (zw (Rx h.g c.config.dX h.hB h.a k D)) (by unfold EX;rw[zo];exact C.2.2.2.2.2.1) (ahU C.2.2.2.2.2.2.1 (ahS h.k) k) (by rw[zo];exact C.2.2.2.2.2.2.2.1) (by simp) c.aS
def ahV{l:aa cY}(n code:Int):(wg l n code).length <= l.length+1:=by
 unfold wg
 grind
def ahW{c:au}(I:bR c){i:Nat}(h:sI c i 100000):bR (gx c i):=by
 have⟨O,T,U,z5,Y,Z,z8,z9,lZ,nJ,ow,mO,ox,rG⟩:=I;have hi:=h.i;have Fa:=h.ql;have hr:=h.r;have⟨f1,f3,f4,f5,f6,f7,f8⟩:=h.facts (cX hi);have C:c.queue.getD i pU=c.queue[i]:=fU _ hi;have D:=h.d _ (cX hi);have V5:(E8 c.shares c.queue[i].cS).length <= 1048576:=by
  have⟨y,t,e,hl⟩:=Ys ((List.replicate 4 false).set c.queue[i].cS.toNat true) (by have:=h.shl;omega) h.sh (by simp[h.shl])
  grind
 have jq:c.errors.length <= 6:=by
  have E:=h.e;simp only[rD,aH,ij]at E;omega
 have key:∀ (a:c9) (e:aa cY) (x:cI),Rf a -> e.length <= 100 -> bR (tR c i a e x):=λa e x ha E=>
  ⟨O,T,U,ha,Y,Z,z8,z9,lZ,by simp[tR];omega,by unfold tR;rw[C];exact V5,by show e.length <= _;omega,ox,by simp[tR];omega⟩
 unfold gx;rw[C];dsimp only;cases c.queue[i].write with
 |true=>exact key _ _ _ (zw (h.a.EV _ (c:=⟨_,false⟩) (Mn D.1 D.2).2.1)) (by omega)
 | false=>
  rw[ax,fU _ f4];refine key _ _ _ (zw (h.a.EV _ (YC (h.a.syms _ (cX f4))))) ?_;have:=ahV (l:=c.errors) (eI c.config.aq (dM c c.queue[i].line):Int) (ld c.array.cells[eI c.config.aq (dM c c.queue[i].line)]);cases ld c.array.cells[eI c.config.aq (dM c c.queue[i].line)] != 0 with
  |true=>grind
  |false=>grind
def avA{c:au}(O:bR c)(h:Bs c)(T:c.ready.bq.length <= 4){x:aQ}(E:pJ c.config.aq c.aG x=true){i:Int}(I:x.kind=2 \/ x.kind=3 -> sI c i.toNat 100000/\0 <= i):bR (br c x i):=by
 have⟨hg,hlen,U,hb⟩:=zg E;have Y:cD c.config.aq x=true:=by
  simp[pJ,aH]at E;simp_all
 have w:=h.cg x;have ht:=h.w.t;have CX:=h.tl;have z:=avw O T (by omega) x;have C:∀k,bR (E9 (cg c x) k):=λk=>RL z z.2.2.2.1 z.2.2.2.2.2.1 z.2.2.2.2.2.2.1 z.2.2.2.2.2.2.2.1 z.2.2.2.2.2.2.2.2.1 _
 unfold br;rcases kinds U with q|q|q|q|q|q|q|q|q<;>rw[q]<;>simp
 ·have⟨D,Z⟩:=hb (by omega);have⟨r0,r1⟩:=CW Y q;exact avx z w x D (by show _<aE c.config.aq;omega) r0 r1
 ·exact ahW z ((I (.inl q)).1.cg x)
 ·exact ahW z ((I (.inr q)).1.cg x)
 ·exact z
 ·have⟨D,Z⟩:=hb (by omega);exact avy z w D (by show x.aA<aE c.config.aq;omega)
 ·exact C 6
 ·exact C 7
 ·exact C 8
 ·exact avz (C 9) ⟨w.hB,w.g,w.a,w.k,w.p,w.t,w.d,w.r⟩ _ (by show (c.bF.length:Int) <= aE c.config.aq;omega)
def kz(c:au)(b:Int):Bool:=decide (c.ay.aB.getD b.toNat 0 >= 4)
def xY(c:au)(b:Int):Bool:=c.pending.any λa=>a.aA==b
def cG(c:au)(i:Nat):aQ:=kZ c.aG (ey c i) (mU c.queue i)
def avB(c:au)(i:Nat):Bool:=decide (c.now-(gI c i).at_<c.box.bW.cap)
def gC(c:au)(i:Nat):Bool:=
 jS c i&&(!kz c (ey c i).aA&&(cq c (cG c i)&&(!(((cG c i).kind==1 ||(cG c i).kind==4)&&xY c (ey c i).aA) && !((cG c i).kind==4&&(E7 c c.queue.length (ey c i).aA&&avB c i)))))
def YJ{l:aa Int}{b:Int}(C:0 <= b)(h:b.toNat<l.length):∀ i:Nat,(((i:Int)+b)∈bV i l) ↔ l.getD b.toNat 0 >= 4:=by
 obtain⟨n,rfl⟩:=dN C;rw[bD]at *
 clear C
 induction l generalizing n with
 |nil=>simp at h
 | cons d l E=>
  intro i;have I:∀ x∈bV (i+1) l,(i:Int)+1 <= x:=λx D=>by
   have⟨j,O,_,_⟩:=ahv D;omega
  have e:bV i (d::l)=bif decide (d >= 4)then (i:Int)::bV (i+1) l else bV (i+1) l:=rfl
  grind
def YK{c:au}{b:Int}(hl:c.ay.aB.length <= 8)(C:0 <= b)(h:b.toNat<c.ay.aB.length):za (bV 0 c.ay.aB) b=some (kz c b):=by
 have E:=Yq 0 c.ay.aB;have D:=YJ C h 0;rw[eM,Int.zero_add]at D;unfold za;rw[Q1 _ _ (by omega),az];congr 1;unfold kz jP
 grind
def ahX{c:au}(h:Pq c){i:Nat}(hi:i<c.queue.length):cD c.config.aq (cG c i)=true:=auT _ (E6 h hi).1
def oA(c:au):Nat->aa Bool
 |0=>List.replicate 4 false
 |k+1=>bif gC c k then (oA c k).set (gI c k).cS.toNat true else oA c k
def CY(c:au):∀ k,(oA c k).length=4
 |0=>rfl
 | k+1=>by
  have C:=CY c k;show (bif gC c k then _ else _:aa Bool).length=4
  grind
def avC{c:au}{U:aa Int}{T:aa aN}{Z:Int×Int×Int×Int×aj}{P:Int×Int×Int×Int×Int×(aa Int)×Int×Int×aj}{I hit eJ wait:aa Bool}{hb:aa (Int×Bool)}{Y:aa aQ}{k:Nat}{r:aR}{a:aN}{nd:aQ}{ct rd ib:Bool}(hq:c.queue.length<=12)(hk:k<c.queue.length)(hr:c.queue[k]=r)(h2:k<T.length)(ha:T[k]=a)(h3:k<I.length)(C:k<eJ.length)(h5:Y.length=k)(D:0<=r.cS)(E:r.cS.toNat<wait.length)(e1:Ey c.aG a r.write=some nd)(e2:za U a.aA=some ct)(e3:kf c nd=some rd)(e4:Ew c.pending a.aA=some ib)(b1:0<=r.at_/\r.at_<=1000000)(b2:0<=c.now/\c.now<=1000000):
  EB ((U,T,(),(),(),(),(),(),(),(),(),c.queue,(c.queue.length:Int),(k:Int),()),(c,Z,P,I,hit,hb,Y,eJ,wait,()))=some (.inl ((U,T,(),(),(),(),(),(),(),(),(),c.queue,(c.queue.length:Int),((k+1:Nat):Int),()),(c,Z,P,I,hit,hb,Y++[nd],eJ.set k (I[k]&&(!ct&&(rd&&(!((nd.kind==1 ||nd.kind==4)&&ib) && !(nd.kind==4&&(nt hb a.aA&&decide (c.now-r.at_<P.2.1))))))),(bif (I[k]&&(!ct&&(rd&&(!((nd.kind==1 ||nd.kind==4)&&ib) && !(nd.kind==4&&(nt hb a.aA&&decide (c.now-r.at_<P.2.1)))))))then wait.set r.cS.toNat true else wait),()))):=by
 have hw:W6 (c.now-r.at_)=c.now-r.at_:=bh;unfold EB aM xG xI xL;dsimp only;rw[bf,av,aP ⟨by omega,by omega⟩,aP ⟨by omega,by omega⟩,aP ⟨by omega,by omega⟩];simp only[bD,hr,ha,e1,az,h5,mj,fR (show k+1<1073741824 by omega),av,e2,e3,e4,hw,cC (show k<4611686018427387904 by omega)];by_cases O:nd.kind=1
 ·have k4:(nd.kind==(4:Int))=false:=by rw[O];rfl
  have O:(nd.kind==(1:Int))=true:=by rw[O];rfl
  simp only[O,k4,av,ax,Bool.true_or,dn,Bool.false_and,Bool.not_false,Bool.and_true];rw[aP ⟨by omega,by omega⟩,aP];cases I[k]<;>cases ct<;>cases rd<;>cases ib<;>simp[C,D,E]
 ·have O:(nd.kind==(1:Int))=false:=by simpa using O
  simp only[O,ax,lK];rw[aP ⟨by omega,by omega⟩,aP];cases nd.kind==(4:Int)with
  |false=>cases I[k]<;>cases ct<;>cases rd<;>cases ib<;>simp[C,D,E]
  | true=>
   cases I[k]with
   |false=>simp[C,D,E]
   | true=>
    cases ct with
    |true=>simp[C,D,E]
    | false=>
     cases rd with
     |false=>simp[C,D,E]
     | true=>
      cases ib with
      |true=>simp[C,D,E]
      | false=>
       cases nt hb a.aA with
       |false=>simp[C,D,E]
       | true=>
        by_cases hc:c.now-r.at_<P.2.1
        ·simp[C,D,E,hc]
        ·simp[C,D,E,hc]
def Mq(y x:aQ):Bool:=(y.kind==x.kind)&&((y.aA==x.aA)&&((y.row==x.row)&&((y.cu==x.cu)&&true)))
def Mr(c:au)(x:aQ)(i:Int):Bool:=aT i 0 ((c.queue.length:Int)-1)&&(decide ((c.aZ.length:Int)<400)&&Mq (kZ c.aG (dM c (c.queue.getD i.toNat pU).line) (c.queue.getD i.toNat pU).write) x)
def lu(c:au)(x:aQ)(i:Int):Bool:=cD c.config.aq x&&(cq c x&&(!decide ((c.trace.length:Int) >= 2000)&&bif x.kind==2 ||x.kind==3 then Mr c x i else i == -1 ||aT i 0 ((c.queue.length:Int)-1)))
def ahY{c:au}(h:Pq c){i:Int}(hi:aT i 0 ((c.queue.length:Int)-1)=true):∃ C:i.toNat<c.queue.length,0 <= i/\c.queue.getD i.toNat pU=c.queue[i.toNat]/\zb c c.queue[i.toNat].line=some (dM c c.queue[i.toNat].line,true)/\Ey c.aG (dM c c.queue[i.toNat].line) c.queue[i.toNat].write=some (kZ c.aG (dM c c.queue[i.toNat].line) c.queue[i.toNat].write):=by
 have hb:=bu.1 hi;have C:i.toNat<c.queue.length:=by omega
 have⟨a1,a3⟩:=RH h (cX C);have⟨_,D,E,_⟩:=oh a3;have I:=h.p.bl;have O:=dZ c.config.aq;exact⟨C,hb.1,fU _ C,a1,ahy _ D (by omega) (by omega)⟩
def avD{c:au}(T:bR c)(h:Pq c)(x:aQ)(i:Int):vN c x i=bif lu c x i then (LQ c x i).bind (λy=>some (y.2.1,true))else some (c,false):=by
 have Z:=h.ql;unfold vN lu xI;rw[sF c T,az,sE c T,az,h.p.ok,bI,ax];cases U:cD c.config.aq x with
 | false=>
  have e:kf c x=some false:=by
   unfold kf;rw[X5,U,Bool.false_and,Bool.and_false];rfl
  rw[e];rfl
 |true=>
 rw[A5 h.p U,az];cases cq c x with
 |false=>rfl
 |true=>
 rw[bI,ax];cases decide ((c.trace.length:Int) >= 2000)with
 |true=>rfl
 |false=>
 rw[ax,dn,dn,Bool.not_false,dn,cP,bh (n:=(c.queue.length:Int)-1),az];unfold Mr;cases hi:aT i 0 ((c.queue.length:Int)-1)with
 | true=>
  have⟨C,D,Y,f1,f3⟩:=ahY h hi;rw[iW (show ¬ i = -1 by omega),bI,ax,av,ax,dn,Bool.or_true,Y];by_cases E:x.kind=2
  ·rw[show (x.kind==2)=true by rw[E];rfl,av,Bool.true_or,av];by_cases I:(c.aZ.length:Int)<400
   ·rw[bf I,bz (show ¬ (c.aZ.length:Int) >= 400 by omega),ax,aP ⟨D,C⟩];dsimp only;rw[f1,az,aP ⟨D,C⟩,f3,az];unfold Mq
    grind
   ·grind
  ·rw[dy E,ax,lK];by_cases O:x.kind=3
   ·rw[show (x.kind==3)=true by rw[O];rfl,av,av];by_cases I:(c.aZ.length:Int)<400
    ·rw[bf I,bz (show ¬ (c.aZ.length:Int) >= 400 by omega),ax,aP ⟨D,C⟩];dsimp only;rw[f1,az,aP ⟨D,C⟩,f3,az];unfold Mq
     grind
    ·grind
   ·grind
 | false=>
  rw[Bool.false_and,Bool.not_false,av,Bool.or_false];by_cases E:x.kind=2
  ·simp_all
  ·rw[dy E,ax,lK];by_cases O:x.kind=3
   ·simp_all
   ·rw[dy O,ax,ax];by_cases e:i = -1
    ·simp_all
    ·grind
def CZ{c:au}(D:bR c)(h:Pq c){x:aQ}{i:Int}(E:lu c x i=true):Bs c/\pJ c.config.aq c.aG x=true/\(x.kind=2 \/ x.kind=3 -> sI c i.toNat 100000/\0 <= i)/\c.ready.bq.length <= 4:=by
 simp only[lu,aH,ff,sS]at E;have⟨O,I,Z,C⟩:=E;simp[cq,aH]at I
 refine⟨Bs.of D h.p.ok (by omega),?_,λT=>?_,(HL h.p.Yp).2.2⟩
 ·unfold pJ;rw[h.p.rk,O,I.1];rfl
 ·have e:(x.kind==2 || x.kind==3)=true:=by rcases T with q | q <;>rw[q] <;>rfl
  rw[e,av]at C;simp[Mr,aH,ij]at C;have⟨U,Y,_⟩:=ahY h C.1;exact⟨sI.of D h.p.ok U (by omega),Y⟩
structure Ck (c:au):Prop where
 f1:ov c.config c.box.bW=true
 f2:ov c.config c.box.next=true
 nw:aT c.now 0 1000000=true
 rk:om c.config.aq c.aG=true
 rd:kX c.config.aq c.ready=true
 ar:pz c.config.aq c.array=true
 sp:ot c.config.aq c.spare=true
 se:c.spare.cc=c.config.cc
 rf:fS c.ay=true
 pa:vU c=true
 qu:gS (ck (dG c.config.aq c.spare)) c.queue=true
 sh:ki c.shares=true
 sl:(c.shares.length:Int)=4
 dr:tJ c.drain=true
 pw:nH c.aS=true
 ps:c.aS.state=c.aG.aS
 si:c.aS.since<=c.now
 s1:aT c.dJ.every 1 100000=true
 s2:aT c.dJ.wait 1 c.dJ.every=true
 s3:aT c.dJ.next 0 (W6 (ck c.config.aq-1))=true
 er:rD c.errors=true
 tr:c.trace.length<=2000
 rp:c.aZ.length<=400
def Ck.of{c:au}(h:bM c=true):Ck c:=by
 simp[bM,aH,dO,ij,ff,sS]at h;have⟨C,D,E,I,O,T,U,Y,⟨Z,h9'⟩,HJ,CI,sj,tN,zh,zi,qy,ES,HT,HU,Mi,Ez,Mj⟩:=h;exact⟨C,D,E,I,O,T,U,Y,Z,h9',HJ,CI,sj,tN,zh,zi,by omega,ES,HT,HU,Mi,by omega,by omega⟩
def Ck.ok{c:au}(h:Ck c):bM c=true:=by
 have⟨C,D,E,I,O,T,U,Y,Z,h9',HJ,CI,sj,tN,zh,zi,qy,ES,HT,HU,Mi,Ez,Mj⟩:=h;simp[bM,aH,dO,ij,ff,sS]
 grind
def ahZ:∀ (l:aa Nat) (a:Nat),l.Pairwise (λx y=>x≠y) -> l.length <= (l.filter (λx=>decide (x≠a))).length+1
 |[],a,_=>by simp
 | x :: l,a,h=>by
  have⟨C,D⟩:=List.pairwise_cons.1 h;by_cases e:x=a
  ·subst e;have:(x :: l).filter (λy=>decide (y≠x))=l:=by
    rw[List.filter_cons_of_neg (by simp)];exact List.filter_eq_self.2 λy E=>by simpa using (C y E).symm
   grind
  ·rw[List.filter_cons_of_pos (by simpa using e)];have:=ahZ l a D;simp only[List.length_cons];omega
def RM:∀ (n:Nat) (l:aa Nat),(∀ x∈l,x<n)->l.Pairwise (λx y=>x≠y)->l.length<=n
 | 0,l,h,_=>by
  cases l with
  |nil=>simp
  |cons x l=>exact absurd (h x (.head _)) (by omega)
 | n+1,l,h,C=>by
  have E:=ahZ l n C;have I:=RM n (l.filter (λx=>decide (x≠n))) (λx D=>by
   have:=List.mem_filter.1 D;have O:=h x this.1;have T:x≠n:=by simpa using this.2
   omega) (C.filter _)
  omega
def E2.pw{l:aa aN}(h:E2 l):l.Pairwise (λx y=>x≠y):=by
 rw[sU];intro i j hi D I e;have C:=h j D;rw[jV]at C;have E:l[i]∈l.take j:=by
  rw[List.mem_take_iff_getElem]
  grind
 exact C _ E (E3.2 e.symm)
def E2.mk{l:aa aN}(h:l.Pairwise (λx y=>x≠y)):E2 l:=by
 rw[sU]at h;intro j C;rw[jV];intro x D e;obtain⟨i,hi,rfl⟩:=List.mem_take_iff_getElem.1 D;exact h i j _ C (by omega) (E3.1 e).symm
structure fV (c:au):Prop where
 dl:(c.ay.aB.length:Int)=aE c.config.aq
 tl:(c.bF.length:Int)=aE c.config.aq
 gl:(c.guard.length:Int)=aE c.config.aq
 t:∀x∈c.bF,oq x=true
 g:∀x∈c.guard,3<=x/\x<=1000
 pd:∀a∈c.pending,ef c.config.aq a=true/\a.cu=0
 u:c.pending.Pairwise (λx y=>x≠y)
def fV.of{c:au}(h:vU c=true):fV c:=by
 simp[vU,aH,dO,cm,gq]at h;have⟨E,I,O,g4,T,U⟩:=h;have key:=λi C Y=>by
  have:=T i C;unfold partAt at this;rw[bL C,bL Y,aH,bu]at this;exact this
 have Z:∀ i _,ef _ c.pending[i]=true/\c.pending[i].cu=0/\(c.pending.take i).any _=false:=λi C=>by
  have:=U i C;unfold CG at this;rw[bL C]at this
  simpa [aH]using this
 refine⟨E,I,O,λx D=>?_,λx D=>?_,λa ha=>?_,E2.pw λi hi=>(Z i hi).2.2⟩
 ·obtain⟨i,hi,rfl⟩:=jL.1 D
  grind
 ·obtain⟨i,hi,rfl⟩:=jL.1 D
  grind
 ·obtain⟨i,hi,rfl⟩:=jL.1 ha;simp[*]
def avE{g:aK}{l:aa aN}(D:∀ a∈l,ef g a=true/\a.cu=0)(O:l.Pairwise (λx y=>x≠y)):l.length <= 128:=by
 have E:∀ a∈l,0 <= a.aA/\a.aA<8/\0 <= a.row/\a.row<16:=λa C=>by
  have⟨I,Y,Z,h4,h5,_⟩:=oh (D a C).1;have b1:=dZ g;have b2:=gV I;omega
 have I:=RM 128 (l.map λa=>(a.aA*16+a.row).toNat) (λx T=>by
  obtain⟨a,C,rfl⟩:=iZ.1 T;have:=E a C;omega) (by
  rw[List.pairwise_map]
  refine O.imp_of_mem λ{a b} C hb U e=>U ?_
  have r1:=E a C;have r2:=E b hb;have c1:=(D a C).2;have c2:=(D b hb).2;cases a;cases b;simp only at *
  congr 1<;>omega)
 simp_all
def fV.ok{c:au}(h:fV c):vU c=true:=by
 have⟨D,E,I,U,Y,C,g7⟩:=h;have hl:=avE C g7;have O:=E2.mk g7;simp[vU,aH,dO,ff,sS,cm,gq]
 refine⟨D,E,I,by omega,λi hi=>?_,λi hi=>?_⟩
 ·have T:i<c.guard.length:=by omega
  unfold partAt;rw[bL hi,bL T,aH,bu];simp_all
 ·unfold CG;rw[bL hi];simp only[aH,dO,ff];exact⟨(C _ (cX hi)).1,(C _ (cX hi)).2,O i hi⟩
def avF{g:aK}{b n:Int}{l:aa aN}(I:ef g ⟨b,n,0⟩=true)(O:∀ a∈l,ef g a=true/\a.cu=0)(C:l.Pairwise (λx y=>x≠y)):(∀ a∈iX b l n,ef g a=true/\a.cu=0)/\(iX b l n).Pairwise (λx y=>x≠y):=by
 unfold iX;cases h:l.any _ with
 |true=>simp_all
 | false=>
  rw[ax];rw[jV]at h
  refine⟨λa T=>?_,?_⟩
  ·grind
  ·rw[List.pairwise_append]
   refine⟨C,List.pairwise_singleton _ _,λx D y E e=>?_⟩
   rw[gz.1 E]at e;exact h x D (E3.2 e.symm)
def ah0{g:aK}{b:Int}:∀ (ns:aa Int) {l:aa aN},(∀ n∈ns,ef g ⟨b,n,0⟩=true) -> (∀ a∈l,ef g a=true/\a.cu=0) -> l.Pairwise (λx y=>x≠y) -> (∀ a∈ns.foldl (iX b) l,ef g a=true/\a.cu=0)/\(ns.foldl (iX b) l).Pairwise (λx y=>x≠y)
 |[],l,_,C,D=>⟨C,D⟩
 | n :: ns,l,E,C,D=>by
  have⟨I,O⟩:=avF (E n (.head _)) C D;exact ah0 ns (λm T=>E m (.tail _ T)) I O
def H6{T:Type}{p:T -> Prop}{l:aa T}{i:Nat}{x:T}(h:∀y∈l,p y)(C:p x):∀y∈l.set i x,p y:=by grind
def avG{t:dc}(h:oq t=true)(row cT:Int):oq (qE t row cT).1=true:=by
 unfold qE
 grind
def ah1{k:Int}(h:aT k 1 16=true):oq (rI k)=true:=by
 have hb:=bu.1 h;simp only[oq,rI,aH,dO,cm,oF,bu]
 refine⟨by omega,trivial,by omega,λi hi=>?_⟩
 rw[Q2 (by simpa using hi) (by simpa using hi)];simp[aT]
def Ms{c:fB}{p:fA}(hl:p.weights.length<1073741823)(h:ov c p=true):3 <= p.dx/\p.dx <= 1000:=by
 have⟨_,f2⟩:=zm hl h;simp[vS,aH,bu]at f2;simp_all
def Bc{g:aK}{a:c9}(C:cJ g=true)(h:fH g 100000 a):pz g a=true:=by
 simp only[pz,aH,ij,cm]
 refine⟨C,h.cells,h.bx,h.bg,λc D=>Sy.ok (h.syms c D),λp E=>?_⟩
 have⟨x,y⟩:=p;have⟨I,O⟩:=List.of_mem_zip E;simp[A3,aH,bu];exact⟨h.HA x I,h.hit y O⟩
def avH{g:aK}{c:aQ}(h:cD g c=true):tL g (iL g c).toNat=true:=by
 have⟨E,D,hb,_⟩:=xQ h;have⟨I,O⟩:=HK h;unfold tL;unfold iL at *
 cases C:aT _ 1 5 with
 | true=>
  have C:=bu.1 C
  grind
 | false=>
  have T:¬ c.kind <= 5:=λh=>by rw[bu.2 ⟨D.1,h⟩]at C;cases C
  grind
def ah2{l:aa Int}(h:∀ i,i<l.length -> tM l i=true){i:Nat}(hi:i<l.length):aT l[i] 0 1000000=true:=by
 have:=h i hi;cases i with
 |zero=>rw[Q4]at this;exact this
 |succ i=>rw[L8,aH]at this;exact this.1
def ah3{l:aa Int}(h:∀ i,i<l.length -> tM l i=true){i:Nat}(hi:i+1<l.length):l[i]<l[i+1]:=by
 have:=h _ hi;rw[L8 hi,aH,ff,sS]at this;omega
def ah4{l:aa Int}(C:∀ i (hi:i<l.length),aT l[i] 0 1000000=true)(D:∀ i (hi:i+1<l.length),l[i]<l[i+1]):∀ i,i<l.length -> tM l i=true:=λi hi=>by
 cases i with
 |zero=>rw[Q4];exact C 0 hi
 | succ i=>
  have:=D i hi;rw[L8 hi,aH,ff,sS];simp_all
def avI{l:aa Int}(h:∀ i,i<l.length -> tM l i=true){x:Int}(I:aT x 0 1000000=true)(hl:vV ⟨[],l⟩ x=false):∀ i,i<(l++[x]).length -> tM (l++[x]) i=true:=by
 refine ah4 (λi hi=>?_) λi hi=>?_
 ·by_cases C:i<l.length
  ·rw[List.getElem_append_left];exact ah2 h C
  ·grind
 ·have D:i<l.length:=by simp at hi;omega
  by_cases C:i+1<l.length
  ·rw[List.getElem_append_left C,List.getElem_append_left];exact ah3 h C
  ·have e:i+1=l.length:=by omega
   have E:(l++[x])[i+1]=x:=by simp[e]
   rw[E,List.getElem_append_left D];unfold vV at hl
   grind
def avJ{l:aa Int}(h:∀ i,i<l.length -> tM l i=true)(k:Nat):∀ i,i<(l.drop k).length -> tM (l.drop k) i=true:=by
 refine ah4 (λi hi=>?_) λi hi=>?_
 ·rw[List.getElem_drop];exact ah2 h _
 ·rw[List.getElem_drop,List.getElem_drop];rw[List.length_drop]at hi;exact ah3 h _
def ah5{g:aK}{r:fj}(e:eB)(h:kX g r=true):kX g (iF g r e)=true:=by
 unfold iF;cases C:kX g r&&(cD g e.cmd&&(aT e.at_ 0 1000000 && !(e.cmd.kind==1&&vV r e.at_)))with
 |false=>exact h
 | true=>
  rw[av];simp only[aH,ff]at C;have⟨_,O,D,E⟩:=C;simp only[kX,aH,dO,ff,sS,cm,gq]at h ⊢;have⟨T,U,Y,Z,I⟩:=h
  refine⟨T,by rw[jg];exact U,?_,λi hi=>?_,?_⟩
  ·cases e.cmd.kind==1 with
   |false=>exact Y
   | true=>
    rw[av];unfold CJ
    grind
  ·rw[jg]at hi;have hb:=Z i hi;rw[Q3 hi]at hb;rw[Q3 (by rw[jg];exact hi)];by_cases e':(iL g e.cmd).toNat=i
   ·subst e';rw[List.getElem_set_self,avH O];have:=bu.1 D;rw[bu.2 ⟨by omega,by omega⟩];rfl
   ·simp_all
  ·cases hk:e.cmd.kind==1 with
   |false=>exact I
   | true=>
    rw[hk]at E;exact avJ (avI I D E) _
structure Qk (n:Int) (q:List aR):Prop where
 r:∀x∈q,sC n x=true
 b:q.Pairwise λx y=>gp x y=true
 i:q.Pairwise λx y=>x.id≠y.id
 l:q.length<=12
def avK{x y z:aR}(C:gp x y=true)(D:gp y z=true):gp x z=true:=by
 simp only[gp,eZ,aH,ij,dO]at *
 omega
def Qk.of{n:Int}{q:aa aR}(h:gS n q=true):Qk n q:=by
 have I:=h;simp only[gS,aH,cm,gq,ij]at h;have⟨E,Y⟩:=h;have O:∀ x∈q,sC n x=true:=λx T=>by
  obtain⟨i,hi,rfl⟩:=jL.1 T;have:=E i hi;unfold vT at this;simp_all
 have hb:∀ j i (D:i<j) (C:j<q.length),gp q[i] q[j]=true:=by
  intro j
  induction j with
  |zero=>simp_all
  | succ j U=>
   intro i D C;have:=E (j+1) C;rw[QY C,aH,aH]at this;by_cases e:i=j
   ·simp_all
   ·exact avK (U i (by omega) _) this.2.1
 refine⟨O,?_,?_,by omega⟩
 ·rw[sU]
  grind
 ·rw[sU];intro i j hi C D e;have:=Yg I D C;simp_all
def Qk.ok{n:Int}{q:aa aR}(h:Qk n q):gS n q=true:=by
 have⟨C,D,E,O⟩:=h;rw[sU]at D E;simp[gS,aH,cm,gq,ij]
 refine⟨λi hi=>?_,by omega⟩
 cases i with
 |zero=>rw[agN hi];exact C _ (cX hi)
 | succ i=>
  rw[QY hi,aH,aH,ff];refine⟨C _ (cX hi),D i (i+1) (by omega) hi (by omega),?_⟩;rw[jV];intro x I e;obtain⟨k,T,rfl⟩:=List.mem_take_iff_getElem.1 I
  grind
def Qk.sub{n:Int}{q s:aa aR}(h:Qk n q)(C:s.Sublist q):Qk n s:=
 ⟨λx D=>h.r x (C.subset D),h.b.sublist C,h.i.sublist C,Nat.le_trans C.length_le h.l⟩
def ah6{T:Type}(l:aa T)(i:Nat):(l.take i++l.drop (i+1)).Sublist l:=by
 rw[<-List.eraseIdx_eq_take_drop_succ];exact List.eraseIdx_sublist l i
def avL(e x:cY):Prop:=¬ (e.line=x.line/\e.code=x.code)
structure Ek (l:List cY):Prop where
 e:∀x∈l,CE x=true
 k:l.Pairwise avL
 l:l.length<=6
def YL{e x:cY}:tK e x=true ↔ x.line=e.line/\x.code=e.code:=by
 simp only[tK,aH,dO]
def Ek.of{l:aa cY}(h:rD l=true):Ek l:=by
 simp[rD,aH,cm,gq,ij]at h;have⟨D,O⟩:=h;have key:=λi hi=>by
  have:=D i hi
  rwa [XY hi,aH,ff]at this
 refine⟨λx E=>?_,?_,by omega⟩
 ·obtain⟨i,hi,rfl⟩:=jL.1 E
  grind
 ·rw[sU];intro i j hi I T e;have C:=(key j I).2;rw[jV]at C;exact C l[i] (List.mem_take_iff_getElem.2 ⟨i,by omega,rfl⟩) (YL.2 e)
def Ek.ok{l:aa cY}(h:Ek l):rD l=true:=by
 have⟨D,C,I⟩:=h;rw[sU]at C;simp only[rD,aH,cm,gq,ij]
 refine⟨λi hi=>?_,by omega⟩
 rw[XY hi,aH,ff];refine⟨D _ (cX hi),?_⟩;rw[jV];intro x E e;obtain⟨k,O,rfl⟩:=List.mem_take_iff_getElem.1 E;exact C k i (by omega) hi (by omega) (YL.1 e)
def ah7{l:aa cY}(h:rD l=true){n code:Int}(h1:0 <= n/\n <= 1023)(h2:code=1 \/ code=2):rD (wg l n code)=true:=by
 have C:=Ek.of h;have hl:=C.l;have YM:CE ⟨n,code,1⟩=true:=by
  simp[CE,aH,eZ,dO,bu];omega
 refine Ek.ok ?_;unfold wg;cases D:l.findIdx? (tK ⟨n,code,1⟩)with
 | some i=>
  have⟨hi,hp⟩:=CR D;dsimp only;rw[fU _ hi];have U:=C.e _ (cX hi);have Y:CE (RI l[i])=true:=by
   simp only[CE,aH,bu]at U ⊢;unfold RI;dsimp only;rw[bh]
   grind
  refine⟨H6 C.e Y,?_,by rw[jg];exact hl⟩;have E:=C.k;rw[sU]at E ⊢;intro a b I hb Z;rw[jg]at I hb;have:=E a b I hb Z;rw[List.getElem_set,List.getElem_set];by_cases O:i=a
  ·subst O
   rwa [aV rfl,aX]
  ·rw[aX O];by_cases e2:i=b
   ·subst e2
    rwa [aV rfl]
   ·simp[*]
 | none=>
  have hn:∀ x∈l,¬ (x.line=n/\x.code=code):=λx hx e=>by
   have:=List.findIdx?_eq_none_iff.1 D x hx;rw[YL.2 e]at this;cases this
  have app:∀ m:aa cY,m.Sublist l -> m.length <= 5 -> Ek (m++[⟨n,code,1⟩]):=λm T hml=>by
   refine⟨λx hx=>?_,?_,by rw[jh,mj];omega⟩
   ·rcases gE.1 hx with hx | hx
    ·exact C.e x (T.subset hx)
    ·rwa [gz.1 hx]
   ·rw[List.pairwise_append]
    refine⟨C.k.sublist T,List.pairwise_singleton _ _,λx hx y hy e=>?_⟩
    rw[gz.1 hy]at e
    grind
  dsimp only;by_cases e6:l.length=6
  ·grind
  ·rw[dy (show ¬ (l.length:Int)=6 by omega),ax]
   grind
def ah8{l:aa dz}(h:∀ s∈l,sB s=true){k:Nat}(C:k<l.length)(E:1<=l[k].eS):∀ s∈l.set k ⟨l[k].weight,W6 (l[k].eS-1)⟩,sB s=true:=by
 have D:=h _ (cX C);simp only[sB,aH,bu]at D;rw[bh (n:=l[k].eS-1)];refine H6 h ?_;simp only[sB,aH,bu];omega
def avM{l:aa dz}(w:aa Bool)(hl:l.length<1073741823)(D:ki l=true)(hw:l.length=w.length):∃ y t,pg l w=some (y,t)/\y.length=l.length/\ki y=true:=by
 have mk:∀ y:aa dz,y.length=l.length -> (∀ s∈y,sB s=true) -> y.length=l.length/\ki y=true:=λy C h2=>by
  refine⟨C,?_⟩;simp[ki,aH,cm]at D ⊢;exact⟨h2,by rw[C];exact D.2⟩
 have E:∀ s∈l,sB s=true:=by
  simp only[ki,aH,cm]at D;exact D.1
 unfold pg xA xC bZ xL xZ;have hb:=tP (λi=>w.getD i false) (λi=>(l.getD i ⟨0,0⟩).eS) (min l.length w.length);have T:(fq l).length=l.length:=by simp[fq]
 have iu:=tP (λi=>w.getD i false) (λi=>((fq l).getD i ⟨0,0⟩).eS) (min (fq l).length w.length);have hm:=A7 (λi=>w.getD i false) (λi=>(l.getD i ⟨0,0⟩).eS) (min l.length w.length);rw[List.nil_append,CP l w (by omega),az,HD _ (by omega),az,D,bI,ax,List.length_nil,gy,fR,av];unfold jf;generalize hr:lJ (λi=>w.getD i false) (λi=>(l.getD i ⟨0,0⟩).eS) (min l.length w.length)=b at *
 by_cases U:b<0
 ·rw[bf U];exact⟨_,_,rfl,mk _ rfl E⟩
 ·have C:b.toNat<l.length:=by omega
  rw[bz U,ax,aP ⟨by omega,C⟩,aP C];dsimp only;have hsb:=E _ (cX C);simp only[sB,aH,bu]at hsb;cases Y:l[b.toNat].eS==0 with
  | false=>
   have Y:¬ l[b.toNat].eS=0:=by simpa using Y
   rw[ aP ⟨by omega,C⟩,aP C,aP ⟨by omega,C⟩,aP C];exact⟨_,_,rfl,mk _ (by simp) (ah8 E C (by omega))⟩
  | true=>
   have avN:∀ s∈fq l,sB s=true:=λs D=>by
    obtain⟨x,O,rfl⟩:=iZ.1 D;have:=E x O;simp[sB,aH,bu,E0]at this ⊢;omega
   rw[av,Rq l w (by omega),az];simp only[iJ];rw[CP _ w (by omega),az];have Z:0 <= jf (fq l) w:=EZ _ (i:=b.toNat) (by rcases hm with h|h;exact absurd h (by omega);exact h) _ (by rw[T];omega);have hq:jf (fq l) w<((min (fq l).length w.length:Nat):Int):=iu.2;have I:(jf (fq l) w).toNat<(fq l).length:=by omega
   have h4:1 <= (fq l)[(jf (fq l) w).toNat].eS:=by
    have dA:(jf (fq l) w).toNat<l.length:=by omega
    have O:=E _ (cX dA);simp only[sB,aH,bu]at O;simp only[fq,List.getElem_map,E0];simp only[fq]at O;omega
   rw[aP ⟨Z,I⟩,aP I,aP ⟨Z,I⟩,aP I];exact⟨_,_,rfl,mk _ (by simp[T]) (ah8 avN I h4)⟩
def ah9{r:eC}(h:fS r=true)(k:Nat){d:Int}(C:-2 <= d/\d <= 5):fS ⟨r.aB.set k d,r.wait,r.bO⟩=true:=by
 simp only[fS,aH]at h ⊢;refine⟨Yb h.1 ?_,by rw[jg];exact h.2.1,h.2.2⟩;exact bu.2 C
def avO{r:eC}(h:fS r=true){b:Int}(hb:b.toNat<r.aB.length):fS (oy r b)=true:=by
 have C:=E1 h _ (cX hb);unfold oy;rw[fU _ hb];by_cases e:r.aB[b.toNat] = -2
 ·simp_all
 ·rw[bz e];exact ah9 h _ (by omega)
def avP{r:cr}{p:jM}{x:aQ}{now:Int}(E:nH p=true)(C:p.state=r.aS)(I:p.since <= now)(O:now <= 1000000)(U:6 <= x.kind/\x.kind <= 9)(D:kj r x=true):nH (A9 p x.kind now)=true/\(A9 p x.kind now).state=(cZ r x).aS/\(A9 p x.kind now).since <= now:=by
 have hb:0 <= p.since:=by
  simp[nH,aH,bu]at E;omega
 have hi:0 <= p.idle/\p.idle <= 1000000:=by
  simp[nH,aH,bu]at E;omega
 have T:=bu.2 ⟨I,O⟩;unfold A9;rw[E,T,Bool.and_self];have mk:∀ s:Int,0 <= s/\s <= 2 -> nH ⟨s,now,p.idle⟩=true:=λs C=>by
  simp[nH,aH,bu];omega
 have:x.kind=6 \/ x.kind=7 \/ x.kind=8 \/ x.kind=9:=by omega
 rcases this with h|h|h|h
 ·have e:r.aS=0:=by simpa [kj,h]using D
  simp[cZ,h,C,e,mk]
 ·have e:r.aS=1:=by simpa [kj,h]using D
  simp[cZ,h,C,e,mk]
 ·have e:r.aS=0:=by have:=D;simp[kj,h]at this;exact this.1
  simp[cZ,h,C,e,mk]
 ·have e:r.aS=2:=by simpa [kj,h]using D
  simp[cZ,h,C,e,mk]
def avQ{c:au}(h:Pq c)(Z:Int×Int×Int×Int×aj)(P:Int×Int×Int×Int×Int×(aa Int)×Int×Int×aj)(I:P.2.1=c.box.bW.cap):iter EB bC ((bV 0 c.ay.aB,iQ c,(),(),(),(),(),(),(),(),(),c.queue,(c.queue.length:Int),(0:Int),()),(c,Z,P,(List.range c.queue.length).map (jS c),(List.range c.queue.length).map (ez c),we c c.queue.length,([]:aa aQ),List.replicate c.queue.length false,List.replicate 4 false,()))=some (.inl (((),(),(),(),(),(),(),()),(c,Z,P,(List.range c.queue.length).map (ez c),(List.range c.queue.length).map (cG c),(List.range c.queue.length).map (gC c),oA c c.queue.length,()))):=by
 have O:=h.ql;have Bo:=h.pl;have T:=xV h.rf;have U:=HY h;have e:=gf (step:=EB) c.queue.length (λi=>((bV 0 _,iQ c,(),(),(),(),(),(),(),(),(),c.queue,c.queue.length,i,()),(c,Z,P,(List.range _).map (jS c),(List.range c.queue.length).map (ez c),we c _,(List.range i).map (cG c),uO (gC c) c.queue.length i,oA c i,()))) _ bC (λk C=>by
  have hl:=RC (f:=gC c) (n:=c.queue.length) (k:=k) (by omega);have hl3:=Bb c;have hwl:=CY c k;have⟨ho,D,Y,o3,o4,o5⟩:=E6 h C;have⟨q1,q2,E⟩:=h.q _ (cX C);rw[HX C]at q1 q2 E;have Wm:(gI c k).write=mU c.queue k:=by rw[RG C,HX C]
  refine(avC (r:=gI c k) (a:=ey c k) (nd:=cG c k) (ct:=kz c (ey c k).aA) (rd:=cq c (cG c k)) (ib:=xY c (ey c k).aA) O C (HX C) (by omega) (E5 _) (by simp;exact C) (by omega) (by simp) (by omega) (by omega) (by rw[Wm];exact ahy _ D Y U) (YK T.1 D o3) (A5 h.p (ahX h C)) (Yw _ _ (by omega)) E h.nw).trans ?_;rw[Mp C,ahO,I,<- RD C,List.range_succ,mZ];rfl) (by
  unfold EB aM xG xI xL;dsimp only;rw[bz,ax,RE]) (cM)
 exact e
def ya(f g:Nat->Bool)(n k:Nat):aa Bool:=(List.range n).map λi=>bif Nat.blt i k then f i else g i
def avR(f g:Nat->Bool)(n:Nat):ya f g n 0=(List.range n).map g:=rfl
def avS(f g:Nat -> Bool)(n:Nat):ya f g n n=(List.range n).map f:=by
 refine rP λi hi=>?_
 have hi:=gq.1 hi;rw[show Nat.blt i n=true from jI hi];rfl
def YN(f g:Nat->Bool)(n k:Nat):(ya f g n k).length=n:=by unfold ya;simp
def avT(k:Nat):Nat.blt k k=false:=by
 cases h:Nat.blt k k with
 |false=>rfl
 |true=>simp_all
def avU{f g:Nat->Bool}{n k:Nat}(C:k<(ya f g n k).length):(ya f g n k)[k]=g k:=by
 simp only[ya,List.getElem_map,qb,avT,ax]
def avV{f g:Nat -> Bool}{n k:Nat}(h:k<n):(ya f g n k).set k (f k)=ya f g n (k+1):=by
 apply List.ext_getElem
 ·rw[jg,YN,YN]
 ·intro i E I;rw[List.getElem_set];simp only[ya,List.getElem_map,qb];by_cases e:k=i
  ·subst e;rw[aV rfl,show Nat.blt k _=true from jI (dg _)];rfl
  ·rw[aX e];rcases Nat.lt_or_gt_of_ne e with h3 | h3
   ·have C:Nat.blt i k=false:=by
     cases hb:Nat.blt i k with
     |false=>rfl
     |true=>have:=cH hb;omega
    have D:Nat.blt i (k+1)=false:=by
     cases hb:Nat.blt i (k+1)with
     |false=>rfl
     |true=>have:=cH hb;omega
    rw[C,D]
   ·rw[show Nat.blt i k=true from jI h3,show Nat.blt i _=true from jI (by omega)]
def kA(c:au)(t:Int)(i:Nat):Bool:=gC c i&&(gI c i).cS==t
def avW{c:au}(I:c.queue.length <= 12)(t:Int)(Z:Int×Int×Int×Int×aj)(P:Int×Int×Int×Int×Int×(aa Int)×Int×Int×aj)(hit:aa Bool)(C:aa aQ):iter Hl bC (((),(),(),(),(),(),t,c.queue,(c.queue.length:Int),(0:Int),()),(c,Z,P,hit,C,(List.range c.queue.length).map (gC c),()))=some (.inl (((),(),(),(),(),(),()),(c,Z,P,hit,C,(List.range c.queue.length).map (kA c t),()))):=by
 have e:=gf (step:=Hl) c.queue.length (λi=>(((),(),(),(),(),(),t,c.queue,(c.queue.length:Int),(i:Int),()),(c,Z,P,hit,C,ya (kA c t) (gC c) c.queue.length i,()))) _ bC (λk D=>by
  have hl:=YN (kA c t) (gC c) c.queue.length k;rw[<- avV D];unfold Hl aM xG xI xL;dsimp only;rw[bf,av,aP ⟨by omega,by omega⟩,aP ⟨by omega,by omega⟩,aP,cC];simp only[bD,avU,HX];have E:kA c t k=(gC c k&&(gI c k).cS==t):=rfl;rw[E];cases gC c k with
  |false=>rw[ax,aP ⟨by omega,by omega⟩,aP];rfl
  |true=>rw[ aP ⟨by omega,by omega⟩,aP];rfl) (by
  unfold Hl aM xG xI xL;dsimp only;rw[bz,ax,avS]) (cM)
 rw[eM,avR]at e;exact e
def gT(p:Nat->Bool):Nat->Int
 |0=>-1
 |k+1=>bif decide (gT p k<0)&&p k then (k:Int)else gT p k
def RN(p:Nat->Bool)(k:Nat):gT p (k+1)=bif decide (gT p k<0)&&p k then (k:Int)else gT p k:=rfl
def qF(p:Nat -> Bool):∀ n,(gT p n = -1 /\ ∀ k,k<n -> p k=false) \/ ∃ j:Nat,j<n/\gT p n=(j:Int)/\p j=true /\ ∀ k,k<j -> p k=false
 |0=>.inl ⟨rfl,λk C=>absurd C (Nat.not_lt_zero k)⟩
 | n+1=>by
  rw[RN];rcases qF p n with ⟨D,E⟩|⟨j,D,E,I,O⟩
  ·grind
  ·grind
def wh(old hit eJ:Nat->Bool)(n:Nat):Int:=
 bif decide (gT (λi=>eJ i&&old i) n<0)then (bif decide (gT (λi=>eJ i&&hit i) n<0)then gT eJ n else gT (λi=>eJ i&&hit i) n)else gT (λi=>eJ i&&old i) n
def sJ(c:au)(i:Nat):Bool:=decide ((gI c i).at_<=c.now-c.box.bW.cap)
def avX{c:au}(h:Pq c)(eJ:Nat->Bool):Qc c.queue ((List.range c.queue.length).map eJ) ((List.range c.queue.length).map (ez c)) c.box.bW.cap c.now=some (wh (sJ c) (ez c) eJ c.queue.length):=by
 have hq:=h.ql;have yb:=h.nw;have hcp:=h.cap;have U:W6 (c.now-c.box.bW.cap)=c.now-c.box.bW.cap:=bh;have yc:∀ (k:Nat),k<c.queue.length->(eJ k&&sJ c k)=false->Cy (((List.range c.queue.length).map eJ,(List.range c.queue.length).map (ez c),c.box.bW.cap,c.now,gT eJ k,gT (λi=>eJ i&&ez c i) k,c.queue,(c.queue.length:Int),(k:Int),()),())=some (.inl (((List.range c.queue.length).map eJ,(List.range c.queue.length).map (ez c),c.box.bW.cap,c.now,gT eJ (k+1),gT (λi=>eJ i&&ez c i) (k+1),c.queue,(c.queue.length:Int),((k+1:Nat):Int),()),())):=by
  intro k C D;rw[RN,RN];unfold Cy aM bU xG xI;dsimp only;rw[bf,av,aP ⟨by omega,by omega⟩];simp only[fN,fO];rw[bz,ax,aP ⟨by omega,by omega⟩];simp only[bD,Mp C,U,HX];rw[cC];cases E:eJ k with
  |false=>simp[E]
  | true=>
   rw[E,dn]at D;unfold sJ at D;rw[D,bf (by omega:(k:Int)<(c.queue.length:Int)),aP ⟨by omega,by omega⟩];simp only[bI,ax,av,E,dn];cases ez c k<;>cases decide (gT eJ k<0)<;>cases decide (gT (λi=>eJ i&&ez c i) k<0)<;>simp
 unfold Qc wh dI;rw[cP,az,bu.2 ⟨hcp.1,by omega⟩,bI,ax,cP,az,bu.2 yb,bI,ax];rcases qF (λi=>eJ i&&sJ c i) c.queue.length with ⟨I,O⟩|⟨j,I,O,T,h4⟩
 ·have e:=gf (step:=Cy) c.queue.length (λk=>(((List.range c.queue.length).map eJ,(List.range c.queue.length).map (ez c),c.box.bW.cap,c.now,gT eJ k,gT (λi=>eJ i&&ez c i) k,c.queue,(c.queue.length:Int),(k:Int),()),())) (.inr (.inl ((gT eJ c.queue.length,gT (λi=>eJ i&&ez c i) c.queue.length,()),()))) bC (λk C=>yc k C (O k C)) (by
   unfold Cy aM bU xG xI;dsimp only;rw[bz,ax]) (cM)
  rw[eM]at e
  refine(bE (λo=>Option.bind o _) e).trans ?_
  rw[az,I];simp only[Sum.elim_inr,iJ];by_cases Y:gT (λi=>eJ i&&ez c i) c.queue.length<0
  ·rw[bz (by omega:¬ gT (λi=>eJ i&&ez c i) c.queue.length >= 0),bf Y];rfl
  ·rw[bf (by omega:gT (λi=>eJ i&&ez c i) c.queue.length >= 0),bz Y];rfl
 ·have e:=gf (step:=Cy) j (λk=>(((List.range c.queue.length).map eJ,(List.range c.queue.length).map (ez c),c.box.bW.cap,c.now,gT eJ k,gT (λi=>eJ i&&ez c i) k,c.queue,(c.queue.length:Int),(k:Int),()),())) (.inl (((j:Int),()),())) bC (λk C=>yc k (by omega) (h4 k C)) (by
   rw[aH]at T;have Z:=T.2;unfold sJ at Z;unfold Cy aM bU xG xI;dsimp only;rw[bf,av,aP ⟨by omega,by omega⟩];simp only[fN,fO];rw[bz,ax,aP ⟨by omega,by omega⟩];simp only[bD,Mp I,U,HX,T.1,Z,bI,ax,av]) (cM)
  rw[eM]at e
  refine(bE (λo=>Option.bind o _) e).trans ?_
  rw[az,O,bz];rfl
def zx:aQ:=⟨0,0,0,0⟩
def nK(c:au):Int:=match pg c.shares (oA c c.queue.length)with
 |some y=>y.2
 |none=>0
def jT(c:au):Int:=wh (sJ c) (ez c) (kA c (nK c)) c.queue.length
def pW(c:au):aQ×Int:=bif decide (jT c<0)then (zx,-1)else (cG c (jT c).toNat,jT c)
def YO{c:au}(h:Pq c):∃ l,pg c.shares (oA c c.queue.length)=some (l,nK c):=by
 have⟨y,t,e,_⟩:=Ys (oA c c.queue.length) (by have:=h.shl;omega) h.sh (by rw[CY,h.shl]);refine⟨y,?_⟩;unfold nK;rw[e]
def aia(c:au):-1 <= jT c/\jT c<c.queue.length:=by
 unfold jT wh;rcases qF _ _ with ⟨C,_⟩|⟨j,C,I,_⟩
 ·rw[C,bf,av];rcases qF _ _ with ⟨D,_⟩ | ⟨j,D,O,_⟩
  ·rw[D,bf,av];rcases qF (kA c (nK c)) c.queue.length with ⟨E,_⟩|⟨j,E,T,_⟩<;>omega
  ·grind
 ·grind
def avY{c:au}(h:Pq c):Qg c (bV 0 c.ay.aB) (iQ c)=some (pW c):=by
 have E:=h.ql;have⟨l,hl⟩:=YO h;have hb:=aia c;unfold Qg bZ xL;rw[aV ⟨by omega,by omega,by omega⟩,bD,avn h,az];simp only[iJ];rw[aV ⟨by omega,by omega,by omega⟩,aV ⟨by omega,by omega,by omega⟩,bD,avo h,az];simp only[iJ];rw[aV ⟨by omega,by omega,by omega⟩,aV (by decide),bD,show (4:Int).toNat=4 from rfl,avQ h _ _ rfl,az];simp only[iJ];rw[hl,az];dsimp only;rw[avW E,az];simp only[iJ];rw[avX h,az];show (bif decide (jT c<0)then _ else _)=_;unfold pW;by_cases C:jT c<0
 ·rw[bf C];rfl
 ·have I:(jT c).toNat<c.queue.length:=by omega
  rw[bz C,ax,ax];have O:¬ wh (sJ c) (ez c) (kA c (nK c)) c.queue.length<0:=C;have D:=I;rw[aP ⟨by omega,by simp only[fN,fO];exact D⟩,aP (by simp only[fN,fO];exact D)];simp only[List.getElem_map,qb];rfl
def YP{α:Type}(p:α -> Bool)(l:aa α):(gi p l=l.length/\l.find? p=none) \/ ∃ h:gi p l<l.length,l.find? p=some l[gi p l]:=by
 have E:=HS p l;rcases Nat.lt_or_ge _ _ with h|h
 ·refine .inr ⟨h,?_⟩;rw[List.find?_eq_some_iff_getElem]
  refine⟨CN h,_,h,rfl,λj C=>?_⟩
  rw[xT C];rfl
 ·refine .inl ⟨by omega,?_⟩;rw[List.find?_eq_none];intro x D;obtain⟨j,C,rfl⟩:=jL.1 D;rw[xT (p:=p) (by omega) C];simp
def qG(c:au)(b:Int)(x:aQ):aQ:=bif (cK c.aG b).open_ then ⟨4,b,0,0⟩else x
def YQ{c:au}{b:Int}(x:aQ)(C:0 <= b)(h:b.toNat<c.aG.aO.length):Cw c b x=some (qG c b x):=by
 unfold Cw qG xI;rw[aP ⟨C,h⟩,Mk h]
 grind
def RO{c:au}{b:Int}{x:aQ}(h:Pq c)(C:0 <= b/\b<aE c.config.aq)(D:cD c.config.aq x=true):cD c.config.aq (qG c b x)=true:=by
 unfold qG;cases (cK _ b).open_ with
 |false=>exact D
 |true=>exact A8 h.p.R.vX (.inl rfl) C
def fI(c:au)(b:Int):aQ:=qG c b ⟨5,b,0,0⟩
def js(c:au)(i:Nat):aN:=c.pending.getD i zA
def Mt{c:au}{i:Nat}(h:i<c.pending.length):c.pending[i]=js c i:=by
 unfold js;rw[cQ,bL h];rfl
def rK(c:au)(i:Nat):Bool:=!kz c (js c i).aA && !((c.pending.take i).any λa=>a.aA==(js c i).aA)
def jG(c:au)(i:Nat):aQ:=qG c (js c i).aA ⟨1,(js c i).aA,(js c i).row,0⟩
def H7(c:au):aa aQ:=(bV 0 c.ay.aB).map (fI c)
def H8(c:au)(k:Nat):aa aQ:=((List.range k).filter (rK c)).map (jG c)
def YR{c:au}(h:Pq c){i:Nat}(hi:i<c.pending.length):ef c.config.aq (js c i)=true/\0 <= (js c i).aA/\(js c i).aA.toNat<c.aG.aO.length/\(js c i).aA.toNat<c.ay.aB.length/\(js c i).aA<aE c.config.aq:=by
 have C:=h.pe _ (cX hi);rw[Mt]at C;have⟨_,D,E,I,O,T,U⟩:=oh C;have:=h.p.bl;have:=h.dl;simp_all
def YS{c:au}(h:Pq c){b:Int}(hb:b∈bV 0 c.ay.aB):(0 <= b/\b<aE c.config.aq)/\cD c.config.aq (fI c b)=true:=by
 obtain⟨j,rfl,C,_⟩:=ahv hb;have:=h.dl;have hb:0 <= ((0+j):Int)/\((0+j):Int)<aE c.config.aq:=by omega
 exact⟨hb,RO h hb (A8 h.p.R.vX (.inr rfl) hb)⟩
def avZ{c:au}(h:Pq c){i:Nat}(hi:i<c.pending.length):cD c.config.aq (jG c i)=true:=by
 have⟨C,D,I,O,E⟩:=YR h hi;exact RO h ⟨D,E⟩ (ahz C)
def wj(u:Bool)(l:aa Int)(idle:Nat->Bool)(i:Nat):Bool:=bif u then decide (l.getD i 0 >= 4)else decide (l.getD i 0 > 0)&&idle i
def Mv(r:eC)(idle:Nat->Bool):Int:=lJ (wj (decide (((bV 0 r.aB).length:Int) > 0)) r.aB idle) (λi=>r.aB.getD i 0) r.aB.length
def RQ(r:eC)(idle:Nat->Bool):-1<=Mv r idle/\Mv r idle<r.aB.length:=tP _ _ _
def av0{r:eC}(D:fS r=true)(idle:Nat -> Bool):LD r ((List.range r.aB.length).map idle)=some (Mv r idle):=by
 have hl:=xV D;unfold LD bZ;rw[HF _ (by omega),az,D,bI,ax,Yr D,az];generalize T:decide (((bV 0 r.aB).length:Int) > 0)=u;have e:=gf (step:=LC) r.aB.length (λi=>(((List.range r.aB.length).map idle,(),u,lJ (wj u r.aB idle) (λi=>r.aB.getD i 0) i,r.aB,(r.aB.length:Int),(i:Int),()),((r.aB,r.wait,r.bO,()),()))) (.inl ((lJ (wj u r.aB idle) (λi=>r.aB.getD i 0) r.aB.length,()),())) bC (λk E=>by
  have hb:=tP (wj u r.aB idle) (λi=>r.aB.getD i 0) k;rw[HV];generalize lJ (wj u r.aB idle) (λi=>r.aB.getD i 0) k=C at hb;have U:r.aB.getD k 0=r.aB[k]:=by rw[cQ,bL E];rfl
  unfold LC CO wj aM xG xI;dsimp only;rw[bf,av,aP ⟨by omega,by omega⟩];simp only[bD,U,fN,fO];rw[cC,bf (by omega:(k:Int)<(r.aB.length:Int)),av,aP ⟨by omega,by omega⟩];simp only[Mp E];by_cases I:C<0
  ·rw[bf I,Bool.true_or];cases u<;>cases decide (r.aB[k] > 0)<;>cases decide (r.aB[k] >= 4)<;>cases idle k<;>rfl
  ·have O:C.toNat<r.aB.length:=by omega
   have Y:r.aB.getD C.toNat 0=r.aB[C.toNat]:=by rw[cQ,bL O];rfl
   have Z:0 <= C/\C.toNat<r.aB.length:=⟨by omega,O⟩
   rw[bz I,Y];simp only[aP Z,ax];cases u<;>cases decide (r.aB[k] > 0)<;>cases decide (r.aB[k] >= 4)<;>cases idle k<;>cases decide (r.aB[k] > r.aB[C.toNat])<;>rfl) (by
  unfold LC aM xG xI;dsimp only;rw[bz,ax]) (cM)
 rw[eM]at e
 refine(bE (λo=>Option.bind o _) e).trans ?_
 unfold Mv;rw[T];rfl
def qH(w:aa aN)(r:cr)(b:Nat):Bool:=w.any λa=>a.aA==(b:Int)&&a.row==(cK r (b:Int)).row
def yd(w:aa aN)(r:cr)(b:Nat):Bool:=(cK r (b:Int)).open_ && !qH w r b
def Fb(r:cr)(gA:Int)(w:aa aN):Int:=bif gA != 1 then -1 else gT (yd w r) r.aO.length
def aib(r:cr)(gA:Int)(w:aa aN):-1 <= Fb r gA w/\Fb r gA w<r.aO.length:=by
 unfold Fb;cases gA != 1 with
 |true=>grind
 | false=>
  rw[ax];rcases qF (yd w r) r.aO.length with ⟨C,_⟩|⟨j,C,D,_⟩<;>omega
def av1{w:aa aN}{r:cr}{L:aa Int}{b:Nat}{i n:Int}(hb:b<r.aO.length)(hl:r.aO.length<=1048576)(D:w.length<=1000):iter Ho bC ((w,(),(b:Int),false,(),n,i,w,(w.length:Int),(0:Int),()),((r.aO,r.aS,()),L,()))=some (.inl ((w,(),(b:Int),qH w r b,(),n,i,()),((r.aO,r.aS,()),L,()))):=by
 have e:=gf (step:=Ho) w.length (λk=>((w,(),(b:Int),((w.take k).any λa=>a.aA==(b:Int)&&a.row==(cK r (b:Int)).row),(),n,i,w,(w.length:Int),(k:Int),()),((r.aO,r.aS,()),L,()))) (.inl ((w,(),(b:Int),qH w r b,(),n,i,()),((r.aO,r.aS,()),L,()))) bC (λk C=>by
  rw[EL C,List.any_append,List.any_cons,List.any_nil,Bool.or_false,Mk (by rw[bD];exact hb)];unfold Ho aM xG xI;dsimp only;rw[bf,av,aP ⟨by omega,by omega⟩,cC];simp only[bD];cases (w.take k).any λa=>a.aA==(b:Int)&&a.row==r.aO[b].row with
  |true=>rfl
  | false=>
   rw[ax,lK];cases w[k].aA==(b:Int)with
   |false=>rfl
   |true=>rw[av,aP ⟨by omega,hb⟩,dn]) (by
  unfold Ho aM xG xI;dsimp only;rw[bz,ax,qc];rfl) (cM)
 rw[eM]at e;exact e
def aic(w:aa aN)(r:cr):∀ k,k <= r.aO.length -> (opens 0 (r.aO.take k)).find? (λb=>!qH w r b.toNat)=bif decide (gT (yd w r) k<0)then none else some (gT (yd w r) k)
 |0,_=>rfl
 | k+1,E=>by
  have C:=aic w r k (by omega);have hb:(cK r (k:Int)).open_=r.aO[k].open_:=by rw[Mk (by rw[bD];omega)];simp only[bD]
  have D:yd w r k=(r.aO[k].open_ && !qH w r k):=by unfold yd;rw[hb]
  rw[EL (show k<r.aO.length by omega),agq,jK,Nat.min_eq_left (by omega),gy,List.find?_append,C,RN,D];have I:opens k [r.aO[k]]=bif r.aO[k].open_ then [(k:Int)]else []:=rfl
  grind
def aid(i:Nat)(l:aa ji)(x:Int)(h:x∈opens i l):∃ j:Nat,j<l.length/\x=((i+j:Nat):Int):=by
 induction l generalizing i with
 |nil=>cases h
 | cons d l C=>
  have e:opens i (d :: l)=bif d.open_ then (i:Int) :: opens (i+1) l else opens (i+1) l:=rfl;rw[e]at h;have tl:x∈opens (i+1) l -> ∃ j:Nat,j<(d :: l).length/\x=((i+j:Nat):Int):=λh=>by
   have⟨j,D,E⟩:=C _ h;exact⟨j+1,by simpa using D,by rw[E];omega⟩
  cases I:d.open_ with
  |false=>grind
  | true=>
   rw[I,av]at h;rcases ig.1 h with rfl|h
   ·exact⟨0,by simp,rfl⟩
   ·exact tl h
def av2{r:cr}(gA:Int){w:aa aN}(hl:r.aO.length <= 1048576)(O:w.length <= 1000):LF r gA w=some (Fb r gA w):=by
 unfold LF Fb dI;cases gA != 1 with
 |true=>rfl
 | false=>
  rw[ax,ax,QO r (by omega),az];have I:=aic w r r.aO.length (dg _);rw[qc]at I;have Z:=agr 0 r.aO;have T:=aid 0 r.aO;generalize hL:opens 0 r.aO=L at *
  have hi:=HS (λb:Int=>!qH w r b.toNat) L;have yc:∀ (k:Nat) (C:k<L.length),ED ((w,(),(),(L.length:Int),(k:Int),()),((r.aO,r.aS,()),L,()))=some (bif !qH w r L[k].toNat then .inr (.inl ((L[k],()),()))else .inl ((w,(),(),(L.length:Int),((k+1:Nat):Int),()),((r.aO,r.aS,()),L,()))):=by
   intro k C;have⟨j,E,D⟩:=T _ (cX C);rw[gy]at D;unfold ED aM bU xG bZ xL;dsimp only;rw[bf,av,aP ⟨by omega,by omega⟩,aP];simp only[bD,D];rw[av1 E hl O,az];simp only[iJ];rw[cC];cases qH w r j<;>rfl
  rcases YP (λb:Int=>!qH w r b.toNat) L with ⟨E,D⟩|⟨E,D⟩
  ·have e:=gf (step:=ED) L.length (λk=>((w,(),(),(L.length:Int),(k:Int),()),((r.aO,r.aS,()),L,()))) (.inr (.inl ((),()))) bC (λk C=>by
    have:=xT (p:=λb:Int=>!qH w r b.toNat) (q:=L) (i:=k) (by omega) C;rw[yc k C,this];rfl) (by
    unfold ED aM bU xG bZ xL;dsimp only;rw[bz,ax]) (cM)
   rw[eM]at e
   refine(bE (λo=>Option.bind o _) e).trans ?_
   rw[D]at I;by_cases U:gT (yd w r) r.aO.length<0
   ·rcases qF (yd w r) r.aO.length with ⟨Y,_⟩ | ⟨j,_,k2,_⟩
    ·rw[Y];rfl
    ·omega
   ·grind
  ·have e:=gf (step:=ED) (gi (λb:Int=>!qH w r b.toNat) L) (λk=>((w,(),(),(L.length:Int),(k:Int),()),((r.aO,r.aS,()),L,()))) (.inl ((L[gi (λb:Int=>!qH w r b.toNat) L],()),())) bC (λk C=>by
    have:=xT (p:=λb:Int=>!qH w r b.toNat) (q:=L) (i:=k) C (by omega);rw[yc k (by omega),this];rfl) (by
    have:=CN (p:=λb:Int=>!qH w r b.toNat) (q:=L) E;rw[yc _ E,this];rfl) (cM)
   rw[eM]at e
   refine(bE (λo=>Option.bind o _) e).trans ?_
   rw[D]at I;by_cases U:gT (yd w r) r.aO.length<0
   ·grind
   ·simp[*]
def cL(c:au):Int:=A6 c.box.bW.eT c.aS (sG c)
def kB(c:au)(i:Nat):Bool:=!((iQ c).any λa=>a.aA==(i:Int))
def fL(c:au):Int:=Mv c.ay (kB c)
def rL(c:au):Int:=Fb c.aG c.box.bW.gA (iQ c)
def sK(c:au):aa aQ:=bif decide (fL c >= 0) && !kz c (fL c)then [fI c (fL c)]else []
def oC(c:au):aa aQ:=bif decide (rL c >= 0)then [⟨4,rL c,0,0⟩]else []
def pZ(c:au):aa aQ:=bif cL c==8&&decide (((opens 0 c.aG.aO).length:Int) > 0)then [⟨4,(opens 0 c.aG.aO).headD 0,0,0⟩]else bif cL c != 0 then [⟨cL c,0,0,0⟩]else []
def uQ(c:au)(l:aa aQ):aQ:=(l.find? (cq c)).getD zx
def fnd_nil(c:au):uQ c []=zx:=rfl
def fnd_cons(c:au)(x:aQ)(l:aa aQ):uQ c (x :: l)=bif cq c x then x else uQ c l:=by
 unfold uQ;rw[List.find?_cons];cases cq c x<;>rfl
def RR(c:au)(w:Int):ah aQ:=
 let D:Int->Int->Int->Int->ah (aQ):=λE I O T=>(let U:Bool->ah (aQ):=λY=>bif Y then some (⟨E,I,O,T⟩:aQ)else some (⟨(0:Int),(0:Int),(0:Int),(0:Int)⟩:aQ);bif (E != (0:Int))then (kf c (⟨E,I,O,T⟩:aQ)).bind λZ=>(U Z)else (U false));bif (w==(8:Int))then (Ct c.aG).bind λC=>bif (decide ((C.length:Int) > (0:Int)))then if sj:0<=(0:Int)/\(0:Int).toNat<C.length then if tN:(0:Int).toNat<C.length then (let yZ:=C[(0:Int).toNat]'tN;(D (4:Int) yZ (0:Int) (0:Int)))else none else none else (D w 0 0 0)else (D w 0 0 0)
def Fc(c:au)(D:aa aN)(w:Int):ah aQ:=
 (LF c.aG c.box.bW.gA D).bind λC=>bif (C != (-1:Int))then (kf c (⟨(4:Int),C,(0:Int),(0:Int)⟩:aQ)).bind λE=>bif E then some (⟨(4:Int),C,(0:Int),(0:Int)⟩:aQ)else RR c w else RR c w
def aie(c:au)(O:aa Int)(D:aa aN)(w:Int)(idle:aa Bool):ah aQ:=
 (LD c.ay idle).bind λC=>(let E:Bool->ah (aQ):=λT=>bif T then (Cw c C (⟨(5:Int),C,(0:Int),(0:Int)⟩:aQ)).bind λI=>(kf c I).bind λU=>bif U then some I else Fc c D w else Fc c D w;bif (C != (-1:Int))then (za O C).bind λY=>(E (!Y))else (E false))
def Fe(c:au):cL c=0\/6<=cL c/\cL c<=9:=auO _ _ _
def av3(l:aa Int)(h:0<l.length):l.headD 0=l[0]:=by
 cases l with
 |nil=>cases h
 |cons x l=>rfl
def aif(c:au)(h:Pq c)(C:0<(opens 0 c.aG.aO).length):(0 <= (opens 0 c.aG.aO)[0]/\(opens 0 c.aG.aO)[0]<aE c.config.aq)/\(opens 0 c.aG.aO).headD 0=(opens 0 c.aG.aO)[0]:=by
 have⟨j,D,E⟩:=aid 0 _ _ (cX C);have:=h.p.bl;exact⟨by omega,av3 _ C⟩
def av4{c:au}(h:Pq c):RR c (cL c)=some (uQ c (pZ c)):=by
 have iw:=HY h;have hw:=Fe c;have D:=h.p.R.vX;have O:cL c≠0 -> kf c ⟨cL c,0,0,0⟩=some (cq c ⟨cL c,0,0,0⟩):=λhn=>A5 h.p (Ru D (by omega))
 have T:(bif (cL c != (0:Int))then (kf c (⟨cL c,0,0,0⟩:aQ)).bind λU=>(bif U then some (⟨cL c,0,0,0⟩:aQ)else some zx)else some zx)=some (uQ c (bif cL c != 0 then [⟨cL c,0,0,0⟩]else [])):=by
  by_cases C:cL c=0
  ·rw[C];rfl
  ·rw[iW C,av,av,O C,fnd_cons,fnd_nil]
   grind
 unfold RR pZ;dsimp only;by_cases E:cL c=8
 ·have Y:(cL c==8)=true:=by rw[E];rfl
  rw[Y,av,QO _ (by omega),az,dn];by_cases I:0<(opens 0 c.aG.aO).length
  ·have⟨Z,k2⟩:=aif c h I;rw[bf,av,av,aP ⟨by omega,I⟩,aP,k2];show (bif ((4:Int) != 0)then (kf c ⟨4,(opens 0 c.aG.aO)[0],0,0⟩).bind _ else _)=_;rw[A5 h.p (A8 D (.inl rfl) Z),fnd_cons,fnd_nil];cases cq c ⟨4,(opens 0 c.aG.aO)[0],0,0⟩<;>rfl
  ·rw[bz,ax];exact T
 ·rwa [dy E,ax,Bool.false_and,ax]
def av5{c:au}(h:Pq c):Fc c (iQ c) (cL c)=some (uQ c (oC c++pZ c)):=by
 have C:=HY h;have E:=h.ql;have I:=h.p.bl;have hb:-1 <= rL c/\rL c<c.aG.aO.length:=aib _ _ _;unfold Fc oC;rw[av2 _ C (by rw[Bb];omega),az];show (bif rL c != -1 then (kf c ⟨4,rL c,0,0⟩).bind _ else _)=_;rw[av4 h];by_cases D:rL c >= 0
 ·rw[iW (by omega:¬ rL c = -1),av,bf D,av,A5 h.p (A8 h.p.R.vX (.inl rfl) (by omega)),az,List.singleton_append,fnd_cons];cases cq c ⟨4,rL c,0,0⟩<;>rfl
 ·grind
def av6{c:au}(h:Pq c):aie c (bV 0 c.ay.aB) (iQ c) (cL c) ((List.range c.ay.aB.length).map (kB c))=some (uQ c (sK c++(oC c++pZ c))):=by
 have Y:=HY h;have I:=xV h.rf;have Z:=h.p.bl;have hdn:=h.dl;have hb:-1 <= fL c/\fL c<c.ay.aB.length:=RQ _ _;unfold aie sK;rw[av0 h.rf,az];show (bif fL c != -1 then (za (bV 0 c.ay.aB) (fL c)).bind λO=>(bif !O then (Cw c (fL c) ⟨5,fL c,0,0⟩).bind λD=>(kf c D).bind λC=>bif C then some D else Fc c (iQ c) (cL c)else Fc c (iQ c) (cL c))else Fc c (iQ c) (cL c))=_;rw[av5 h];by_cases T:fL c >= 0
 ·have E:0 <= fL c/\fL c<aE c.config.aq:=by omega
  rw[iW (by omega:¬ fL c = -1),av,bf T,dn,(YK I.1 (by omega) (by omega)),az];cases kz c (fL c)with
  |true=>rfl
  | false=>
   have U:cD c.config.aq (fI c (fL c))=true:=RO h E (A8 h.p.R.vX (.inr rfl) E);rw[Bool.not_false,av,av,YQ _ (by omega) (by omega),az];show ((kf c (fI c (fL c))).bind λC=>bif C then some (fI c (fL c))else _)=_;rw[A5 h.p U,az,List.singleton_append,fnd_cons]
   grind
 ·grind
def av7{c:au}(h:Pq c):LH c (bV 0 c.ay.aB) (iQ c) ⟨cL c,0,0,0⟩=some (uQ c (sK c++(oC c++pZ c))):=by
 have D:=HY h;have E:=h.ql;have I:=h.p.bl;have O:=h.dl;have T:=xV h.rf;have C:c.aG.aO.length=c.ay.aB.length:=by omega
 have e:=gf (step:=LG) c.aG.aO.length (λi=>((bV 0 c.ay.aB,iQ c,(),(),(),(),(c.aG.aO.length:Int),(i:Int),()),(c,(cL c,(0:Int),(0:Int),(0:Int),()),((0:Int),(0:Int),(0:Int),(0:Int),()),(List.range i).map (kB c),()))) _ bC (λk U=>by
  unfold LG aM xG;dsimp only;rw[bf,av,Yw _ _ (by rw[Bb];omega),az,fN,fO,mj,fR,av,cC,List.range_succ,mZ];rfl) (by
  unfold LG aM xG;dsimp only;rw[bz,ax]) (cM)
 rw[eM]at e;unfold LH bZ xL
 refine(bE (λo=>Option.bind o _) e).trans ?_
 rw[az,C];exact av6 h
def av8{c:au}(h:Pq c):(pZ c).length <= 1 /\ ∀ x∈pZ c,cD c.config.aq x=true:=by
 have Y:=Fe c;have D:=h.p.R.vX;have E:(bif cL c != 0 then [(⟨cL c,0,0,0⟩:aQ)]else []).length <= 1 /\ ∀ x∈(bif cL c != 0 then [⟨cL c,0,0,0⟩]else []),cD c.config.aq x=true:=by
  by_cases I:cL c=0
  ·simp_all
  ·rw[iW I];exact⟨dg _,λx C=>by rw[gz.1 C];exact Ru D (by omega)⟩
 unfold pZ;cases cL c==8 with
 |false=>exact E
 | true=>
  by_cases O:0<(opens 0 c.aG.aO).length
  ·have⟨T,U⟩:=aif c h O;rw[bf,U];exact⟨dg _,λx C=>by rw[gz.1 C];exact A8 D (.inl rfl) T⟩
  ·simp_all
def av9{c:au}(h:Pq c):(oC c).length <= 1 /\ ∀ x∈oC c,cD c.config.aq x=true:=by
 have E:=h.p.bl;have hb:-1 <= rL c/\rL c<c.aG.aO.length:=aib _ _ _;unfold oC;by_cases C:rL c >= 0
 ·rw[bf C];exact⟨dg _,λx D=>by rw[gz.1 D];exact A8 h.p.R.vX (.inl rfl) (by omega)⟩
 ·grind
def H9(c:au):ah aQ:=(H7 c++H8 c c.pending.length).find? (cq c)
def gJ(c:au):aQ×Int:=
 bif c.aS.state != 0 then (bif cL c != 0 then (bif cq c ⟨cL c,0,0,0⟩then (⟨cL c,0,0,0⟩,-1)else (zx,-1))else (zx,-1))else
 match H9 c with
 |some x=>(x,-1)
 |none=>bif decide ((pW c).2 >= 0)then pW c else (uQ c (sK c++(oC c++pZ c)),-1)
def awa(p:Nat -> Bool)(n:Nat):gi p (List.range n) <= n/\(∀ k,k<gi p (List.range n) -> p k=false)/\(gi p (List.range n)<n -> p (gi p (List.range n))=true):=by
 have C:=HS p (List.range n);rw[fO]at C
 refine⟨C,λk D=>?_,λE=>?_⟩
 ·have:=xT D (by rw[fO];omega);simp_all
 ·have:=CN (p:=p) (q:=List.range n) (by rw[fO];exact E)
  rwa [qb]at this
def awb(c:au)(n:Nat):(H8 c n).find? (cq c)=if gi (λi=>rK c i&&cq c (jG c i)) (List.range n)<n then some (jG c (gi (λi=>rK c i&&cq c (jG c i)) (List.range n)))else none:=by
 unfold H8;rw[List.find?_map,List.find?_filter];have e:(List.range n).find? (λa=>decide (rK c a=true/\(cq c ∘ jG c) a=true))=(List.range n).find? (λi=>rK c i&&cq c (jG c i)):=by
  simp_all
 rw[e];rcases YP (λi=>rK c i&&cq c (jG c i)) (List.range n)with ⟨C,D⟩|⟨C,D⟩
 ·simp_all
 ·grind
def awc{c:au}(h:Pq c):Qh c=some (gJ c):=by
 have Z:=h.p.R.vX;have hw:=Fe c;have Bo:=h.pl;have Be:=xV h.rf;have ul:=Yq 0 c.ay.aB;have L2:=h.p.bl;have hdn:=h.dl;unfold Qh dI;rw[Yr h.rf,az,ahw h.rf,az,auN _ _ _ h.eT h.pw,az];have ew:A6 c.box.bW.eT c.aS (sG c)=cL c:=rfl;rw[ew];unfold gJ;cases c.aS.state != 0 with
 | true=>
  rw[av,av];by_cases T:cL c=0
  ·rw[T];rfl
  ·rw[iW T,av,av,A5 h.p (Ru Z (by omega)),az];cases cq c ⟨cL c,0,0,0⟩<;>rfl
 | false=>
  rw[ax,ax];have yc:∀ (k:Nat) (C:k<(bV 0 c.ay.aB).length),EE (((),(),(),(),(),((bV 0 c.ay.aB).length:Int),(k:Int),()),(c,((0:Int),(0:Int),(0:Int),(0:Int),()),bV 0 c.ay.aB,(cL c,(0:Int),(0:Int),(0:Int),()),()))=some (bif cq c (fI c (bV 0 c.ay.aB)[k])then .inr (.inl (((),(-1:Int),()),(((fI c (bV 0 c.ay.aB)[k]).kind,(fI c (bV 0 c.ay.aB)[k]).aA,(fI c (bV 0 c.ay.aB)[k]).row,(fI c (bV 0 c.ay.aB)[k]).cu,()),())))else .inl (((),(),(),(),(),((bV 0 c.ay.aB).length:Int),((k+1:Nat):Int),()),(c,((0:Int),(0:Int),(0:Int),(0:Int),()),bV 0 c.ay.aB,(cL c,(0:Int),(0:Int),(0:Int),()),()))):=by
   intro k C;have⟨k1,k2⟩:=YS h (cX C);unfold EE aM bU xG xL;dsimp only;rw[bf,av,aP ⟨by omega,by omega⟩,aP];simp only[bD];rw[YQ _ (by omega) (by omega),az];show ((kf c (fI c (bV 0 c.ay.aB)[k])).bind _)=_;rw[A5 h.p k2,az,cC];cases cq c (fI c (bV 0 c.ay.aB)[k])<;>rfl
  have hfu:(H7 c).find? (cq c)=((bV 0 c.ay.aB).find? (λb=>cq c (fI c b))).map (fI c):=by
   unfold H7;rw[List.find?_map];rfl
  unfold H9;rw[List.find?_append,hfu,awb];rcases YP (λb=>cq c (fI c b)) (bV 0 c.ay.aB)with ⟨I,U⟩|⟨I,U⟩
  ·have e:=gf (step:=EE) (bV 0 c.ay.aB).length (λk=>(((),(),(),(),(),((bV 0 c.ay.aB).length:Int),(k:Int),()),(c,((0:Int),(0:Int),(0:Int),(0:Int),()),bV 0 c.ay.aB,(cL c,(0:Int),(0:Int),(0:Int),()),()))) (.inr (.inl (((),(),(),(),()),(c,((0:Int),(0:Int),(0:Int),(0:Int),()),bV 0 c.ay.aB,(cL c,(0:Int),(0:Int),(0:Int),()),())))) bC (λk C=>by
    have:=xT (p:=λb=>cq c (fI c b)) (q:=bV 0 c.ay.aB) (i:=k) (by omega) C;rw[yc k C,this];rfl) (by
    unfold EE aM bU xG xL;dsimp only;rw[bz,ax]) (cM)
   rw[eM]at e
   refine(bE (λo=>Option.bind o _) e).trans ?_
   rw[az,U];simp only[Sum.elim_inr,iJ,Option.map_none,Option.none_or];have⟨i1,i2,i3⟩:=awa (λi=>rK c i&&cq c (jG c i)) c.pending.length;have O:∀ (k:Nat) (C:k<c.pending.length),EF (((),(),(),(),c.pending,(c.pending.length:Int),(k:Int),()),(c,((0:Int),(0:Int),(0:Int),(0:Int),()),bV 0 c.ay.aB,(cL c,(0:Int),(0:Int),(0:Int),()),()))=some (bif rK c k&&cq c (jG c k)then .inr (.inl (((),(-1:Int),()),(((jG c k).kind,(jG c k).aA,(jG c k).row,(jG c k).cu,()),())))else .inl (((),(),(),(),c.pending,(c.pending.length:Int),((k+1:Nat):Int),()),(c,((0:Int),(0:Int),(0:Int),(0:Int),()),bV 0 c.ay.aB,(cL c,(0:Int),(0:Int),(0:Int),()),()))):=by
    intro k C;have⟨ho,Y,o2,o3,o4⟩:=YR h C;unfold EF aM bU xG xI;dsimp only;rw[bf,av,aP ⟨by omega,by omega⟩,cC];simp only[bD,Mt,(YK Be.1 Y o3),az,Int.toNat_zero,List.drop_zero];have ek:rK c k=(!kz c (js c k).aA && !((c.pending.take k).any λa=>a.aA==(js c k).aA)):=rfl;rw[ek];cases kz c (js c k).aA with
    |true=>rfl
    | false=>
     rw[ax,aV ⟨by omega,by omega,by omega⟩,Yw _ _ (by rw[jK];omega),az];cases (c.pending.take k).any λa=>a.aA==(js c k).aA with
     |true=>rfl
     | false=>
      rw[ax,YQ _ Y o2,az];show ((kf c (jG c k)).bind _)=_;rw[A5 h.p (avZ h C)];cases cq c (jG c k)<;>rfl
   by_cases E:gi (λi=>rK c i&&cq c (jG c i)) (List.range c.pending.length)<c.pending.length
   ·rw[aV E];generalize hN:gi (λi=>rK c i&&cq c (jG c i)) (List.range c.pending.length)=N at *
    have D:=gf (step:=EF) N (λk=>(((),(),(),(),c.pending,(c.pending.length:Int),(k:Int),()),(c,((0:Int),(0:Int),(0:Int),(0:Int),()),bV 0 c.ay.aB,(cL c,(0:Int),(0:Int),(0:Int),()),()))) (.inl (((),(-1:Int),()),(((jG c N).kind,(jG c N).aA,(jG c N).row,(jG c N).cu,()),()))) bC (λk C=>by
     rw[O k (by omega),i2 k C];rfl) (by
     rw[O N E,i3 E];rfl) (cM)
    rw[eM]at D
    refine(bE (λo=>Option.bind o _) D).trans ?_
    rfl
   ·rw[aX E];have D:=gf (step:=EF) c.pending.length (λk=>(((),(),(),(),c.pending,(c.pending.length:Int),(k:Int),()),(c,((0:Int),(0:Int),(0:Int),(0:Int),()),bV 0 c.ay.aB,(cL c,(0:Int),(0:Int),(0:Int),()),()))) (.inr (.inl (((),(),(),(),()),(c,((0:Int),(0:Int),(0:Int),(0:Int),()),bV 0 c.ay.aB,(cL c,(0:Int),(0:Int),(0:Int),()),())))) bC (λk C=>by
     rw[O k C,i2 k (by omega)];rfl) (by
     unfold EF aM bU xG xI;dsimp only;rw[bz,ax]) (cM)
    rw[eM]at D
    refine(bE (λo=>Option.bind o _) D).trans ?_
    rw[az];simp only[Sum.elim_inr,iJ];rw[avm h,az,avY h,az];cases decide ((pW c).2 >= 0)with
    |true=>rfl
    | false=>
     rw[ax,ax];show ((LH c (bV 0 c.ay.aB) (iQ c) ⟨cL c,0,0,0⟩).bind _)=_;rw[av7 h,az]
  ·have e:=gf (step:=EE) (gi (λb=>cq c (fI c b)) (bV 0 c.ay.aB)) (λk=>(((),(),(),(),(),((bV 0 c.ay.aB).length:Int),(k:Int),()),(c,((0:Int),(0:Int),(0:Int),(0:Int),()),bV 0 c.ay.aB,(cL c,(0:Int),(0:Int),(0:Int),()),()))) (.inl (((),(-1:Int),()),(((fI c (bV 0 c.ay.aB)[gi (λb=>cq c (fI c b)) (bV 0 c.ay.aB)]).kind,(fI c (bV 0 c.ay.aB)[gi (λb=>cq c (fI c b)) (bV 0 c.ay.aB)]).aA,(fI c (bV 0 c.ay.aB)[gi (λb=>cq c (fI c b)) (bV 0 c.ay.aB)]).row,(fI c (bV 0 c.ay.aB)[gi (λb=>cq c (fI c b)) (bV 0 c.ay.aB)]).cu,()),()))) bC (λk C=>by
    have:=xT (p:=λb=>cq c (fI c b)) (q:=bV 0 c.ay.aB) (i:=k) C (by omega);rw[yc k (by omega),this];rfl) (by
    have:=CN (p:=λb=>cq c (fI c b)) (q:=bV 0 c.ay.aB) I;rw[yc _ I,this];rfl) (cM)
   simp_all
def YT{r:cr}{x:aQ}(C:x.kind <= 5):(cZ r x).aS=r.aS:=by
 unfold cZ
 grind
def fV.cg{c:au}(p:fV c)(x:aQ):fV (cg c x):=⟨p.dl,p.tl,p.gl,p.t,p.g,p.pd,p.u⟩
def Ck.cg{c:au}(h:Ck c){x:aQ}(C:pJ c.config.aq c.aG x=true)(D:x.kind<=5)(E:c.trace.length<2000):Ck (cg c x):=by
 simp only[pJ,aH]at C;exact⟨h.f1,h.f2,h.nw,ag1 C.1 C.2.1 C.2.2,ah5 _ h.rd,h.ar,h.sp,h.se,h.rf,((fV.of h.pa).cg x).ok,h.qu,h.sh,h.sl,h.dr,h.pw,h.ps.trans (YT D).symm,h.si,h.s1,h.s2,h.s3,h.er,by simp[Proofs.YthmgjjfedieljaaGreat.cg];omega,h.rp⟩
def Ck.YU{c:au}(h:Ck c){x:aQ}(E:0 <= x.aA)(I:x.aA<aE c.config.aq)(O:0 <= x.row)(T:x.row<c.config.aq.rows):Ck (uN c x):=by
 have C:=(zj h.rk).1;have gb:=gV C;have p:=fV.of h.pa;have CX:=p.tl;have hgl:=p.gl;have U:x.aA.toNat<c.bF.length:=by omega
 have D:fH c.config.aq 100000 (vW c.config.aq c.config.dX c.array x.aA x.row):=Ym C c.config.dX (by decide) (fH.uP h.ar) E I O T;have Y:∀a∈vZ c x,ef c.config.aq a=true/\a.cu=0:=λa D=>p.pd a (List.mem_filter.1 D).1
 have Z:(vZ c x).Pairwise (λx y=>x≠y):=p.u.filter _;have q:(∀ a∈(uN c x).pending,ef c.config.aq a=true/\a.cu=0)/\(uN c x).pending.Pairwise (λx y=>x≠y):=by
  show (∀a∈(bif (xX c x).2 then (je c.config.aq.rows x.row).foldl (iX x.aA) (vZ c x)else vZ c x),ef c.config.aq a=true/\a.cu=0)/\(bif (xX c x).2 then (je c.config.aq.rows x.row).foldl (iX x.aA) (vZ c x)else vZ c x).Pairwise (λx y=>x≠y);cases (xX c x).2 with
  |false=>simp_all
  | true=>
   refine ah0 _ (λn hn=>?_) Y Z
   have:=ahc O T n hn;exact xN C E I this.1 this.2 (dU 0) (by show 0<_;omega)
 have hp:fV (uN c x):=⟨p.dl,by show ((c.bF.set x.aA.toNat (xX c x).1).length:Int)=_;rw[jg];exact p.tl,p.gl,H6 p.t (by unfold xX;rw[fU _ U];exact avG (p.t _ (cX U)) _ _),p.g,q.1,q.2⟩
 exact⟨h.f1,h.f2,h.nw,h.rk,h.rd,Bc C D,h.sp,h.se,h.rf,hp.ok,h.qu,h.sh,h.sl,h.dr,h.pw,h.ps,h.si,h.s1,h.s2,h.s3,h.er,h.tr,h.rp⟩
def Ck.ref{c:au}(h:Ck c)(hl:c.box.bW.weights.length<1073741823)(E:aT c.config.jj 1 16=true){b:Int}(I:0 <= b)(O:b<aE c.config.aq):Ck (CV c b):=by
 have C:=(zj h.rk).1;have gb:=gV C;have p:=fV.of h.pa;have U:=p.dl;have D:fH _ 100000 (gN _ c.config.dX c.array b c.config.aq.rows.toNat):=Ml C _ (by decide) (fH.uP h.ar) I O _ (by omega);have T:fV (CV c b):=⟨by show ((oy c.ay b).aB.length:Int)=_;rw[ahT];exact p.dl,by show ((c.bF.set b.toNat _).length:Int)=_;rw[jg];exact p.tl,by show ((c.guard.set b.toNat _).length:Int)=_;rw[jg];exact p.gl,H6 p.t (ah1 E),H6 p.g (Ms hl h.f1),λa D=>p.pd a (List.mem_filter.1 D).1,p.u.filter _⟩
 exact⟨h.f1,h.f2,h.nw,h.rk,h.rd,Bc C D,h.sp,h.se,avO h.rf (by omega),T.ok,h.qu,h.sh,h.sl,h.dr,h.pw,h.ps,h.si,h.s1,h.s2,h.s3,h.er,h.tr,h.rp⟩
def YV{T:Type}{p:T->Prop}{l:aa T}{x:T}(h:∀ y∈l,p y)(C:p x):∀ k:Nat,∀ y∈(List.range k).foldl (λd b=>d.set b x) l,p y
 |0=>h
 | k+1=>by
  rw[rJ];exact H6 (YV h C k) C
def aih{r:eC}(h:fS r=true):∀ k:Nat,fS ⟨(List.range k).foldl (λd b=>d.set b 0) r.aB,r.wait,r.bO⟩=true
 |0=>h
 | k+1=>by
  rw[rJ];exact ah9 (aih h k) k (by omega)
def Ck.YB{c:au}(h:Ck c)(hl:c.box.bW.weights.length<1073741823)(E:aT c.config.jj 1 16=true)(n:Nat)(I:(n:Int) <= aE c.config.aq):Ck (jR c n []):=by
 have D:=(zj h.rk).1;have p:=fV.of h.pa;have C:=Rx D c.config.dX (by decide) (fH.uP h.ar) n I;have O:fV (jR c n []):=⟨by show (((List.range n).foldl _ c.ay.aB).length:Int)=_;rw[zo];exact p.dl,by show (((List.range n).foldl _ c.bF).length:Int)=_;rw[zo];exact p.tl,by show (((List.range n).foldl _ c.guard).length:Int)=_;rw[zo];exact p.gl,YV p.t (ah1 E) n,YV p.g (Ms hl h.f1) n,λa C=>(by cases C),List.Pairwise.nil⟩
 exact⟨h.f1,h.f2,h.nw,h.rk,h.rd,Bc D C,h.sp,h.se,aih h.rf n,O.ok,h.qu,h.sh,h.sl,h.dr,h.pw,h.ps,h.si,h.s1,h.s2,h.s3,h.er,h.tr,h.rp⟩
def Ck.acc{c:au}(h:Ck c){i:Nat}(C:sI c i 100000)(hr:c.aZ.length<400):Ck (gx c i):=by
 have T:=(zj h.rk).1;have p:=fV.of h.pa;have hi:=C.i;have⟨f1,f3,f4,f5,f6,f7,f8⟩:=C.facts (cX hi);have D:c.queue.getD i pU=c.queue[i]:=fU _ hi;have E:=C.d _ (cX hi);have U:=C.shl;have I:ki (E8 c.shares c.queue[i].cS)=true/\((E8 c.shares c.queue[i].cS).length:Int)=4:=by
  have⟨y,t,e,hl,ho⟩:=avM ((List.replicate 4 false).set c.queue[i].cS.toNat true) (by omega) h.sh (by simp[U])
  grind
 have Y:gS (ck (dG c.config.aq c.spare)) (c.queue.take i++c.queue.drop (i+1))=true:=((Qk.of h.qu).sub (ah6 _ _)).ok;have key:∀ (a:c9) (e:aa cY) (x:cI),fH c.config.aq 100000 a -> rD e=true -> Ck (tR c i a e x):=λa e x Z he=>
  ⟨h.f1,h.f2,h.nw,h.rk,h.rd,Bc T Z,h.sp,h.se,h.rf,(show fV (tR c i a e x)from ⟨p.dl,p.tl,p.gl,p.t,p.g,p.pd,p.u⟩).ok,Y,by unfold tR;rw[D];exact I.1,by unfold tR;rw[D];exact I.2,h.dr,h.pw,h.ps,h.si,h.s1,h.s2,h.s3,he,h.tr,by simp[tR];omega⟩
 unfold gx;rw[D];dsimp only;cases c.queue[i].write with
 |true=>exact key _ _ _ (C.a.EV _ (c:=⟨_,false⟩) (Mn E.1 E.2).2.1) h.er
 | false=>
  have O:=C.a.syms _ (cX f4);rw[ax,fU _ f4];refine key _ _ _ (C.a.EV _ (YC O)) ?_;have hec:=YH O;by_cases e:ld c.array.cells[eI c.config.aq (dM c c.queue[i].line)]=0
  ·rw[e];exact h.er
  ·rw[iW e,av];exact ah7 h.er ⟨by omega,f5⟩ (by omega)
def Ck.RS{c:au}(h:Ck c){x:aQ}(C:pJ c.config.aq c.aG x=true)(D:6 <= x.kind/\x.kind <= 9)(U:c.trace.length<2000):Ck (E9 (Proofs.YthmgjjfedieljaaGreat.cg c x) x.kind):=by
 simp[pJ,aH]at C;have E:=bu.1 h.nw;have⟨I,O,T⟩:=avP h.pw h.ps h.si E.2 D C.2.2;have p:=fV.of h.pa;exact⟨h.f1,h.f2,h.nw,ag1 C.1 C.2.1 C.2.2,ah5 _ h.rd,h.ar,h.sp,h.se,h.rf,(show fV _ from ⟨p.dl,p.tl,p.gl,p.t,p.g,p.pd,p.u⟩).ok,h.qu,h.sh,h.sl,h.dr,I,O,T,h.s1,h.s2,h.s3,h.er,by simp[E9,ahR,Proofs.YthmgjjfedieljaaGreat.cg];omega,h.rp⟩
def Ck.YW{c:au}(I:bR c)(h:Ck c){x:aQ}{i:Int}(E:lu c x i=true):Ck (br c x i):=by
 have Y:=Pq.of I h.ok;have O:c.box.bW.weights.length<1073741823:=by
  have:=I.1.1;unfold HP at this;omega
 have Z:aT c.config.jj 1 16=true:=by
  have:=(zm O h.f1).1;simp[tH,aH]at this;exact this.2.2.2.2.2.1
 have⟨hb,C,hs,hr⟩:=CZ I Y E;have D:c.trace.length<2000:=by
  simp only[lu,aH,ff,sS]at E;omega
 have hrp:x.kind=2 \/ x.kind=3 -> c.aZ.length<400:=λT=>by
  simp only[lu,aH]at E;have e:(x.kind==2 ||x.kind==3)=true:=by rcases T with q|q<;>rw[q]<;>rfl
  rw[e,av]at E;simp[Mr,aH,ij]at E;omega
 have⟨hg,hlen,T,rM⟩:=zg C;have hc:cD c.config.aq x=true:=by
  simp only[pJ,aH]at C
  grind
 have CX:=(fV.of h.pa).tl;have iw:=Y.p.bl;unfold br;rcases kinds T with q|q|q|q|q|q|q|q|q<;>rw[q]<;>simp only[Int.reduceBEq,Int.reduceBNe,av,ax,Bool.or_true,Bool.or_false,Bool.true_or,lK,Bool.or_self]
 ·have⟨U,xF⟩:=rM (by omega);have⟨r0,r1⟩:=CW hc q;exact(h.cg C (by omega) D).YU U (by show x.aA<aE c.config.aq;omega) r0 r1
 ·exact(h.cg C (by omega) D).acc ((hs (.inl q)).1.cg x) (hrp (.inl q))
 ·exact(h.cg C (by omega) D).acc ((hs (.inr q)).1.cg x) (hrp (.inr q))
 ·exact h.cg C (by omega) D
 ·have⟨U,xF⟩:=rM (by omega);exact(h.cg C (by omega) D).ref O Z U (by show x.aA<aE c.config.aq;omega)
 ·have:=h.RS C (by omega) D;rw[q]at this;exact this
 ·have:=h.RS C (by omega) D;rw[q]at this;exact this
 ·have:=h.RS C (by omega) D;rw[q]at this;exact this
 ·have:=h.RS C (by omega) D;rw[q]at this;exact this.YB O Z _ (by show (c.bF.length:Int) <= aE c.config.aq;omega)
def Adv(n:Int)(c y:au):Prop:=(y.trace=c.trace/\y.aG=c.aG/\y.ready=c.ready)\/∃x,y.trace=c.trace++[⟨n,x⟩]/\y.aG=cZ c.aG x/\y.ready=iF c.config.aq c.ready ⟨n,x⟩/\cD c.config.aq x=true/\kj c.aG x=true/\me c.config.aq c.config.bP c.ready x<=n
def Nx(c y:au):Prop:=y.now=c.now/\y.config=c.config/\y.queue.Sublist c.queue/\(∀r∈y.aZ,r∈c.aZ\/∃q∈c.queue,r.id=q.id)/\Adv c.now c y/\y.queue.length+y.aZ.length=c.queue.length+c.aZ.length
def Nx.refl(c:au):Nx c c:=⟨rfl,rfl,List.Sublist.refl _,λr C=>.inl C,.inl ⟨rfl,rfl,rfl⟩,rfl⟩
def aii{c:au}{x:aQ}(C:cD c.config.aq x=true/\kj c.aG x=true/\me c.config.aq c.config.bP c.ready x<=c.now){i:Nat}(hi:i<c.queue.length):Nx c (gx (cg c x) i):=by
 have key:∀ (a:c9) (e:aa cY) (t:cI),t.id=c.queue[i].id->Nx c (tR (cg c x) i a e t):=λa e t D=>by
  refine⟨rfl,rfl,ah6 _ _,λr hr=>?_,.inr ⟨x,rfl,rfl,rfl,C⟩,?_⟩
  ·rcases gE.1 hr with hr | hr
   ·exact .inl hr
   ·rw[gz.1 hr];exact .inr ⟨_,cX hi,D⟩
  ·show (c.queue.take i++c.queue.drop (i+1)).length+(c.aZ++[t]).length=_;rw[jh,jh,jK,List.length_drop,mj];omega
 have E:(cg c x).queue.getD i pU=c.queue[i]:=fU _ hi;unfold gx;rw[E];dsimp only;cases c.queue[i].write with
 |true=>exact key _ _ _ rfl
 |false=>exact key _ _ _ rfl
def awd{c:au}{x:aQ}{i:Int}(D:lu c x i=true)(Y:1<=x.kind/\x.kind<=9)(I:x.kind=2\/x.kind=3->i.toNat<c.queue.length):Nx c (br c x i):=by
 have E:cD c.config.aq x=true/\kj c.aG x=true/\me c.config.aq c.config.bP c.ready x<=c.now:=by
  simp only[lu,cq,aH,ij]at D;exact⟨D.1,D.2.1.1,D.2.1.2.2⟩
 have C:∀y:au,y.now=c.now->y.config=c.config->y.queue=c.queue->y.aZ=c.aZ->y.trace=c.trace++[⟨c.now,x⟩]->y.aG=cZ c.aG x->y.ready=iF c.config.aq c.ready ⟨c.now,x⟩->Nx c y:=λy Z h2 O T h5 h6 h7=>⟨Z,h2,by rw[O];exact List.Sublist.refl _,λr U=>by rw[T]at U;exact .inl U,.inr ⟨x,h5,h6,h7,E⟩,by rw[O,T]⟩
 unfold br;rcases kinds Y with q|q|q|q|q|q|q|q|q<;>rw[q]<;>simp only[Int.reduceBEq,Int.reduceBNe,av,ax,Bool.or_true,Bool.or_false,Bool.true_or,lK,Bool.or_self]
 ·exact C _ rfl rfl rfl rfl rfl rfl rfl
 ·exact aii E (I (.inl q))
 ·exact aii E (I (.inr q))
 ·exact C _ rfl rfl rfl rfl rfl rfl rfl
 ·exact C _ rfl rfl rfl rfl rfl rfl rfl
 ·exact C _ rfl rfl rfl rfl rfl rfl rfl
 ·exact C _ rfl rfl rfl rfl rfl rfl rfl
 ·exact C _ rfl rfl rfl rfl rfl rfl rfl
 ·exact C _ rfl rfl rfl rfl rfl rfl rfl
def sL(d:Int):Int:=if (5:Int)<W6 (d+1)then 5 else W6 (d+1)
def awe(q:aa aR)(w:Bool)(hl:q.length<1073741824):G2 q w=some ((q.countP λr=>r.write==w:Nat):Int):=by
 unfold G2 bZ;have e:=gf (step:=Lj) q.length (λi=>((w,(((q.take i).countP λr=>r.write==w:Nat):Int),q,(q.length:Int),(i:Int),()),())) (.inl (((((q.take q.length).countP λr=>r.write==w:Nat):Int),()),())) bC (λk C=>by
  have D:=List.countP_le_length (p:=λr:aR=>r.write==w) (l:=q.take k);rw[jK]at D;unfold Lj aM xG xI;dsimp only;rw[bf,av,aP ⟨by omega,by omega⟩,cC];simp only[bD];rw[EL C,List.countP_append,List.countP_singleton];cases q[k].write==w with
  |true=>rw[av,cC];rfl
  |false=>rw[ax,cC];rfl) (by
  unfold Lj aM xG xI;dsimp only;rw[bz,ax]) (cM)
 rw[eM]at e;rw[qc]at e;exact(bE (λo=>Option.bind o _) e).trans rfl
def sM(d:m0)(n:Int):m0:=bif decide (n >= d.high)then ⟨true,d.low,d.high⟩else bif decide (n<=d.low)then ⟨false,d.low,d.high⟩else d
def awf{d:m0}(h:tJ d=true)(n:Int):G1 d n=some (sM d n)/\tJ (sM d n)=true:=by
 unfold G1 sM;rw[QX,az,h,bI,ax];cases decide (n >= d.high)with
 |true=>exact⟨rfl,h⟩
 | false=>
  cases decide (n<=d.low)with
  |true=>exact⟨rfl,h⟩
  |false=>exact⟨rfl,h⟩
def awg(b:lO)(h:HR b)(x:Bool):∃ t,Et b x=some (bif t then ⟨b.next,b.next,false⟩else b,t):=by
 have C:b.next.weights.length <= 1048576:=h.2
 unfold Et;rw[Rh b h];cases x with
 |false=>simp_all
 | true=>
  cases b.waits with
  |false=>simp_all
  | true=>
   refine⟨true,?_⟩;unfold vJ xA xZ;rw[qD _];rfl
def awh{c:fB}{p:fA}(hl:p.weights.length<1073741823)(h:ov c p=true):∃ l t,AO p.weights=some (l,t)/\ki l=true/\(l.length:Int)=4/\tJ ⟨false,p.low,p.high⟩=true:=by
 have⟨_,f2⟩:=zm hl h;simp[vS,aH,dO]at f2;have⟨f3,f4,f5,f6,f7,f8,f9⟩:=f2;refine⟨p.weights.map rC,true,?_,f8,by rw[fN];exact f7,f6⟩;rw[XT _ hl];unfold EO;simp_all
def awi{s:wE}{n:Int}(C:aT s.every 1 100000=true)(E:aT s.wait 1 s.every=true)(D:aT s.next 0 (W6 (n-1))=true)(Z:1<=n/\n<=1000000):∃ y m,AX s n=some (y,m)/\aT y.every 1 100000=true/\aT y.wait 1 y.every=true/\aT y.next 0 (W6 (n-1))=true/\m<n:=by
 have T:=bu.1 C;have b2:=bu.1 E;have I:W6 (n-1)=n-1:=bh;have U:=bu.1 D;rw[I]at U;unfold AX;rw[cP,az,C,bI,ax,cP,az,E,bI,ax,bz,ax,cP,az,D,bI,ax,bh (n:=s.wait-1)];by_cases O:s.wait-1 > 0
 ·rw[bf O,av];exact⟨_,_,rfl,C,bu.2 ⟨by dsimp only;omega,by dsimp only;omega⟩,D,by omega⟩
 ·rw[bz O,ax,aX,bh (n:=s.next+1)];refine⟨_,_,rfl,C,bu.2 ⟨T.1,dU _⟩,?_,by omega⟩;rw[I,uT (by omega)];have Y:=Int.emod_nonneg (s.next+1) (show n≠0 by omega);have e2:=Int.emod_lt_of_pos (s.next+1) (show 0<n by omega);exact bu.2 ⟨Y,by dsimp only;omega⟩
def ye(c:au)(b:lO)(a:c9)(r:eC)(s:aa dz)(d:m0)(p:jM)(u:wE):au:=⟨c.config,b,W6 (c.now+1),c.aG,c.ready,a,c.spare,r,c.bF,c.guard,c.pending,c.queue,s,d,p,u,c.errors,c.trace,c.aZ⟩
def RT(x:au):ah au:=(vM x).bind λC=>bif (C.1.kind != (0:Int))then (vN x C.1 C.2).bind λD=>some D.1 else some x
def RU(x:au)(n:Int):ah au:=bif (decide (n >= (0:Int)))then (AZ x n).bind λC=>(AY C.2.1 n C.1.2).bind λD=>RT D.2.1 else RT x
def stepT(c:au)(r:eC)(a:c9):ah au:=(G2 c.queue true).bind λT=>(G1 c.drain T).bind λI=>(Cv (ye c c.box a r c.shares I c.aS c.dJ)).bind λU=>(G3 c.aS U).bind λO=>(Et c.box ((c.queue.length:Int)==(0:Int))).bind λC=>bif C.2 then (AO C.1.bW.weights).bind λY=>(vH c.config.aq).bind λE=>(AX c.dJ E).bind λD=>RU (ye c C.1 a r Y.1 ⟨false,C.1.bW.low,C.1.bW.high⟩ O D.1) D.2 else (vH c.config.aq).bind λE=>(AX c.dJ E).bind λD=>RU (ye c C.1 a r c.shares I O D.1) D.2
def zy(r:eC)(n:Int):eC:=if 0<r.wait-1 then ⟨r.aB,r.wait-1,r.bO⟩else ⟨r.aB.map sL,bif r.bO then n / 2 else n,r.bO⟩
def awj{t:dw}(h:nG t=true):2<=HC t:=by
 have q:=agE t;unfold Ef at q;rw[QW,az,h,bI,ax]at q;simp only[nG,aH,cm]at h;have k:∀ x∈uJ t,0<=x/\x<=1000:=λx C=>by
  have:=h.1 x C;simp only[HB,bu]at this;omega
 simp only[uJ,List.forall_mem_cons]at k;injection q with q;rw[<-q];simp (disch:=omega) only [bh];omega
def awk{c:fB}{p:fA}(hl:p.weights.length<1073741823)(h:ov c p=true):2<=c.interval/\c.interval<=10000:=by
 have q:=(zm hl h).1;have t:=awj (agH q).2.1;simp only[tH,aH,bu]at q;omega
def awl{r:eC}(h:fS r=true){n:Int}(E:2<=n/\n<=10000):fS (zy r n)=true/\(zy r n).aB.length=r.aB.length:=by
 have hl:=xV h;have C:=E1 h;simp only[fS,aH,bu]at h;unfold zy;split
 ·refine⟨?_,rfl⟩;simp only[fS,aH,bu];exact⟨h.1,by omega⟩
 ·refine⟨?_,fN _⟩;simp only[fS,aH,cm,L4,bu,fN,iZ,forall_exists_index,and_imp,forall_apply_eq_imp_iff₂]
  refine⟨λd D=>?_,by omega,?_⟩
  ·have:=C d D;unfold sL;rw[bh (n:=d+1)];split<;>omega
  ·cases r.bO<;>simp<;>omega
def awm{r:eC}(h:fS r=true){n:Int}(D:2<=n/\n<=10000):PO r n=some (zy r n):=by
 have hl:=xV h;have I:=E1 h;have O:1<=r.wait/\r.wait<=10000:=by
  simp only[fS,aH,bu]at h;exact h.2.2
 have E:W6 (n.tdiv 2)=n / 2:=by rw[uU (by omega)];exact bh
 unfold PO AP zy bZ xA xZ;rw[fR (by simp;omega),av,List.nil_append,az,HF _ (by omega),az,h,bI,ax,cP,az,bu.2 D,bI,ax];dsimp only;rw[bh (n:=r.wait-1)];by_cases C:r.wait-1 > 0
 ·rw[bf C,av,aV C]
 ·rw[bz C,ax,aX C];have e:=gf (step:=Lg) r.aB.length (λi=>((n,(),(),(),(r.aB.length:Int),(i:Int),()),((r.aB,r.wait,r.bO,()),((),(0:Int),false,()),((),r.wait-1,r.bO,()),([]:aa Int),upto sL r.aB i,()))) (.inl ((n,(),(),(),()),((r.aB,r.wait,r.bO,()),((),(0:Int),false,()),((),r.wait-1,r.bO,()),([]:aa Int),r.aB.map sL,()))) bC (λi hi=>by
   have hlen:=QM sL r.aB i;unfold Lg aM xG xL;dsimp only;rw[bf,av,aP ⟨by omega,by omega⟩,aP,aP ⟨by omega,by omega⟩,aP,cC];simp only[bD];rw[XI sL r.aB i hi,<-XJ sL r.aB i hi];rfl) (by
   unfold Lg aM xG xL;dsimp only;rw[bz,ax,XH]) (cM)
  rw[eM,agj]at e
  refine(bE (λo=>Option.bind o _) e).trans ?_
  rw[az];simp only[iJ];rw[E];cases r.bO<;>rfl
def aij(a:c9):c9:=⟨a.cells,a.bx.map (qA 1),a.bg⟩
def awn{g:aK}{a:c9}(h:pz g a=true):pz g (aij a)=true:=by
 have C:=fH.uP h
 refine Bc (Ye h).1 ⟨C.cells,C.syms,(bE (λn:Nat=>(n:Int)) (fN _)).trans C.bx,C.bg,λx D=>?_,C.hit⟩
 obtain⟨y,E,rfl⟩:=iZ.1 D;exact agA (C.HA y E) (by decide)
def awo{g:aK}{a:c9}(h:pz g a=true):Li g a 1=some (aij a):=at6 (Ye h).1 (fH.uP h) (by decide) (by decide) (by decide)
def YX{A T:Type}(f:Nat->A->T->ah A)(e:T):∀ (l:aa T) (k:Nat) (a:A),xR f k (l++[e]) a=(xR f k l a).bind λC=>f (k+l.length) C e
 | [],k,a=>by
  show (match f k a e with|some C=>some C|none=>none)=f k a e;cases f k a e<;>rfl
 | x :: l,k,a=>by
  show (match f k a x with|some C=>xR f (k+1) (l++[e]) C|none=>none)=(match f k a x with|some C=>xR f (k+1) l C|none=>none).bind λC=>f (k+(l.length+1)) C e
  cases f k a x with
  |none=>rfl
  | some C=>
   rw[show k+(l.length+1)=k+1+l.length by omega];exact YX f e l (k+1) C
def aik{A T:Type}{f f':Nat->A->T->ah A}:∀ (l:aa T) (k:Nat) (a:A),(∀ i (h:i<l.length) a,f (k+i) a l[i]=f' (k+i) a l[i])->xR f k l a=xR f' k l a
 |[],_,_,_=>rfl
 | x :: l,k,a,h=>by
  have D:f k a x=f' k a x:=h 0 (Nat.zero_lt_succ _) a;show (match f k a x with|some C=>xR f (k+1) l C|none=>none)=(match f' k a x with|some C=>xR f' (k+1) l C|none=>none)
  rw[D];cases f' k a x with
  |none=>rfl
  | some C=>
   exact aik l (k+1) C λi hi b=>by
    have:=h (i+1) (Nat.succ_lt_succ hi) b;rw[show k+(i+1)=k+1+i by omega]at this;exact this
def awp{l:aa eB}{e x:eB}:∀ {k:Nat},k<=l.length->HN (l++[e]) k x=HN l k x
 |0,_=>rfl
 | k+1,h=>by
  simp only[HN];rw[List.getElem?_append_left (by omega)]
def ail(g:aK)(t:dw){l:aa eB}(e x:eB){k:Nat}(h:k<=l.length)(r:cr):fT g t (l++[e]) k r x=fT g t l k r x:=by
 unfold fT;rw[awp h,List.take_append_of_le_length h]
def awq(g:aK)(t:dw)(l:aa eB)(e:eB):runT g t (l++[e])=(runT g t l).bind λr=>fT g t l l.length r e:=by
 unfold runT;rw[YX,gy,aik (f':=fT g t l) l 0 (CH g) λi hi a=>ail g t e _ (by omega) a];congr 1;funext r;exact ail g t e e (dg _) r
structure Bf (g:aK) (t:dw) (l:List eB) (r:cr) (q:fj):Prop where
 tkR:runT g t l=some r
 tkF:ag3 g l=some r
 tkY:ag2 g l=q
 RX:∀e∈l,Q8 g e=true/\e.at_<=q.last.getD (iL g e.cmd).toNat (-1)
 tkA:q.bq=(rE l).drop ((rE l).length-4)
def Bf.new(g:aK)(t:dw):Bf g t [] (CH g) (HO g):=⟨rfl,rfl,rfl,λe h=>(by cases h),rfl⟩
def awr(g:aK)(t:dw){a b:aQ}(c:aQ)(C:a.kind=b.kind)(hb:a.kind<=5->a.aA=b.aA):eH g t a c=eH g t b c:=by
 have e:ou a c=ou b c:=by unfold ou;rw[C]
 unfold eH sD;rw[<-e,C];cases D:ou a c with
 |false=>rfl
 | true=>
  simp only[ou,aH,bu]at D;rw[hb D.1.2]
def aws{g:aK}{c:aQ}(h:cD g c=true):(ku (iL g c).toNat).kind=c.kind/\((ku (iL g c).toNat).kind<=5->(ku (iL g c).toNat).aA=c.aA):=by
 obtain⟨_,D,hb,_⟩:=xQ h;obtain⟨E,_⟩:=HK h;have e:((iL g c).toNat:Int)=iL g c:=Int.toNat_of_nonneg E;have I:iL g c % 9+1=c.kind:=by unfold iL;omega
 unfold ku;dsimp only;rw[e,I]
 refine⟨rfl,λC=>?_⟩
 have O:aT c.kind 1 5=true:=bu.2 ⟨D.1,C⟩;rw[aV C];unfold iL;rw[O,av];omega
def YY(g:aK)(t:dw)(l:aa Int)(c:aQ):∀ (k:Nat),k<=l.length->∀ (i:Nat) (hi:i<l.length),i<k->0<=l[i]->l[i]+eH g t (ku i) c<=uM g t l c k
 |0,_,_,_,h,_=>absurd h (Nat.not_lt_zero _)
 | k+1,E,i,hi,h,C=>by
  rw[Rk,Ro (by omega)];by_cases e:i=k
  ·subst e;rw[bz,ax];unfold uL;split<;>omega
  ·have D:=YY g t l c k (by omega) i hi (by omega) C;cases decide (l[k]<0)with
   |true=>exact D
   | false=>
    rw[ax];unfold uL;split<;>omega
def aim(g:aK)(t:dw)(r:fj)(c:aQ):uM g t r.last c r.last.length<=me g t r c:=by
 unfold me uL;cases c.kind==1&&(r.bq.length:Int)==4 with
 |false=>exact dU _
 | true=>
  rw[av];split<;>omega
def Bf.gap{g:aK}{t:dw}{l:aa eB}{r:cr}{q:fj}(h:Bf g t l r q)(E:kX g q=true){x:aQ}{n:Int}(ha:me g t q x<=n):∀ e∈l,e.at_+eH g t e.cmd x<=n/\e.at_<n:=λe I=>by
 obtain⟨O,T⟩:=h.RX e I;obtain⟨D,h0,_⟩:=agZ O;obtain⟨p0,p1⟩:=HK D;have hl:=(HL E).2.1;have C:(iL g e.cmd).toNat<q.last.length:=by omega
 rw[cQ,bL C,Option.getD_some]at T;have U:=YY g t q.last x q.last.length (dg _) _ C C (by omega);have h4:=aim g t q x;obtain⟨Y,Z⟩:=aws D;rw[awr g t x Y Z]at U;have h5:=atB g t e.cmd x;omega
def awt(l:aa eB)(e:eB):rE (l++[e])=bif e.cmd.kind==1 then rE l++[e.at_]else rE l:=by
 unfold rE;rw[List.filter_append,mZ];cases h:e.cmd.kind==1<;>simp[List.filter_cons,h]
def awu{l:aa eB}{y:Int}(h:y∈rE l):∃ e∈l,e.at_=y:=by
 obtain⟨e,C,rfl⟩:=iZ.1 h;exact⟨e,(List.mem_filter.1 C).1,rfl⟩
def oD{T:Type}{l:aa T}{i:Nat}{x:T}(d:T)(h:i<l.length):(l.set i x).getD i d=x:=by
 rw[cQ,List.getElem?_set_self h];rfl
def getD_set_ne{T:Type}{l:aa T}{i j:Nat}{x:T}(d:T)(h:i≠j):(l.set i x).getD j d=l.getD j d:=by
 rw[cQ,List.getElem?_set_ne h,<-cQ]
def Bf.add{g:aK}{t:dw}{l:aa eB}{r:cr}{q:fj}(h:Bf g t l r q)(hr:om g r=true)(I:kX g q=true){x:aQ}{n:Int}(C:cD g x=true)(T:kj r x=true)(ha:me g t q x<=n)(hn:0<=n/\n<=1000000):Bf g t (l++[⟨n,x⟩]) (cZ r x) (iF g q ⟨n,x⟩):=by
 have E:=h.gap I ha;have hl:=(HL I).2.1;obtain⟨p0,p1⟩:=HK C;have hi:aT n 0 1000000=true:=bu.2 hn;have D:=h.tkA;have h1:HN l l.length ⟨n,x⟩=true:=by
  cases e:l.length with
  |zero=>rfl
  | succ k=>
   simp only[HN];rw[bL (by omega)];exact bf (E _ (cX (by omega))).2
 have h2:X9 g t l ⟨n,x⟩=false:=by
  unfold X9
  refine jV.2 λe he=>?_
  have:=(E e he).1;rw[ij];dsimp only;omega
 have h3:(x.kind==1&&Ya t (rE l) n)=false:=by
  cases U:x.kind==1 with
  |false=>rfl
  | true=>
   rw[dn];unfold Ya;by_cases O:4<=(rE l).length
   ·have e4:q.bq.length=4:=by rw[D,List.length_drop];omega
    have e0:q.bq.getD 0 0=(rE l).getD ((rE l).length-4) 0:=by
     rw[D,cQ,List.getElem?_drop,Nat.add_zero,<-cQ]
    have e5:q.bq.getD 0 0+t.nR<=me g t q x:=by
     unfold me uL;rw[U,e4,show ((4:Nat):Int)==4 from rfl,Bool.and_self,av];split<;>omega
    rw[<-e0,bz (show ¬ n-q.bq.getD 0 0<t.nR by omega),Bool.and_false]
   ·rw[bz O,Bool.false_and]
 have O:(x.kind==1&&vV q n)=false:=by
  cases U:x.kind==1 with
  |false=>rfl
  | true=>
   rw[dn];unfold vV;cases hL:q.bq.getLast? with
   |none=>rfl
   | some y=>
    have Y:y∈q.bq:=List.mem_of_getLast? hL;rw[D]at Y;obtain⟨e,he,rfl⟩:=awu (List.mem_of_mem_drop Y);exact bz (by have:=(E e he).2;omega)
 have Z:iF g q ⟨n,x⟩=⟨q.last.set (iL g x).toNat n,bif x.kind==1 then CJ q.bq n else q.bq⟩:=by
  unfold iF;dsimp only;rw[I,C,hi,O];rfl
 refine⟨?_,?_,?_,?_,?_⟩
 ·rw[awq,h.tkR,Option.bind_some];unfold fT;dsimp only;rw[C,hi,h1,T,qc,h2,h3];rfl
 ·have e:=h.tkF;unfold ag3 at e ⊢;rw[YX,e,Option.bind_some];unfold fE pJ;dsimp only;rw[hr,C,T];rfl
 ·have e:=h.tkY;unfold ag2 at e ⊢;rw[List.foldl_append,e];rfl
 ·rw[Z];dsimp only;intro e he;rcases gE.1 he with he | he
  ·obtain⟨e1,e2⟩:=h.RX e he;refine⟨e1,?_⟩;by_cases ep:(iL g x).toNat=(iL g e.cmd).toNat
   ·rw[<-ep,oD _ (by omega)];have:=(E e he).2;omega
   ·rw[getD_set_ne _ ep];exact e2
  ·obtain rfl:=gz.1 he;dsimp only;rw[oD _ (by omega)];refine⟨?_,dU _⟩;unfold Q8;rw[C,hi];rfl
 ·rw[Z,awt];dsimp only;cases x.kind==1 with
  |false=>exact D
  | true=>
   rw[av,av];unfold CJ;rw[D,jh,mj,List.length_drop];by_cases hs:(rE l).length<=3
   ·rw[show (rE l).length-4=0 by omega,List.drop_zero];rfl
   ·rw[<-List.drop_append_of_le_length (l₂:=[n]) (show (rE l).length-4<=(rE l).length by omega),List.drop_drop];congr 1;omega
def Ia(c:au):Prop:=Bf c.config.aq c.config.bP c.trace c.aG c.ready
def RY(R:Nat)(M:Int)(m:aa Int)(b j:Nat):Prop:=m.getD (b*R+j) 0=(j:Int)\/((R:Int)<=m.getD (b*R+j) 0/\m.getD (b*R+j) 0<=M/\∀k,k<j->m.getD (b*R+k) 0≠m.getD (b*R+j) 0)
def Mw{m:aa Int}{R b k:Nat}(C:k<R)(hl:(b+1)*R <= m.length):(iC m R b)[k]?=some (m.getD (b*R+k) 0):=by
 rw[jv]at hl;rw[Q5,List.getElem?_take_of_lt C,List.getElem?_drop,bL (by omega),fU]
def ain{R:Nat}{M:Int}{m:aa Int}{b j:Nat}(D:j<R)(hl:(b+1)*R <= m.length):HH (R:Int) M (iC m R b) j=true ↔ RY R M m b j:=by
 unfold HH RY;rw[Mw D hl];simp only[eZ,aH,dO,bu,ff,jV];have key:(∀ x∈(iC m R b).take j,¬ x=m.getD (b*R+j) 0) ↔ ∀ k,k<j -> m.getD (b*R+k) 0≠m.getD (b*R+j) 0:=by
  constructor
  ·intro h k C;refine h _ ?_;rw[List.mem_iff_getElem?];exact⟨k,by rw[List.getElem?_take_of_lt C,Mw (by omega) hl]⟩
  ·intro h x E;have⟨k,C⟩:=List.mem_iff_getElem?.1 E;have I:k<j:=by
    grind
   rw[List.getElem?_take_of_lt I,Mw (by omega) hl]at C
   grind
 rw[key,and_assoc]
structure Sp (g:aK) (s:gv) (bn R:Nat):Prop where
 sb:qB g s.cc=true
 hb:aE g=(bn:Int)
 hR:g.rows-s.cc=(R:Int)
 hl:s.map.length=bn*R
 f:∀b,b<bn->∀j,j<R->RY R (g.rows-1) s.map b j
def Sp.of{g:aK}{s:gv}(h:ot g s=true):∃ C R,Sp g s C R:=by
 have⟨_,hg,_,_,E,h2,h3,h4⟩:=HW h;have Y:=dZ g;simp only[ot,aH,dO,cm,gq]at h;have⟨Z,hl,O⟩:=h;have⟨R,hR⟩:=dN (show 0 <= g.rows-s.cc by omega);have⟨C,I⟩:=dN Y.1;rw[hR,I,bD,bD]at hl;have hl:s.map.length=C*R:=by exact_mod_cast hl
 rw[hR,I,bD,bD]at O
 refine⟨C,R,Z,I,hR,hl,λb hb j D=>?_⟩
 have T:(b+1)*R <= s.map.length:=by rw[hl];exact ju R hb
 have U:=L9 T;have e:=agQ (R:Int) (g.rows-1) (iC s.map R b) (by rw[U]);rw[U]at e;have E:=cm.2 λj D=>O b hb j (gq.1 D)
 rw[e]at E;exact(ain D T).1 (cm.1 E j (gq.2 D))
def Sp.ok{g:aK}{s:gv}{I R:Nat}(h:Sp g s I R):ot g s=true:=by
 have⟨O,T,hR,hl,U⟩:=h;simp only[ot,aH,dO,cm,gq];rw[hR,T,bD,bD]
 refine⟨O,by exact_mod_cast hl,λb hb=>?_⟩
 have C:(b+1)*R <= s.map.length:=by rw[hl];exact ju R hb
 have D:=L9 C;have e:=agQ (R:Int) (g.rows-1) _ (by rw[D]);rw[D]at e;have Y:=cm.2 λj E=>(ain (gq.1 E) C).2 (U b hb j (gq.1 E))
 simp_all
def awv{R b c r j:Nat}(C:r<R)(E:j<R)(h:b*R+r=c*R+j):b=c/\r=j:=by
 have key:∀ {b c r j:Nat},r<R -> b*R+r=c*R+j -> ¬ b<c:=λ{b c r j} C h D=>by
  have:=ju R (show b+1 <= c from D)
  grind
 grind
def RZ{m:aa Int}{p:Nat}(C:p<m.length)(i:Int)(q:Nat):(m.set p i).getD q 0=if q=p then i else m.getD q 0:=by grind
def Sp.set{g:aK}{s:gv}{D R:Nat}(h:Sp g s D R){b r:Nat}(hb:b<D)(I:r<R){i:Int}(U:(R:Int) <= i)(Y:i <= g.rows-1)(hn:∀ k,k<R -> s.map.getD (b*R+k) 0≠i):Sp g ⟨s.cc,s.map.set (b*R+r) i⟩ D R:=by
 have C:b*R+r<s.map.length:=by
  have:=HI hb (show r+1 <= R from I);rw[h.hl];omega
 refine⟨h.sb,h.hb,h.hR,by rw[jg];exact h.hl,λc Z j O=>?_⟩
 have old:=h.f c Z j O;unfold RY at old ⊢;dsimp only;by_cases e:c=b
 ·subst e;by_cases ej:j=r
  ·subst ej;refine .inr ?_;rw[RZ C,aV rfl]
   refine⟨U,Y,λk E=>?_⟩
   rw[RZ C,aX]
   grind
  ·grind
 ·have T:∀ k,k<R -> ¬ c*R+k=b*R+r:=λk E he=>e (awv E I he).1
  rw[RZ C,aX (T j O)];rcases old with old|⟨o1,o2,o3⟩
  ·grind
  ·refine .inr ⟨o1,o2,λk E=>?_⟩
   rw[RZ C,aX (T k (by omega))];simp_all
def Sp.yf{g:aK}{s:gv}{C R:Nat}(h:Sp g s C R):cJ g=true/\cJ (dG g s)=true/\dG g s=⟨g.cN,g.aO,(R:Int),g.aW⟩/\aE (dG g s)=(C:Int)/\C <= 8/\R <= 16/\2 <= R/\1 <= g.aW/\g.rows <= 16/\0 <= s.cc:=by
 have⟨e,D,E,I,O,T,U,Y⟩:=HW h.ok;have Z:=dZ g;have gb:=gV D;have:=h.hb;have hR:=h.hR
 grind
def Sp.bound{g:aK}{s:gv}{C R:Nat}(h:Sp g s C R){b r:Nat}(hb:b<C)(D:r<R):0<=s.map.getD (b*R+r) 0/\s.map.getD (b*R+r) 0<g.rows:=by
 have hR:=h.hR;have E:=h.yf.2.2.2.2.2.2.2.2.2;rcases h.f b hb r D with e|⟨I,O,_⟩
 ·omega
 ·omega
def YZ(g:aK)(b r:Int):Cx g b r=some (ef g ⟨b,r,0⟩):=by
 unfold Cx;rw[EI,az]
def Sp.ex{g:aK}{s:gv}{C R:Nat}(h:Sp g s C R)(b r:Int):ef (dG g s) ⟨b,r,0⟩=true ↔ (0 <= b/\b<(C:Int))/\0 <= r/\r<(R:Int):=by
 have⟨_,D,e,E,_,_,_,T,_⟩:=h.yf;have er:(dG g s).rows=R:=by rw[e]
 have I:(dG g s).aW=g.aW:=by rw[e]
 constructor
 ·intro O;have⟨_,a1,a2,a3,a4,_⟩:=oh O;simp_all
 ·rintro⟨⟨a1,a2⟩,a3,a4⟩;exact xN D a1 (by rw[E];exact a2) a3 (by rw[er];exact a4) (dU 0) (by rw[I];show (0:Int)<_;omega)
def Sp.lens{g:aK}{s:gv}{D R:Nat}(h:Sp g s D R){b:Nat}(hb:b<D):(b+1)*R <= s.map.length/\s.map.length <= 128/\(iC s.map R b).length=R/\Nat.ble (b*R) ((b+1)*R)=true/\Nat.ble ((b+1)*R) s.map.length=true:=by
 have hl:=h.hl;have E:=h.yf.2.2.2.2.1;have I:=h.yf.2.2.2.2.2.1;have C:(b+1)*R <= s.map.length:=by rw[hl];exact ju R hb
 have O:=Nat.mul_le_mul E I;exact⟨C,by omega,L9 C,jI (by rw[jv];omega),jI C⟩
def aww{g:aK}{s:gv}{C R:Nat}(h:Sp g s C R){b:Nat}(hb:b<C)(x:Int):QD g s (b:Int) x=some (jP (λe=>e==x) (iC s.map R b)):=by
 obtain⟨U,Y,Z,D,E⟩:=h.lens hb;obtain⟨hg,wN,eg,eb,I,O,mB,hc,Q7,_⟩:=h.yf;have T:((s.map.take ((b+1)*R)).drop (b*R))=iC s.map R b:=rfl;unfold QD dI;rw[ER,az,YZ,az,(h.ex (b:Int) 0).2 ⟨⟨by omega,by omega⟩,by omega,by omega⟩,bI,ax,Q6 h.hR O I hb h.hl,az];dsimp only;rw[D,E,dn,av,T];have e:=HG (step:=LS) (iC s.map R b) (λe=>e==x) (λi=>((x,iC s.map R b,((iC s.map R b).length:Int),(i:Int),()),())) (λi=>.inl (((i:Int),()),())) (.inr (.inl ((),()))) bC (λk hk=>by
  unfold LS aM bU xG xI;dsimp only;rw[bf,av,aP ⟨by omega,by omega⟩];simp only[bD];rw[cC];cases (iC s.map R b)[k]==x<;>rfl) (by
  unfold LS aM bU xG xI;dsimp only;rw[bz,ax]) (cM)
 rw[eM]at e;rw[e];unfold jP;cases (iC s.map R b).findIdx? (λe=>e==x)<;>rfl
def aio{g:aK}{s:gv}{D R:Nat}(h:Sp g s D R)(b r:Int):∃ y,Ex g s b r=some y/\(ef (dG g s) ⟨b,r,0⟩=true->(0<=y/\y<g.rows)/\y=s.map.getD (b.toNat*R+r.toNat) 0):=by
 unfold Ex xI;rw[ER,az,YZ,az];cases I:ef (dG g s) ⟨b,r,0⟩with
 |false=>exact⟨-1,rfl,λh=>by cases h⟩
 | true=>
  obtain⟨⟨a1,a2⟩,a3,a4⟩:=(h.ex b r).1 I;obtain⟨b,rfl⟩:=dN a1;obtain⟨r,rfl⟩:=dN a3;have hb:b<D:=by omega
  have C:r<R:=by omega
  obtain⟨O,awx,T,U,Y⟩:=h.lens hb;obtain⟨hg,wN,eg,eb,Z,qy,mB,hc,Q7,_⟩:=h.yf;have E:((s.map.take ((b+1)*R)).drop (b*R))=iC s.map R b:=rfl;have Yv:(iC s.map R b)[r]'(by omega)=s.map.getD (b*R+r) 0:=by
   have:=bL (l:=iC s.map R b) (i:=r) (by omega);rw[Mw C O]at this;injection this with this;exact this.symm
  rw[bI,ax,Q6 h.hR qy Z hb h.hl,az];dsimp only;rw[U,Y,dn,av,aP ⟨by omega,by rw[E,T,bD];exact C⟩];simp only[bD,E,Yv];exact⟨_,rfl,λ_=>⟨h.bound hb C,rfl⟩⟩
def awy{g:aK}{s:gv}{C R:Nat}(h:Sp g s C R)(b r:Int):∃ y t,QE g s b r=some (y,t)/\Sp g y C R/\y.cc=s.cc/\(t=true->ef (dG g s) ⟨b,r,0⟩=true/\∃ i:Int,y=⟨s.cc,s.map.set (b.toNat*R+r.toNat) i⟩/\∀ k,k<R->s.map.getD (b.toNat*R+k) 0≠i):=by
 obtain⟨hg,wN,U,eb,Y,Z,mB,hc,Q7,T0⟩:=h.yf;have hm:s.map.length<=128:=by
  rw[h.hl];exact Nat.mul_le_mul Y Z
 have hR:=h.hR;unfold QE xA dI xZ;rw[fR (by simp;omega),av,List.nil_append,ER,az,YZ,az];cases ha:ef (dG g s) ⟨b,r,0⟩with
 |false=>exact⟨s,false,rfl,h,rfl,λh=>by cases h⟩
 | true=>
  obtain⟨⟨a1,a2⟩,a3,a4⟩:=(h.ex b r).1 ha;obtain⟨b,rfl⟩:=dN a1;obtain⟨r,rfl⟩:=dN a3;have hb:b<C:=by omega
  have hr:r<R:=by omega
  obtain⟨I,awx,iw,n1,n2⟩:=h.lens hb;have hp:b*R+r<s.map.length:=by
   rw[jv]at I;omega
  have Ff:W6 ((b:Int)*(R:Int))=((b*R:Nat):Int):=by rw[<-Int.natCast_mul];exact bh
  have R0:W6 (((b*R:Nat):Int)+(r:Int))=((b*R+r:Nat):Int):=by rw[<-Int.natCast_add];exact bh
  rw[bI,ax,U];dsimp only;obtain⟨n,hn⟩:=dN (show 0<=g.rows-(R:Int) by omega);obtain⟨z,e,hz⟩:=XG (step:=LU) n (λk x=>x=(((b:Int),(r:Int),(),(),(),(),(),(R:Int)+(k:Int),()),((g.cN,g.aO,g.rows,g.aW,()),(s.cc,s.map,()),((0:Int),(),()),(s.cc,(),()),(g.cN,g.aO,(R:Int),g.aW,()),([]:aa Int),s.map,())))
   (λz=>(∃i:Int,z = .inl (((),true,()),((s.cc,(),()),s.map.set (b*R+r) i,()))/\(R:Int)<=i/\i<=g.rows-1/\∀k,k<R->s.map.getD (b*R+k) 0≠i)\/z = .inr (.inl (((),(),()),(((0:Int),(),()),(s.cc,(),()),([]:aa Int),s.map,())))) bC (x:=(((b:Int),(r:Int),(),(),(),(),(),(R:Int),()),((g.cN,g.aO,g.rows,g.aW,()),(s.cc,s.map,()),((0:Int),(),()),(s.cc,(),()),(g.cN,g.aO,(R:Int),g.aW,()),([]:aa Int),s.map,()))) (by rw[eM,Int.add_zero]) (by
   rintro k hk x rfl;unfold LU aM bU xG xL;dsimp only;rw[uI,bf (show (R:Int)+(k:Int)<g.rows by omega),av];rw[show (⟨s.cc,s.map⟩:gv)=s from rfl,aww h hb,az];by_cases D:jP (λe=>e==(R:Int)+(k:Int)) (iC s.map R b)<0
   ·rw[bf D,av,Ff,R0,aP ⟨by omega,by omega⟩,aP]
    refine .inr ⟨_,rfl,.inl ⟨(R:Int)+(k:Int),?_,by omega,by omega,λj hj e=>?_⟩⟩
    ·simp only[bD]
    ·have E:=(ahD (λe=>e==(R:Int)+(k:Int)) (iC s.map R b)).1;rw[bf D]at E;have O:(iC s.map R b).any (λe=>e==(R:Int)+(k:Int))=false:=by
      cases hq:(iC s.map R b).any (λe=>e==(R:Int)+(k:Int))with
      |false=>rfl
      |true=>rw[hq]at E;cases E
     rw[jV]at O;have kJ:s.map.getD (b*R+j) 0∈iC s.map R b:=List.mem_iff_getElem?.2 ⟨j,Mw hj I⟩;exact O _ kJ (by rw[e];exact gu _)
   ·rw[bz D,ax,bh (n:=(R:Int)+(k:Int)+1)];exact .inl ⟨_,rfl,by rw[Int.natCast_add,Int.natCast_one,Int.add_assoc]⟩) (by
   rintro x rfl;unfold LU aM bU xG xL;dsimp only;rw[bz (show ¬ (R:Int)+(n:Int)<g.rows by omega),ax];exact⟨_,rfl,.inr rfl⟩) (cM)
  rw[e,az];rcases hz with ⟨i,rfl,i1,i2,T⟩|rfl
  ·exact⟨_,true,rfl,h.set hb hr i1 i2 T,rfl,λ_=>⟨rfl,i,rfl,T⟩⟩
  ·exact⟨_,false,rfl,h,rfl,λh=>by cases h⟩
structure Ib (g:aK) (b f q:Int) (n:Nat) (l l':List cw):Prop where
 cl:l'.length=l.length
 co:∀i,(∀k:Nat,k<n->i≠eI g ⟨b,q,(k:Int)⟩)->l'[i]?=l[i]?
 cn:∀k:Nat,k<n->l'[eI g ⟨b,q,(k:Int)⟩]?=l[eI g ⟨b,f,(k:Int)⟩]?
def Ib.step{g:aK}{b f q:Int}{n:Nat}{l C:aa cw}(h:Ib g b f q n l C)(I:f≠q)(D:∀ k:Nat,k<=n->ef g ⟨b,q,(k:Int)⟩=true/\ef g ⟨b,f,(k:Int)⟩=true)(O:eI g ⟨b,q,(n:Int)⟩<C.length)(T:eI g ⟨b,f,(n:Int)⟩<C.length):Ib g b f q (n+1) l (C.set (eI g ⟨b,q,(n:Int)⟩) C[eI g ⟨b,f,(n:Int)⟩]):=by
 have E:=D n (dg _)
 refine⟨by rw[jg];exact h.cl,λi hi=>?_,λk U=>?_⟩
 ·rw[List.getElem?_set_ne (λe=>hi n (by omega) e.symm)];exact h.co i λk U=>hi k (by omega)
 ·by_cases e:k=n
  ·subst e;rw[List.getElem?_set_self O,<-bL T]
   refine h.co _ λm Z e=>I ?_
   have:=Rd E.2 (D m (by omega)).1 e;simp only[aN.mk.injEq]at this;exact this.2.1
  ·rw[List.getElem?_set_ne (λY=>e (by
    have:=Rd E.1 (D k (by omega)).1 Y;simp only[aN.mk.injEq]at this;omega))]
   exact h.cn k (by omega)
end Go.Proofs.YthmgjjfedieljaaGreat
