/-
  Plain laws. Nothing here is a claim.
-/
import Derived.Test.YtgjfmljpdnnihaaGreatVZ
import Derived.Test.YtgjfmljpdnnihaaGreatOpenV
import Derived.Test.YtgjfmljpdnnihaaGreatG1
import Derived.Test.YtgjfmljpdnnihaaGreatG2
import Derived.Test.YtgjfmljpdnnihaaGreatG3
import Derived.Test.YtgjfmljpdnnihaaGreatG4
import Derived.Test.YtgjfmljpdnnihaaGreatG5
import Derived.Test.YtgjfmljpdnnihaaGreatGX
namespace Go.Proofs.YtgjfmljpdnnihaaGreat
set_option linter.defProp false
open Go.RowKit
set_option linter.unusedVariables false
set_option linter.unusedSimpArgs false
set_option maxRecDepth 100000
def bf{n:Int}(C:-9223372036854775808<=n:=by omega)(D:n<9223372036854775808:=by omega):W6 n=n:=by
 exact(IntKind.wrap_i64 n).trans (by omega)
def T5{α β:Type}{step:α -> ah (α⊕β)}(I:α -> Prop)(m:α -> Nat)(Q:β -> Prop)
  (h:∀x,I x -> (∃y,step x=some (.inl y)/\I y/\m y<m x) \/ ∃z,step x=some (.inr z)/\Q z):
  ∀(n:Nat) (x:α),I x -> m x<n -> ∃z,iter step n x=some z/\Q z
 |0,x,_,E=>by omega
 | n+1,x,O,E=>by
  unfold iter;rcases h x O with ⟨y,C,D,T⟩|⟨z,C,D⟩
  ·rw[C];exact T5 I m Q h n y D (by omega)
  ·simp_all
def ax{α β:Type}(x:α)(f:α->ah β):(some x).bind f=f x:=rfl
def jR{α β T:Type}{step:α -> ah (α⊕β)}(l:aa T)(q:T -> Bool)(S:Nat -> α)(D z:β)(fuel:Nat)(I:∀ k (h:k<l.length),step (S k)=some (bif q l[k]then .inl (S (k+1))else .inr D))(O:step (S l.length)=some (.inr z))(C:l.length<fuel):
  iter step fuel (S 0)=some (bif l.all q then z else D):=by
 have key:∀ (n i fuel:Nat),i+n=l.length -> n<fuel -> iter step fuel (S i)=some (bif (l.drop i).all q then z else D):=by
  intro n
  induction n with
  | zero=>
   intro i fuel hi C
   match fuel,C with
   | f+1,_=>
    have:i=l.length:=by omega
    subst this;unfold iter;simp_all
  | succ n U=>
   intro i fuel hi C
   match fuel,C with
   | f+1,C=>
    have E:i<l.length:=by omega
    unfold iter;rw[I i E,List.drop_eq_getElem_cons E,List.all_cons];cases q l[i]with
    |true=>grind
    |false=>rfl
 exact key l.length 0 fuel (by omega) C
def eF{α β:Type}{step:α -> ah (α⊕β)}(n:Nat)(S:Nat -> α)(z:β)(fuel:Nat)(E:∀ k,k<n -> step (S k)=some (.inl (S (k+1))))(D:step (S n)=some (.inr z))(C:n<fuel):iter step fuel (S 0)=some z:=by
 have key:∀ (m i fuel),i+m=n -> m<fuel -> iter step fuel (S i)=some z:=by
  intro m
  induction m with
  | zero=>
   intro i fuel hi C
   match fuel,C with
   | f+1,_=>
    have:i=n:=by omega
    subst this;unfold iter;rw[D]
  | succ m I=>
   intro i fuel hi C
   match fuel,C with
   | f+1,C=>
    unfold iter
    grind
 simp_all
def ao3{α β:Type}{step:α -> ah (α⊕β)}(n:Nat)(I:Nat -> α -> Prop)(Q:β -> Prop){x:α}(fuel:Nat)(Y:I 0 x)(E:∀ k,k<n -> ∀ x,I k x -> ∃ y,step x=some (.inl y)/\I (k+1) y)(O:∀ x,I n x -> ∃ z,step x=some (.inr z)/\Q z)(C:n<fuel):∃ z,iter step fuel x=some z/\Q z:=by
 have key:∀ (m i fuel:Nat) (x:α),i+m=n -> m<fuel -> I i x -> ∃ z,iter step fuel x=some z/\Q z:=by
  intro m
  induction m with
  | zero=>
   intro i fuel x hi C D
   match fuel,C with
   | f+1,_=>
    have:i=n:=by omega
    subst this;have⟨z,T,U⟩:=O x D;unfold iter;simp_all
  | succ m Z=>
   intro i fuel x hi C D
   match fuel,C with
   | f+1,C=>
    have⟨y,T,U⟩:=E i (by omega) x D;unfold iter
    grind
 grind
def adt{α β:Type}{step:α -> ah (α⊕β)}(n:Nat)(I:Nat -> α -> Prop)(Q:β -> Prop){x:α}(fuel:Nat)(E:I 0 x)(T:∀ k,k<n -> ∀ x,I k x -> (∃ y,step x=some (.inl y)/\I (k+1) y) \/ ∃ z,step x=some (.inr z)/\Q z)(O:∀ x,I n x -> ∃ z,step x=some (.inr z)/\Q z)(C:n<fuel):∃ z,iter step fuel x=some z/\Q z:=by
 have key:∀ (m i fuel:Nat) (x:α),i+m=n -> m<fuel -> I i x -> ∃ z,iter step fuel x=some z/\Q z:=by
  intro m
  induction m with
  | zero=>
   intro i fuel x hi C D
   match fuel,C with
   | f+1,_=>
    have:i=n:=by omega
    subst this;have⟨z,U,Y⟩:=O x D;unfold iter;simp_all
  | succ m Z=>
   intro i fuel x hi C D
   match fuel,C with
   | f+1,C=>
    unfold iter
    grind
 exact key n 0 fuel x (by omega) C E
def upto{α:Type}(f:α->α)(l:aa α)(i:Nat):aa α:=(l.take i).map f++l.drop i
def Nz{α:Type}(f:α->α)(l:aa α)(i:Nat):(upto f l i).length=l.length:=by
 simp[upto];omega
def adu{α:Type}(f:α->α)(l:aa α):upto f l 0=l:=by simp[upto]
def T6{α:Type}(f:α->α)(l:aa α):upto f l l.length=l.map f:=by simp[upto]
def T7{α:Type}(f:α -> α)(l:aa α)(i:Nat)(h:i<l.length)(C:i<(upto f l i).length):(upto f l i)[i]=l[i]:=by
 simp[upto]
 grind
def T8{α:Type}(f:α -> α)(l:aa α)(i:Nat)(h:i<l.length):(upto f l i).set i (f l[i])=upto f l (i+1):=by
 have C:min i l.length=i:=by omega
 have e:=List.drop_eq_getElem_cons h;simp only[upto];rw[List.set_append_right _ _ (by simp;omega),e,List.take_succ_eq_append_getElem h];simp only[List.map_append,List.map_cons,List.map_nil,eT,kL,C,Nat.sub_self,List.set_cons_zero,List.append_assoc,List.cons_append,List.nil_append]
def jS{x y:Int}(h:¬ x=y):(x==y)=false:=by simp[h]
def gv{x y:Int}(h:¬ x=y):(x != y)=true:=by simp[h]
def eO{n:Nat}(h:n<1073741824:=by omega):bV n=true:=aY h
def bY{i:Nat}(h:i<4611686018427387904:=by omega):W6 ((i:Int)+1)=((i+1:Nat):Int):=by
 rw[bf];simp
def cv{n:Nat}(h:n<1073741824:=by omega):n<bk:=by unfold bk;omega
def aT(x a b:Int):Bool:=decide (a<=x)&&decide (x<=b)
def br{x a b:Int}:aT x a b=true ↔ a<=x/\x<=b:=by simp[aT]
def c9(x a b:Int):bU x a b=some (aT x a b):=by
 unfold bU aT;by_cases h:a<=x<;>simp[h]
def ao4(x a b:Int):Eb x a b=some (aT x a b):=c9 x a b
def cx(g:aH):Bool:=aT g.bM 1 2&&aT g.aE 1 4&&aT g.rows 2 16&&aT g.aR 1 8
def qp(g:aH):ni g=some (cx g):=by
 unfold ni cx;simp[c9]
 grind
def adw(g:aH):Hp g=some (cx g):=by
 unfold Hp cx;simp[ao4]
 grind
def fY{g:aH}(h:cx g=true):1<=g.bM/\g.bM<=2/\1<=g.aE/\g.aE<=4/\2<=g.rows/\g.rows<=16/\1<=g.aR/\g.aR<=8:=by
 simp only[cx,aT,aK,fq]at h;omega
def aL(g:aH):Int:=bif cx g then g.bM*g.aE else 0
def eG(g:aH):0 <= aL g/\aL g <= 8:=by
 unfold aL;cases h:cx g with
 |false=>simp
 | true=>
  have⟨C,D,E,I,_⟩:=fY h;simp;rcases(by omega:g.bM=1 \/ g.bM=2)with e|e<;>rw[e]<;>omega
def I0{g:aH}(h:cx g=true):1 <= aL g:=by
 have⟨C,D,E,I,_⟩:=fY h;simp[aL,h,aq];rcases(by omega:g.bM=1 \/ g.bM=2)with e|e<;>rw[e]<;>omega
def jl(g:aH):jB g=some (aL g):=by
 have C:=eG g;unfold jB;rw[qp,ax];unfold aL at C ⊢;cases h:cx g with
 |false=>rfl
 | true=>
  rw[h]at C;simp at C;simp;rw[bf]
def T9(g:aH):Ec g=some (aL g):=by
 have C:=eG g;unfold Ec;rw[adw,ax];unfold aL at C ⊢;cases h:cx g with
 |false=>rfl
 | true=>
  rw[h]at C;simp at C;simp;rw[bf]
def fF(g:aH):Int:=bif cx g then aL g*g.rows else 0
def eA(g:aH):Int:=bif cx g then aL g*g.rows*g.aR else 0
def Ua{a b A B:Int}(D:0<=a)(E:a<=A)(C:0<=b)(I:b<=B):0<=a*b/\a*b<=A*B:=
 ⟨Int.mul_nonneg D C,Int.le_trans (Int.mul_le_mul_of_nonneg_right E C) (Int.mul_le_mul_of_nonneg_left I (by omega))⟩
def s9(g:aH):0 <= fF g/\fF g <= 128:=by
 unfold fF;cases h:cx g with
 |false=>simp
 | true=>
  have⟨_,_,_,_,D,C,_⟩:=fY h;have:=eG g;exact Ua this.1 this.2 (by omega) C
def oV(g:aH):0 <= eA g/\eA g <= 1024:=by
 have C:=s9 g;unfold eA fF at *
 cases h:cx g with
 |false=>simp
 | true=>
  rw[h]at C;have⟨_,_,_,_,E,I,O,D⟩:=fY h;exact Ua C.1 C.2 (by omega) D
def AD(g:aH):sW g=some (eA g):=by
 have C:=oV g;have D:=s9 g;unfold sW;rw[jl,ax];unfold eA fF at *
 cases h:cx g with
 |false=>simp only[aL,h,av,Int.zero_mul];rw[show W6 0=0 from rfl,Int.zero_mul];rfl
 | true=>
  rw[h]at C D;simp only[aq]at C D;simp only[aq];rw[bf (n:=aL g*g.rows),bf]
def ao5(g:aH):LY g=some (eA g):=by
 have C:=oV g;have D:=s9 g;unfold LY;rw[adw,ax,T9,ax];unfold eA fF at *
 cases h:cx g with
 |false=>rfl
 | true=>
  rw[h]at C D;simp at C D;simp;rw[bf (n:=aL g*g.rows),bf]
def fM(g:aH)(a:aP):Bool:=cx g&&aT a.ay 0 (aL g-1)&&aT a.row 0 (g.rows-1)&&aT a.bZ 0 (g.aR-1)
def uK{g:aH}{a:aP}(h:fM g a=true):cx g=true/\0 <= a.ay/\a.ay<aL g/\0 <= a.row/\a.row<g.rows/\0 <= a.bZ/\a.bZ<g.aR:=by
 simp[fM,aT,aK,fq]at h
 grind
def AE{g:aH}{a:aP}(h:cx g=true)(C:0 <= a.ay)(D:a.ay<aL g)(E:0 <= a.row)(I:a.row<g.rows)(O:0 <= a.bZ)(T:a.bZ<g.aR):fM g a=true:=by
 simp[fM,aT,aK,fq]
 grind
def Ub(g:aH)(a:aP):Co g a=some (fM g a):=by
 unfold Co fM;simp[qp,jl,c9,ax];have C:=eG g;cases h:cx g with
 |false=>rfl
 | true=>
  have⟨_,_,_,_,D,E,I,O⟩:=fY h;rw[bf,bf,bf]
  grind
def CG{b n r R:Int}(C:0 <= b)(D:b<n)(E:0 <= r)(I:r<R):0 <= b*R/\0 <= b*R+r/\b*R+r<n*R:=by
 have O:0 <= b*R:=Int.mul_nonneg C (by omega);have T:(b+1)*R <= n*R:=Int.mul_le_mul_of_nonneg_right (by omega) (by omega)
 grind
def uL(g:aH)(a:aP):Int:=bif fM g a then (a.ay*g.rows+a.row)*g.aR+a.bZ else -1
def adx{g:aH}{a:aP}(h:fM g a=true):0 <= uL g a/\uL g a<eA g/\0 <= a.ay*g.rows/\0 <= a.ay*g.rows+a.row/\a.ay*g.rows+a.row<fF g/\0 <= (a.ay*g.rows+a.row)*g.aR:=by
 have⟨C,D,E,I,O,T,U⟩:=uK h;have⟨r0,Y,Z⟩:=CG D E I O;have⟨l0,l1,l2⟩:=CG Y Z T U;simp[uL,h,eA,fF,C,aq];omega
def Uc(g:aH)(a:aP):Is g a=some (uL g a):=by
 unfold Is;rw[Ub,ax];cases h:fM g a with
 |false=>simp[uL,h]
 | true=>
  have C:=adx h;have E:=oV g;have I:=s9 g;have⟨D,O,T,U,Y,Z,b6⟩:=uK h;have⟨_,_,_,_,g5,g6,g7,g8⟩:=fY D;simp only[uL,h,aq]at C ⊢;simp only[bL,av];rw[bf (n:=a.ay*g.rows),bf (n:=a.ay*g.rows+a.row),bf (n:=(a.ay*g.rows+a.row)*g.aR),bf]
def I1{α β:Type}{step:α -> ah (α⊕β)}(S:Nat -> α){z:β}:∀ (n i fuel:Nat),(∀ k,i <= k -> k<i+n -> step (S k)=some (.inl (S (k+1)))) -> step (S (i+n))=some (.inr z) -> n<fuel -> iter step fuel (S i)=some z
 | 0,i,fuel,_,C,D=>by
  match fuel,D with
  |f+1,_=>unfold iter;rw[Nat.add_zero]at C;rw[C]
 | n+1,i,fuel,E,C,D=>by
  match fuel,D with
  | f+1,D=>
   unfold iter;rw[E i (dH _) (by omega)];exact I1 S n _ f (λk I O=>E k (by omega) (by omega)) (by rw[show i+1+n=i+(n+1) by omega];exact C) (by omega)
def AF{i:Nat}(h:i<4611686018427387904:=by omega):W6 ((i:Int)+1)=((i+1:Nat):Int):=by
 rw[bf];simp
def ady(y:Int):0 <= bits .and .i64 y 255/\bits .and .i64 y 255 <= 255:=by
 have e:bits .and .i64 y 255=IntKind.wrap .i64 ((BitVec.ofInt 64 y &&& BitVec.ofInt 64 255).toNat):=rfl;have h:(BitVec.ofInt 64 y &&& BitVec.ofInt 64 255).toNat <= 255:=by
  exact Nat.le_trans Nat.and_le_right (by decide)
 rw[e,IntKind.wrap_i64];omega
structure jT (b:List Int) (c:bw):Prop where
 eq:c.b=b
 lo:0<=c.i
 hi:c.i<=b.length
 len:b.length<=1073741823
def jT.eta{b:aa Int}{c:bw}(h:jT b c):(⟨b,c.i,c.h⟩:bw)=c:=by
 have⟨C,i,D⟩:=c;have:=h.eq;simp_all
def Dr{α:Type}(b:aa Int)(f:ah (α×(bw×aj)))(P:α->Prop):Prop:=∃x c,f=some (x,(c,()))/\jT b c/\P x
def Dr.bind{α β:Type}{b:aa Int}{f:ah (α×(bw×aj))}{g:α×(bw×aj) -> ah (β×(bw×aj))}{P:α -> Prop}{Q:β -> Prop}(h:Dr b f P)(C:∀ x c,P x -> jT b c -> Dr b (g (x,(c,()))) Q):Dr b (f.bind g) Q:=by
 have⟨x,c,D,E,I⟩:=h;simp_all
def Dr.pure{α:Type}{b:aa Int}{x:α}{c:bw}{P:α->Prop}(C:jT b c)(D:P x):Dr b (some (x,(c,()))) P:=⟨x,c,rfl,C,D⟩
def adz(l:aa Int)(h:l.length<=1073741823):∃ y,Cb l=some y:=by
 unfold Cb bR;obtain⟨z,C,I⟩:=T5 (step:=Hj)
  (λx=>∃(i:Nat) (y:Int),x=(((),y,(i:Int),()),(l,()))/\i<=l.length)
  (λx=>l.length-x.1.2.2.1.toNat) (λz=>∃ y,(Sum.elim (λO:((aj×Int×aj)×((aa Int)×aj))=>some O.1.2.1) (λz=>nomatch z)) z=some y) (by
   rintro x ⟨i,y,rfl,hi⟩;unfold Hj aM xG xI;dsimp only;by_cases D:i<l.length
   ·have E:decide ((i:Int)<(l.length:Int))=true:=by simpa using D
    have T:0<=(i:Int)/\(i:Int).toNat<l.length:=⟨by omega,by simpa using D⟩
    rw[E,aq];cases U:decide ((i:Int)<4000)with
    | true=>
     rw[aq,aO T];left;refine⟨_,rfl,⟨i+1,_,by rw[AF],by omega⟩,?_⟩;dsimp only;rw[AF];omega
    | false=>
     rw[av];right;exact⟨_,rfl,_,rfl⟩
   ·have E:decide ((i:Int)<(l.length:Int))=false:=by simpa using D
    rw[E,av];right;exact⟨_,rfl,_,rfl⟩)
  bk (((),(W6 ((97301:Int)+(l.length:Int))),((0:Nat):Int),()),(l,())) ⟨0,_,rfl,by omega⟩ (by dsimp only;unfold bk;omega)
 have C:iter Hj bk (((),(W6 ((97301:Int)+(l.length:Int))),(0:Int),()),(l,()))=some z:=C;rw[C];exact I
def adA(l:aa Int)(y:Int)(h:l.length<=1073741823):jT l ⟨l,0,y⟩:=⟨rfl,gz _,by simp,h⟩
def I2{b:aa Int}{c:bw}(C:jT b c):Dr b (Ah c) λx=>0<=x/\x<=255:=by
 have D:=C.eq;have I:=C.lo;have T:=C.hi;have O:=C.len;unfold Ah xI;by_cases h:c.i<(c.b.length:Int)
 ·have E:decide (c.i<(c.b.length:Int))=true:=by simpa using h
  rw[E,aq,aO ⟨I,by omega⟩];refine Dr.pure ⟨D,?_,?_,O⟩ (ady _)
  ·show 0<=W6 (c.i+1);rw[D]at h;rw[bf];omega
  ·show W6 (c.i+1)<=_;rw[D]at h;rw[bf];omega
 ·have E:decide (c.i<(c.b.length:Int))=false:=by simpa using h
  rw[E,av];exact Dr.pure ⟨D,I,T,O⟩ (ady _)
def Ud{x n:Int}(h:0<=x)(C:0<n):0<=x.tmod n/\x.tmod n<n:=by
 rw[rS h];exact⟨Int.emod_nonneg _ (by omega),Int.emod_lt_of_pos _ C⟩
def eX{b:aa Int}{c:bw}(C:jT b c)(n:Int):Dr b (eN c n) λx=>0 <= x/\(n <= 0 -> x=0)/\(0<n -> x<n):=by
 unfold eN;by_cases U:n <= 0
 ·have O:decide (n <= 0)=true:=by simpa using U
  rw[O];exact Dr.pure C ⟨gz _,λ_=>rfl,λh=>by omega⟩
 ·have O:decide (n <= 0)=false:=by simpa using U
  have Y:¬ n=0:=by omega
  rw[O];by_cases Z:n <= 256
  ·have T:decide (n <= 256)=true:=by simpa using Z
   rw[T,aq]
   refine(I2 C).bind λx c' hx NA=>?_
   rw[aX Y];rw[C.eq,NA.eta];have:=Ud hx.1 (show 0<n by omega);exact Dr.pure NA ⟨this.1,λh=>by omega,λ_=>this.2⟩
  ·have T:decide (n <= 256)=false:=by simpa using Z
   rw[T,av,C.eq]
   refine(I2 C).bind λD k1 Gq zY=>?_
   dsimp only;rw[zY.eta]
   refine(I2 zY).bind λE k2 J4 rB=>?_
   dsimp only;rw[rB.eta]
   refine(I2 rB).bind λI k3 ZY sO=>?_
   dsimp only;rw[sO.eta]
   refine(I2 sO).bind λx4 k4 hx4 sP=>?_
   rw[aX Y];dsimp only;rw[sP.eta];rw[bf (n:=D*16777216),bf (n:=E*65536),bf (n:=D*16777216+E*65536),bf (n:=I*256),bf (n:=D*16777216+E*65536+I*256),bf (n:=D*16777216+E*65536+I*256+x4)];have:=Ud (x:=D*16777216+E*65536+I*256+x4) (by omega) (show 0<n by omega);exact Dr.pure sP ⟨this.1,λh=>by omega,λ_=>this.2⟩
def ao6(l:aa Int)(h:l.length<=1073741823):∃ y,Mf l=some y/\y.length=12/\∀ x∈y,0<=x/\x<10000:=by
 unfold Mf bR;obtain⟨C,U⟩:=adz l h;rw[U];obtain⟨z,D,Y⟩:=T5 (step:=Hu)
  (λx=>∃(i:Nat) (c:bw) (y:aa Int),x=(((),(),(i:Int),()),((l,c.i,c.h,()),y,()))/\i<=12/\jT l c/\y.length=i/\∀x∈y,0<=x/\x<10000)
  (λx=>12-x.1.2.2.1.toNat) (λz=>∃ y,(Sum.elim (λZ:((aj×aj)×((aa Int)×aj))=>some Z.2.1) (λz=>nomatch z)) z=some y/\y.length=12/\∀ x∈y,0<=x/\x<10000) (by
   rintro x ⟨i,c,y,rfl,hi,O,hy,T⟩;unfold Hu aM xG;dsimp only;by_cases h':i<12
   ·have E:decide ((i:Int)<(12:Int))=true:=aY;rw[E,aq,O.eta];left;obtain⟨x,I,e1,NA,G9,_,Gq⟩:=eX O 10000;rw[e1];have ho:bV (y.length+([x]:aa Int).length)=true:=by
     unfold bV;simp;omega
    refine⟨(((),(),W6 ((i:Int)+1),()),((l,I.i,I.h,()),(y++[x]),())),?_,⟨i+1,I,y++[x],by rw[AF],by omega,NA,by simp[hy],λu hu=>?_⟩,?_⟩
    ·show (bif bV (y.length+([x]:aa Int).length)then _ else none)=_;rw[ho];rfl
    ·rcases lz.1 hu with hu | hu
     ·exact T u hu
     ·rw[gL.1 hu];exact⟨G9,Gq (by omega)⟩
    ·dsimp only;rw[AF];omega
   ·have E:decide ((i:Int)<(12:Int))=false:=bq;rw[E,av];right;exact⟨_,rfl,y,rfl,by omega,T⟩)
  bk (((),(),((0:Nat):Int),()),((l,0,C,()),([]:aa Int),())) ⟨0,⟨l,0,C⟩,[],rfl,by omega,adA l C h,rfl,by simp⟩ (by dsimp only;unfold bk;omega)
 have D:iter Hu bk (((),(),(0:Int),()),((l,(0:Int),C,()),([]:aa Int),()))=some z:=D;rw[ax,D];exact Y
def ao7(x a b:Int):bU x a b=some (decide (a <= x)&&decide (x <= b)):=by
 unfold bU
 grind
def ao8{x a b:Int}(h:a<=x)(C:x<=b):bU x a b=some true:=by
 rw[ao7,aY h,aY C];rfl
def opens:Nat->aa dQ->aa Int
 |_,[]=>[]
 |i,b::bs=>bif b.open_ then (i:Int)::opens (i+1) bs else opens (i+1) bs
def adB(i:Nat)(a b:aa dQ):opens i (a++b)=opens i a++opens (i+a.length) b:=by
 induction a generalizing i with
 |nil=>simp[opens]
 | cons x a C=>
  simp[List.cons_append,opens]
  grind
def adC(i:Nat)(l:aa dQ):(opens i l).length <= l.length:=by
 induction l generalizing i with
 |nil=>simp[opens]
 | cons x a C=>
  have:=C (i+1);simp[opens]
  grind
def uM{α:Type}{l:aa α}{i:Nat}(h:i<l.length):l.take (i+1)=l.take i++[l[i]]:=by
 rw[List.take_succ_eq_append_getElem h]
def NB(r:bJ)(h:r.aE.length<1073741823):As r=some (opens 0 r.aE):=by
 unfold As bR;have e:=I1 (step:=Ew) (λi=>(((),r.aE,(r.aE.length:Int),(i:Int),()),(opens 0 (r.aE.take i),()))) (z:=.inl (((),()),(opens 0 r.aE,()))) r.aE.length 0 bk (λk _ C=>?_) ?_ (by unfold bk;omega)
 ·have e:iter Ew bk (((),r.aE,r.aE.length,0,()),(([]),()))=_:=e;simp_all
 ·have C:k<r.aE.length:=by omega
  unfold Ew aM xG xI;dsimp only;have D:decide ((k:Int)<(r.aE.length:Int))=true:=aY;have E:0 <= (k:Int)/\(k:Int).toNat<r.aE.length:=⟨by omega,by simpa using C⟩
  have I:=adC 0 (r.aE.take k);rw[kL]at I;have O:bV ((opens 0 (r.aE.take k)).length+([(k:Int)]:aa Int).length)=true:=by
   unfold bV;simp;omega
  rw[D,aq,aO E,AF,uM C,adB];simp only[bE,opens,kL,fe,Nat.min_eq_left (Nat.le_of_lt C)];cases r.aE[k].open_ with
  |true=>grind
  |false=>grind
 ·rw[fe];unfold Ew aM xG xI;simp_all
def gmT:Nat:=116196760129267793630862849262464326346044543732748708940920453221664288556434379745879494961270582141731748813355742142288220638766218855867759359510984593843506004200114943278699875244065120512813025380665946106619127097398772031257643617143689515450995722003729973585221105779229319991106539050771048038400
def gm(a b:Nat):Nat:=(gmT / 2 ^ (4*(16*a+b))) % 16
def pwT:Nat:=44684875893970114885940500792407720993
def pw(n:Nat):Nat:=(pwT / 2 ^ (4*n)) % 16
def qq(f:Nat->Bool):Bool:=(List.range 16).all f
def mD{f:Nat->Bool}(h:qq f=true){a:Nat}(C:a<16):f a=true:=by
 have:=bS.1 h a (gq.2 C);exact this
def gJ(a b:Nat):gm a b<16:=Nat.mod_lt _ (by decide)
def adD(n:Nat):pw n<16:=Nat.mod_lt _ (by decide)
def ao9:(qq λa=>qq λb=>jk (Int.ofNat a) (Int.ofNat b)==some (Int.ofNat (gm a b)))=true:=by kernel_rfl
def apa:((List.range 31).all λn=>HF 2 (Int.ofNat n)==some (Int.ofNat (pw n)))=true:=by kernel_rfl
def adE:(qq λa=>qq λb=>decide (bits .xor .i64 (Int.ofNat a) (Int.ofNat b)=Int.ofNat (a ^^^ b))&&Nat.blt (a ^^^ b) 16)=true:=by kernel_rfl
def apb:(qq λa=>Nat.beq (gm a 1) a&&Nat.beq (gm 0 a) 0)=true:=by kernel_rfl
def apc:(qq λC=>qq λs1=>qq λs2=>
  (λy z=>(λx=>Nat.beq (gm x 1 ^^^ (gm y 1 ^^^ (gm z 1 ^^^ C))) 0&&Nat.beq (gm x 1 ^^^ (gm y 2 ^^^ (gm z 4 ^^^ s1))) 0&&Nat.beq (gm x 1 ^^^ (gm y 4 ^^^ (gm z 3 ^^^ s2))) 0) (C ^^^ y ^^^ z))
   (gm (gm 2 (C ^^^ s1) ^^^ gm 5 (C ^^^ s2)) 13) (gm (gm 3 (C ^^^ s2) ^^^ gm 5 (C ^^^ s1)) 13))=true:=by kernel_rfl
def apd:Cj 4=some 13:=by kernel_rfl
def CH{a b:Nat}(C:a<16)(D:b<16):jk (a:Int) (b:Int)=some (gm a b:Int):=by
 have h:=mD (mD ao9 C) D;exact eq_of_beq h
def ape{n:Nat}(h:n<31):HF 2 (n:Int)=some (pw n:Int):=eq_of_beq (bS.1 apa n (gq.2 h))
def vY{a b:Nat}(C:a<16)(D:b<16):bits .xor .i64 (a:Int) (b:Int)=((a ^^^ b:Nat):Int):=by
 have h:=mD (mD adE C) D;simp_all
def mE{a b:Nat}(C:a<16)(D:b<16):a ^^^ b<16:=by
 have h:=mD (mD adE C) D;simp_all
def apf{a:Nat}(C:a<16):gm 0 a=0:=by
 have h:=mD apb C;rw[aK]at h;exact cH h.2
abbrev cE (w:aa Nat):aa Int:=w.map λ(n:Nat)=>(n:Int)
def jU(w:aa Nat):Prop:=∀x∈w,x<16
def vZ(w:aa Nat):(cE w).length=w.length:=by simp[cE]
def Ue{w:aa Nat}{k:Nat}(h:k<(cE w).length):(cE w)[k]=((w.getD k 0:Nat):Int):=by grind
def jU.get{w:aa Nat}(h:jU w)(k:Nat):w.getD k 0<16:=by
 by_cases C:k<w.length
 ·simp[cL,bK C];exact h _ (dc C)
 ·simp_all
def Uf{w:aa Nat}(E:jU w)(T:w.length<1000)(n:Int):vS (cE w) n=some ((w.length:Int)==n):=by
 unfold vS cZ;have e:=I1 (step:=Al) (λi=>((cE w,n,cE w,((cE w).length),i,()),())) (z:=.inr (.inl ((cE w,n,()),()))) w.length 0 bk (λk _ C=>?_) ?_ (by unfold bk;omega)
 ·simp_all
 ·have C:k<(cE w).length:=by rw[vZ];omega
  unfold Al aM bG xG xI;dsimp only;have I:decide ((k:Int)<((cE w).length:Int))=true:=aY;have D:0 <= (k:Int)/\(k:Int).toNat<(cE w).length:=⟨by omega,by simpa using C⟩
  rw[I,aq,aO D];have O:(cE w)[(k:Int).toNat]'D.2=((w.getD k 0:Nat):Int):=Ue C;rw[O];have:=E.get k;unfold Ch;rw[ao8 (by omega) (by omega),ax,ax,AF];rfl
 ·unfold Al aM bG xG xI;simp_all
def dU(w:aa Nat)(j:Nat):Nat->Nat
 |0=>0
 |i+1=>dU w j i ^^^ gm (w.getD i 0) (pw (i*j))
def yA(w:aa Nat)(j:Nat):∀ i,dU w j i<16
 |0=>Nat.zero_lt_succ _
 |i+1=>mE (yA w j i) (gJ _ _)
def apg{w:aa Nat}(O:jU w)(hl:w.length=11)(j:Nat)(hj:j<3)(a b:Int)(o:aa Int)(T:j<o.length)(U:o.set j 0=o):
  iter Ci bk ((cE w,(),(j:Int),a,b,cE w,((cE w).length:Int),(0:Int),()),(o,()))=some (.inl ((cE w,(),a,b,()),(o.set j (dU w j 11:Int),()))):=by
 have e:=I1 (step:=Ci) (λi=>((cE w,(),(j:Int),a,b,cE w,((cE w).length:Int),(i:Int),()),(o.set j (dU w j i:Int),()))) (z:=.inl ((cE w,(),a,b,()),(o.set j (dU w j 11:Int),()))) 11 0 bk (λk _ D=>?_) ?_ (by unfold bk;omega)
 ·have e:iter Ci bk ((cE w,(),(j:Int),a,b,cE w,((cE w).length:Int),(0:Int),()),(o.set j 0,()))=_:=e;rw[U]at e;exact e
 ·have D:k<(cE w).length:=by rw[vZ];omega
  unfold Ci aM xG xI xL;dsimp only;have E:decide ((k:Int)<((cE w).length:Int))=true:=aY;have I:0<=(k:Int)/\(k:Int).toNat<(cE w).length:=⟨by omega,by simpa using D⟩
  have C:0<=(j:Int)/\(j:Int).toNat<(o.set j (dU w j k:Int)).length:=⟨by omega,by simpa using T⟩
  have Y:(cE w)[(k:Int).toNat]'I.2=((w.getD k 0:Nat):Int):=Ue D;have Z:(o.set j (dU w j k:Int))[(j:Int).toNat]'C.2=(dU w j k:Int):=List.getElem_set_self _;rw[E,aq,aO I,aO C,aO C.2,Y,Z];have WQ:k*j<=20:=Nat.le_trans (Nat.mul_le_mul (show k<=10 by omega) (show j<=2 by omega)) (by decide);have c6:W6 ((k:Int)*(j:Int))=((k*j:Nat):Int):=by
   rw[<-Int.natCast_mul,bf]
  rw[c6,ape (by omega),ax,CH (O.get k) (adD _),ax,aO C,aO C.2,vY (yA _ _ _) (gJ _ _),AF];have c7:(o.set j (dU w j k:Int)).set (j:Int).toNat ((dU w j k ^^^ gm (w.getD k 0) (pw (k*j)):Nat):Int)=o.set j (dU w j (k+1):Int):=List.set_set ..;rw[c7]
 ·unfold Ci aM xG xI xL;dsimp only;have E:decide (((0+11:Nat):Int)<((cE w).length:Int))=false:=bq (by rw[vZ];omega);rw[E,av]
def ta(w:aa Nat):Nat->aa Int
 |0=>[0,0,0]
 |1=>[(dU w 0 11:Int),0,0]
 |2=>[(dU w 0 11:Int),(dU w 1 11:Int),0]
 |_=>[(dU w 0 11:Int),(dU w 1 11:Int),(dU w 2 11:Int)]
def Ug{w:aa Nat}(D:jU w)(E:w.length=11):Am (cE w)=some [(dU w 0 11:Int),(dU w 1 11:Int),(dU w 2 11:Int)]:=by
 unfold Am bR;have c0:((w.length:Int)==(11:Int))=true:=by rw[E];rfl
 rw[Uf D (by omega),c0,ax];have e:=I1 (step:=El) (λj=>((cE w,(),(3:Int),(j:Int),()),(ta w j,()))) (z:=.inl (((),()),(ta w 3,()))) 3 0 bk (λk _ O=>?_) ?_ (by unfold bk;omega)
 ·have e:iter El bk ((cE w,(),((List.replicate (3:Int).toNat (0:Int)).length:Int),(0:Int),()),(List.replicate (3:Int).toNat (0:Int),()))=_:=e;rw[show (!true)=false from rfl,av,aW (by decide),e];rfl
 ·unfold El aM xG bR;dsimp only;have I:decide ((k:Int)<(3:Int))=true:=aY;have C:ta w k=(ta w k).set k 0/\k<(ta w k).length/\(ta w k).set k (dU w k 11:Int)=ta w (k+1):=by
   have:k=0\/k=1\/k=2:=by omega
   rcases this with rfl|rfl|rfl
   ·exact⟨rfl,by simp[ta],rfl⟩
   ·exact⟨rfl,by simp[ta],rfl⟩
   ·exact⟨rfl,by simp[ta],rfl⟩
  rw[I,aq,apg D E k (by omega) (3:Int) (k:Int) (ta w k) C.2.1 C.1.symm,C.2.2];show some (Sum.inl ((cE w,(),(3:Int),W6 ((k:Int)+1),()),(ta w (k+1),())))=_;rw[AF]
 ·unfold El aM xG bR;dsimp only;rfl
def aph{w:aa Nat}(C:jU w)(D:w.length=11):M5 (cE w)=some (Nat.beq (dU w 0 11) 0&&(Nat.beq (dU w 1 11) 0&&Nat.beq (dU w 2 11) 0)):=by
 unfold M5 xL;rw[Ug C D,ax];generalize dU w 0 11=a;generalize dU w 1 11=b;generalize dU w 2 11=c;have q:∀ n:Nat,((n:Int)==(0:Int))=Nat.beq n 0:=by
  intro n;cases n with
  |zero=>rfl
  |succ n=>rfl
 show (bif ((a:Int)==(0:Int))then (bif ((b:Int)==(0:Int))then some ((c:Int)==(0:Int))else some false)else some false)=_
 grind
def api(C D E:Nat)(I:C<16)(O:D<16)(T:E<16):
  (λy z=>(λx=>(gm x 1 ^^^ (gm y 1 ^^^ (gm z 1 ^^^ C)))=0/\(gm x 1 ^^^ (gm y 2 ^^^ (gm z 4 ^^^ D)))=0/\(gm x 1 ^^^ (gm y 4 ^^^ (gm z 3 ^^^ E)))=0) (C ^^^ y ^^^ z))
   (gm (gm 2 (C ^^^ D) ^^^ gm 5 (C ^^^ E)) 13) (gm (gm 3 (C ^^^ E) ^^^ gm 5 (C ^^^ D)) 13):=by
 have h:=mD (mD (mD apc I) O) T;simp_all
def apj{d:aa Nat}(Z:jU d)(Y:d.length=8):∃ w,HG (cE d)=some (cE w)/\w.length=11/\jU w/\w.drop 3=d/\dU w 0 11=0/\dU w 1 11=0/\dU w 2 11=0:=by
 have hz:jU (0 :: 0 :: 0 :: d):=by
  intro x hx;simp only[gp]at hx;rcases hx with rfl|rfl|rfl|hx
  ·decide
  ·decide
  ·decide
  ·exact Z x hx
 have key:∀ j x y z,j<3->x<16->y<16->z<16->dU (x :: y :: z :: d) j 11=gm x (pw (0*j)) ^^^ (gm y (pw (1*j)) ^^^ (gm z (pw (2*j)) ^^^ dU (0 :: 0 :: 0 :: d) j 11)):=by
  intro j x y z hj hx hy hz;simp only[dU,List.getD_cons_zero,List.getD_cons_succ,Nat.xor_assoc,Nat.zero_xor,apf (adD _)]
 have e0:∀ C E I:Nat,C<16->E<16->I<16->Am (cE (0 :: 0 :: 0 :: d))=some [(C:Int),(E:Int),(I:Int)]->
   HG (cE d)=some (cE ((C ^^^ gm (gm 2 (C ^^^ E) ^^^ gm 5 (C ^^^ I)) 13 ^^^ gm (gm 3 (C ^^^ I) ^^^ gm 5 (C ^^^ E)) 13)::gm (gm 2 (C ^^^ E) ^^^ gm 5 (C ^^^ I)) 13::gm (gm 3 (C ^^^ I) ^^^ gm 5 (C ^^^ E)) 13::d)):=by
  intro C E I D T U hs;unfold HG xL;have c0:((d.length:Int)==(8:Int))=true:=by rw[Y];rfl
  have c1:bV ((List.replicate (3:Int).toNat (0:Int)).length+(cE d).length)=true:=by
   rw[vZ,Y];rfl
  rw[Uf Z (by omega),ax,c0,show (!true)=false from rfl,av,aW (by decide),c1,aq];have e1:Am (List.replicate (3:Int).toNat (0:Int)++cE d)=some [(C:Int),(E:Int),(I:Int)]:=hs;rw[e1,ax];show (Cj (4:Int)).bind (λmC=>(jk (2:Int) (bits .xor .i64 (C:Int) (E:Int))).bind λqj=>(jk (5:Int) (bits .xor .i64 (C:Int) (I:Int))).bind λoT=>(jk (bits .xor .i64 qj oT) mC).bind λvV=>(jk (3:Int) (bits .xor .i64 (C:Int) (I:Int))).bind λmB=>(jk (5:Int) (bits .xor .i64 (C:Int) (E:Int))).bind λuI=>(jk (bits .xor .i64 mB uI) mC).bind λAo=>some (bits .xor .i64 (bits .xor .i64 (C:Int) vV) Ao::vV::Ao::cE d))=_;have m2:∀b:Nat,b<16->jk (2:Int) (b:Int)=some (gm 2 b:Int):=λb O=>CH (a:=2) (by decide) O
  have m3:∀b:Nat,b<16->jk (3:Int) (b:Int)=some (gm 3 b:Int):=λb O=>CH (a:=3) (by decide) O
  have m5:∀b:Nat,b<16->jk (5:Int) (b:Int)=some (gm 5 b:Int):=λb O=>CH (a:=5) (by decide) O
  have m13:∀b:Nat,b<16->jk (b:Int) (13:Int)=some (gm b 13:Int):=λb O=>CH (b:=13) O (by decide)
  rw[apd,ax,vY D T,vY D U,m2 _ (mE D T),ax,m5 _ (mE D U),ax,vY (gJ _ _) (gJ _ _),m13 _ (mE (gJ _ _) (gJ _ _)),ax,m3 _ (mE D U),ax,m5 _ (mE D T),ax,vY (gJ _ _) (gJ _ _),m13 _ (mE (gJ _ _) (gJ _ _)),ax,vY D (gJ _ _),vY (mE D (gJ _ _)) (gJ _ _)];rfl
 have D:=yA (0::0::0::d) 0 11;have T:=yA (0::0::0::d) 1 11;have U:=yA (0::0::0::d) 2 11;have e1:=e0 _ _ _ D T U (Ug hz (by simp[Y]));have f:=api _ _ _ D T U;dsimp only at f;refine⟨_,e1,by simp[Y],?_,rfl,?_,?_,?_⟩
 ·intro x hx;simp only[gp]at hx;rcases hx with rfl | rfl | rfl | hx
  ·exact mE (mE D (gJ _ _)) (gJ _ _)
  ·exact gJ _ _
  ·exact gJ _ _
  ·exact Z x hx
 ·rw[key 0 _ _ _ (by decide) (mE (mE D (gJ _ _)) (gJ _ _)) (gJ _ _) (gJ _ _)];exact f.1
 ·rw[key 1 _ _ _ (by decide) (mE (mE D (gJ _ _)) (gJ _ _)) (gJ _ _) (gJ _ _)];exact f.2.1
 ·rw[key 2 _ _ _ (by decide) (mE (mE D (gJ _ _)) (gJ _ _)) (gJ _ _) (gJ _ _)];exact f.2.2
def jU.set{w:aa Nat}(h:jU w){k v:Nat}(D:v<16):jU (w.set k v):=by
 intro x C;rcases List.mem_or_eq_of_mem_set C with C|rfl
 ·exact h x C
 ·exact D
def ivT:Nat:=9460475325918865680
def iv(a:Nat):Nat:=(ivT / 2 ^ (4*a)) % 16
def apk(a:Nat):iv a<16:=Nat.mod_lt _ (by decide)
def apl:(qq λa=>Nat.beq a 0 ||Cj (Int.ofNat a)==some (Int.ofNat (iv a)))=true:=by kernel_rfl
def apm(w:aa Nat)(k v:Nat):(cE w).set k (v:Int)=cE (w.set k v):=(List.map_set ..).symm
def CI(s:Int):Bool:=aT s 0 15
def v5(l:aa Int)(n:Int):Bool:=l.all CI&&decide ((l.length:Int)=n)
def adF(l:aa Int)(n:Int)(C:l.length<1073741824):vS l n=some (v5 l n):=by
 unfold vS v5 cZ;have e:=jR (step:=Al) l CI (λi=>((l,n,l,l.length,i,()),())) _ (.inr (.inl ((l,n,()),()))) bk (λk h=>by
  unfold Al Ch aM bG xG xI;simp (disch:=omega) [h,bY,c9,CI];cases aT l[k] 0 15<;>rfl) (by unfold Al aM bG xG xI;simp) (cv C)
 rw[dz]at e;rw[e];cases l.all CI<;>simp;rfl
def Sy(l:aa Int):Prop:=l.length=11/\∀s∈l,0<=s/\s<=15
def Sy.ok{l:aa Int}(h:Sy l):v5 l 11=true:=by
 simp[v5,aK,bS,CI,br];exact⟨λx C=>h.2 x C,by rw[h.1];rfl⟩
def Sy.of{l:aa Int}(h:v5 l 11=true):Sy l:=by
 simp[v5,aK,bS,fq,CI,br]at h;exact⟨by omega,h.1⟩
def adG{a b:Int}(E:0 <= a/\a <= 15)(I:0 <= b/\b <= 15):0 <= bits .xor .i64 a b/\bits .xor .i64 a b <= 15/\bits .xor .i64 (bits .xor .i64 a b) b=a:=by
 obtain⟨x,rfl⟩:=fS E.1;obtain⟨y,rfl⟩:=fS I.1;have D:x<16:=by omega
 have C:y<16:=by omega
 have:=mE D C;rw[vY D C];rw[vY this C]
 grind
def Sy.set{l:aa Int}(h:Sy l){k:Nat}{v:Int}(D:0<=v/\v<=15):Sy (l.set k v):=by
 refine⟨by simp[h.1],λs C=>?_⟩
 rcases List.mem_or_eq_of_mem_set C with C|rfl
 ·exact h.2 s C
 ·exact D
def Sy.get{l:aa Int}(h:Sy l){k:Nat}(C:k<l.length):0<=l[k]/\l[k]<=15:=h.2 _ (dc C)
structure fz (g:aH) (B:Int) (a:dj):Prop where
 cells:(a.cells.length:Int)=eA g
 syms:∀c∈a.cells,Sy c.symbols
 bu:(a.bu.length:Int)=fF g
 bg:(a.bg.length:Int)=fF g
 EX:∀x∈a.bu,0<=x/\x<=B
 hit:∀x∈a.bg,0<=x/\x<=100000
def apn(c:cy)(h:c.symbols.length<1073741824):Mp c=some c:=by
 unfold Mp xA xZ;simp[bV,h]
def adH(a:dj)(T:a.cells.length<1073741823)(C:a.bu.length<1073741824)(D:a.bg.length<1073741824)(E:∀ c∈a.cells,c.symbols.length<1073741824):Er a=some a:=by
 unfold Er xA bR xZ;have e:=eF (step:=HK) a.cells.length (λi=>(((),(),a.cells,(a.cells.length:Int),(i:Int),()),(((),(),(),()),((),(),(),()),([]:aa cy),([]:aa Int),([]:aa Int),a.cells.take i,(([]:aa Int)++a.bu),(([]:aa Int)++a.bg),())))
  (.inl (((),(),()),(((),(),(),()),((),(),(),()),([]:aa cy),([]:aa Int),([]:aa Int),a.cells,(([]:aa Int)++a.bu),(([]:aa Int)++a.bg),()))) bk (λk h=>by
  unfold HK aM xG xI;have I:min k a.cells.length=k:=by omega
  have O:bV (k+1)=true:=eO;simp (disch:=omega) [h,bY,apn _ (E _ (dc h)),I,O]) (by unfold HK aM xG xI;simp) (cv)
 rw[dz,List.take_zero]at e;rw[e];simp[bV,C,D]
def fz.lens{g:aH}{B:Int}{a:dj}(h:fz g B a):a.cells.length<1073741823/\a.bu.length<1073741824/\a.bg.length<1073741824/\∀ c∈a.cells,c.symbols.length<1073741824:=by
 have D:=h.cells;have E:=h.bu;have I:=h.bg;have O:=oV g;have T:=s9 g;exact⟨by omega,by omega,by omega,λc C=>by rw[(h.syms c C).1];omega⟩
def fz.copy{g:aH}{B:Int}{a:dj}(h:fz g B a):Er a=some a:=
 let ⟨C,D,E,I⟩:=h.lens;adH a C D E I
def I3(c:cy):Bool:=v5 c.symbols 11
def yB(p:Int×Int):Bool:=aT p.1 0 100000&&aT p.2 0 100000
def nj(g:aH)(a:dj):Bool:=cx g&&(decide ((a.cells.length:Int)=eA g)&&(decide ((a.bu.length:Int)=fF g)&&(decide ((a.bg.length:Int)=fF g)&&(a.cells.all I3&&(a.bu.zip a.bg).all yB))))
def adJ(g:aH)(a:dj)(I:∀ c∈a.cells,c.symbols.length<1073741824):Ey g a=some (nj g a):=by
 unfold Ey nj cZ;rw[jl,ax,qp,ax,AD];cases O:cx g with
 |false=>rfl
 | true=>
  have Z:=oV g;have b2:=s9 g;have er:aL g*g.rows=fF g:=by simp[fF,O]
  simp only[bL,av,ax,cM,er];rw[bf];by_cases C:(a.cells.length:Int)=eA g
  ·by_cases D:(a.bu.length:Int)=fF g
   ·by_cases E:(a.bg.length:Int)=fF g
    ·have T:a.bu.length=a.bg.length:=by omega
     have l1:=jR (step:=HT) a.cells I3 (λi=>(((),a.cells,(a.cells.length:Int),(i:Int),()),((a.cells,a.bu,a.bg,()),()))) (.inl ((false,()),())) (.inr (.inl (((),()),((a.cells,a.bu,a.bg,()),())))) bk (λk h=>by
      unfold HT aM bG xG xI;simp (disch:=omega) [h,bY,adF _ 11 (I _ (dc h)),I3];cases v5 a.cells[k].symbols 11<;>rfl) (by unfold HT aM bG xG xI;simp) (cv)
     have l2:=jR (step:=HU) (a.bu.zip a.bg) yB (λi=>(((),(a.bu.length:Int),(i:Int),()),((a.cells,a.bu,a.bg,()),()))) (.inl ((false,()),())) (.inr (.inl ((),()))) bk (λk h=>by
      have U:k<a.bu.length:=by simp at h;omega
      have Y:k<a.bg.length:=by omega
      unfold HU aM bG xG xI;simp (disch:=omega) [U,Y,bY,c9,yB];cases aT a.bu[k] 0 100000<;>cases aT a.bg[k] 0 100000<;>rfl) (by unfold HU aM bG xG xI;simp[T]) (cv (by simp;omega))
     rw[dz]at l1 l2;simp only[C,D,E,bne_self_eq_false,av,decide_true,cM];rw[<-C,l1];cases h1:a.cells.all I3 with
     |false=>simp
     | true=>
      simp only[aq,Option.bind_some,Sum.elim_inr,gA];rw[l2];cases (a.bu.zip a.bg).all yB<;>simp
    ·simp[C,D,gv E,E]
   ·simp[C,gv D,D]
  ·simp[gv C,C]
def fz.ok{g:aH}{B:Int}{a:dj}(h:fz g B a)(E:cx g=true)(hB:B <= 100000):Ey g a=some true:=by
 rw[adJ g a (λc C=>by rw[(h.syms c C).1];omega)];have I:=h.cells;have O:=h.bu;have T:=h.bg;have U:a.cells.all I3=true:=bS.2 λc C=>(h.syms c C).ok
 have Y:(a.bu.zip _).all yB=true:=bS.2 λp Z=>by
  obtain⟨x,y⟩:=p;have D:=List.of_mem_zip Z;have a1:=h.EX x D.1;have a2:=h.hit y D.2;simp[yB,aK,br];omega
 simp[nj,E,I,O,T,U,Y]
def NC{b:aa Int}{c:bw}(C:jT b c)(l:aa Int)(I:0<l.length):Dr b (Ai c l) λx=>x∈l:=by
 unfold Ai xI;rw[C.eq]
 refine(eX C _).bind λO T E D=>?_
 rw[aO ⟨E.1,by dsimp only;omega⟩];rw[D.eta];exact Dr.pure D (dc _)
def ND{b:aa Int}{c:bw}(C:jT b c)(n:Int):Dr b (Cc c n) λ_=>True:=by
 unfold Cc;rw[C.eq]
 refine(eX C _).bind λE I O D=>?_
 rw[D.eta];exact Dr.pure D trivial
def uN(g:aH):(⟨g.bM,g.aE,g.rows,g.aR⟩:aH)=g:=rfl
def apo{b:aa Int}{c:bw}(D:jT b c){g:aH}(C:cx g=true):Dr b (LZ c g) λa=>fM g a=true:=by
 have Z:=I0 C;have⟨_,_,_,_,g5,g6,g7,g8⟩:=fY C;unfold LZ;rw[T9,ax,D.eq]
 refine(eX D _).bind λx1 k1 E I=>?_
 dsimp only;rw[I.eta]
 refine(eX I _).bind λx2 k2 O T=>?_
 dsimp only;rw[T.eta]
 refine(eX T _).bind λx3 k3 U Y=>?_
 dsimp only;rw[Y.eta];exact Dr.pure Y (AE C E.1 (E.2.2 (by omega)) O.1 (O.2.2 (by omega)) U.1 (U.2.2 (by omega)))
def nq(n x:Int):Int:=if 100000<x+n then 100000 else x+n
def adK(l:aa Int)(h:∀ s∈l,0 <= s/\s <= 15):cE (l.map Int.toNat)=l/\jU (l.map Int.toNat):=by
 constructor
 ·induction l with
  |nil=>rfl
  | cons x l C=>
   have D:=h x (.head _);have:=C λs E=>h s (.tail _ E)
   grind
 ·intro x D
  grind
def adL{w:aa Nat}(D:jU w)(E:w.length=11):Sy (cE w):=by
 refine⟨by rw[vZ,E],λs C=>?_⟩
 simp at C;obtain⟨x,I,rfl⟩:=C;have:=D x I;omega
def Sy.mem{l:aa cy}(h:∀c∈l,Sy c.symbols){k:Nat}(C:k<l.length):Sy l[k].symbols:=h _ (dc C)
def Sy.bD{l:aa cy}(h:∀c∈l,Sy c.symbols){k:Nat}{d:cy}(C:Sy d.symbols):∀c∈l.set k d,Sy c.symbols:=by grind
def NF{l:aa Int}{B C:Int}(h:∀x∈l,B <= x/\x <= C){k:Nat}{v:Int}(D:B <= v/\v <= C):∀x∈l.set k v,B <= x/\x <= C:=by grind
def uO(l:lA)(a:dj)(i:Nat):Bool:=decide (a.bu.getD i 0 > l.bu) ||decide (a.bg.getD i 0 > l.bg)
def apq{l:aa Int}{B C:Int}(h:∀ x∈l,B<=x/\x<=C)(k:Nat)(D:B<=0/\0<=C):B<=l.getD k 0/\l.getD k 0<=C:=by
 rw[cL];cases E:l[k]? with
 |none=>exact D
 |some x=>exact h x (gy E)
def adM{x:Int}(h:0<=x/\x<=100000){n:Int}(C:0<=n):0<=nq n x/\nq n x<=100000:=by
 unfold nq;split<;>omega
def nW(k:Nat)(h:aa Int):aa Int:=h.set k (nq 1 (h.getD k 0))
def Uh(k:Nat)(h:aa Int):(nW k h).length=h.length:=by simp[nW]
def Ui{k:Nat}{h:aa Int}(C:∀ x∈h,0<=x/\x<=100000):∀ x∈nW k h,0<=x/\x<=100000:=
 NF C (adM (apq C k ⟨by omega,by omega⟩) (by omega))
def apr{k:Nat}{h:aa Int}(C:k<h.length):nW k h=h.set k (nq 1 h[k]):=by
 unfold nW;rw[cL,bK C];rfl
def v7(row:Int)(i:Nat)(h:aa Int):aa Int:=bif decide (0<row)then nW (i-1) (h.set i 0)else h.set i 0
def oW(R row:Int)(i:Nat)(h:aa Int):aa Int:=bif decide (row<R-1)then nW (i+1) (v7 row i h)else v7 row i h
def aps(row:Int)(i:Nat)(h:aa Int):(v7 row i h).length=h.length:=by
 unfold v7;cases decide (0<row)<;>simp[Uh]
def apt(R row:Int)(i:Nat)(h:aa Int):(oW R row i h).length=h.length:=by
 unfold oW;cases decide (row<R-1)<;>simp[Uh,aps]
def apu{row:Int}{i:Nat}{h:aa Int}(D:∀ x∈h,0<=x/\x<=100000):∀ x∈v7 row i h,0<=x/\x<=100000:=by
 have C:=NF D (k:=i) (v:=0) ⟨by omega,by omega⟩;unfold v7;cases decide (0<row)
 ·exact C
 ·exact Ui C
def apv{R row:Int}{i:Nat}{h:aa Int}(D:∀ x∈h,0<=x/\x<=100000):∀ x∈oW R row i h,0<=x/\x<=100000:=by
 have C:=apu (row:=row) (i:=i) D;unfold oW;cases decide (row<R-1)
 ·exact C
 ·exact Ui C
def rF(t:bW):aa Int:=[t.qQ,t.rp,t.jG,t.rT,t.om,t.jZ,t.rU,t.rV,t.mQ,t.wr,t.rW,t.rX,t.vh,t.tL,t.tM,t.xp,t.xs]
def EY(x:Int):Bool:=aT x 1 64
def iW(t:bW):Bool:=(rF t).all EY&&(decide (t.qQ<=t.jG)&&(decide (t.rT<=t.om)&&(decide (t.rU<=t.rV)&&decide (t.rW<=t.rX))))
def I4(t:bW):Cd t=some (iW t):=by
 unfold Cd iW cZ;change (iter Eg bk (((),(),((rF t).length:Int),(0:Int),()),(t,rF t,()))).bind _=_;have C:(rF t).length=17:=rfl;generalize rF t=l at *
 have e:=jR (step:=Eg) l EY (λi=>(((),(),(l.length:Int),(i:Int),()),(t,l,()))) _ (.inr (.inl (((),()),(t,())))) bk (λk h=>by
  unfold Eg aM bG xG xL;simp (disch:=omega) [h,bY,c9,EY];cases aT l[k] 1 64<;>rfl) (by unfold Eg aM bG xG xL;simp) (cv)
 rw[dz]at e;rw[e];cases l.all EY<;>simp
 grind
def apw(t:bW):∃ y,Ce t=some y:=by
 unfold Ce;rw[I4];cases iW t<;>exact⟨_,rfl⟩
def adN(R i:Nat):Int:=((i % R:Nat):Int)
def rG(n R:Nat):aa Int:=(List.range n).map (adN R)
def adO(n R:Nat):(rG n R).length=n:=by simp[rG]
def nX(g:aH)(n:Int):Bool:=cx g&&(aT n 0 2&&decide (2<=g.rows-n))
def v8(g:aH)(n:Int):ke×Bool:=bif nX g n then (⟨n,rG ((aL g).toNat*(g.rows-n).toNat) (g.rows-n).toNat⟩,true)else (⟨0,[]⟩,false)
def adP{g:aH}{n:Int}(h:nX g n=true):cx g=true/\0 <= n/\n <= 2/\2 <= g.rows-n/\g.rows <= 16:=by
 simp[nX,aK,br,fq]at h;have⟨C,⟨D,E⟩,I⟩:=h;have:=fY C;simp_all
def apx(b R:Nat)(C:0<R)(j:Nat)(D:j <= R):rG (b*R+j) R=rG (b*R) R++(List.range j).map (λi:Nat=>(i:Int)):=by
 unfold rG;rw[List.range_add,List.map_append,List.map_map];congr 1
 refine List.map_congr_left λi hi=>?_
 have hi:=gq.1 hi;simp only[Function.comp,adN];rw[Nat.mul_comm,Nat.mul_add_mod,Nat.mod_eq_of_lt (by omega)]
def Uj(g:aH)(n:Int):Ef g n=some (v8 g n):=by
 unfold Ef v8 bR;rw[qp,ax];cases C:cx g with
 |false=>simp[nX,C]
 | true=>
  simp only[bL,av,c9,ax];cases D:aT n 0 2 with
  |false=>simp[nX,D]
  | true=>
   have tV:=br.1 D;have gb:=fY C;simp only[bL,av];rw[bf];by_cases O:g.rows-n<2
   ·have:decide (2<=g.rows-n)=false:=bq;rw[aY O,aq];simp[nX,this]
   ·have Y:nX g n=true:=by simp[nX,C,D];omega
    rw[bq O,av,Y,aq];have Z:=eG g;obtain⟨E,I⟩:=fS Z.1;obtain⟨R,T⟩:=fS (show 0<=g.rows-n by omega);have U:W6 (g.rows-n)=(R:Int):=by rw[T];exact bf
    have inner:∀ b:Nat,b<E->iter Ee bk ((n,(),(),(),(b:Int),(0:Int),()),((g.bM,g.aE,g.rows,g.aR,()),((0:Int),(),()),(n,(),()),([]:aa Int),rG (b*R) R,()))=some (.inl ((n,(),(),(),(b:Int),()),((g.bM,g.aE,g.rows,g.aR,()),((0:Int),(),()),(n,(),()),([]:aa Int),rG ((b+1)*R) R,()))):=by
     intro b I5;have hm:b*R<=8*16:=Nat.mul_le_mul (by omega) (by omega);have e:=eF (step:=Ee) R (λj=>((n,(),(),(),(b:Int),(j:Int),()),((g.bM,g.aE,g.rows,g.aR,()),((0:Int),(),()),(n,(),()),([]:aa Int),rG (b*R) R++(List.range j).map (λi:Nat=>(i:Int)),())))
      (.inl ((n,(),(),(),(b:Int),()),((g.bM,g.aE,g.rows,g.aR,()),((0:Int),(),()),(n,(),()),([]:aa Int),rG (b*R) R++(List.range R).map (λi:Nat=>(i:Int)),()))) bk (λk h=>by
      unfold Ee aM xG;have ho:bV ((rG (b*R) R++(List.range k).map (λi:Nat=>(i:Int))).length+1)=true:=eO (by simp[adO];omega);dsimp only;rw[U,aY,aq];simp only[mN,List.length_nil,fe];rw[ho,aq,bY,List.range_succ,List.map_append,List.append_assoc];rfl) (by
      unfold Ee aM xG;dsimp only;rw[U,bq,av]) (cv)
     rw[dz,List.range_zero,List.map_nil,List.append_nil]at e;rw[e,<-apx b R (by omega) R (dH _),Nat.succ_mul]
    have e:=eF (step:=Hv) E (λi=>((n,(),(),(),(i:Int),()),((g.bM,g.aE,g.rows,g.aR,()),((0:Int),(),()),(n,(),()),([]:aa Int),rG (i*R) R,())))
     (.inl (((),(),()),(((0:Int),(),()),(n,(),()),([]:aa Int),rG (E*R) R,()))) bk (λk h=>by
     unfold Hv aM xG bR;dsimp only;rw[uN,jl,ax,I,aY,aq]
     refine(bz (λo=>Option.bind o _) (inner k h)).trans ?_
     rw[ax];simp only[gA];rw[bY]) (by
     unfold Hv aM xG bR;dsimp only;rw[uN,jl,ax,I,bq,av]) (cv)
    rw[dz,Nat.zero_mul]at e
    refine(bz (λo=>Option.bind o _) e).trans ?_
    rw[I,T];rfl
def EZ(t:bW):Int:=(Ce t).getD 0
def adQ(t:bW):Ce t=some (EZ t):=by
 obtain⟨y,e⟩:=apw t;unfold EZ;rw[e];rfl
def adR(m:qP):Hw m=some (aT m.order 0 2):=by
 unfold Hw;rw[c9];rfl
def qt(c:fl):Bool:=cx c.ak&&(iW c.bP&&(aT c.mapping.order 0 2&&(nX c.ak c.cS&&(aT c.interval (EZ c.bP) 10000&&(aT c.gU 1 16&&(aT c.dO.bu (W6 ((6:Int)*c.interval)) 100000&&aT c.dO.bg 0 100000))))))
def adS(g:aH)(n:Int):(v8 g n).2=nX g n:=by
 unfold v8;cases nX g n<;>rfl
def NG(c:fl):Mh c=some (qt c):=by
 unfold Mh qt;simp only[Uj,qp,I4,adR,adQ,c9,ax,adS];cases cx c.ak<;>cases iW c.bP<;>cases aT c.mapping.order 0 2<;>cases nX c.ak c.cS<;>cases aT c.interval (EZ c.bP) 10000<;>cases aT c.gU 1 16<;>cases aT c.dO.bu (W6 ((6:Int)*c.interval)) 100000<;>rfl
def adT{c:fl}(h:qt c=true):cx c.ak=true/\iW c.bP=true/\nX c.ak c.cS=true/\aT c.gU 1 16=true:=by
 simp[qt,aK]at h;simp_all
def apy{t:bW}(h:iW t=true):(1 <= t.jG/\t.jG <= 64)/\1 <= t.rp/\t.rp <= 64:=by
 simp[iW,aK,bS]at h;have C:=h.1 t.jG (by simp[rF]);have D:=h.1 t.rp (by simp[rF]);simp[EY,br]at C D;simp_all
def qv(s:dw):Bool:=aT s.weight 1 9&&aT s.fB 0 s.weight
def jV(l:aa dw):Bool:=l.all qv&&aT (l.length:Int) 1 4
def I6(l:aa dw)(C:l.length<1073741824):Eh l=some (jV l):=by
 unfold Eh jV cZ;have e:=jR (step:=Hx) l qv (λi=>((l,l,l.length,i,()),())) _ (.inr (.inl ((l,()),()))) bk (λk h=>by
  unfold Hx aM bG xG xI;simp (disch:=omega) [h,bY,c9,qv];cases aT l[k].weight 1 9<;>cases aT l[k].fB 0 l[k].weight<;>rfl) (by unfold Hx aM bG xG xI;simp) (cv C)
 rw[dz]at e;rw[e];cases l.all qv<;>simp[c9]
def nY(w:Int):dw:=⟨w,w⟩
def CJ(l:aa Int):aa dw×Bool:=bif jV (l.map nY)then (l.map nY,true)else ([],false)
def apz{l:aa Int}{k:Nat}(h:k<l.length):(l.take (k+1)).map nY=(l.take k).map nY++[⟨l[k],l[k]⟩]:=by
 rw[List.take_succ_eq_append_getElem h,List.map_append];rfl
def Uk(l:aa Int)(D:l.length<1073741823):yl l=some (CJ l):=by
 unfold yl CJ bR;have e:=eF (step:=Hy) l.length (λi=>(((),l,(l.length:Int),(i:Int),()),((l.take i).map nY,()))) _ bk (λk h=>by
  unfold Hy aM xG xI;have C:bV (((l.take k).map nY).length+1)=true:=eO (by simp;omega);dsimp only;rw[aY,aq,aO ⟨by omega,by omega⟩];simp only[mN,List.length_nil,fe,bE];rw[C,aq,bY,apz h]) (by
  unfold Hy aM xG xI;dsimp only;rw[bq,av,mP]) (cv)
 refine(bz (λo=>Option.bind o _) e).trans ?_
 rw[ax];simp only[gA];rw[I6 _ (by simp;omega),ax]
 grind
def apA(l:aa Int):(CJ l).2=jV (l.map nY):=by
 unfold CJ;cases jV (l.map nY)<;>rfl
def qw(d:mR):Bool:=decide (d.low >= 0)&&(decide (d.low<d.high)&&decide (d.high<=12))
def NH(d:mR):Cf d=some (qw d):=by
 unfold Cf qw
 grind
def E0(r:wG):Bool:=aT r.down 1 10000&&(decide (r.sleep > r.down)&&decide (r.sleep<=20000))
def adU(r:wG):Hz r=some (E0 r):=by
 unfold Hz E0;rw[c9]
 grind
def yC(p:dD):Bool:=aT p.eI 0 1&&(aT p.cap 0 100000&&(aT p.dG 3 1000&&(qw ⟨false,p.low,p.high⟩&&((p.weights.length:Int)==4&&(jV (p.weights.map nY)&&E0 p.bF)))))
def apB(x:Int):aT x 0 1=(x==0 || x==1):=by
 rw[Bool.eq_iff_iff];simp[aT];omega
def I7(p:dD)(C:p.weights.length<1073741823):HA p=some (yC p):=by
 unfold HA yC;simp[Uk _ C,ax,c9,NH,adU,apA,apB]
 grind
def adV(x:Int):∃ y,Ak x=some y:=by
 unfold Ak;rw[c9];cases aT x 3 1000<;>exact⟨_,rfl⟩
def Ul(c:fl)(p:dD)(C:p.weights.length<1073741823):∃ b,sV c p=some b/\(b=true->qt c=true):=by
 unfold sV;obtain⟨y,e⟩:=adV p.dG;simp only[NG,I7 _ C,e,ax];cases D:qt c with
 |false=>exact⟨false,rfl,λh=>by cases h⟩
 | true=>
  have I:=apy (adT D).2.1;have E:¬ W6 (c.bP.jG+c.bP.rp)=0:=by
   rw[bf];omega
  cases yC p with
  |false=>exact⟨false,rfl,λ_=>rfl⟩
  | true=>
   simp only[aX E,bL,av,aq];cases decide (W6 (y+2)<=c.dO.bg)<;>exact⟨_,rfl,λ_=>by first|rfl|trivial⟩
def Um(i:Nat)(l:aa dQ):((opens i l).length==0)=l.all λb=>!b.open_:=by
 induction l generalizing i with
 |nil=>rfl
 | cons x a C=>
  simp[opens,List.all_cons]
  grind
def yD(g:aH)(b:dQ):Bool:=aT b.row 0 (g.rows-1)&&(b.open_ ||b.row==0)
def kC(g:aH)(r:bJ):Bool:=cx g&&(((r.aE.length:Int)==aL g)&&(aT r.aN 0 2&&(r.aE.all (yD g)&&(r.aN != 2 ||r.aE.all λb=>!b.open_))))
def adW(g:aH)(r:bJ):HQ g r=some (kC g r):=by
 unfold HQ kC cZ;rw[qp,ax,jl];cases D:cx g with
 |false=>rfl
 | true=>
  simp only[bL,av,ax,cM];by_cases C:(r.aE.length:Int)=aL g
  ·have I:=eG g;have O:=fY D;simp only[C,bne_self_eq_false,av,kM,cM,c9,ax];cases T:aT r.aN 0 2 with
   |false=>rfl
   | true=>
    have e:=jR (step:=HP) r.aE (yD g) (λi=>(((),(),r.aE,(r.aE.length:Int),(i:Int),()),((g.bM,g.aE,g.rows,g.aR,()),(r.aE,r.aN,()),()))) (.inl ((false,()),())) (.inr (.inl (((),()),((r.aE,r.aN,()),())))) bk (λk h=>by
     unfold HP aM bG xG xI;dsimp only;rw[aY,aq,aO ⟨by omega,by omega⟩];simp only[bE,c9,ax];rw[bf (n:=g.rows-1),bY];unfold yD;cases aT r.aE[k].row 0 (g.rows-1)with
     |false=>rfl
     | true=>
      cases r.aE[k].open_ with
      |true=>rfl
      | false=>
       simp[bne];cases r.aE[k].row==0<;>rfl) (by
     unfold HP aM bG xG xI;dsimp only;rw[bq,av]) (cv)
    rw[dz,C]at e;simp only[bL,av,cM]
    refine(bz (λo=>Option.bind o _) e).trans ?_
    rw[ax];cases r.aE.all (yD g)with
    |false=>rfl
    | true=>
     simp only[aq,Sum.elim_inr,gA,cM];cases U:r.aN != 2 with
     |true=>rfl
     | false=>
      simp;rw[NB ⟨r.aE,r.aN⟩ (by show r.aE.length<_;omega),ax,<- Um 0 r.aE];congr 1
      grind
  ·have E:((r.aE.length:Int)==aL g)=false:=by simp[C]
   rw[gv C,E];rfl
def I8(d:Int):Bool:=aT d (-2) 5
def fN(r:eB):Bool:=r.aD.all I8&&(aT (r.aD.length:Int) 1 8&&aT r.wait 1 10000)
def I9(r:eB)(C:r.aD.length<1073741824):At r=some (fN r):=by
 unfold At fN cZ;have e:=jR (step:=HV) _ I8 (λi=>(((),r.aD,r.aD.length,i,()),((r.aD,r.wait,r.dJ,()),()))) _ (.inr (.inl (((),()),((r.aD,r.wait,r.dJ,()),())))) bk (λk h=>by
  unfold HV aM bG xG xI;simp (disch:=omega) [h,bY,c9,I8];cases aT r.aD[k] _ 5<;>rfl) (by unfold HV aM bG xG xI;simp) (cv C)
 rw[dz]at e;rw[e];cases r.aD.all I8<;>simp[c9]
 grind
def jm{T:Type}(p:T->Bool)(l:aa T):Int:=match l.findIdx? p with
 |some i=>(i:Int)
 |none=>-1
def Ja{α β T:Type}{step:α -> ah (α⊕β)}(l:aa T)(p:T -> Bool)(S:Nat -> α)(D:Nat -> β)(z:β)(fuel:Nat)(E:∀ k (h:k<l.length),step (S k)=some (bif p l[k]then .inr (D k)else .inl (S (k+1))))(I:step (S l.length)=some (.inr z))(C:l.length<fuel):
  iter step fuel (S 0)=some (match l.findIdx? p with|some i=>D i|none=>z):=by
 have key:∀ (n i fuel:Nat),i+n=l.length -> n<fuel -> (∀ j (h:j<l.length),j<i -> p l[j]=false) -> iter step fuel (S i)=some (match l.findIdx? p with | some i=>D i | none=>z):=by
  intro n
  induction n with
  | zero=>
   intro i fuel hi C O
   match fuel,C with
   | f+1,_=>
    have:i=l.length:=by omega
    subst this;have e:l.findIdx? p=none:=by
     rw[List.findIdx?_eq_none_iff];intro x U;obtain⟨j,Y,rfl⟩:=jY.1 U
     grind
    unfold iter;rw[I,e]
  | succ n Z=>
   intro i fuel hi C O
   match fuel,C with
   | f+1,C=>
    have de:i<l.length:=by omega
    unfold iter;rw[E i de];cases hp:p l[i]with
    | true=>
     have e:l.findIdx? p=some i:=by
      rw[qN]
      grind
     rw[e];rfl
    | false=>
     simp only[av]
     refine Z (i+1) f (by omega) (by omega) λj Y GX=>?_
     by_cases e:j=i
     ·grind
     ·grind
 exact key l.length 0 fuel (by omega) C λj _ h=>by omega
def adX{T:Type}{p:T -> Bool}{l:aa T}{i:Nat}(h:i<l.length)(E:p l[i]=true):(jm p l != (i:Int))=(l.take i).any p:=by
 unfold jm;cases C:(l.take i).any p with
 | false=>
  have e:l.findIdx? p=some i:=by
   rw[qN]
   refine⟨h,E,λj D=>?_⟩
   have:=nD.1 C l[j] (jY.2 ⟨j,by simp;omega,by simp⟩);exact this
  rw[e];simp
 | true=>
  have⟨x,I,U⟩:=List.any_eq_true.1 C;obtain⟨j,D,rfl⟩:=jY.1 I;rw[kL]at D;cases O:l.findIdx? p with
  |none=>simp
  | some k=>
   have⟨Y,Z,k3⟩:=qN.1 O;have:k≠i:=by
    grind
   simp only;simp;omega
def Un(x:Int):Bool:=aT x 0 4294967295
def nZ(n:Int)(r:aV):Bool:=aT r.id 1 100000&&(aT r.dR 0 3&&(decide (r.line >= 0)&&(decide (r.line<n)&&(Un r.data&&((r.write ||r.data==0)&&aT r.at_ 0 1000000)))))
def apC(n:Int)(r:aV):MA n r=some (nZ n r):=by
 unfold MA nZ Cg Un;simp[c9]
 grind
def fm(x y:aV):Bool:=decide (x.at_<y.at_) ||(x.at_==y.at_&&decide (x.id<y.id))
def Uo(x y:aV):H6 x y=some (fm x y):=by
 unfold H6 fm
 grind
def rH(n:Int)(q:aa aV)(i:Nat):Bool:=match q[i]? with
 |some r=>nZ n r&&((i==0 ||(match q[i-1]? with|some x=>fm x r|none=>false)) && !((q.take i).any λx=>x.id==r.id))
 |none=>false
def adY{n:Int}{q:aa aV}(h:0<q.length):rH n q 0=nZ n q[0]:=by
 unfold rH;rw[bK h];simp
def NI{n:Int}{q:aa aV}{i:Nat}(h:i+1<q.length):rH n q (i+1)=(nZ n q[i+1]&&(fm q[i] q[i+1] && !((q.take (i+1)).any λx=>x.id==q[i+1].id))):=by
 unfold rH
 grind
def gD(n:Int)(q:aa aV):Bool:=(List.range q.length).all (rH n q)&&decide ((q.length:Int)<=12)
def apD(n:Int)(q:aa aV){i:Nat}(h:i<q.length)(C:q.length<1073741824):
  iter EA bk ((n,q,(),q,(q.length:Int),(i:Int),((q.take i).drop 0),(((q.take i).drop 0).length:Int),(0:Int),()),((q[i].id,q[i].dR,q[i].line,q[i].write,q[i].data,q[i].at_,()),()))=some (bif (q.take i).any (λx=>x.id==q[i].id)then .inl ((false,()),())else .inr (.inl ((n,q,q,(q.length:Int),(i:Int),()),()))):=by
 rw[List.drop_zero];have hlen:(q.take i).length=i:=by rw[kL];omega
 generalize D:q[i]=r;generalize E:q.take i=t at *
 have e:=jR (step:=EA) t (λx=>!(x.id==r.id)) (λj=>((n,q,(),q,(q.length:Int),(i:Int),t,(t.length:Int),(j:Int),()),((r.id,r.dR,r.line,r.write,r.data,r.at_,()),()))) (.inl ((false,()),())) _ bk (λk h=>by
  unfold EA aM bG xG xI;dsimp only;rw[aY,aq,aO ⟨by omega,by omega⟩];simp only[bE];rw[bY];cases t[k].id==r.id<;>rfl) (by
  unfold EA aM bG xG xI;dsimp only;rw[bq,av]) (cv)
 grind
def Up(n:Int)(q:aa aV)(D:q.length<1073741824):Cq n q=some (gD n q):=by
 unfold Cq gD cZ;have e:=jR (step:=H7) (List.range q.length) (rH n q) (λi=>((n,q,q,(q.length:Int),(i:Int),()),())) (.inl ((false,()),())) (.inr (.inl ((q,()),()))) bk (λk h=>by
   rw[eD]at h;rw[lV];unfold H7 aM bG xG xI cZ;dsimp only;rw[aY,aq,aO ⟨by omega,by omega⟩];simp only[bE,apC,ax];have C:=apD n q h D;cases k with
   | zero=>
    rw[adY h];cases nZ n q[0]with
    |false=>rfl
    | true=>
     simp only[bL,av,aq];rw[bq,av,aW ⟨by omega,by omega,by omega⟩]
     refine(bz (λo=>Option.bind o _) C).trans ?_
     simp;rfl
   | succ k=>
    rw[NI h];cases nZ n q[k+1]with
    |false=>rfl
    | true=>
     simp only[bL,av,cM];have E:W6 (((k+1:Nat):Int)-1)=(k:Int):=by rw[bf];omega
     simp only[E,bE];rw[aY,aq,aO ⟨by omega,by omega⟩,Uo,ax];cases fm q[k] q[k+1]with
     |false=>rfl
     | true=>
      simp only[bL,av,cM];rw[aW ⟨by omega,by omega,by omega⟩]
      refine(bz (λo=>Option.bind o _) C).trans ?_
      rw[ax];cases (q.take (k+1)).any λx=>x.id==q[k+1].id with
      |true=>rfl
      | false=>
       simp only[av,Sum.elim_inr,gA];rw[bY];rfl) (by
   rw[eD];unfold H7 aM bG xG xI cZ;dsimp only;rw[bq,av]) (by rw[eD];exact cv)
 rw[dz]at e
 refine(bz (λo=>Option.bind o _) e).trans ?_
 rw[ax];cases (List.range q.length).all (rH n q)<;>rfl
def kX(p:ij):Bool:=aT p.state 0 2&&(aT p.since 0 1000000&&aT p.idle 0 1000000)
def NJ(p:ij):Cr p=some (kX p):=by
 unfold Cr kX;simp[c9]
 grind
def AG(e:cI):Bool:=aT e.line 0 1023&&((e.code==1 ||e.code==2)&&aT e.times 1 999)
def qx(e x:cI):Bool:=x.line==e.line&&x.code==e.code
def NK(l:aa cI)(i:Nat):Bool:=match l[i]? with
 |some e=>AG e && !((l.take i).any (qx e))
 |none=>false
def Uq{l:aa cI}{i:Nat}(h:i<l.length):NK l i=(AG l[i] && !((l.take i).any (qx l[i]))):=by
 unfold NK;rw[bK h]
def n5(l:aa cI):Bool:=(List.range l.length).all (NK l)&&decide ((l.length:Int)<=6)
def apE(l:aa cI){i:Nat}(h:i<l.length)(C:l.length<1073741824):
  iter EB bk ((l,(),l,(l.length:Int),(i:Int),((l.take i).drop 0),(((l.take i).drop 0).length:Int),(0:Int),()),((l[i].line,l[i].code,l[i].times,()),()))=some (bif (l.take i).any (qx l[i])then .inl ((false,()),())else .inr (.inl ((l,l,(l.length:Int),(i:Int),()),()))):=by
 rw[List.drop_zero];have hlen:(l.take i).length=i:=by rw[kL];omega
 generalize D:l[i]=r;generalize E:l.take i=t at *
 have e:=jR (step:=EB) t (λx=>!(qx r x)) (λj=>((l,(),l,(l.length:Int),(i:Int),t,(t.length:Int),(j:Int),()),((r.line,r.code,r.times,()),()))) _ _ bk (λk h=>by
  unfold EB qx aM bG xG xI;dsimp only;rw[aY,aq,aO ⟨by omega,by omega⟩];simp only[bE];rw[bY,BEq.comm (a:=r.line),BEq.comm (a:=r.code)];cases t[k].line==r.line<;>cases t[k].code==r.code<;>rfl) (by
  unfold EB aM bG xG xI;dsimp only;rw[bq,av]) (cv)
 grind
def adZ(l:aa cI)(C:l.length<1073741824):H9 l=some (n5 l):=by
 unfold H9 n5 cZ;have e:=jR (step:=H8) _ (NK l) (λi=>((l,l,l.length,i,()),())) _ _ bk (λk h=>by
   rw[eD]at h;rw[lV,Uq h];have D:=apE l h C;unfold H8 AG aM bG xG xI cZ;dsimp only;rw[aY,aq,aO ⟨by omega,by omega⟩];simp only[bE,c9,ax,bne];rw[aW ⟨by omega,by omega,by omega⟩];rw[show (0:Int).toNat=0 from rfl,D];cases aT l[k].line 0 1023<;>cases l[k].code==1<;>cases l[k].code==2<;>cases aT l[k].times 1 999<;>cases (l.take k).any (qx l[k])<;>first|rfl|(simp only[aq,av,bL,Bool.not_false,ax,Sum.elim_inr,gA];rw[bY];rfl)) (by
   rw[eD];unfold H8 aM bG xG xI cZ;dsimp only;rw[bq,av]) (by rw[eD];exact cv)
 refine(bz (λo=>Option.bind o _) e).trans ?_
 cases (List.range _).all _<;>rfl
def NL(l:aa Int)(x:Int)(C:l.length<1073741824):Cp l x=some (jm (λe=>x==e) l):=by
 unfold Cp jm;have e:=Ja (step:=HX) l (λe=>x==e) (λi=>((l,x,l.length,i,()),())) _ _ bk (λk h=>by
  unfold HX aM bG xG xI;dsimp only;rw[aY,aq,aO ⟨by omega,by omega⟩];simp only[bE];rw[bY];cases x==l[k]<;>rfl) (by
  unfold HX aM bG xG xI;dsimp only;rw[bq,av]) (cv C)
 rw[dz]at e;rw[e];cases l.findIdx? _<;>rfl
def Jb(t:cJ)(i:Nat):Bool:=match t.rows[i]?,t.counts[i]? with
 |some r,some c=>aT r (-1) 15&&(aT c t.fh 100000&&((r != -1 ||c==0)&&(r == -1 ||!((t.rows.take i).any λx=>r==x))))
 |_,_=>false
def NM{t:cJ}{i:Nat}(h:i<t.rows.length)(C:i<t.counts.length):Jb t i=(aT t.rows[i] (-1) 15&&(aT t.counts[i] t.fh 100000&&((t.rows[i] != -1 || t.counts[i]==0)&&(t.rows[i] == -1 || !((t.rows.take i).any λx=>t.rows[i]==x))))):=by
 unfold Jb;rw[bK h,bK C]
def lO(t:cJ):Bool:=aT (t.rows.length:Int) 1 16&&((t.rows.length:Int)==(t.counts.length:Int)&&(aT t.fh 0 100000&&(List.range t.rows.length).all (Jb t)))
def Ur(t:cJ):Au t=some (lO t):=by
 unfold Au lO cZ;simp only[c9,ax];cases D:aT (t.rows.length:Int) 1 16 with
 |false=>rfl
 | true=>
  have D:=br.1 D;by_cases C:(t.rows.length:Int)=(t.counts.length:Int)
  ·simp only[C,bne_self_eq_false,kM,bL,av,cM];cases T:aT t.fh 0 100000 with
   |false=>rfl
   | true=>
    have e:=jR (step:=HY) (List.range t.rows.length) (Jb t) (λi=>(((),t.rows,(t.rows.length:Int),(i:Int),()),((t.rows,t.counts,t.fh,()),()))) (.inl ((false,()),())) (.inr (.inl ((),()))) bk (λk h=>by
     rw[eD]at h;have E:k<t.counts.length:=by omega
     rw[lV,NM h E];unfold HY aM bG xG xI;dsimp only;rw[aY,aq,aO ⟨by omega,by omega⟩,aO ⟨by omega,by omega⟩,aO ⟨by omega,by omega⟩];simp only[bE,c9,ax,NL _ _ (show t.rows.length<1073741824 by omega)];rw[adX (p:=λe=>t.rows[k]==e) h (by simp),bY];simp only[bne];cases aT t.rows[k] (-1) 15<;>cases aT t.counts[k] t.fh 100000<;>cases t.rows[k] == -1<;>cases t.counts[k]==0<;>cases (t.rows.take k).any (λe=>t.rows[k]==e)<;>rfl) (by
     rw[eD];unfold HY aM bG xG xI;dsimp only;rw[bq,av]) (by rw[eD];exact cv)
    rw[dz,C]at e;simp only[bL,av,cM]
    refine(bz (λo=>Option.bind o _) e).trans ?_
    rw[ax];cases (List.range t.rows.length).all (Jb t)<;>rfl
  ·have I:((t.rows.length:Int)==(t.counts.length:Int))=false:=by simp[C]
   have O:((t.counts.length:Int) != (t.rows.length:Int))=true:=gv λh=>C h.symm
   rw[I,O];rfl
def w9(g:aH):W6 ((9:Int)*(W6 (aL g+(1:Int))))=9*(aL g+1):=by
 have:=eG g;rw[bf (n:=aL g+1),bf]
def Jc(k:Int):ym k=some (aT k 1 5):=by
 unfold ym;rw[c9];rfl
def apF(n:Int)(u:Bool)(k:Int):Ct n u k=some (bif u then aT n 0 (W6 (k-1))else n==0):=by
 unfold Ct;rw[c9];cases u<;>rfl
def qy(g:aH)(i:Nat):Bool:=decide ((i:Int) / 9<aL g)==decide ((i:Int) % 9+1<=5)
def apG(g:aH){i:Nat}(hi:i<1000):∃ c,Cn g (i:Int)=some (c,qy g i):=by
 unfold Cn qy;rw[jl,ax,Int.tdiv_eq_ediv_of_nonneg (by omega),rS (by omega),bf,bf,Jc];have:aT (i % 9+1) 1 5=decide ((i:Int) % 9+1 <= 5):=by
  simp[aT];omega
 rw[this];cases decide (i / 9<aL g)<;>exact⟨_,rfl⟩
def Jd(g:aH)(l:aa Int)(i:Nat):Bool:=match l[i]? with
 |some e=>aT e (-1) 1000000&&(qy g i ||e == -1)
 |none=>false
def NN{g:aH}{l:aa Int}{i:Nat}(h:i<l.length):Jd g l i=(aT l[i] (-1) 1000000&&(qy g i || l[i] == -1)):=by
 unfold Jd;rw[bK h]
def qz(l:aa Int)(i:Nat):Bool:=match l[i]? with
 |some e=>aT e 0 1000000&&(i==0 ||(match l[i-1]? with|some x=>!(decide (x >= e))|none=>false))
 |none=>false
def NO{l:aa Int}(h:0<l.length):qz l 0=aT l[0] 0 1000000:=by
 unfold qz;rw[bK h];simp
def Je{l:aa Int}{i:Nat}(h:i+1<l.length):qz l (i+1)=(aT l[i+1] 0 1000000 && !(decide (l[i] >= l[i+1]))):=by
 unfold qz
 grind
def jn(g:aH)(r:dN):Bool:=cx g&&((r.last.length:Int)==9*(aL g+1)&&(!(decide ((r.aZ.length:Int) > 4))&&((List.range r.last.length).all (Jd g r.last)&&(List.range r.aZ.length).all (qz r.aZ))))
def Us(g:aH)(r:dN):Ex g r=some (jn g r):=by
 unfold Ex jn cZ;rw[qp,ax,jl];cases T:cx g with
 |false=>rfl
 | true=>
  simp only[bL,av,ax,cM,w9];by_cases C:(r.last.length:Int)=9*(aL g+1)
  ·have U:=eG g;rw[C,bne_self_eq_false,av,kM,cM,<-C];cases D:decide ((r.aZ.length:Int) > 4)with
   |true=>rfl
   | false=>
    have D:=of_decide_eq_false D;have l1:=jR (step:=HR) (List.range r.last.length) (Jd g r.last) (λi=>(((),(),r.last,(r.last.length:Int),(i:Int),()),((g.bM,g.aE,g.rows,g.aR,()),(r.last,r.aZ,()),()))) (.inl ((false,()),())) (.inr (.inl (((),()),((r.last,r.aZ,()),())))) bk (λk h=>by
     rw[eD]at h;obtain⟨c,E⟩:=apG g (i:=k) (by omega);rw[lV,NN h];unfold HR aM bG xG xI;dsimp only;rw[aY,aq,aO ⟨by omega,by omega⟩];simp only[bE,c9,ax,uN,E,bne];rw[bY];cases aT r.last[k] (-1) 1000000<;>cases qy g k<;>cases r.last[k] == -1<;>rfl) (by
     rw[eD];unfold HR aM bG xG xI;dsimp only;rw[bq,av]) (by rw[eD];exact cv)
    have l2:=jR (step:=HS) (List.range r.aZ.length) (qz r.aZ) (λi=>(((),r.aZ,(r.aZ.length:Int),(i:Int),()),((r.last,r.aZ,()),()))) (.inl ((false,()),())) (.inr (.inl ((),()))) bk (λk h=>by
     rw[eD]at h;rw[lV];unfold HS aM bG xG xI;dsimp only;rw[aY,aq,aO ⟨by omega,by omega⟩];simp only[bE,c9,ax];cases k with
     | zero=>
      rw[NO h];cases aT r.aZ[0] 0 1000000 with
      |false=>rfl
      | true=>
       rw[bq];rfl
     | succ k=>
      rw[Je h];have I:W6 (((k+1:Nat):Int)-1)=(k:Int):=by rw[bf];omega
      simp only[I,bE];rw[aY (show ((k+1:Nat):Int) > 0 by omega),aO ⟨by omega,by omega⟩,bY];cases aT r.aZ[k+1] 0 1000000<;>cases decide (r.aZ[k] >= r.aZ[k+1])<;>rfl) (by
     rw[eD];unfold HS aM bG xG xI;dsimp only;rw[bq,av]) (by rw[eD];exact cv)
    rw[dz]at l1 l2;simp only[Bool.not_false,av,cM]
    refine(bz (λo=>Option.bind o _) l1).trans ?_
    rw[ax];cases (List.range r.last.length).all (Jd g r.last)with
    |false=>rfl
    | true=>
     simp only[aq,Sum.elim_inr,gA,cM]
     refine(bz (λo=>Option.bind o _) l2).trans ?_
     rw[ax];cases (List.range r.aZ.length).all (qz r.aZ)<;>rfl
  ·have O:((r.last.length:Int)==9*(aL g+1))=false:=by simp[C]
   rw[gv C,O];rfl
def apH(l:aa Int)(x:Int)(C:l.length<1073741824):Ms l x=some (l.count x:Int):=by
 unfold Ms bR;have e:=eF (step:=HM) _ (λi=>((x,((l.take i).count x),l,l.length,i,()),())) _ bk (λk h=>by
  unfold HM aM xG xI;have D:(l.take k).count x <= k:=Nat.le_trans List.count_le_length (by rw[kL];omega);dsimp only;rw[aY,aq,aO ⟨by omega,by omega⟩];simp only[bE];rw[List.take_succ_eq_append_getElem h,List.count_append,List.count_singleton,bY,bY];cases l[k]==x<;>rfl) (by
  unfold HM aM xG xI;dsimp only;rw[bq,av,mP]) (cv C)
 simp_all
def AH(R M:Int)(L:aa Int)(j:Nat):Bool:=match L[j]? with
 |some e=>e==(j:Int) ||(aT e R M && !(decide ((L.count e:Int) > 1)))
 |none=>false
def qA(m:aa Int)(R b:Nat):aa Int:=(m.take ((b+1)*R)).drop (b*R)
def Ut(m:aa Int)(R b:Nat):qA m R b=(m.drop (b*R)).take R:=by
 unfold qA;rw[List.drop_take,Nat.succ_mul,Nat.add_sub_cancel_left]
def ad0{m:aa Int}{R b:Nat}(h:(b+1)*R<=m.length):(qA m R b).length=R:=by
 rw[Ut,kL,List.length_drop];rw[Nat.succ_mul]at h;omega
def CK{C R b j:Nat}(D:b<C)(E:j <= R):b*R+j <= C*R:=by
 have:=jF R D
 grind
def ad1{n:Nat}(h:n<4611686018427387904):W6 (n:Int)=(n:Int):=bf
def qB(g:aH)(s:ke):Bool:=nX g s.cS&&((s.map.length:Int)==((aL g).toNat*(g.rows-s.cS).toNat:Nat)&&(List.range (aL g).toNat).all λb=>(List.range (g.rows-s.cS).toNat).all (AH (g.rows-s.cS) (g.rows-1) (qA s.map (g.rows-s.cS).toNat b)))
def ad2{g:aH}{s:ke}{R C b:Nat}(D:g.rows-s.cS=(R:Int))(E:R<=16)(I:C<=8)(O:b<C)(Z:s.map.length=C*R):Eu g s (b:Int)=some (b*R,(b+1)*R):=by
 have hm:C*R<=8*16:=Nat.mul_le_mul I E;have h1:b*R+R<=C*R:=CK O (dH R);have T:W6 (g.rows-s.cS)=(R:Int):=by rw[D];exact bf
 have U:W6 ((b:Int)*(R:Int))=((b*R:Nat):Int):=by rw[<-Int.natCast_mul];exact bf
 have Y:W6 (((b+1:Nat):Int)*(R:Int))=(((b+1)*R:Nat):Int):=by
  rw[<-Int.natCast_mul];exact bf (by omega) (by rw[Nat.succ_mul];omega)
 unfold Eu;rw[T,bY,U,Y,Nat.succ_mul,aW ⟨by omega,by omega,by omega⟩];simp only[bE]
def apI{g:aH}{s:ke}(R b:Int)(L:aa Int)(C:cx g=true)(D:L.length<1073741824):
  iter Ev bk (((),(),R,b,L,L,(L.length:Int),(0:Int),()),((g.bM,g.aE,g.rows,g.aR,()),(s.cS,s.map,()),()))=some (bif (List.range L.length).all (AH R (g.rows-1) L)then .inr (.inl (((),(),R,b,()),((g.bM,g.aE,g.rows,g.aR,()),(s.cS,s.map,()),())))else .inl ((false,()),())):=by
 have E:=fY C;have e:=jR (step:=Ev) (List.range L.length) (AH R _ L) (λi=>(((),(),R,b,L,L,L.length,i,()),((g.bM,g.aE,g.rows,g.aR,()),(s.cS,s.map,()),()))) _ _ bk (λk h=>by
  rw[eD]at h;rw[lV];unfold Ev AH aM bG xG xI;dsimp only;rw[aY,aq,aO ⟨by omega,by omega⟩,bK h];simp only[bE,c9,ax,apH _ _ D,bne];rw[bY,bf (n:=g.rows-1)];cases L[k]==(k:Int)<;>cases aT L[k] R (g.rows-1)<;>cases decide ((L.count L[k]:Int) > 1)<;>rfl) (by
  rw[eD];unfold Ev aM bG xG xI;dsimp only;rw[bq,av]) (by rw[eD];exact cv)
 simp_all
def ad3(g:aH)(s:ke):HO g s=some (qB g s):=by
 unfold HO qB cZ;rw[Uj,ax,adS];cases I:nX g s.cS with
 |false=>rfl
 | true=>
  obtain⟨U,s0,s2,tW,auJ⟩:=adP I;have Y:=eG g;have Z:((v8 g s.cS).1.map.length:Int)=(((aL g).toNat*(g.rows-s.cS).toNat:Nat):Int):=by
   unfold v8;rw[I,aq,adO]
  rw[Z];obtain⟨C,D⟩:=fS Y.1;obtain⟨R,O⟩:=fS (show 0<=g.rows-s.cS by omega);rw[D,O];simp only[bE,bL,av,cM];by_cases E:(s.map.length:Int)=((C*R:Nat):Int)
  ·have T:s.map.length=C*R:=by omega
   rw[E,bne_self_eq_false,av,kM,cM];have hw:W6 (R:Int)=(R:Int):=bf;have e:=jR (step:=HN) (List.range C) (λb=>(List.range R).all (AH (R:Int) (g.rows-1) (qA s.map R b))) (λi=>(((),(),(R:Int),(i:Int),()),((g.bM,g.aE,g.rows,g.aR,()),(s.cS,s.map,()),()))) (.inl ((false,()),())) (.inr (.inl ((),()))) bk (λk h=>by
    rw[eD]at h;rw[lV];have hk:=CK (R:=R) h (dH R);have hlen:(qA s.map R k).length=R:=ad0 (by rw[Nat.succ_mul,T];exact hk);have tT:=apI (g:=g) (s:=s) (R:Int) (k:Int) (qA s.map R k) U (by omega);unfold HN aM bG xG cZ;dsimp only;rw[uN,jl,ax,D,aY,aq];have hbr:Eu g (⟨s.cS,s.map⟩:ke) (k:Int)=some (k*R,(k+1)*R):=ad2 (s:=⟨s.cS,s.map⟩) O (by omega) (by omega) h T;rw[hbr,ax];have hc:(Nat.ble (k*R) ((k+1)*R)&&Nat.ble ((k+1)*R) s.map.length)=true:=by
     rw[aK];exact⟨jc (by rw[Nat.succ_mul];omega),jc (by rw[Nat.succ_mul];omega)⟩
    rw[hc,aq]
    refine(bz (λo=>Option.bind o _) tT).trans ?_
    rw[ax,hlen];cases (List.range R).all (AH (R:Int) (g.rows-1) (qA s.map R k))with
    |false=>rfl
    | true=>
     simp only[aq,Sum.elim_inr,gA];rw[bY]) (by
    rw[eD];unfold HN aM bG xG cZ;dsimp only;rw[uN,jl,ax,D,bq,av]) (by rw[eD];exact cv)
   rw[dz]at e;rw[hw]
   refine(bz (λo=>Option.bind o _) e).trans ?_
   rw[ax];cases (List.range C).all λb=>(List.range R).all (AH (R:Int) (g.rows-1) (qA s.map R b))<;>rfl
  ·have e2:((s.map.length:Int)==((C*R:Nat):Int))=false:=by simp only[beq_eq_false_iff_ne];exact E
   rw[gv E,e2];rfl
def gQ(g:aH)(s:ke):aH:=bif qB g s then ⟨g.bM,g.aE,W6 (g.rows-s.cS),g.aR⟩else ⟨0,0,0,0⟩
def NP(g:aH)(s:ke):Cm g s=some (gQ g s):=by
 unfold Cm gQ;rw[ad3,ax];cases qB g s<;>rfl
def jC(c:au):au:=c
def eH(a x:aP):Bool:=x.ay==a.ay&&(x.row==a.row&&(x.bZ==a.bZ&&true))
def ad4(l:aa aP)(a:aP)(C:l.length<1073741824):Ez l a=some (jm (eH a) l):=by
 unfold Ez jm;have e:=Ja (step:=HZ) l (eH a) (λi=>((l,(),l.length,i,()),((a.ay,a.row,a.bZ,()),()))) _ _ bk (λk h=>by
  unfold HZ eH aM bG xG xI;dsimp only;rw[aY,aq,aO ⟨by omega,by omega⟩];simp only[bE];rw[bY,BEq.comm (a:=a.ay),BEq.comm (a:=a.row),BEq.comm (a:=a.bZ)];cases (l[k].ay==a.ay&&(l[k].row==a.row&&(l[k].bZ==a.bZ&&true)))<;>rfl) (by
  unfold HZ aM bG xG xI;dsimp only;rw[bq,av]) (cv C)
 rw[dz]at e;rw[e];cases l.findIdx? _<;>rfl
def partAt(c:au)(i:Nat):Bool:=match c.bB[i]?,c.guard[i]? with
 |some t,some x=>lO t&&aT x 3 1000
 |_,_=>false
def AI(c:au)(i:Nat):Bool:=match c.pending[i]? with
 |some a=>fM c.config.ak a&&(a.bZ==0 && !((c.pending.take i).any (eH a)))
 |none=>false
def th(c:au):Bool:=(c.aB.aD.length:Int)==aL c.config.ak&&((c.bB.length:Int)==aL c.config.ak&&((c.guard.length:Int)==aL c.config.ak&&(!(decide ((c.pending.length:Int) > 128))&&((List.range c.bB.length).all (partAt c)&&(List.range c.pending.length).all (AI c)))))
def ad5(c:au)(G:(Int×Int×Int×Int×aj))(n i:Int):Mx (((),(),n,i,()),(jC c,G,()))=(bif (decide (i<n))then if C:0<=i/\i.toNat<c.bB.length then (Au (c.bB[i.toNat]'C.2)).bind λD=>bif (!D)then some (.inr (.inl ((false,()),())))else if E:0<=i/\i.toNat<c.guard.length then (bU (c.guard[i.toNat]'E.2) (3:Int) (1000:Int)).bind λI=>bif (!I)then some (.inr (.inl ((false,()),())))else some (.inl (((),(),n,(W6 (i+(1:Int))),()),(jC c,G,())))else none else none else some (.inr (.inr (.inl (((),(),()),(jC c,G,())))))):=rfl
def ad6(c:au)(g:aH)(l:aa aP)(n i:Int):My (((),(),l,n,i,()),(jC c,(g.bM,g.aE,g.rows,g.aR,()),()))=(bif (decide (i<n))then if C:0<=i/\i.toNat<l.length then (Co g (l[i.toNat]'C.2)).bind λD=>bif (!D)then some (.inr (.inl ((false,()),())))else bif ((l[i.toNat]'C.2).bZ != (0:Int))then some (.inr (.inl ((false,()),())))else (Ez c.pending (l[i.toNat]'C.2)).bind λE=>bif (E != i)then some (.inr (.inl ((false,()),())))else some (.inl (((),(),l,n,(W6 (i+(1:Int))),()),(jC c,(g.bM,g.aE,g.rows,g.aR,()),())))else none else some (.inr (.inr (.inl ((),()))))):=rfl
def apJ(c:au)(T:c.aB.aD.length<1073741824):Mz c=some (fN c.aB&&th c):=by
 unfold Mz th cZ;rw[jl,ax,I9 _ T,ax];cases fN c.aB with
 |false=>rfl
 |true=>
 simp only[bL,av,cM];have b1:=eG c.config.ak;by_cases C:(c.aB.aD.length:Int)=aL c.config.ak
 ·by_cases D:(c.bB.length:Int)=aL c.config.ak
  ·by_cases E:(c.guard.length:Int)=aL c.config.ak
   ·have U:((c.aB.aD.length:Int) != aL c.config.ak)=false:=by simp[C]
    have Y:((c.bB.length:Int) != aL c.config.ak)=false:=by simp[D]
    have Z:((c.guard.length:Int) != aL c.config.ak)=false:=by simp[E]
    have q1:((c.aB.aD.length:Int)==aL c.config.ak)=true:=by simp[C]
    have q2:((c.bB.length:Int)==aL c.config.ak)=true:=by simp[D]
    have q3:((c.guard.length:Int)==aL c.config.ak)=true:=by simp[E]
    rw[U,Y,Z,q1,q2,q3];simp only[av,cM];cases I:decide ((c.pending.length:Int) > 128)with
    |true=>rfl
    | false=>
     have I:=of_decide_eq_false I;have l1:=jR (step:=Mx) (List.range c.bB.length) (partAt c) (λi=>(((),(),(c.bB.length:Int),(i:Int),()),(jC c,(c.config.ak.bM,c.config.ak.aE,c.config.ak.rows,c.config.ak.aR,()),()))) (.inl ((false,()),())) (.inr (.inl (((),(),()),(jC c,(c.config.ak.bM,c.config.ak.aE,c.config.ak.rows,c.config.ak.aR,()),())))) bk (λk h=>by
      rw[eD]at h;rw[lV,ad5,aY,aq,aO ⟨by omega,by omega⟩,aO ⟨by omega,by omega⟩];simp only[bE,Ur,c9,ax];unfold partAt;rw[bK h,bK (show k<c.guard.length by omega),bY];simp only;cases lO c.bB[k]<;>cases aT (c.guard[k]'(by omega)) 3 1000<;>rfl) (by
      rw[eD,ad5,bq,av]) (by rw[eD];exact cv)
     have l2:=jR (step:=My) (List.range c.pending.length) (AI c) (λi=>(((),(),c.pending,(c.pending.length:Int),(i:Int),()),(jC c,(c.config.ak.bM,c.config.ak.aE,c.config.ak.rows,c.config.ak.aR,()),()))) (.inl ((false,()),())) (.inr (.inl ((),()))) bk (λk h=>by
      rw[eD]at h;rw[lV,ad6,aY,aq,aO ⟨by omega,by omega⟩];simp only[bE,Ub,ax,ad4 _ _ (show c.pending.length<1073741824 by omega),bne];have O:=adX (p:=eH c.pending[k]) h (by simp[eH]);rw[bne]at O;rw[O];unfold AI;rw[bK h,bY];simp only;cases fM c.config.ak c.pending[k]<;>cases c.pending[k].bZ==0<;>cases (c.pending.take k).any (eH c.pending[k])<;>rfl) (by
      rw[eD,ad6,bq,av]) (by rw[eD];exact cv)
     rw[dz]at l1 l2;simp only[Bool.not_false,av,cM]
     refine(bz (λo=>Option.bind o _) l1).trans ?_
     rw[ax];cases (List.range c.bB.length).all (partAt c)with
     |false=>rfl
     | true=>
      simp only[aq,Sum.elim_inr,gA,cM]
      refine(bz (λo=>Option.bind o _) l2).trans ?_
      rw[ax];cases (List.range c.pending.length).all (AI c)<;>rfl
   ·simp[C,D,gv E,E]
  ·simp[C,gv D,D]
 ·simp[gv C,C]
def uP(n:Int)(u:Bool)(k:Int):Bool:=bif u then aT n 0 (k-1)else n==0
def cQ(g:aH)(c:aS):Bool:=cx g&&(aT c.kind 1 9&&(uP c.ay (aT c.kind 1 5) (aL g)&&(uP c.row (c.kind==1) g.rows&&uP c.bZ (c.kind==2 ||c.kind==3) g.aR)))
def apK(k:Int):MC k=some (k==1):=by
 unfold MC;rfl
def apL(k:Int):MD k=some (k==2 || k==3):=by
 unfold MD;cases k==2<;>rfl
def Uu{n k:Int}(u:Bool)(h:-1000<k/\k<1000):Ct n u k=some (uP n u k):=by
 rw[apF,bf];rfl
def NQ(g:aH)(c:aS):Cu g c=some (cQ g c):=by
 unfold Cu cQ;rw[qp];cases C:cx g with
 |false=>rfl
 | true=>
  have D:=eG g;have E:=fY C;unfold Tz;simp only[aq,jl,ax,c9,Jc,apK,apL,Uu _ (show -1000<aL g/\aL g<1000 by omega),Uu _ (show -1000<g.rows/\g.rows<1000 by omega),Uu _ (show -1000<g.aR/\g.aR<1000 by omega),cM]
  grind
def oX{g:aH}{c:aS}(h:cQ g c=true):cx g=true/\(1 <= c.kind/\c.kind <= 9)/\(c.kind <= 5 -> 0 <= c.ay/\c.ay<aL g)/\(5<c.kind -> c.ay=0):=by
 simp[cQ,aK,br]at h
 refine⟨h.1,h.2.1,λD=>?_,λD=>?_⟩
 ·have:=h.2.2.1;rw[uP,show aT _ 1 5=true from br.2 ⟨h.2.1.1,D⟩,aq,br]at this;omega
 ·have:=h.2.2.1;have C:aT c.kind 1 5=false:=by
   cases C:aT _ 1 5 with
   |false=>rfl
   |true=>have:=br.1 C;omega
  rwa [uP,C,av,ff]at this
def kinds{k:Int}(h:1<=k/\k<=9):k=1\/k=2\/k=3\/k=4\/k=5\/k=6\/k=7\/k=8\/k=9:=by omega
def cX(r:bJ)(b:Int):dQ:=r.aE.getD b.toNat ⟨false,0⟩
def iz(r:bJ)(c:aS):Bool:=
 bif c.kind==1 ||c.kind==5 then r.aN==0 && !(cX r c.ay).open_ else
 bif c.kind==2 ||c.kind==3 ||c.kind==4 then r.aN==0&&(cX r c.ay).open_ else
 bif c.kind==6 then r.aN==0 else
 bif c.kind==8 then r.aN==0&&r.aE.all (λb=>!b.open_)else
 bif c.kind==7 then r.aN==1 else r.aN==2
def cR(r:bJ)(c:aS):bJ:=
 bif c.kind==1 then ⟨r.aE.set c.ay.toNat ⟨true,c.row⟩,r.aN⟩else
 bif c.kind==4 then ⟨r.aE.set c.ay.toNat ⟨false,0⟩,r.aN⟩else
 bif c.kind==6 then ⟨r.aE,1⟩else
 bif c.kind==8 then ⟨r.aE,2⟩else
 bif c.kind==7 ||c.kind==9 then ⟨r.aE,0⟩else r
def apM{r:bJ}{b:Int}(h:b.toNat<r.aE.length):r.aE[b.toNat]=cX r b:=by
 simp[cX,h]
def apN(r:bJ):(((opens 0 r.aE).length:Int)==0)=r.aE.all λb=>!b.open_:=by
 rw[<-Um 0 r.aE,Bool.eq_iff_iff];simp only[ff];omega
def Uv(g:aH)(r:bJ)(c:aS):Ib g r c=some (kC g r&&(cQ g c&&iz r c)):=by
 unfold Ib xI;rw[adW,ax];cases D:kC g r with
 |false=>rfl
 | true=>
  rw[NQ,ax];cases E:cQ g c with
  |false=>rfl
  | true=>
   have⟨T,I,C,_⟩:=oX E;have hlen:(r.aE.length:Int)=aL g:=by
    simp[kC,aK,ff]at D;simp_all
   have U:=eG g;have C:c.kind <= 5 -> 0 <= c.ay/\c.ay.toNat<r.aE.length:=λh=>by have:=C h;omega
   have O:r.aE.length<1073741823:=by omega
   simp only[bL,av,cM];unfold iz;rcases kinds I with h|h|h|h|h|h|h|h|h
   case inr.inr.inr.inr.inr.inr.inr.inl=>simp[h,NB r O,apN];cases r.aN==0<;>rfl
   all_goals (try (have C:=C (by omega)))<;>simp[h,C,apM]<;>(cases r.aN==0<;>rfl)
def kD(g:aH)(r:bJ)(c:aS):Bool:=kC g r&&(cQ g c&&iz r c)
def E1(g:aH)(r:bJ)(c:aS):bJ×Bool:=bif kD g r c then (cR r c,true)else (r,false)
def CL{g:aH}{r:bJ}{c:aS}(h:kD g r c=true):cx g=true/\(r.aE.length:Int)=aL g/\(1 <= c.kind/\c.kind <= 9)/\(c.kind <= 5 -> 0 <= c.ay/\c.ay.toNat<r.aE.length):=by
 simp[kD,aK]at h;have⟨D,E,I,_⟩:=oX h.2.1;have C:=h.1;simp[kC,aK,ff]at C;simp_all
def apO(r:bJ):(⟨r.aE,r.aN⟩:bJ)=r:=rfl
def apP(r:bJ)(h:r.aE.length<1073741824):Eo r=some r:=by
 unfold Eo xA xZ;rw[show ([]).length+r.aE.length=r.aE.length by simp,eO h];rfl
def Uw(g:aH)(r:bJ)(c:aS)(h:r.aE.length<1073741824):yo g r c=some (E1 g r c):=by
 unfold yo E1 xL;rw[apP r h,Uv];change (bif !(kD g r c)then _ else _)=_;cases C:kD g r c with
 |false=>rfl
 | true=>
  have⟨D,hlen,E,I⟩:=CL C;unfold cR
  grind
def kE(g:aH):bJ:=⟨List.replicate (aL g).toNat ⟨false,0⟩,0⟩
def Ux(g:aH):Ei g=some (kE g):=by
 have D:=eG g;unfold Ei kE;rw[qp,ax];cases C:cx g with
 | false=>
  have:aL g=0:=by simp[aL,C]
  rw[this];rfl
 | true=>
  simp only[bL,av,jl,ax];rw[aW ⟨by omega,by omega,by omega⟩]
def ad7(r:bJ)(c:aS):(cR r c).aE.length=r.aE.length:=by
 unfold cR
 grind
def rI(t:bW)(a b:Int):Int:=
 bif a==1 then (bif b==2 ||b==3 then t.qQ else bif b==4 then t.jG else bif b==1 ||b==5 then W6 (t.jG+t.rp)else 0)else
 bif a==2 then (bif b==4 then t.mQ else bif b==1 ||b==5 then W6 (t.mQ+t.rp)else 0)else
 bif a==3 then (bif b==4 then t.wr else bif b==1 ||b==5 then W6 (t.wr+t.rp)else 0)else
 bif a==4 then (bif b==1 ||b==5 then t.rp else 0)else
 bif a==5 then (bif b==1 ||b==5 then t.tL else 0)else 0
def v9(t:bW)(a b:Int)(C:Bool):Int:=
 bif a==7 then t.xp else bif a==9 then t.xs else
 bif (a==6&&b==7) ||(a==8&&b==9)then t.tM else
 bif a==1&&b==1 then (bif C then t.om else t.rT)else
 bif (a==2&&b==2) ||(a==3&&b==3)then (bif C then t.rV else t.rU)else
 bif a==3&&b==2 then (bif C then t.rX else t.rW)else
 bif a==2&&b==3 then t.vh else
 bif a==5&&b==5 then t.om else
 bif a==2&&b==6 then t.mQ else bif a==3&&b==6 then t.wr else
 bif b==8 then rI t a 1 else 0
def apQ(t:bW){a b:Int}(C:1<=a/\a<=9)(D:1<=b/\b<=9):MF t a b=some (rI t a b):=by
 rcases kinds C with rfl|rfl|rfl|rfl|rfl|rfl|rfl|rfl|rfl<;>rcases kinds D with rfl|rfl|rfl|rfl|rfl|rfl|rfl|rfl|rfl<;>kernel_rfl
def Uy(t:bW){a b:Int}(C:Bool)(D:1<=a/\a<=9)(E:1<=b/\b<=9):MG t a b C=some (v9 t a b C):=by
 cases C<;>rcases kinds D with rfl|rfl|rfl|rfl|rfl|rfl|rfl|rfl|rfl<;>rcases kinds E with rfl|rfl|rfl|rfl|rfl|rfl|rfl|rfl|rfl<;>kernel_rfl
def rJ(a b:aS):Bool:=aT a.kind 1 5&&aT b.kind 1 5
def yE(g:aH)(a b:aS):Bool:=rJ a b&&(W6 (a.ay.tdiv g.aE)==W6 (b.ay.tdiv g.aE))
def gf(g:aH)(t:bW)(a b:aS):Int:=
 bif rJ a b&&a.ay==b.ay then max (max 1 (v9 t a.kind b.kind (yE g a b))) (rI t a.kind b.kind)else max 1 (v9 t a.kind b.kind (yE g a b))
def Uz(x y:Int):(if x > y then x else y)=max x y:=by
 rw[Int.max_def];split<;>split<;>omega
def ad8{g:aH}{b:Int}(h:0<=b/\b<aL g)(C:cx g=true):Ie g b=some (W6 (b.tdiv g.aE)):=by
 have D:=eG g;have E:=fY C;unfold Ie;rw[jl,ax,c9,ax,bf,br.2 ⟨h.1,by omega⟩,bL,av,aX]
def apR{k:Int}(h:1<=k/\k<=9):aT k 1 5=decide (k<=5):=by
 unfold aT;rw[aY h.1,cM]
def ad9{g:aH}(t:bW){a b:aS}(E:cx g=true)(C:1 <= a.kind/\a.kind <= 9)(D:1 <= b.kind/\b.kind <= 9)(I:a.kind <= 5 -> 0 <= a.ay/\a.ay<aL g)(O:b.kind <= 5 -> 0 <= b.ay/\b.ay<aL g):Av g t a b=some (gf g t a b):=by
 unfold Av gf yE rJ;simp only[Jc,ax];cases T:aT a.kind 1 5 with
 | false=>
  simp;rw[Uy t false C D,ax,Uz,Int.max_comm]
 | true=>
  cases U:aT b.kind 1 5 with
  | false=>
   simp;rw[Uy t false C D,ax,Uz,Int.max_comm]
  | true=>
   have Y:=br.1 T;have Z:=br.1 U;simp only[aq,cM];rw[ad8 (I Y.2) E,ax,ad8 (O Z.2) E,ax,Uy t _ C D,ax,apQ t C D];cases a.ay==b.ay with
   |false=>grind
   |true =>grind
def apS(g:aH)(t:bW)(a b:aS):1<=gf g t a b:=by
 unfold gf;cases rJ a b&&a.ay==b.ay<;>simp only[aq,av]<;>omega
def UA{t:bW}(h:iW t=true):∀ x∈rF t,1 <= x/\x <= 64:=by
 simp[iW,aK,bS]at h;exact λx C=>br.1 (h.1 x C)
def aea{t:bW}(h:iW t=true)(a b:Int):0 <= rI t a b/\rI t a b <= 128:=by
 have C:=UA h;simp only[rF,gp,List.not_mem_nil,or_false,forall_eq_or_imp,forall_eq]at C;have⟨D,E,I,O,T,U,Y,Z,h9,yz,uQ,qc,oY,s7,s8,uF,AJ⟩:=C;unfold rI;rw[bf (n:=t.jG+t.rp),bf (n:=t.mQ+t.rp),bf (n:=t.wr+t.rp)]
 grind
def oZ{c:Bool}{x y a b:Int}(C:a<=x/\x<=b)(D:a<=y/\y<=b):a<=(bif c then x else y)/\(bif c then x else y)<=b:=by
 cases c
 ·exact D
 ·exact C
def apT{t:bW}(h:iW t=true)(a b:Int)(n:Bool):0 <= v9 t a b n/\v9 t a b n <= 128:=by
 have C:=UA h;simp[rF,gp,forall_eq_or_imp,forall_eq]at C;have D:=aea h a 1
 repeat' (first|exact D|refine oZ ?_ ?_|omega)
def gE(g:aH)(c:aS):Int:=9*(bif aT c.kind 1 5 then c.ay else aL g)+c.kind-1
def E2{g:aH}{c:aS}(h:cQ g c=true):0 <= gE g c/\gE g c<9*(aL g+1):=by
 have⟨C,D,E,_⟩:=oX h;have I:=eG g;unfold gE
 grind
def apU{g:aH}{c:aS}(h:cQ g c=true):MW g c=some (gE g c):=by
 have⟨C,D,E,_⟩:=oX h;have I:=eG g;unfold MW gE;simp[jl,ax,Jc];cases hu:aT _ 1 5 with
 | true=>
  have:=br.1 hu;simp;rw[bf (n:=9*c.ay),bf (n:=9*c.ay+c.kind),bf]
 | false=>
  simp;rw[bf (n:=9*aL g),bf (n:=9*aL g+c.kind),bf]
def apV(r:dN)(C:r.last.length<1073741824)(D:r.aZ.length<1073741824):Ep r=some r:=by
 unfold Ep xA xZ;rw[show ([]).length+r.last.length=r.last.length by simp,eO C,show ([]).length+r.aZ.length=r.aZ.length by simp,eO D];rfl
def tj(r:dN)(x:Int):Bool:=match r.aZ.getLast? with
 |some y=>decide (x<=y)
 |none=>false
def AK(l:aa Int)(x:Int):aa Int:=(l++[x]).drop (l.length+1-4)
def fO(g:aH)(r:dN)(e:bH):dN:=
 bif jn g r&&(cQ g e.cmd&&(aT e.at_ 0 1000000 && !(e.cmd.kind==1&&tj r e.at_)))then ⟨r.last.set (gE g e.cmd).toNat e.at_,bif e.cmd.kind==1 then AK r.aZ e.at_ else r.aZ⟩else r
def E3{g:aH}{r:dN}(h:jn g r=true):cx g=true/\(r.last.length:Int)=9*(aL g+1)/\r.aZ.length <= 4:=by
 simp[jn,aK,ff,gk,qO]at h
 grind
def apW{l:aa Int}(h:0<l.length)(C:(W6 ((l.length:Int)-1)).toNat<l.length)(D:l.length<1073741824):l.getLast?=some (l[(W6 ((l.length:Int)-1)).toNat]'C):=by
 have e:(W6 ((l.length:Int)-1)).toNat=l.length-1:=by rw[bf];omega
 simp only[e];rw[List.getLast?_eq_getElem?,bK (by omega)]
def aeb(g:aH)(r:dN)(e:bH)(T:r.last.length<1073741824)(U:r.aZ.length<1073741824):EP g r e=some (fO g r e):=by
 unfold EP fO xA xI xL xZ;rw[apV r T U,ax,Us,ax];cases Y:jn g r with
 |false=>rfl
 | true=>
  simp only[bL,av,cM];rw[NQ,ax];cases D:cQ g e.cmd with
  |false=>rfl
  | true=>
   simp only[bL,av,cM];rw[c9,ax];cases ha:aT e.at_ 0 1000000 with
   |false=>rfl
   | true=>
    obtain⟨hg,hl,h4⟩:=E3 Y;have E:=E2 D;have b1:=eG g;simp only[bL,av,cM,apU D,ax];cases hk:(e.cmd.kind==1)with
    | false=>
     simp only[av,Bool.false_and,Bool.not_false,aq];rw[aO ⟨E.1,by omega⟩,aO]
    | true=>
     have tl:∀ (A B:ah dN),(if qc:0<=gE g e.cmd/\(gE g e.cmd).toNat<r.last.length then if oY:(gE g e.cmd).toNat<r.last.length then (bif bV (r.aZ.length+([e.at_]:aa Int).length)then if 0<=(if W6 (((r.aZ++[e.at_]).length:Int)-4) > 0 then W6 (((r.aZ++[e.at_]).length:Int)-4)else 0)/\(if W6 (((r.aZ++[e.at_]).length:Int)-4) > 0 then W6 (((r.aZ++[e.at_]).length:Int)-4)else 0)<=((r.aZ++[e.at_]).length:Int)/\((r.aZ++[e.at_]).length:Int)<=((r.aZ++[e.at_]).length:Int)then bif bV (([]:aa Int).length+(((r.aZ++[e.at_]).take (((r.aZ++[e.at_]).length:Int).toNat)).drop ((if W6 (((r.aZ++[e.at_]).length:Int)-4) > 0 then W6 (((r.aZ++[e.at_]).length:Int)-4)else 0).toNat)).length)then some (⟨(r.last.set (gE g e.cmd).toNat e.at_),(([]:aa Int)++(((r.aZ++[e.at_]).take (((r.aZ++[e.at_]).length:Int).toNat)).drop ((if W6 (((r.aZ++[e.at_]).length:Int)-4) > 0 then W6 (((r.aZ++[e.at_]).length:Int)-4)else 0).toNat)))⟩:dN)else none else none else none)else A else B)=some ⟨r.last.set (gE g e.cmd).toNat e.at_,AK r.aZ e.at_⟩:=by
      intro A B;have I:(r.aZ++[e.at_]).length=r.aZ.length+1:=by simp
      have Z:(if W6 (((r.aZ.length+1:Nat):Int)-4) > 0 then W6 (((r.aZ.length+1:Nat):Int)-4)else 0)=((r.aZ.length+1-4:Nat):Int):=by
       rw[bf];split<;>omega
      rw[aO ⟨E.1,by omega⟩,aO,eO (by simp;omega),aq,I,Z,aW ⟨by omega,by omega,by omega⟩,eO (by simp;omega),aq];unfold AK;simp only[bE,List.nil_append];rw[<-I,mP]
     simp only[aq,cM];unfold tj;by_cases C:0<r.aZ.length
     ·have O:(W6 ((r.aZ.length:Int)-1))=((r.aZ.length-1:Nat):Int):=by rw[bf];omega
      have hi:(W6 ((r.aZ.length:Int)-1)).toNat<r.aZ.length:=by rw[O];omega
      rw[aY (show (r.aZ.length:Int) > 0 by omega),aq,aO ⟨by rw[O];omega,hi⟩,apW C hi (by omega)];dsimp only;cases decide (e.at_<=r.aZ[(W6 ((r.aZ.length:Int)-1)).toNat])with
      |true=>rfl
      | false=>
       simp only[av,Bool.not_false,aq];exact tl _ _
     ·have C:r.aZ=[]:=vg (by omega);rw[bq (by rw[C];simp),av];rw[show r.aZ.getLast?=none by rw[C];rfl];simp only[Bool.not_false,aq];exact tl _ _
def mF{A T:Type}(f:Nat->A->T->ah A):Nat->aa T->A->ah A
 |_,[],a=>some a
 | k,x :: l,a=>match f k a x with
  |some C=>mF f (k+1) l C
  |none=>none
def UB{α β T A:Type}{step:α->ah (α⊕β)}(f:Nat->A->T->ah A)(S:Nat->A->α)(zf:Nat->A->T->β)(z:A->β)(I:Nat->A->Prop):∀ (l:aa T) (k:Nat) (a:A) (fuel:Nat),I k a->l.length<fuel->
  (∀i (h:i<l.length) a,I (k+i) a->step (S (k+i) a)=some (match f (k+i) a l[i]with|some C=>.inl (S (k+i+1) C)|none=>.inr (zf (k+i) a l[i])))->
  (∀i (h:i<l.length) a C,I (k+i) a->f (k+i) a l[i]=some C->I (k+i+1) C)->
  (∀a,I (k+l.length) a->step (S (k+l.length) a)=some (.inr (z a)))->
  (∃C,mF f k l a=some C/\I (k+l.length) C/\iter step fuel (S k a)=some (z C))\/(mF f k l a=none/\∃i C,∃(h:i<l.length),I (k+i) C/\f (k+i) C l[i]=none/\iter step fuel (S k a)=some (zf (k+i) C l[i]))
 | [],k,a,fuel,E,Y,hs,hI,hz=>by
  obtain⟨n,rfl⟩:∃n,fuel=n+1:=⟨fuel-1,by simp at Y;omega⟩
  refine .inl ⟨a,rfl,by simpa using E,?_⟩;have:=hz a (by simpa using E);rw[List.length_nil,Nat.add_zero]at this;simp only[iter,this]
 | x :: l,k,a,fuel,E,Y,hs,hI,hz=>by
  obtain⟨n,rfl⟩:∃n,fuel=n+1:=⟨fuel-1,by simp at Y;omega⟩
  have O:=hs 0 (by simp) a (by simpa using E);simp only[Nat.add_zero,List.getElem_cons_zero]at O;cases D:f k a x with
  | none=>
   rw[D]at O;refine .inr ⟨by simp only[mF,D],0,a,by simp,by simpa using E,by simpa using D,?_⟩;simp only[iter,O,Nat.add_zero,List.getElem_cons_zero]
  | some Z=>
   rw[D]at O;have h1:I (k+1) Z:=by
    have:=hI 0 (by simp) a Z (by simpa using E) (by simpa using D)
    simpa using this
   have ih:=UB f S zf z I l (k+1) Z n h1 (by simp at Y;omega) (λi h a U=>by
     have e:=hs (i+1) (by simp;omega) a (by rw[show k+(i+1)=k+1+i by omega];exact U);rw[show k+(i+1)=k+1+i by omega]at e
     simpa using e) (λi h a C U hff=>by
     have e:=hI (i+1) (by simp;omega) a C (by rw[show k+(i+1)=k+1+i by omega];exact U) (by rw[show k+(i+1)=k+1+i by omega];simpa using hff);rw[show k+(i+1)=k+1+i by omega]at e;exact e) (λa U=>by
     have e:=hz a (by simp only[mN];rw[show k+(l.length+1)=k+1+l.length by omega];exact U);simp only[mN]at e;rw[show k+(l.length+1)=k+1+l.length by omega]at e;exact e)
   have hit:iter step (n+1) (S k a)=iter step n (S (k+1) Z):=by simp only[iter,O]
   rcases ih with ⟨C,e1,e2,e3⟩|⟨e1,i,C,h,e2,e3,e4⟩
   ·refine .inl ⟨C,by simp only[mF,D];exact e1,?_,by rw[hit];exact e3⟩;simp only[mN];rw[show k+(l.length+1)=k+1+l.length by omega];exact e2
   ·refine .inr ⟨by simp only[mF,D];exact e1,i+1,C,by simp;omega,?_,?_,?_⟩
    ·rw[show k+(i+1)=k+1+i by omega];exact e2
    ·rw[show k+(i+1)=k+1+i by omega];simpa using e3
    ·rw[hit,show k+(i+1)=k+1+i by omega];simpa using e4
def gw(l:aa bH):aa Int:=(l.filter λe=>e.cmd.kind==1).map (·.at_)
def apX{l:aa bH}{i:Nat}(h:i<l.length):gw (l.take (i+1))=bif l[i].cmd.kind==1 then gw (l.take i)++[l[i].at_]else gw (l.take i):=by
 unfold gw;rw[uM h,List.filter_append,List.map_append];cases C:(l[i].cmd.kind==1)<;>simp[List.filter,C]
def aec(l:aa bH):(gw l).length<=l.length:=by
 unfold gw;rw[eT];exact List.length_filter_le _ _
def apY(l:aa bH)(C:l.length<1073741823):Nq l=some (gw l):=by
 have e:=eF (step:=IV) l.length (λi=>(((),l,(l.length:Int),(i:Int),()),(gw (l.take i),()))) (.inl (((),()),(gw l,()))) bk (λk h=>by
  have hlen:=aec (l.take k);rw[kL]at hlen;unfold IV aM xG xI;dsimp only;rw[aY,aq,aO ⟨by omega,by omega⟩,bY,apX h];simp only[bE];cases l[k].cmd.kind==1 with
  |true=>rw[aq,eO (by simp;omega)];rfl
  |false=>rfl) (by
  unfold IV aM xG xI;dsimp only;rw[bq,av,mP]) (cv)
 unfold Nq bR;rw[dz,List.take_zero]at e;exact(bz (λo=>Option.bind o _) e).trans rfl
def yF(g:aH)(e:bH):Bool:=cQ g e.cmd&&aT e.at_ 0 1000000
def UC{g:aH}{e:bH}(h:yF g e=true):cQ g e.cmd=true/\0<=e.at_/\e.at_<=1000000:=by
 simp only[yF,aK,br]at h;exact h
def UD{t:bW}(C:iW t=true)(g:aH)(a b:aS):1 <= gf g t a b/\gf g t a b <= 128:=by
 have D:=apT C a.kind b.kind (yE g a b);have E:=aea C a.kind b.kind;unfold gf
 grind
def apZ{g:aH}{t:bW}{a b:aS}(C:cQ g a=true)(D:cQ g b=true):Av g t a b=some (gf g t a b):=by
 obtain⟨E,I,O,_⟩:=oX C;obtain⟨_,T,U,_⟩:=oX D;exact ad9 t E I T O U
def uR(g:aH)(t:bW)(l:aa bH)(e:bH):Bool:=l.any λx=>decide (e.at_-x.at_<gf g t x.cmd e.cmd)
def AL(g:aH)(t:bW)(l:aa bH)(c:aS):Int:=l.foldl (λm x=>max m (x.at_+gf g t x.cmd c)) 0
def ap0{g:aH}{t:bW}{l:aa bH}{c:aS}{i:Nat}(h:i<l.length):AL g t (l.take (i+1)) c=max (AL g t (l.take i) c) (l[i].at_+gf g t l[i].cmd c):=by
 unfold AL;rw[uM h,List.foldl_append];rfl
def aed(g:aH)(t:bW)(l:aa bH)(c:aS)(m i n:Int):Np (((),(),(),m,l,n,i,()),((g.bM,g.aE,g.rows,g.aR,()),t,(c.kind,c.ay,c.row,c.bZ,()),())) =
  bif decide (i<n)then if C:0<=i/\i.toNat<l.length then ((Av g t (l[i.toNat]'C.2).cmd c).bind λD=>some (.inl (((),(),(),(if (W6 ((l[i.toNat]'C.2).at_+D)) > m then (W6 ((l[i.toNat]'C.2).at_+D))else m),l,n,(W6 (i+(1:Int))),()),((g.bM,g.aE,g.rows,g.aR,()),t,(c.kind,c.ay,c.row,c.bZ,()),()))))else none else some (.inr (.inl ((m,()),()))):=rfl
def ap1{g:aH}{t:bW}(C:iW t=true){l:aa bH}{c:aS}(O:l.length<1073741823)(D:∀ x∈l,yF g x=true)(E:cQ g c=true):IU g t l c=some (AL g t l c):=by
 have e:=eF (step:=Np) l.length (λi=>(((),(),(),AL g t (l.take i) c,l,(l.length:Int),(i:Int),()),((g.bM,g.aE,g.rows,g.aR,()),t,(c.kind,c.ay,c.row,c.bZ,()),()))) (.inl ((AL g t l c,()),())) bk (λk h=>by
  obtain⟨I,T,U⟩:=UC (D l[k] (dc h));have Y:=UD C g l[k].cmd c;rw[aed,aY,aq,aO ⟨by omega,by omega⟩];simp only[bE];rw[apZ I E,ax,bf,bY,Uz,Int.max_comm,ap0 h]) (by
  rw[aed,bq,av,mP]) (cv)
 unfold IU bR;rw[dz,List.take_zero]at e;exact(bz (λo=>Option.bind o _) e).trans rfl
def aee{T:Type}(f:T->Int)(y:Int):∀ (l:aa T) (m:Int),(y<l.foldl (λm x=>max m (f x)) m) ↔ (y<m\/∃ x∈l,y<f x)
 |[],m=>by simp
 | x :: l,m=>by
  rw[List.foldl_cons,aee f y l];simp only[gp,exists_eq_or_imp];constructor
  ·rintro(h | h)
   ·rcases(show y<m\/m<=y by omega)with h1 | h1
    ·exact .inl h1
    ·exact .inr (.inl (by omega))
   ·exact .inr (.inr h)
  ·rintro(h | h | h)
   ·exact .inl (by omega)
   ·exact .inl (by omega)
   ·exact .inr h
def ap2{g:aH}{t:bW}{l:aa bH}{e:bH}(E:0<=e.at_):decide (e.at_<AL g t l e.cmd)=uR g t l e:=by
 rw[Bool.eq_iff_iff,fq];unfold AL uR;rw[aee,List.any_eq_true];simp only[fq];constructor
 ·rintro(h | ⟨x,C,D⟩)
  ·omega
  ·exact⟨x,C,by omega⟩
 ·rintro⟨x,C,D⟩;exact .inr ⟨x,C,by omega⟩
def NR(t:bW)(A:aa Int):Int:=if A.length<4 then 0 else A.getD (A.length-4) 0+t.jZ
def AM(t:bW)(A:aa Int)(x:Int):Bool:=decide (4<=A.length)&&decide (x-A.getD (A.length-4) 0<t.jZ)
def ap3{g:aH}{l:aa bH}(h:∀ x∈l,yF g x=true):∀ y∈gw l,0<=y/\y<=1000000:=by
 intro y C;unfold gw at C;obtain⟨e,D,rfl⟩:=List.mem_map.1 C;exact(UC (h e (List.mem_filter.1 D).1)).2
def ap4{A:aa Int}(h:∀ y∈A,0<=y/\y<=1000000)(i:Nat):0<=A.getD i 0/\A.getD i 0<=1000000:=by
 rw[cL];cases hi:A[i]? with
 |none=>exact⟨by simp,by simp⟩
 |some y=>exact h y (gy hi)
def aef{t:bW}(C:iW t=true):1<=t.jZ/\t.jZ<=64:=UA C _ (by simp[rF])
def ap5{g:aH}{t:bW}(E:iW t=true){l:aa bH}(I:l.length<1073741823)(O:∀ x∈l,yF g x=true):IW t l=some (NR t (gw l)):=by
 have T:=ap3 O;have hlen:=aec l;have U:=aef E;unfold IW NR xL;rw[apY l I,ax];generalize gw l=A at *
 by_cases D:A.length<4
 ·rw[aY,aq,aW D]
 ·have C:W6 ((A.length:Int)-4)=((A.length-4:Nat):Int):=by rw[bf];omega
  have Y:=ap4 T (A.length-4);rw[bq,av,aX D];have hi:(W6 ((A.length:Int)-4)).toNat<A.length:=by rw[C];omega
  rw[aO ⟨by rw[C];omega,hi⟩,aO hi];have e:A[(W6 ((A.length:Int)-4)).toNat]=A.getD (A.length-4) 0:=by
   rw[cL];have:(W6 ((A.length:Int)-4)).toNat=A.length-4:=by rw[C];omega
   simp only[this];rw[bK (by omega)];rfl
  dsimp only;rw[e,bf]
def ap6{t:bW}{A:aa Int}{x:Int}(D:0<=x):decide (x<NR t A)=AM t A x:=by
 unfold NR AM;by_cases C:A.length<4
 ·rw[aW C,bq,bq (show ¬ 4<=A.length by omega),Bool.false_and]
 ·rw[aX C,aY (show 4<=A.length by omega),cM,Bool.eq_iff_iff];simp only[fq];omega
def UE{T:Type}{p:T -> Bool}{l:aa T}{i:Nat}{x:T}(h:l.all p=true)(C:p x=true):(l.set i x).all p=true:=by grind
def rK{g:aH}{r:bJ}(h:kC g r=true):cx g=true/\(r.aE.length:Int)=aL g/\(0 <= r.aN/\r.aN <= 2)/\r.aE.all (yD g)=true/\(r.aN=2 -> (r.aE.all λb=>!b.open_)=true):=by
 simp only[kC,aK,ff,br,dZ,bne_iff_ne]at h
 grind
def CM{g:aH}{r:bJ}(C:cx g=true)(D:(r.aE.length:Int)=aL g)(E:0 <= r.aN/\r.aN <= 2)(I:r.aE.all (yD g)=true)(O:r.aN=2 -> (r.aE.all λb=>!b.open_)=true):kC g r=true:=by
 simp only[kC,aK,ff,br,dZ,bne_iff_ne]
 grind
def UF{g:aH}{r:bJ}{c:aS}(O:kC g r=true)(I:cQ g c=true)(D:iz r c=true):kC g (cR r c)=true:=by
 have⟨C,hlen,Z,E,hz⟩:=rK O;have⟨_,T,hb,_⟩:=oX I;have gb:=fY C;have U:c.kind=1 -> 0 <= c.row/\c.row <= g.rows-1:=by
  intro h;simp[cQ,aK]at I;have:=I.2.2.2.1;rw[uP,h]at this
  simpa [br]using this
 rcases kinds T with h|h|h|h|h|h|h|h|h
 ·have e:cR r c=⟨r.aE.set c.ay.toNat ⟨true,c.row⟩,r.aN⟩:=by simp[cR,h]
  have Y:r.aN=0:=by simp[iz,h]at D;exact D.1
  rw[e];exact CM C (by simpa using hlen) (by omega) (UE E (by simp only[yD,aK,br];exact⟨U h,by simp⟩)) (λe=>by simp only at e;omega)
 ·have e:cR r c=r:=by simp[cR,h]
  simp_all
 ·have e:cR r c=r:=by simp[cR,h]
  simp_all
 ·have e:cR r c=⟨r.aE.set c.ay.toNat ⟨false,0⟩,r.aN⟩:=by simp[cR,h]
  have Y:r.aN=0:=by simp[iz,h]at D;exact D.1
  rw[e];exact CM C (by simpa using hlen) (by omega) (UE E (by simp only[yD,aK,br];exact⟨by omega,by simp⟩)) (λe=>by simp only at e;omega)
 ·have e:cR r c=r:=by simp[cR,h]
  simp_all
 ·have e:cR r c=⟨r.aE,1⟩:=by simp[cR,h]
  rw[e];exact CM C hlen (by simp) E (λe=>by simp at e)
 ·have e:cR r c=⟨r.aE,0⟩:=by simp[cR,h]
  rw[e];exact CM C hlen (by simp) E (λe=>by simp at e)
 ·have e:cR r c=⟨r.aE,2⟩:=by simp[cR,h]
  rw[e];exact CM C hlen (by simp) E (λ_=>by simp[iz,h]at D;simpa using D.2)
 ·have e:cR r c=⟨r.aE,0⟩:=by simp[cR,h]
  rw[e];exact CM C hlen (by simp) E (λe=>by simp at e)
def ap7{g:aH}(C:cx g=true):kC g (kE g)=true:=by
 have E:=eG g;have I:=fY C
 refine CM C (by simp[kE];omega) (by simp[kE]) ?_ (λe=>by simp[kE]at e)
 unfold kE;rw[bS];intro x D;obtain⟨_,rfl⟩:=List.mem_replicate.1 D;simp only[yD,aK,br];exact⟨by omega,by simp⟩
def tq(l:aa bH)(k:Nat)(e:bH):Bool:=match k with
 |0=>true
 | k+1=>match l[k]? with
  |some x=>decide (x.at_<e.at_)
  |none=>true
def fT(g:aH)(t:bW)(l:aa bH)(k:Nat)(r:bJ)(e:bH):ah bJ:=
 bif !cQ g e.cmd then none else bif !aT e.at_ 0 1000000 then none else bif !tq l k e then none else bif !iz r e.cmd then none else
 bif uR g t (l.take k) e then none else bif e.cmd.kind==1&&AM t (gw (l.take k)) e.at_ then none else some (cR r e.cmd)
def cT(g:aH)(t:bW)(l:aa bH)(k:Nat)(r:bJ)(e:bH):Int:=
 bif !cQ g e.cmd then 1 else bif !aT e.at_ 0 1000000 then 1 else bif !tq l k e then 1 else bif !iz r e.cmd then 2 else
 bif uR g t (l.take k) e then 3 else 4
def ap8(g:aH)(t:bW)(l:aa bH)(k:Nat)(r:bJ)(e:bH):(cT g t l k r e != 0)=true:=by
 unfold cT;cases cQ g e.cmd<;>cases aT e.at_ 0 1000000<;>cases tq l k e<;>cases iz r e.cmd<;>cases uR g t (l.take k) e<;>rfl
def IT(g:aH)(l:aa bH)(k:Nat)(r:bJ):Prop:=kC g r=true/\∀x∈l.take k,yF g x=true
def ap9{g:aH}{t:bW}{l:aa bH}{k:Nat}{r T:bJ}(Z:k<l.length)(h:IT g l k r)(C:fT g t l k r l[k]=some T):IT g l (k+1) T:=by
 unfold fT at C;cases D:cQ g l[k].cmd with
 |false=>rw[D]at C;cases C
 | true=>
  cases E:aT l[k].at_ 0 1000000 with
  |false=>rw[D,E]at C;cases C
  | true=>
   cases I:tq l k l[k]with
   |false=>rw[D,E,I]at C;cases C
   | true=>
    cases O:iz r l[k].cmd with
    |false=>rw[D,E,I,O]at C;cases C
    | true=>
     rw[D,E,I,O]at C;simp only[bL,av]at C;cases U:uR g t (l.take k) l[k]with
     |true=>rw[U]at C;cases C
     | false=>
      rw[U,av]at C;cases Y:(l[k].cmd.kind==1&&AM t (gw (l.take k)) l[k].at_)with
      |true=>rw[Y]at C;cases C
      | false=>
       rw[Y,av]at C;injection C with C;subst C
       refine⟨UF h.1 D O,λx hx=>?_⟩
       rw[uM Z]at hx;rcases lz.1 hx with hx|hx
       ·exact h.2 x hx
       ·obtain rfl:=gL.1 hx;simp only[yF,D,E,Bool.and_self]
def aqa(g:aH):(⟨g.bM,g.aE,g.rows,g.aR⟩:aH)=g:=rfl
def aqb(t:bW):(⟨t.qQ,t.rp,t.jG,t.rT,t.om,t.jZ,t.rU,t.rV,t.mQ,t.wr,t.rW,t.rX,t.vh,t.tL,t.tM,t.xp,t.xs⟩:bW)=t:=rfl
def aqc(l:aa bH)(e:bH):tq l 0 e=true:=rfl
def aqd{l:aa bH}{k:Nat}(e:bH)(h:0<k)(E:k<l.length)(C:(W6 ((k:Int)-1)).toNat<l.length)(I:l.length<1073741824):tq l k e = !decide (e.at_<=(l[(W6 ((k:Int)-1)).toNat]'C).at_):=by
 obtain⟨n,rfl⟩:∃n,k=n+1:=⟨k-1,by omega⟩
 have D:(W6 (((n+1:Nat):Int)-1)).toNat=n:=by rw[bf];omega
 unfold tq;simp only[D];rw[bK (by omega)];simp only;rw[Bool.eq_iff_iff];simp
def tS(t:bW):bW:=t
def aqe{g:aH}{t:bW}(O:iW t=true){l:aa bH}(hl:l.length<1073741823){k:Nat}(hk:k<l.length){r:bJ}(hI:IT g l k r):
  CE ((l,(),(),(),l,(l.length:Int),(k:Int),()),((g.bM,g.aE,g.rows,g.aR,()),tS t,((),r.aN,()),r.aE,())) =
   some (match fT g t l k r l[k]with|some C=>.inl ((l,(),(),(),l,(l.length:Int),((k+1:Nat):Int),()),((g.bM,g.aE,g.rows,g.aR,()),tS t,((),C.aN,()),C.aE,()))|none=>.inr (.inl ((cT g t l k r l[k],(k:Int),()),()))):=by
 obtain⟨T,U⟩:=hI;obtain⟨hg,hlen,_⟩:=rK T;have b1:=eG g;unfold CE fT cT tS aM bG xG xI;dsimp only;simp only[aqa,aqb,apO,aY (show (k:Int)<(l.length:Int) by omega),aq];rw[aO ⟨by omega,by omega⟩];simp only[bE];rw[NQ,ax];cases Y:cQ g l[k].cmd with
 |false=>rfl
 | true=>
  simp only[bL,av];rw[c9,ax];cases h2:aT l[k].at_ 0 1000000 with
  |false=>rfl
  | true=>
   obtain⟨Z,hm⟩:=br.1 h2;have tl:((yo g r l[k].cmd).bind λD=>bif (!D.2)then (some (.inr (.inl (((2:Int),(k:Int),()),()))):ah ((((aa bH)×aj×aj×aj×(aa bH)×Int×Int×aj)×((Int×Int×Int×Int×aj)×bW×(aj×Int×aj)×(aa dQ)×aj))⊕(((Int×Int×aj)×(aj))⊕(((aj)×(aj))⊕Empty))))else if 0<=(0:Int)/\(0:Int)<=(k:Int)/\(k:Int)<=(l.length:Int)then (IU g t ((l.take k).drop (0:Int).toNat) l[k].cmd).bind λnT=>bif (decide (l[k].at_<nT))then some (.inr (.inl (((3:Int),(k:Int),()),())))else bif (l[k].cmd.kind==(1:Int))then if 0<=(0:Int)/\(0:Int)<=(k:Int)/\(k:Int)<=(l.length:Int)then (IW t ((l.take k).drop (0:Int).toNat)).bind λmC=>bif (decide (l[k].at_<mC))then some (.inr (.inl (((4:Int),(k:Int),()),())))else some (.inl ((l,(),(),(),l,(l.length:Int),(W6 ((k:Int)+(1:Int))),()),((g.bM,g.aE,g.rows,g.aR,()),t,((),D.1.aN,()),D.1.aE,())))else none else some (.inl ((l,(),(),(),l,(l.length:Int),(W6 ((k:Int)+(1:Int))),()),((g.bM,g.aE,g.rows,g.aR,()),t,((),D.1.aN,()),D.1.aE,())))else none) =
     some (match (bif !iz r l[k].cmd then none else bif uR g t (l.take k) l[k]then none else bif l[k].cmd.kind==1&&AM t (gw (l.take k)) l[k].at_ then none else some (cR r l[k].cmd))with|some C=>.inl ((l,(),(),(),l,(l.length:Int),((k+1:Nat):Int),()),((g.bM,g.aE,g.rows,g.aR,()),t,((),C.aN,()),C.aE,()))|none=>.inr (.inl ((bif !iz r l[k].cmd then 2 else bif uR g t (l.take k) l[k]then 3 else 4,(k:Int),()),()))):=by
    rw[Uw g r _ (by omega),ax];unfold E1 kD;rw[T,Y];cases h4:iz r l[k].cmd with
    |false=>rfl
    | true=>
     simp only[cM,aq,bL,av,Int.toNat_zero,List.drop_zero];rw[aW ⟨by omega,by omega,by omega⟩,ap1 O (by simp;omega) U Y,ax,ap2 Z];cases h5:uR g t (l.take k) l[k]with
     |true=>rfl
     | false=>
      simp only[av];cases h6:(l[k].cmd.kind==1)with
      |false=>simp only[av,Bool.false_and,bY (show k<4611686018427387904 by omega)]
      | true=>
       simp only[aq,cM];rw[aW ⟨by omega,by omega,by omega⟩,ap5 O (by simp;omega) U,ax,ap6 Z];cases AM t (gw (l.take k)) l[k].at_ with
       |true=>rfl
       |false=>simp only[av,bY (show k<4611686018427387904 by omega)]
   simp only[bL,av];by_cases E:0<k
   ·have I:(W6 ((k:Int)-1)).toNat<l.length:=by rw[bf];omega
    rw[aY (show (k:Int) > 0 by omega),aq,aO ⟨by rw[bf];omega,I⟩,aqd _ E hk I (by omega)];cases decide (l[k].at_<=(l[(W6 ((k:Int)-1)).toNat]'I).at_)with
    |true=>rfl
    | false=>
     simp only[av,Bool.not_false,bL];exact tl
   ·have E:k=0:=by omega
    subst E;rw[bq,av,aqc];simp only[bL,av];exact tl
def runT(g:aH)(t:bW)(l:aa bH):ah bJ:=mF (fT g t l) 0 l (kE g)
def aqf{g:aH}{t:bW}(I:cx g=true)(O:iW t=true){l:aa bH}(Z:l.length<=2000):∃ c i,Nr g t l=some (c,i)/\(c != 0)=(runT g t l).isNone:=by
 have h:=UB (step:=CE) (fT g t l) (λk r=>((l,(),(),(),l,(l.length:Int),(k:Int),()),((g.bM,g.aE,g.rows,g.aR,()),tS t,((),r.aN,()),r.aE,()))) (λk r e=>.inl ((cT g t l k r e,(k:Int),()),())) (λr=>.inr (.inl ((),()))) (IT g l) l 0 (kE g) bk ⟨ap7 I,λx Y=>by simp at Y⟩ (cv)
  (λi h r C=>by rw[fe]at C ⊢;exact(aqe O (by omega) h C).trans (by cases fT g t l i r l[i]<;>rfl))
  (λi h r T C U=>by rw[fe]at C U ⊢;exact ap9 h C U)
  (λr C=>by rw[fe];unfold CE aM bG xG xI;dsimp only;rw[bq,av])
 unfold Nr cZ;rw[qp,ax,I,bL,av,I4,ax,O,bL,av,bq,av,Ux,ax];change ∃c i,((iter CE bk ((l,(),(),(),l,(l.length:Int),((0:Nat):Int),()),((g.bM,g.aE,g.rows,g.aR,()),tS t,((),(kE g).aN,()),(kE g).aE,()))).bind _)=some (c,i)/\_;rcases h with ⟨T,D,_,E⟩|⟨D,i,T,hi,_,_,E⟩
 ·refine⟨0,-1,(bz (λo=>Option.bind o _) E).trans rfl,?_⟩
  unfold runT;rw[D];rfl
 ·refine⟨_,_,(bz (λo=>Option.bind o _) E).trans rfl,?_⟩
  unfold runT;rw[D];exact ap8 _ _ _ _ _ _
def uS(n k:Nat):aa Int:=List.replicate k (-1)++List.replicate (n-k) 0
def aqg{n k:Nat}(h:k<=n):(uS n k).length=n:=by
 unfold uS;simp;omega
def aqh{n k:Nat}(h:k<n):(uS n k).set k (-1)=uS n (k+1):=by
 obtain⟨m,rfl⟩:∃m,n=k+1+m:=⟨n-k-1,by omega⟩
 unfold uS;rw[show k+1+m-k=m+1 by omega,show k+1+m-(k+1)=m by omega,List.set_append_right _ _ (by simp),jX,Nat.sub_self,List.replicate_succ,List.replicate_succ',List.append_assoc];rfl
def aqi(n:Nat):uS n 0=List.replicate n 0:=by simp[uS]
def aqj(n:Nat):uS n n=List.replicate n (-1):=by simp[uS]
def uT(g:aH):dN:=⟨List.replicate (9*(aL g+1)).toNat (-1),[]⟩
def aeg{g:aH}(C:cx g=true):HC g=some (uT g):=by
 have E:=eG g;obtain⟨n,D⟩:∃n:Nat,9*(aL g+1)=(n:Int):=⟨(9*(aL g+1)).toNat,by omega⟩
 have I:n<1073741824:=by omega
 have e:=eF (step:=HB) n (λi=>(((),(),(n:Int),(i:Int),()),(((),(),()),((),(),()),([]:aa Int),([]:aa Int),uS n i,([]:aa Int),()))) (.inl (((),(),()),(((),(),()),((),(),()),([]:aa Int),([]:aa Int),uS n n,([]:aa Int),()))) bk (λk h=>by
  have O:=aqg (show k<=n by omega);unfold HB aM xG xL;dsimp only;rw[aY,aq,aO ⟨by omega,by omega⟩,aO,bY,bE,aqh h]) (by
  unfold HB aM xG xL;dsimp only;rw[bq,av]) (cv)
 rw[aqi,aqj,dz]at e;unfold HC uT bR;rw[qp,ax,C,bL,av,jl,ax,w9,D,aW ⟨by omega,by omega,by omega⟩,bE,jX];exact(bz (λo=>Option.bind o _) e).trans rfl
def UG(g:aH)(r:dN)(e:bH):(fO g r e).last.length=r.last.length/\(r.aZ.length <= 4 -> (fO g r e).aZ.length <= 4):=by
 unfold fO;cases (jn g r&&(cQ g e.cmd&&(aT e.at_ 0 1000000 && !(e.cmd.kind==1&&tj r e.at_))))with
 |false=>simp_all
 | true=>
  refine⟨by simp,λh=>?_⟩
  cases e.cmd.kind==1 with
  |false=>exact h
  | true=>
   simp[aq,AK,List.length_drop,List.length_append,List.length_singleton];omega
def n6(g:aH)(l:aa bH):dN:=l.foldl (fO g) (uT g)
def aqk{g:aH}{l:aa bH}{k:Nat}(h:k<l.length):n6 g (l.take (k+1))=fO g (n6 g (l.take k)) l[k]:=by
 unfold n6;rw[uM h,List.foldl_append];rfl
def aeh(g:aH)(l:aa bH):(n6 g l).last.length<=1000/\(n6 g l).aZ.length<=4:=by
 have E:=eG g;have C:(uT g).last.length<=1000/\(uT g).aZ.length<=4:=⟨by simp only[uT,jX];omega,by simp[uT]⟩
 unfold n6;generalize uT g=r at C
 induction l generalizing r with
 |nil=>exact C
 |cons x l D=>exact D (fO g r x) ⟨by rw[(UG g r x).1];exact C.1,(UG g r x).2 C.2⟩
def aei(g:aH)(l:aa bH)(n i:Int)(r:dN):Nt (((),(),(),l,n,i,()),((g.bM,g.aE,g.rows,g.aR,()),((),(),()),((),(),()),([]:aa Int),([]:aa Int),r.last,r.aZ,()))=bif (decide (i<n))then if D:0<=i/\i.toNat<l.length then ((EP g r (l[i.toNat]'D.2)).bind λC=>some (.inl (((),(),(),l,n,(W6 (i+(1:Int))),()),((g.bM,g.aE,g.rows,g.aR,()),((),(),()),((),(),()),([]:aa Int),([]:aa Int),C.last,C.aZ,()))))else none else some (.inr (.inl (((),(),()),(((),(),()),((),(),()),([]:aa Int),([]:aa Int),r.last,r.aZ,())))):=rfl
def aql{g:aH}(C:cx g=true){l:aa bH}(D:l.length<1073741823):IY g l=some (n6 g l):=by
 have e:=eF (step:=Nt) l.length (λi=>(((),(),(),l,(l.length:Int),(i:Int),()),((g.bM,g.aE,g.rows,g.aR,()),((),(),()),((),(),()),([]:aa Int),([]:aa Int),(n6 g (l.take i)).last,(n6 g (l.take i)).aZ,()))) (.inl (((),(),()),(((),(),()),((),(),()),([]:aa Int),([]:aa Int),(n6 g l).last,(n6 g l).aZ,()))) bk (λk h=>by
  have hlen:=aeh g (l.take k);rw[aei,aY,aq,aO ⟨by omega,by omega⟩];simp only[bE];rw[aeb _ _ _ (by omega) (by omega),ax,bY,aqk h]) (by
  rw[aei,bq,av,mP]) (cv)
 rw[dz,List.take_zero]at e;unfold IY bR;rw[aeg C,ax];exact(bz (λo=>Option.bind o _) e).trans rfl
def fE(g:aH)(_:Nat)(r:bJ)(e:bH):ah bJ:=bif kD g r e.cmd then some (cR r e.cmd)else none
def CN(g:aH)(l:aa bH):ah bJ:=mF (fE g) 0 l (kE g)
def UH(g:aH)(l:aa bH):bJ×Bool:=match CN g l with
 |some r=>(r,true)
 |none=>(⟨[],0⟩,false)
def aqm(g:aH)(r:bJ)(e:bH)(k:Nat):(E1 g r e.cmd)=match fE g k r e with | some C=>(C,true) | none=>(r,false):=by
 unfold E1 fE;cases kD g r e.cmd<;>rfl
def aej{g:aH}{r C:bJ}{e:bH}{k:Nat}(h:fE g k r e=some C):C.aE.length=r.aE.length:=by
 unfold fE at h;cases D:kD g r e.cmd with
 |false=>rw[D]at h;cases h
 | true=>
  rw[D]at h;injection h with h;rw[<-h,ad7]
def aqn{g:aH}{l:aa bH}{r:bJ}(h:CN g l=some r):(r.aE.length:Int)=aL g:=by
 have I:=eG g;have key:∀ (l:aa bH) (k:Nat) (a:bJ),mF (fE g) k l a=some r->r.aE.length=a.aE.length:=by
  intro l
  induction l with
  | nil=>
   intro k a h;injection h with h;rw[h]
  | cons x l D=>
   intro k a h;unfold mF at h;cases C:fE g k a x with
   |none=>rw[C]at h;cases h
   | some E=>
    rw[C]at h;rw[D (k+1) E h,aej C]
 rw[key l 0 _ h];simp only[kE,jX];omega
def aek(g:aH)(l:aa bH)(n i:Int)(r:bJ):IX (((),(),(),l,n,i,()),((g.bM,g.aE,g.rows,g.aR,()),((),(0:Int),()),((),r.aN,()),([]:aa dQ),r.aE,()))=bif (decide (i<n))then if D:0<=i/\i.toNat<l.length then ((yo g r (l[i.toNat]'D.2).cmd).bind λC=>bif (!C.2)then some (.inr (.inl (((),false,()),(((),(0:Int),()),([]:aa dQ),()))))else some (.inl (((),(),(),l,n,(W6 (i+(1:Int))),()),((g.bM,g.aE,g.rows,g.aR,()),((),(0:Int),()),((),C.1.aN,()),([]:aa dQ),C.1.aE,()))))else none else some (.inr (.inr (.inl (((),(),()),(((),(0:Int),()),((),r.aN,()),([]:aa dQ),r.aE,()))))):=rfl
def aqo{g:aH}(O:cx g=true){l:aa bH}(U:l.length<1073741823):Ns g l=some (UH g l):=by
 have Y:=eG g;have h:=UB (step:=IX) (fE g) (λk r=>(((),(),(),l,(l.length:Int),(k:Int),()),((g.bM,g.aE,g.rows,g.aR,()),((),(0:Int),()),((),r.aN,()),([]:aa dQ),r.aE,()))) (λk r e=>.inl (((),false,()),(((),(0:Int),()),([]:aa dQ),()))) (λr=>.inr (.inl (((),(),()),(((),(0:Int),()),((),r.aN,()),([]:aa dQ),r.aE,())))) (λ_ r=>r.aE.length<1073741824) l 0 (kE g) bk (by simp only[kE,jX];omega) (cv)
  (λi h r C=>by
   rw[fe,aek,aY,aq,aO ⟨by omega,by omega⟩];simp only[bE];rw[Uw g r _ C,ax,aqm g r l[i] i,bY];cases fE g i r l[i]<;>rfl)
  (λi h r I C T=>by rw[aej T];exact C)
  (λr C=>by rw[fe,aek,bq,av])
 unfold Ns cZ;rw[qp,ax,O,bL,av,Ux,ax];change ((iter IX bk (((),(),(),l,(l.length:Int),((0:Nat):Int),()),((g.bM,g.aE,g.rows,g.aR,()),((),(0:Int),()),((),(kE g).aN,()),([]:aa dQ),(kE g).aE,()))).bind _)=_;unfold UH CN;rcases h with ⟨I,D,_,E⟩|⟨D,i,I,hi,_,_,E⟩
 ·rw[D];exact(bz (λo=>Option.bind o _) E).trans rfl
 ·rw[D];exact(bz (λo=>Option.bind o _) E).trans rfl
def AN(a b:aa Int):Bool:=((a.length:Int)==(b.length:Int))&&(a.zip b).all λp=>p.1==p.2
def NS{A B:Type}{a:aa A}{b:aa B}(h:a.length=b.length):(a.zip b).length=a.length:=by
 rw[List.length_zip];omega
def ael{A B:Type}{a:aa A}{b:aa B}(h:a.length=b.length){k:Nat}(C:k<(a.zip b).length):(a.zip b)[k]=(a[k]'(by rw[NS h]at C;exact C),b[k]'(by rw[NS h]at C;omega)):=by
 rw[List.getElem_zip]
def aem{a b:aa Int}(D:a.length<1073741824):CF a b=some (AN a b):=by
 unfold CF AN cZ;by_cases h:a.length=b.length
 ·have E:=NS h;have e:=jR (step:=IZ) (a.zip b) (λp=>p.1==p.2) (λi=>((a,b,(a.length:Int),(i:Int),()),())) (.inl ((false,()),())) (.inr (.inl ((),()))) bk (λk C=>by
   unfold IZ aM bG xG xI;dsimp only;rw[aY,aq,aO ⟨by omega,by omega⟩,aO ⟨by omega,by omega⟩,bY,ael h C];simp only[bE];rw[bne];cases a[k]==b[k]<;>rfl) (by
   unfold IZ aM bG xG xI;dsimp only;rw[bq,av]) (cv)
  rw[dz]at e;rw[show ((a.length:Int) != (b.length:Int))=false by simp[h],av,show ((a.length:Int)==(b.length:Int))=true by simp[h],cM]
  refine(bz (λo=>Option.bind o _) e).trans ?_
  cases (a.zip b).all λp=>p.1==p.2<;>rfl
 ·rw[show ((a.length:Int) != (b.length:Int))=true by simp;omega,aq,show ((a.length:Int)==(b.length:Int))=false by simp;omega,Bool.false_and]
def Jf(x:dD):Prop:=(x.weights.length<=1048576)
def pE(x y:dD):Bool:=(x.eI==y.eI)&&((x.cap==y.cap)&&((x.dG==y.dG)&&((x.low==y.low)&&((x.high==y.high)&&(AN x.weights y.weights&&((x.bF.down==y.bF.down)&&((x.bF.sleep==y.bF.sleep)&&true)))))))
def iE(u a:jr):Bool:=((u.request.id==a.request.id)&&((u.request.dR==a.request.dR)&&((u.request.line==a.request.line)&&((u.request.write==a.request.write)&&((u.request.data==a.request.data)&&((u.request.at_==a.request.at_)&&true))))))&&((u.n==a.n)&&((u.JS==a.JS)&&(((u.addr.ay==a.addr.ay)&&((u.addr.row==a.addr.row)&&((u.addr.bZ==a.addr.bZ)&&true)))&&pE u.eK a.eK)))
def place(l:aa aV)(id:Int):Int:=match l.findIdx? (λr=>r.id==id)with
 |some i=>(i:Int)
 |none=>-1
def aqp(l:aa (Int×Bool))(k j:Int):mc (ng l k true) j=(j==k || mc l j):=by
 induction l with
 |nil =>rfl
 | cons p ps D=>
  simp only[ng];cases C:(k==p.1)with
  | true=>
   have e:k=p.1:=by simpa using C
   rw[aq];simp[mc]
   grind
  | false=>
   rw[av];simp only[mc]
   grind
def aqq(x y:Int):(x==y)=(y==x):=Bool.eq_iff_iff.2 ⟨λh=>by simpa using (by simpa using h:x=y).symm,λh=>by simpa using (by simpa using h:y=x).symm⟩
def tu(g:aH)(a:aP):Nat:=(uL g a).toNat
def aqr{g:aH}{a:aP}(h:fM g a=true):uL g a=(tu g a:Int)/\(tu g a:Int)<eA g:=by
 have:=adx h;unfold tu;omega
def fz.Jg{g:aH}{B:Int}{a:dj}(C:fz g B a)(k:Nat){c:cy}(D:Sy c.symbols):fz g B ⟨a.cells.set k c,a.bu,a.bg⟩:=
 ⟨by simp[C.cells],Sy.bD C.syms D,C.bu,C.bg,C.EX,C.hit⟩
def gR(R row:Int):aa Int:=(bif decide (0<row)then [row-1]else [])++(bif decide (row<R-1)then [row+1]else [])
def aen{R row:Int}(O:2<=R)(T:R<=16)(U:0<=row)(Y:row<R):ER R row=some (gR R row):=by
 unfold ER gR xA xZ;have C:aT R 2 16=true:=by rw[br];omega
 have D:aT row 0 (R-1)=true:=by rw[br];omega
 rw[c9,ax,C,bf (n:=R-1),c9,bf (n:=row-1),bf (n:=row+1)];by_cases E:0<row<;>by_cases I:row<R-1<;>simp[D,E,I,bV]
def aeo{R row:Int}(D:0 <= row)(E:row<R):∀ n∈gR R row,0 <= n/\n<R:=by
 intro n C;unfold gR at C
 grind
def aqs(R row:Int):(gR R row).length <= 2:=by
 unfold gR
 grind
def aqt{R row k:Int}{i:Nat}(hi:k+row=(i:Int))(C:0 <= k)(D:0 <= row)(H:aa Int):(gR R row).foldl (λh n=>nW (k+n).toNat h) (H.set i 0)=oW R row i H:=by
 unfold gR oW v7
 grind
def aep(k:Int):∀ (l:aa Int) (H:aa Int),(l.foldl (λh n=>nW (k+n).toNat h) H).length=H.length
 |[],H=>rfl
 |x::l,H=>by rw[List.foldl_cons,aep k l,Uh]
def aeq(k:Int):∀ (l:aa Int) (H:aa Int),(∀ x∈H,0<=x/\x<=100000)->∀ x∈l.foldl (λh n=>nW (k+n).toNat h) H,0<=x/\x<=100000
 |[],H,h=>h
 |x::l,H,h=>by rw[List.foldl_cons];exact aeq k l _ (Ui h)
def aqu{g:aH}(D:cx g=true){B:Int}{a:dj}(C:fz g B a)(hB:B <= 100000){n:Int}(O:0 <= n)(T:n <= 100000):IJ g a n=some ⟨a.cells,a.bu.map (nq n),a.bg⟩:=by
 have U:=s9 g;have Y:=C.bu;have E:aT n 0 100000=true:=by rw[br];omega
 unfold IJ bR;rw[C.copy,ax,C.ok D hB,ax,c9,ax,E];have e:=eF (step:=II) _ (λi=>((n,(),(),(a.bu.length:Int),(i:Int),()),(((),(),(),()),((),(),(),()),([]:aa cy),([]:aa Int),([]:aa Int),a.cells,upto (nq n) a.bu i,a.bg,()))) (.inl (((),(),()),(((),(),(),()),((),(),(),()),([]:aa cy),([]:aa Int),([]),a.cells,a.bu.map (nq n),a.bg,()))) bk (λk h=>by
  unfold II aM xG xL;have Z:=C.EX _ (dc h);have I:=T8 (nq n) a.bu k h;have D:=T7 (nq n) a.bu k h (by rw[Nz];exact h);simp (disch:=omega) [Nz,h,D,bf];rw[<- I];rfl) (by unfold II aM xG xL;simp[T6]) (cv)
 rw[dz,adu]at e;simp_all
def aqv(y:Int):0 <= bits .and .i64 y 15/\bits .and .i64 y 15 <= 15:=by
 have e:bits .and .i64 y 15=IntKind.wrap .i64 ((BitVec.ofInt 64 y &&& BitVec.ofInt 64 15).toNat):=rfl;have h:(BitVec.ofInt 64 y &&& BitVec.ofInt 64 15).toNat <= 15:=by
  exact Nat.le_trans Nat.and_le_right (by decide)
 rw[e,IntKind.wrap_i64];omega
def lg(a:Nat):Nat:=(14688061253356765440 / 2 ^ (4*a)) % 16
def okB(C s1 s2 i:Nat):Bool:=!Nat.beq C 0&&(Nat.beq (gm C (pw i)) s1&&Nat.beq (gm s1 (pw i)) s2)
def loc(C s1 s2:Nat):ah Nat:=(List.range 11).find? (okB C s1 s2)
def E4:ah Nat->Nat
 |some n=>n
 |none=>99
def aqw:(qq λa=>Nat.beq a 0 ||M6 (Int.ofNat a)==some (Int.ofNat (lg a)))=true:=by kernel_rfl
def aer:(qq λC=>qq λs1=>qq λs2=>bif Nat.beq C 0 || Nat.beq s1 0 then Nat.beq (E4 (loc C s1 s2)) 99 else
  (λx=>!Nat.beq x 0&&Nat.beq (E4 (loc C s1 s2)) (bif Nat.blt (lg x) 11&&Nat.beq (gm s1 x) s2 then lg x else 99)) (gm s1 (iv C)))=true:=by kernel_rfl
def E5(w:aa Nat):Bool:=Nat.beq (dU w 0 11) 0&&(Nat.beq (dU w 1 11) 0&&Nat.beq (dU w 2 11) 0)
def kY(w:aa Nat):aa Nat×Int×Int:=bif E5 w then (w,0,-1)else match loc (dU w 0 11) (dU w 1 11) (dU w 2 11)with
 |some k=>(w.set k (w.getD k 0 ^^^ dU w 0 11),1,(k:Int))
 |none=>(w,2,-1)
def aes(n m:Nat):((n:Int)==(m:Int))=Nat.beq n m:=by
 cases h:Nat.beq n m with
 |true=>simp_all
 | false=>
  have:n≠m:=by rintro rfl;simp at h
  grind
def aet{D s1 s2 k:Nat}(h:loc D s1 s2=some k):k<11/\okB D s1 s2 k=true /\ ∀ i,i<k -> okB D s1 s2 i=false:=by
 refine⟨gq.1 (List.mem_of_find?_eq_some h),List.find?_some h,λi hi=>?_⟩
 have⟨O,l1,l2,E,T⟩:=List.find?_eq_some_iff_append.1 h;have U:l1.length=k/\l1=List.range k:=by
  have C:(List.range 11)[l1.length]?=some k:=by rw[E];simp
  have I:l1.length<11:=by have:=bz List.length E;simp at this;omega
  rw[List.getElem?_range I]at C;injection C with C;refine⟨C,?_⟩;have Y:(List.range 11).take l1.length=l1:=by rw[E];simp
  grind
 simp_all
def aeu{C s1 s2:Nat}(E:C<16)(I:s1<16)(O:s2<16)(h:C=0 \/ s1=0):loc C s1 s2=none:=by
 have t:=mD (mD (mD aer E) I) O;have T:(Nat.beq C 0 ||Nat.beq s1 0)=true:=by rcases h with rfl|rfl<;>simp
 rw[T]at t;have t:=cH t;cases D:loc C s1 s2 with
 |none=>rfl
 | some k=>
  rw[D]at t;have:=(aet D).1;simp[E4]at t;omega
def aqx{C s1 s2:Nat}(O:C<16)(T:s1<16)(U:s2<16)(Y:C≠0)(Z:s1≠0):gm s1 (iv C)≠0/\loc C s1 s2=bif Nat.blt (lg (gm s1 (iv C))) 11&&Nat.beq (gm s1 (gm s1 (iv C))) s2 then some (lg (gm s1 (iv C)))else none:=by
 have t:=mD (mD (mD aer O) T) U;have c0:Nat.beq C 0=false:=by cases h:Nat.beq C 0 with|false=>rfl|true=>exact absurd (cH h) Y
 have c1:Nat.beq s1 0=false:=by cases h:Nat.beq s1 0 with|false=>rfl|true=>exact absurd (cH h) Z
 dsimp only at t;rw[c0,c1,Bool.or_false,av,aK]at t;have⟨t1,D⟩:=t;have D:=cH D;refine⟨(by rintro e;rw[e]at t1;cases t1),?_⟩;cases I:(Nat.blt (lg (gm s1 (iv C))) 11&&Nat.beq (gm s1 (gm s1 (iv C))) s2)with
 | true=>
  rw[I,aq]at D;rw[aK]at I;have de:lg (gm s1 (iv C))<11:=cu I.1;cases E:loc C s1 s2 with
  |none=>rw[E]at D;simp[E4]at D;omega
  |some k=>rw[E]at D;simp[E4]at D;rw[D];rfl
 | false=>
  rw[I,av]at D;cases E:loc C s1 s2 with
  |none=>rfl
  | some k=>
   have:=(aet E).1;rw[E]at D;simp[E4]at D;omega
def aqy{a:Nat}(h:a<16)(C:a≠0):Cj (a:Int)=some (iv a:Int):=by
 have t:=mD apl h;simp_all
def aqz{a:Nat}(h:a<16)(C:a≠0):M6 (a:Int)=some (lg a:Int):=by
 have t:=mD aqw h;simp_all
def aev{w:aa Nat}(Y:jU w)(O:w.length=11):Iz (cE w)=some (cE (kY w).1,(kY w).2.1,(kY w).2.2):=by
 have ho:bV (([]:aa Int).length+(cE w).length)=true:=eO (by simp[vZ,O]);have h0:∀n:Nat,((n:Int)==(0:Int))=Nat.beq n 0:=λn=>aes n 0
 have C:=yA w 0 11;have D:=yA w 1 11;have Z:=yA w 2 11;have T:∀i (h:i<(cE w).length),(cE w)[i]=((w.getD i 0:Nat):Int):=λi h=>Ue h
 have U:∀ k,(cE w).set k (bits .xor .i64 ((w.getD k 0:Nat):Int) ((dU w 0 11:Nat):Int))=cE (w.set k (w.getD k 0 ^^^ dU w 0 11)):=λk=>by
  rw[vY (Y.get k) C,apm]
 have hlen:(cE w).length=11:=by rw[vZ,O]
 unfold Iz xA xC xL xZ;rw[Ug Y O,ax,aph Y O,ho];have aqA:ju [((dU w 0 11:Nat):Int),((dU w 1 11:Nat):Int),((dU w 2 11:Nat):Int)]=false:=rfl;rw[aqA,av,aq,ax];unfold kY E5;cases hz:(Nat.beq (dU w 0 11) 0&&(Nat.beq (dU w 1 11) 0&&Nat.beq (dU w 2 11) 0))with
 |true=>simp
 | false=>
  simp only[av,List.nil_append];generalize hW:cE w=W at T U hlen ⊢;generalize hg0:dU w 0 11=E at *
  generalize hg1:dU w 1 11=s1 at *
  generalize Bl:dU w 2 11=s2 at *
  have cm:∀n:Nat,((n:Int) != (0:Int)) = !Nat.beq n 0:=λn=>by rw[bne,h0]
  by_cases I:E=0
  ·rw[aeu C D Z (.inl I)];subst I;simp[hW]
  ·have c0:Nat.beq E 0=false:=by cases h:Nat.beq E 0 with | false=>rfl | true=>exact absurd (cH h) I
   by_cases n1:s1=0
   ·rw[aeu C D Z (.inr n1)];simp_all
   ·have c1:Nat.beq s1 0=false:=by cases h:Nat.beq s1 0 with | false=>rfl | true=>exact absurd (cH h) n1
    have⟨nx,P1⟩:=aqx C D Z I n1;have e1:=aqy C I;have e2:=CH D (apk E);rw[P1];generalize hx:gm s1 (iv E)=x at *
    have aew:x<16:=by rw[<- hx];exact gJ _ _
    have e3:=aqz aew nx;have e4:=CH D aew;generalize hn:lg x=n at *
    by_cases q1:n<11
    ·have d1:Nat.blt n 11=true:=jc q1;have d2:(n:Int)<11:=by omega
     have de:n<W.length:=by omega
     have T:=T n de;have U:=U n;cases q2:Nat.beq (gm s1 x) s2 with
     | true=>
      simp only[d1,cM,aq];generalize w.getD n 0=c at T U ⊢;simp_all
     | false=>
      simp[ e1,e2,e3,e4,aes,q2,hW]
    ·have d1:Nat.blt n 11=false:=by
      cases h:Nat.blt n 11 with
      |false=>rfl
      |true=>exact absurd (cu h) (by omega)
     have d2:¬ (n:Int)<11:=by omega
     simp only[d1,Bool.false_and,av];simp[cm,c0,c1,e1,e2,e3,d2,hW]
def NT{w:aa Nat}(C:jU w)(D:w.length=11):(kY w).1.length=11/\jU (kY w).1/\((kY w).2.1=0 \/ (kY w).2.1=1 \/ (kY w).2.1=2):=by
 have E:=yA w 0 11;unfold kY;cases E5 w with
 |true=>simp_all
 | false=>
  cases loc _ _ _ with
  |none=>simp_all
  |some k=>exact⟨by simp[D],C.set (mE (C.get k) E),.inr (.inl rfl)⟩
def aqB{w:aa Nat}(D:jU w)(C:w.length=11):M8 (cE w)=some (cE (w.drop 3)):=by
 unfold M8 xA xZ;have c0:((w.length:Int)==(11:Int))=true:=by rw[C];rfl
 have E:(cE w).length=11:=by rw[vZ,C]
 rw[Uf D (by omega),ax,c0,show (!true)=false from rfl,av,E];have e:((cE w).take ((11:Nat):Int).toNat).drop (3:Int).toNat=cE (w.drop 3):=by
  rw[List.take_of_length_le (by omega)];simp_all
 have I:bV (([]:aa Int).length+(cE (w.drop 3)).length)=true:=by
  rw[vZ,List.length_drop,C];rfl
 simp_all
def NU(x:mS):Prop:=Jf x.bT/\Jf x.next
def aex(x:bJ):Prop:=(x.aE.length<=1048576)
def aqC(x:dN):Prop:=(x.last.length<=1048576)/\(x.aZ.length<=1048576)
def UI(x:cy):Prop:=(x.symbols.length<=1048576)
def NV(x:dj):Prop:=(x.cells.length<=1048576/\∀y∈x.cells,UI y)/\(x.bu.length<=1048576)/\(x.bg.length<=1048576)
def aqD(x:ke):Prop:=(x.map.length<=1048576)
def E6(x:eB):Prop:=(x.aD.length<=1048576)
def mG(x:cJ):Prop:=(x.rows.length<=1048576)/\(x.counts.length<=1048576)
def cG(x:au):Prop:=NU x.box/\aex x.aI/\aqC x.ready/\NV x.array/\aqD x.spare/\E6 x.aB/\(x.bB.length<=1048576/\∀y∈x.bB,mG y)/\(x.guard.length<=1048576)/\(x.pending.length<=1048576)/\(x.queue.length<=1048576)/\(x.shares.length<=1048576)/\(x.errors.length<=1048576)/\(x.trace.length<=1048576)/\(x.cc.length<=1048576)
def n7(c:fl)(p:dD):Bool:=(sV c p).getD false
def Jh(c:fl)(p:dD)(C:p.weights.length<1073741823):sV c p=some (n7 c p):=by
 obtain⟨b,e,_⟩:=Ul c p C;unfold n7;rw[e];rfl
def ba1(a x:Bool):(bif a then some x else some false)=some (a&&x):=by cases a<;>rfl
def ba2(a x:Bool):(bif !a then some false else some x)=some (a&&x):=by cases a<;>rfl
def ba3(a b:Int)(x:Bool):(bif a != b then some false else some x)=some (a==b&&x):=by
 rw[bne];cases a==b<;>rfl
theorem ba4(p:Prop)[Decidable p](x:Bool):(bif decide p then some false else some x)=some (!decide p&&x):=by cases decide p<;>rfl
def cA(c:au):Bool:=
 n7 c.config c.box.bT&&(n7 c.config c.box.next&&(aT c.now 0 1000000&&(kC c.config.ak c.aI&&(jn c.config.ak c.ready&&(nj c.config.ak c.array&&(qB c.config.ak c.spare&&(c.spare.cS==c.config.cS&&((fN c.aB&&th c)&&(gD (eA (gQ c.config.ak c.spare)) c.queue&&(jV c.shares&&((c.shares.length:Int)==4&&(qw c.drain&&(kX c.aN&&(c.aN.state==c.aI.aN&&(!decide (c.aN.since > c.now)&&(aT c.eg.every 1 100000&&(aT c.eg.wait 1 c.eg.every&&(aT c.eg.next 0 (W6 (eA c.config.ak-1))&&(n5 c.errors&&(decide ((c.trace.length:Int)<=2000)&&decide ((c.cc.length:Int)<=400)))))))))))))))))))))
def aqE(c:au)(h:cA c=true):nj c.config.ak c.array=true:=by
 simp only[cA,aK]at h;exact h.2.2.2.2.2.1
def CO(c:au)(C:cG c):vU c=some (cA c):=by
 have⟨⟨z1,D⟩,U,⟨Y,Z⟩,⟨⟨z6,E⟩,z7,z8⟩,z9,I,⟨qC,auK⟩,rL,oU,rM,we,z16,z17,z18⟩:=C;unfold Jf at z1 D;have O:∀ x∈c.array.cells,x.symbols.length<1073741824:=λx T=>by
  have:=E x T;unfold UI at this;omega
 unfold E6 at I;unfold vU cA;simp only[Jh _ _ (show c.box.bT.weights.length<1073741823 by omega),Jh _ _ (show c.box.next.weights.length<1073741823 by omega),c9,adW,Us,adJ _ _ O,ad3,apJ _ (show c.aB.aD.length<1073741824 by omega),NP,AD,Up _ _ (show c.queue.length<1073741824 by omega),I6 _ (show c.shares.length<1073741824 by omega),NH,NJ,adZ _ (show c.errors.length<1073741824 by omega),ax,ba1,ba2,ba3,ba4]
def yG(c:au)(i:Nat):Bool:=!(uO c.config.dO c.array i)
def aqF(R C:Nat)(I:0<R)(p:Nat->Bool):(List.range (C*R)).all p=(List.range C).all λb=>(List.range R).all λj=>p (b*R+j):=by
 rw[Bool.eq_iff_iff,bS,bS];simp only[gq,bS];constructor
 ·intro h b D j E;refine h _ ?_;have:=CK (R:=R) D (show j+1<=R from E);omega
 ·intro h i hi;have D:i / R<C:=Nat.div_lt_of_lt_mul (by rw[Nat.mul_comm];exact hi);have E:i % R<R:=Nat.mod_lt _ I;have e:i / R*R+i % R=i:=by rw[Nat.mul_comm];exact Nat.div_add_mod i R
  have:=h _ D _ E;rw[e]at this;exact this
def aey(c:au)(g:aH)(b r:Int):EW (((),(),b,r,()),(jC c,(g.bM,g.aE,g.rows,g.aR,()),()))=(bif (decide (r<g.rows))then (AA g c.config.dO c.array b r).bind λC=>bif C then some (.inr (.inl ((false,()),())))else some (.inl (((),(),b,(W6 (r+(1:Int))),()),(jC c,(g.bM,g.aE,g.rows,g.aR,()),())))else some (.inr (.inr (.inl (((),(),b,()),(jC c,(g.bM,g.aE,g.rows,g.aR,()),())))))):=rfl
def aez(c:au)(g:aH)(b:Int):Nw (((),(),b,()),(jC c,(g.bM,g.aE,g.rows,g.aR,()),()))=((jB g).bind λD=>bif (decide (b<D))then (iter EW bk (((),(),b,(0:Int),()),(jC c,(g.bM,g.aE,g.rows,g.aR,()),()))).bind (Sum.elim (λE=>some (.inr (.inl ((E.1.1,()),())))) (Sum.elim (λC=>some (.inl (((),(),(W6 (C.1.2.2.1+(1:Int))),()),C.2))) (λz=>nomatch z)))else some (.inr (.inr (.inl ((),()))))):=rfl
def UJ{g:aH}{a:dj}(h:nj g a=true):cx g=true/\(a.bu.length:Int)=fF g/\(a.bg.length:Int)=fF g:=by
 simp[nj,aK,fq]at h;simp_all
def aqG{g:aH}(l:lA)(a:dj){R b j:Nat}(E:g.rows=(R:Int))(C:b*R+j<a.bu.length)(D:b*R+j<a.bg.length)(U:a.bu.length<100000):AA g l a (b:Int) (j:Int)=some (uO l a (b*R+j)):=by
 have I:W6 ((b:Int)*(R:Int))=((b*R:Nat):Int):=by rw[<-Int.natCast_mul];exact ad1 (by omega)
 have O:W6 (((b*R:Nat):Int)+(j:Int))=((b*R+j:Nat):Int):=by rw[<-Int.natCast_add];exact ad1 (by omega)
 have T:W6 (W6 ((b:Int)*g.rows)+(j:Int))=((b*R+j:Nat):Int):=by rw[E,I,O]
 unfold AA uO xI;generalize b*R+j=i at *
 simp only[T,cL,bK C,bK D,Option.getD_some];by_cases h:a.bu[i] > l.bu<;>simp[C,D,h]
def aqH(c:au)(O:cG c):Ny c=some (cA c&&(List.range c.array.bu.length).all (yG c)):=by
 unfold Ny cZ;rw[CO c O,ax];cases T:cA c with
 |false=>rfl
 | true=>
  obtain⟨E,h1,h2⟩:=UJ (aqE c T);have U:=eG c.config.ak;have b2:=s9 c.config.ak;have gb:=fY E;have er:aL c.config.ak*c.config.ak.rows=fF c.config.ak:=by simp[fF,E]
  generalize Y:c.config.ak=g at *
  obtain⟨C,D⟩:=fS U.1;obtain⟨R,I⟩:=fS (show 0<=g.rows by omega);have hlen:c.array.bu.length=C*R:=by
   rw[D,I,<-Int.natCast_mul]at er;omega
  have inner:∀ b:Nat,b<C->iter EW bk (((),(),(b:Int),(0:Int),()),(jC c,(g.bM,g.aE,g.rows,g.aR,()),()))=some (bif (List.range R).all (λj=>yG c (b*R+j))then .inr (.inl (((),(),(b:Int),()),(jC c,(g.bM,g.aE,g.rows,g.aR,()),())))else .inl ((false,()),())):=by
   intro b Z;have e:=jR (step:=EW) (List.range R) (λj=>yG c (b*R+j)) (λi=>(((),(),(b:Int),(i:Int),()),(jC c,(g.bM,g.aE,g.rows,g.aR,()),()))) (.inl ((false,()),())) (.inr (.inl (((),(),(b:Int),()),(jC c,(g.bM,g.aE,g.rows,g.aR,()),())))) bk (λk h=>by
    rw[eD]at h;have hk:=CK (R:=R) Z (show k+1<=R from h);rw[lV,aey,aY,aq,aqG c.config.dO c.array I (by omega) (by omega) (by omega),ax,bY];unfold yG;cases uO c.config.dO c.array (b*R+k)<;>rfl) (by
    rw[eD,aey,bq,av]) (by rw[eD];exact cv)
   rw[dz]at e;exact e
  have e:=jR (step:=Nw) (List.range C) (λb=>(List.range R).all λj=>yG c (b*R+j)) (λi=>(((),(),(i:Int),()),(jC c,(g.bM,g.aE,g.rows,g.aR,()),()))) (.inl ((false,()),())) (.inr (.inl ((),()))) bk (λk h=>by
   rw[eD]at h;rw[lV,aez,jl,ax,D,aY,aq,inner k h,ax];cases (List.range R).all λj=>yG c (k*R+j)with
   |false=>rfl
   | true=>
    simp only[aq,Sum.elim_inr,gA];rw[bY]) (by
   rw[eD,aez,jl,ax,D,bq,av]) (by rw[eD];exact cv)
  rw[dz]at e;simp only[bL,av,cM];subst Y
  refine(bz (λo=>Option.bind o _) e).trans ?_
  rw[ax,hlen,aqF R C (by omega)];cases (List.range C).all λb=>(List.range R).all λj=>yG c (b*R+j)<;>rfl
def aeA(p:dD):Prop:=(0<=p.eI/\p.eI<=1)/\(0<=p.cap/\p.cap<=200)/\(0<=p.low/\p.low<=2)/\(p.low<p.high/\p.high<=6)/\(∃(i:Nat) (w:Int),i<4/\1<=w/\w<=4/\p.weights=[1,1,1,1].set i w)/\(5<=p.bF.down/\p.bF.down<=24)/\(60<=p.bF.sleep/\p.bF.sleep<=119)
def wg(p:dD):Prop:=aeA p/\8<=p.dG/\p.dG<=17
def aqI{b:aa Int}{c:bw}(T:jT b c):Dr b (LX c) aeA:=by
 unfold LX xL;rw[T.eq];show Dr b (Option.bind (some _) _) _;rw[ax]
 refine(eX T 2).bind λx1 k1 U Y=>?_
 dsimp only;rw[Y.eta]
 refine(NC Y _ (by decide)).bind λZ k2 h2 rB=>?_
 dsimp only;rw[rB.eta]
 refine(eX rB 6).bind λx3 k3 h3 sO=>?_
 dsimp only;rw[sO.eta]
 refine(eX sO 3).bind λC k4 D sP=>?_
 dsimp only;rw[sP.eta]
 refine(eX sP 4).bind λE k5 h5 sQ=>?_
 dsimp only;rw[sQ.eta]
 refine(eX sQ 4).bind λx6 k6 h6 AO=>?_
 dsimp only;rw[AO.eta]
 refine(eX AO 4).bind λx7 k7 h7 AP=>?_
 have a1:=U.2.2 (by omega);have a3:=h3.2.2 (by omega);have a4:=D.2.2 (by omega);have a5:=h5.2.2 (by omega);have a6:=h6.2.2 (by omega);have a7:=h7.2.2 (by omega);have b3:=h3.1;have b4:=D.1;have b5:=h5.1;have b6:=h6.1;have b7:=h7.1;have hl:x6.toNat<([1,1,1,1]:aa Int).length:=by simp only[mN,List.length_nil];omega
 dsimp only;rw[aO ⟨b6,hl⟩,aO hl,AP.eta]
 refine(eX AP 20).bind λI k8 h8 Ji=>?_
 dsimp only;rw[Ji.eta]
 refine(eX Ji 60).bind λO k9 h9 Jj=>?_
 dsimp only;rw[Jj.eta];have a8:=h8.2.2 (by omega);have a9:=h9.2.2 (by omega);have b8:=h8.1;have b9:=h9.1;rw[bf (n:=3+x3),bf (n:=C+1),bf (n:=C+1+E),bf (n:=1+x7),bf (n:=5+I),bf (n:=60+O)];simp only[gp,List.not_mem_nil,or_false]at h2;refine Dr.pure Jj ⟨⟨U.1,by show x1<=_;omega⟩,⟨by show 0<=Z;omega,by show Z<=_;omega⟩,⟨D.1,by show C<=_;omega⟩,⟨by show C<C+1+E;omega,by show C+1+E<=_;omega⟩,⟨x6.toNat,1+x7,by omega,by omega,by omega,rfl⟩,⟨by show 5<=5+I;omega,by show 5+I<=_;omega⟩,⟨by show 60<=60+O;omega,by show 60+O<=_;omega⟩⟩
def aeB{b:aa Int}{c:bw}(C:jT b c):Dr b (Ho c) wg:=by
 unfold Ho;rw[C.eq]
 refine(aqI C).bind λT U O D=>?_
 dsimp only;rw[D.eta]
 refine(eX D 10).bind λE Y Z I=>?_
 dsimp only;rw[I.eta];rw[bf];exact Dr.pure I ⟨O,by show 8 <= 8+E;omega,by show 8+E <= _;omega⟩
def aqJ{b:aa Int}{c:bw}(C:jT b c):Dr b (LU c) λg=>g.bM=1/\1<=g.aE/\g.aE<=2/\1<=g.aR/\g.aR<=2:=by
 unfold LU;rw[C.eq]
 refine(eX C 2).bind λD k1 E I=>?_
 dsimp only;rw[I.eta]
 refine(eX I 3).bind λx2 k2 O T=>?_
 dsimp only;rw[T.eta]
 refine(eX T 2).bind λU k3 Y Z=>?_
 dsimp only;rw[Z.eta];have a1:=E.2.2 (by omega);have a2:=O.2.2 (by omega);have a3:=Y.2.2 (by omega);have b1:=E.1;have b2:=O.1;have b3:=Y.1;rw[bf,bf,bf];exact Dr.pure Z ⟨rfl,by show 1<=1+D;omega,by show 1+D<=_;omega,by show 1<=1+U;omega,by show 1+U<=_;omega⟩
def aqK{b:aa Int}{c:bw}(C:jT b c):Dr b (LW c) λm=>0 <= m.order/\m.order <= 2:=by
 unfold LW;rw[C.eq]
 refine(eX C 3).bind λI T O D=>?_
 rw[D.eta]
 refine(ND D 2).bind λU Y Z E=>?_
 rw[E.eta];exact Dr.pure E ⟨O.1,by show I <= 2;omega⟩
def kF(mQ wr:Int):bW:=⟨3,3,7,2,3,10,2,3,mQ,wr,4,5,4,12,3,4,16⟩
def NW(g:aH):Prop:=(1<=g.bM/\g.bM<=2)/\(1<=g.aE/\g.aE<=2)/\(4<=g.rows/\g.rows<=6)/\(1<=g.aR/\g.aR<=2)
def kG(x:fl):Prop:=NW x.ak/\(∃r w:Int,1<=r/\r<=4/\4<=w/\w<=8/\x.bP=kF r w)/\(0<=x.mapping.order/\x.mapping.order<=2)/\(0<=x.cS/\x.cS<=2)/\(200<=x.interval/\x.interval<=259)/\x.gU=16/\x.dO=⟨6*x.interval,40⟩
def aeC{b:aa Int}{c:bw}(O:jT b c):Dr b (Hl c) kG:=by
 unfold Hl;rw[O.eq]
 refine(aqJ O).bind λg kg hg T=>?_
 dsimp only;rw[T.eta];obtain⟨g1,g2,g3,g4,g5⟩:=hg;show Dr b (Option.bind (some _) _) _;rw[ax]
 refine(aqK T).bind λm km U Y=>?_
 dsimp only;rw[Y.eta]
 refine(eX Y 60).bind λC k1 Z zY=>?_
 dsimp only;rw[zY.eta]
 refine(eX zY 3).bind λD k2 h2 rB=>?_
 dsimp only;rw[rB.eta]
 refine(eX rB 2).bind λE k3 h3 sO=>?_
 dsimp only;rw[sO.eta]
 refine(eX sO 3).bind λx4 k4 h4 sP=>?_
 dsimp only;rw[sP.eta]
 refine(ND sP 3).bind λx5 k5 h5 I=>?_
 dsimp only;rw[I.eta];have a1:=Z.2.2 (by omega);have a2:=h2.2.2 (by omega);have a3:=h3.2.2 (by omega);have a4:=h4.2.2 (by omega);have b1:=Z.1;have b2:=h2.1;have b3:=h3.1;have b4:=h4.1;have e1:W6 (200+C)=200+C:=bf;have e2:W6 (6*(200+C))=6*(200+C):=bf;have e3:W6 (4+D)=4+D:=bf;have e4:W6 (1+E)=1+E:=bf;rw[e1,e2,e3,e4];have hG:NW ⟨1+E,g.aE,4+D,g.aR⟩:=⟨⟨by show 1<=1+E;omega,by show 1+E<=2;omega⟩,⟨g2,g3⟩,⟨by show 4<=4+D;omega,by show 4+D<=6;omega⟩,⟨g4,g5⟩⟩
 cases x5 with
 | true=>
  rw[aq]
  refine(eX I 5).bind λx6 k6 h6 AO=>?_
  dsimp only;rw[AO.eta]
  refine(eX AO 4).bind λx7 k7 h7 AP=>?_
  dsimp only;rw[AP.eta];have a6:=h6.2.2 (by omega);have a7:=h7.2.2 (by omega);have b6:=h6.1;have b7:=h7.1;rw[bf (n:=1+x7),bf (n:=4+x6)];exact Dr.pure AP ⟨hG,⟨1+x7,4+x6,by omega,by omega,by omega,by omega,rfl⟩,U,⟨b4,by show x4<=2;omega⟩,⟨by show 200<=200+C;omega,by show 200+C<=259;omega⟩,rfl,rfl⟩
 |false=>exact Dr.pure I ⟨hG,⟨3,6,by omega,by omega,by omega,by omega,rfl⟩,U,⟨b4,by show x4<=2;omega⟩,⟨by show 200<=200+C;omega,by show 200+C<=259;omega⟩,rfl,rfl⟩
def jD(p:aV->Bool)(q:aa aV):Nat:=(q.findIdx? p).getD q.length
def UK(p:aV -> Bool)(q:aa aV):jD p q <= q.length:=by
 unfold jD;cases h:q.findIdx? p with
 |none=>simp_all
 | some k=>
  have⟨C,_⟩:=qN.1 h
  grind
def jo(p:aV->Bool)(q:aa aV)(r:aV):aa aV:=(q.take (jD p q)++[r])++q.drop (jD p q)
def UL(p:aV->Bool)(q:aa aV)(r:aV):(jo p q r).length=q.length+1:=by
 have:=UK p q;simp[jo];omega
def aqL{p:aV -> Bool}{q:aa aV}{i:Nat}(h:i<jD p q)(hi:i<q.length):p q[i]=false:=by
 unfold jD at h;cases C:q.findIdx? p with
 |none =>simp_all
 | some k=>
  rw[C]at h;have⟨_,_,D⟩:=qN.1 C;simp_all
def aqM{p:aV -> Bool}{q:aa aV}(h:jD p q<q.length):p q[jD p q]=true:=by
 unfold jD at h;cases C:q.findIdx? p with
 |none=>grind
 | some k=>
  have⟨D,E,_⟩:=qN.1 C;have e:jD p q=k:=by unfold jD;rw[C];rfl
  simp_all
def UM{n:Int}{l:aa aV}(h:gD n l=true){i j:Nat}(E:i<j)(D:j<l.length):(l[i].id==l[j].id)=false:=by
 unfold gD at h;rw[aK,bS]at h;have C:=h.1 j (gq.2 D);unfold rH at C;rw[bK D]at C;simp at C;have:=C.2.2 l[i] (jY.2 ⟨i,by simp;omega,by simp⟩);simp_all
def aeD{n:Int}{p:aV->Bool}{q:aa aV}{r:aV}(h:gD n (jo p q r)=true):∀ x∈q,(x.id==r.id)=false:=by
 intro x D;have E:=UK p q;have I:=UL p q r;obtain⟨i,hi,rfl⟩:=jY.1 D;have C:(jo p q r)[jD p q]'(by omega)=r:=by
  unfold jo;rw[List.getElem_append_left (by simp;omega),List.getElem_append_right (by simp;omega)];simp
 by_cases c:i<jD p q
 ·have e:(jo p q r)[i]'(by omega)=q[i]:=by
   unfold jo;rw[List.getElem_append_left (by simp;omega),List.getElem_append_left (by simp;omega),List.getElem_take]
  have:=UM h c (by omega);rw[e,C]at this;exact this
 ·have e:(jo p q r)[i+1]'(by omega)=q[i]:=by
   unfold jo;rw[List.getElem_append_right (by simp;omega),List.getElem_drop];congr 1;simp;omega
  have:=UM h (show jD p q<i+1 by omega) (by omega);rw[e,C]at this;rw[aqq];exact this
def aeE{p C:aV->Bool}:∀ {q:aa aV},(∀ x∈q,p x=C x)->q.findIdx? p=q.findIdx? C
 |[],_=>rfl
 | y :: q,h=>by
  rw[List.findIdx?_cons,List.findIdx?_cons,h y (.head _),aeE λx D=>h x (.tail _ D)]
def aeF{n:Int}{q:aa aV}{r:aV}(h:gD n (jo (λx=>!fm x r) q r)=true\/gD n (jo (λx=>fm r x) q r)=true):jo (λx=>!fm x r) q r=jo (λx=>fm r x) q r:=by
 have E:∀ x∈q,(x.id==r.id)=false:=by
  rcases h with h|h
  ·exact aeD h
  ·exact aeD h
 have C:∀ x∈q,(!fm x r)=fm r x:=by
  intro x C;have D:=E x C;have D:¬ x.id=r.id:=by simpa using D
  unfold fm;rw[Bool.eq_iff_iff];simp only[gk,mO,Bool.and_eq_false_iff,qO,beq_eq_false_iff_ne,dZ,aK,fq,ff];omega
 have e:jD (λx=>!fm x r) q=jD (λx=>fm r x) q:=by
  unfold jD;rw[aeE C]
 unfold jo;rw[e]
def CP(n:Int)(q:aa aV)(r:aV):aa aV×Bool:=bif gD n q&&gD n (jo (λx=>fm r x) q r)then (jo (λx=>fm r x) q r,true)else (q,false)
def UN(q:aa aV)(h:q.length<1073741824):IN q=some q:=by
 unfold IN xA xZ;rw[eO (by simpa using h)];rfl
def UO(r:aV):(⟨r.id,r.dR,r.line,r.write,r.data,r.at_⟩:aV)=r:=rfl
def aqN(n:Int)(q:aa aV)(r:aV)(E:q.length<1000000000):Nk n q r=some (CP n q r):=by
 have I:=UK (λx=>!fm x r) q;unfold Nk bR;have e:=eF (step:=IP) (jD (λx=>!fm x r) q) (λi=>((n,q,(),(i:Int),()),((r.id,r.dR,r.line,r.write,r.data,r.at_,()),()))) (.inl ((n,q,(),((jD (λx=>!fm x r) q:Nat):Int),()),((r.id,r.dR,r.line,r.write,r.data,r.at_,()),()))) bk (λk h=>by
  have C:=aqL h (by omega);have C:fm q[k] r=true:=by simpa using C
  unfold IP aM xG xI;dsimp only;rw[aY,aq,aO ⟨by omega,by omega⟩];simp only[bE];rw[UO,Uo,ax,C,aq,bY]) (by
  unfold IP aM xG xI;dsimp only;by_cases c:jD (λx=>!fm x r) q<q.length
  ·have C:=aqM c;have C:fm q[jD (λx=>!fm x r) q] r=false:=by simpa using C
   rw[aY,aq,aO ⟨by omega,by omega⟩];simp only[bE];rw[UO,Uo,ax,C,av]
  ·rw[bq,av]) (cv)
 rw[dz]at e;rw[e,ax];simp only[gA];rw[aW ⟨by omega,by omega,by omega⟩,aW ⟨by omega,by omega,by omega⟩];simp only[bE,Int.toNat_zero,List.drop_zero,mP];rw[UO,UN _ (by simp;omega),ax,eO (by simp;omega),aq,eO (by simp;omega),aq,Up n q (by omega),ax];unfold CP;have O:=UL (λx=>!fm x r) q r;cases T:gD n q with
 | false=>
  rw[Bool.not_false,aq,UN _ (by omega),ax];rfl
 | true=>
  rw[bL,av];show (Cq n (jo (λx=>!fm x r) q r)).bind _=_;rw[Up n _ (by omega),ax,cM];cases C:gD n (jo (λx=>!fm x r) q r)with
  | false=>
   have D:gD n (jo (λx=>fm r x) q r)=false:=by
    cases D:gD n (jo (λx=>fm r x) q r)with
    |false=>rfl
    |true=>rw[aeF (.inr D),D]at C;cases C
   rw[D,Bool.not_false,aq,UN _ (by omega),ax];rfl
  | true=>
   have D:=aeF (.inl C);rw[<-D,C,bL,av,aq];rfl
abbrev aqO:=((aj×aj×aj×(aa cJ)×Int×Int×aj)×(au×au×(Int×Int×Int×Int×Int×Int×Int×Int×Int×Int×Int×Int×Int×Int×Int×Int×Int×Int×Int×Int×Int×Int×Bool×Int×Int×Int×Int×Int×Int×Int×Int×Int×Int×aj×Int×Int×Int×Int×Int×Int×Int×aj×Int×Int×Bool×Int×aj×Int×aj×aj×aj×aj×aj×Int×aj×aj×Int×Bool×aj×(aa Int)×(aa aP)×(aa aV)×(aa dw)×Bool×Int×Int×Int×Int×Int×Int×Int×Int×(aa cI)×(aa bH)×(aa eJ)×aj)×(aa Int)×(aa Int)×(aa dQ)×(aa Int)×(aa Int)×(aa cy)×(aa Int)×(aa Int)×(aa Int)×(aa Int)×(aa cJ)×aj))
def n8{α:Type}(l:aa α)(h:l.length<=1048577:=by omega):bV (([]:aa α).length+l.length)=true:=eO (by simp;omega)
def aeG(t:cJ)(h:mG t):Es t=some t:=by
 unfold Es xA xZ;have C:=h.1;have D:=h.2;rw[n8 _,n8 _];rfl
def aqP(s:aqO)(D:s.1.2.2.2.2.2.1=0)(E:s.1.2.2.2.2.1=(s.1.2.2.2.1.length:Int))(I:s.2.2.2.2.2.2.2.2.2.2.2.2.2.2.1=[])(C:s.1.2.2.2.1.length <= 1048576 /\ ∀ y∈s.1.2.2.2.1,mG y):iter Et bk s=some (.inl (((),(),(),()),(s.2.1,s.2.2.1,s.2.2.2.1,s.2.2.2.2.1,s.2.2.2.2.2.1,s.2.2.2.2.2.2.1,s.2.2.2.2.2.2.2.1,s.2.2.2.2.2.2.2.2.1,s.2.2.2.2.2.2.2.2.2.1,s.2.2.2.2.2.2.2.2.2.2.1,s.2.2.2.2.2.2.2.2.2.2.2.1,s.2.2.2.2.2.2.2.2.2.2.2.2.1,s.2.2.2.2.2.2.2.2.2.2.2.2.2.1,s.1.2.2.2.1,s.2.2.2.2.2.2.2.2.2.2.2.2.2.2.2))):=by
 have e:=eF (step:=Et) s.1.2.2.2.1.length (λi=>(((),(),(),s.1.2.2.2.1,s.1.2.2.2.1.length,i,()),(s.2.1,s.2.2.1,s.2.2.2.1,s.2.2.2.2.1,s.2.2.2.2.2.1,s.2.2.2.2.2.2.1,s.2.2.2.2.2.2.2.1,s.2.2.2.2.2.2.2.2.1,s.2.2.2.2.2.2.2.2.2.1,s.2.2.2.2.2.2.2.2.2.2.1,s.2.2.2.2.2.2.2.2.2.2.2.1,s.2.2.2.2.2.2.2.2.2.2.2.2.1,s.2.2.2.2.2.2.2.2.2.2.2.2.2.1,s.1.2.2.2.1.take i,s.2.2.2.2.2.2.2.2.2.2.2.2.2.2.2))) _ bk (λk h=>by
  unfold Et aM xG xI;dsimp only;rw[aY,aq,aO ⟨by omega,by omega⟩];simp only[bE];rw[aeG _ (C.2 _ (dc _)),ax,eO (by simp;omega),aq,bY,uM h]) (by
  unfold Et aM xG xI;dsimp only;rw[bq,av,mP]) (cv)
 grind
def aeH(l:aa Int)(h:l.length <= 1048577):Mq l=some l:=by
 cases l with
 |nil=>rfl
 | cons a l=>
  show (bif bV _ then some _ else none)=_;rw[n8 _ h];rfl
def aqQ(l:aa aP)(h:l.length <= 1048577):Tl l=some l:=by
 cases l with
 |nil=>rfl
 | cons a l=>
  show (bif bV _ then some _ else none)=_;rw[n8 _ h];rfl
def aqR(l:aa aV)(h:l.length <= 1048577):Tn l=some l:=by
 cases l with
 |nil=>rfl
 | cons a l=>
  show (bif bV _ then some _ else none)=_;rw[n8 _ h];rfl
def aqS(l:aa dw)(h:l.length <= 1048577):To l=some l:=by
 cases l with
 |nil=>rfl
 | cons a l=>
  show (bif bV _ then some _ else none)=_;rw[n8 _ h];rfl
def aqT(l:aa cI)(h:l.length <= 1048577):Tp l=some l:=by
 cases l with
 |nil=>rfl
 | cons a l=>
  show (bif bV _ then some _ else none)=_;rw[n8 _ h];rfl
def aqU(l:aa bH)(h:l.length <= 1048577):Ts l=some l:=by
 cases l with
 |nil=>rfl
 | cons a l=>
  show (bif bV _ then some _ else none)=_;rw[n8 _ h];rfl
def aqV(l:aa eJ)(h:l.length <= 1048577):Tt l=some l:=by
 cases l with
 |nil=>rfl
 | cons a l=>
  show (bif bV _ then some _ else none)=_;rw[n8 _ h];rfl
def aeI(b:mS)(h:NU b):HJ b=some b:=by
 have C:b.bT.weights.length <= 1048576:=h.1;have D:b.next.weights.length <= 1048576:=h.2
 unfold HJ vT xA xZ;rw[n8 _,aq,n8 _];rfl
def Jk(c:au)(D:cG c):Aq c=some c:=by
 obtain⟨z1,E,I,C,O,T,U,Z,z9,nU,qC,rL,oU,rM⟩:=D;have y2:c.aI.aE.length<=1048576:=E;obtain⟨y3,y3'⟩:=I;have y5:c.spare.map.length<=1048576:=O;have y6:c.aB.aD.length<=1048576:=T;unfold Aq bR;rw[aeI _ z1,ax];unfold Eo Ep Cl xA xZ;rw[n8 _,aq,ax,n8 _,aq,n8 _,aq,ax,adH _ (by have:=C.1.1;omega) (by have:=C.2.1;omega) (by have:=C.2.2;omega) (λx Y=>by have:x.symbols.length<=1048576:=C.1.2 x Y;omega),ax,aeH _ (by omega),ax,n8 _,aq,ax]
 refine(bz (λo=>Option.bind o _) (aqP _ rfl rfl rfl U)).trans ?_
 rw[ax];simp only[gA];rw[aeH c.guard (by omega),ax,aqQ c.pending (by omega),ax,aqR c.queue (by omega),ax,aqS c.shares (by omega),ax,aqT c.errors (by omega),ax,aqU c.trace (by omega),ax,aqV c.cc (by omega),ax];rfl
def eY{α:Type}(p:α->Bool)(q:aa α):Nat:=(q.findIdx? p).getD q.length
def E7{α:Type}(p:α -> Bool)(q:aa α):eY p q <= q.length:=by
 unfold eY;cases h:q.findIdx? p with
 |none=>simp_all
 | some k=>
  have⟨C,_⟩:=qN.1 h
  grind
def uU{α:Type}{p:α -> Bool}{q:aa α}{i:Nat}(h:i<eY p q)(hi:i<q.length):p q[i]=false:=by
 unfold eY at h;cases C:q.findIdx? p with
 |none =>simp_all
 | some k=>
  rw[C]at h;have⟨_,_,D⟩:=qN.1 C;simp_all
def AQ{α:Type}{p:α -> Bool}{q:aa α}(h:eY p q<q.length):p q[eY p q]=true:=by
 unfold eY at h;cases C:q.findIdx? p with
 |none=>grind
 | some k=>
  have⟨D,E,_⟩:=qN.1 C;have e:eY p q=k:=by unfold eY;rw[C];rfl
  simp_all
def UP{α:Type}(p:α -> Bool)(q:aa α):q.any p=decide (eY p q<q.length):=by
 by_cases c:eY p q<q.length
 ·rw[aY c,List.any_eq_true];exact⟨_,dc c,AQ c⟩
 ·rw[bq c,nD];intro x C;obtain⟨i,hi,rfl⟩:=jY.1 C;rw[uU (p:=p) (by omega) hi];simp
def aqW(l:aa eJ)(r:aV)(D:l.length<=1048576):Nl l r=some (l.any λx=>x.id==r.id):=by
 have E:=E7 (λx:eJ=>x.id==r.id) l;unfold Nl T3;rw[UP];have e:=eF (step:=IQ) (eY (λx:eJ=>x.id==r.id) l) (λi=>((l,r,(l.length:Int),(i:Int),()),())) (if eY (λx:eJ=>x.id==r.id) l<l.length then .inl ((((eY (λx:eJ=>x.id==r.id) l:Nat):Int),()),())else .inr (.inl ((),()))) bk (λk h=>by
  have C:=uU h (by omega);unfold IQ aM bG xG xI;dsimp only;rw[aY,aq,aO ⟨by omega,by omega⟩];simp only[bE];rw[C,av,bY]) (by
  unfold IQ aM bG xG xI;dsimp only;by_cases c:eY (λx:eJ=>x.id==r.id) l<l.length
  ·rw[aY,aq,aO ⟨by omega,by omega⟩,aW c];simp only[bE];rw[AQ c,aq]
  ·rw[bq,av,aX c]) (cv)
 rw[dz]at e;rw[e,ax];by_cases c:eY (λx:eJ=>x.id==r.id) l<l.length
 ·rw[aW c,aY c,gA,ax];dsimp only;rw[aY]
 ·rw[aX c,bq c,Sum.elim_inr,gA,ax];rfl
def lP(c:au)(r:aV):aV:=⟨r.id,r.dR,r.line,r.write,r.data,c.now⟩
def nt(c:au)(r:aV):aa aV×Bool:=CP (eA (gQ c.config.ak c.spare)) c.queue (lP c r)
def kH(c:au)(r:aV):au×Bool:=bif (!cA c) ||((!(nt c r).2) ||(c.cc.any λx=>x.id==r.id))then (c,false)else ({ c with queue:=(nt c r).1 },true)
def aqX(c:au)(r:aV)(C:cG c):Nm c r=some (kH c r):=by
 unfold Nm kH;rw[Jk c C,ax,CO c C,ax];obtain⟨z1,E,I,O,T,U,Y,Z,z9,nU,qC,rL,oU,D⟩:=C;cases h:cA c with
 |false=>rfl
 | true=>
  rw[bL,av,Bool.false_or,NP,ax,AD,ax,aqN _ _ _ (by omega),ax,aqW _ _ D,ax];show (bif !(nt c r).2 then some (c,false)else bif (c.cc.any λx=>x.id==r.id)then some (c,false)else some ({ c with queue:=(nt c r).1 },true))=_;cases (nt c r).2<;>cases (c.cc.any λx=>x.id==r.id)<;>rfl
def aqY(c:au)(r:aV)(h:c.queue.length <= 1048576):(nt c r).1.length <= 1048576:=by
 unfold nt CP;cases C:(gD _ _&&gD _ _)with
 |false=>exact h
 | true=>
  rw[aq];rw[aK]at C;have:=C.2;unfold gD at this
  grind
def aqZ(c:au)(r:aV)(C:cG c):cG (kH c r).1:=by
 unfold kH;cases hb:((!cA c) ||((!(nt c r).2) ||(c.cc.any λx=>x.id==r.id)))with
 |true=>exact C
 | false=>
  have⟨z1,D,E,I,O,T,U,Y,Z,nU,qC,rL,oU,rM⟩:=C;exact⟨z1,D,E,I,O,T,U,Y,Z,aqY c r nU,qC,rL,oU,rM⟩
def nb(l:aa UInt8):aa Int:=l.map λb=>(b.toNat:Int)
def gn(c:au)(a:dj):au:=⟨c.config,c.box,c.now,c.aI,c.ready,a,c.spare,c.aB,c.bB,c.guard,c.pending,c.queue,c.shares,c.drain,c.aN,c.eg,c.errors,c.trace,c.cc⟩
def AR:cy:=⟨[],false⟩
def Jl(d:cy):cy:=⟨(d.symbols.set 0 (bits .xor .i64 (d.symbols.getD 0 0) 5)).set 1 (bits .xor .i64 (d.symbols.getD 1 0) 10),d.pg⟩
def qD(base:Nat):Nat->aa cy->aa cy
 |0,cs=>cs
 |n+1,cs=>(qD base n cs).set (base+n) (Jl ((qD base n cs).getD (base+n) AR))
def NX(base:Nat):∀ (n:Nat) (cs:aa cy),(qD base n cs).length=cs.length
 |0,_=>rfl
 | n+1,cs=>by
  show ((qD base n cs).set _ _).length=_;rw[jb,NX]
def aq0{d:cy}(h:Sy d.symbols):Sy (Jl d).symbols:=by
 have C:0<d.symbols.length:=by rw[h.1];omega
 have l1:1<d.symbols.length:=by rw[h.1];omega
 have I:d.symbols.getD 0 0=d.symbols[0]:=by rw[cL,bK C];rfl
 have O:d.symbols.getD 1 0=d.symbols[1]:=by rw[cL,bK l1];rfl
 have D:=adG (h.get (k:=0) C) (b:=5) ⟨by omega,by omega⟩;have E:=adG (h.get l1) (b:=10) ⟨by omega,by omega⟩;unfold Jl;rw[I,O];exact(h.set ⟨D.1,D.2.1⟩).set ⟨E.1,E.2.1⟩
def UQ{base:Nat}:∀ (n:Nat) {cs:aa cy},base+n <= cs.length -> (∀ c∈cs,Sy c.symbols) -> ∀ c∈qD base n cs,Sy c.symbols
 |0,cs,_,h=>h
 | n+1,cs,D,h=>by
  have C:=UQ (base:=base) n (by omega) h;have hlen:=NX base n cs;refine Sy.bD C (aq0 ?_)
  grind
def AS(g:aH)(l:lA)(a:dj)(b r:Int):dj:=
 ⟨bif uO l a (b*g.rows+r).toNat then qD ((b*g.rows+r)*g.aR).toNat g.aR.toNat a.cells else a.cells,a.bu.set (b*g.rows+r).toNat 0,oW g.rows r (b*g.rows+r).toNat a.bg⟩
def UR{g:aH}(C:cx g=true){b r k:Int}(E:0 <= b)(I:b<aL g)(O:0 <= r)(T:r<g.rows)(U:0 <= k)(Y:k<g.aR):0 <= (b*g.rows+r)*g.aR/\(b*g.rows+r)*g.aR+k<eA g/\0 <= b*g.rows+r/\b*g.rows+r<fF g:=by
 have er:aL g*g.rows=fF g:=by simp[fF,C]
 have⟨r0,Z,D⟩:=CG E I O T;rw[er]at D;have⟨q0,q1,q2⟩:=CG Z D U Y;have el:fF g*g.aR=eA g:=by simp[fF,eA,C]
 simp_all
def aq1{g:aH}(C:cx g=true)(c:au){b r:Int}(hc:(c.array.cells.length:Int)=eA g)(Y:∀ x∈c.array.cells,Sy x.symbols)(E:0<=b)(I:b<aL g)(O:0<=r)(T:r<g.rows):
  iter CD bk (((),b,r,(),(0:Int),()),(c,(g.bM,g.aE,g.rows,g.aR,()),()))=some (.inl (((),b,r,(),()),(gn c ⟨qD ((b*g.rows+r)*g.aR).toNat g.aR.toNat c.array.cells,c.array.bu,c.array.bg⟩,(g.bM,g.aE,g.rows,g.aR,()),()))):=by
 obtain⟨_,_,_,_,g5,g6,g7,g8⟩:=fY C;have b1:=oV g;obtain⟨n,Z⟩:=fS (show 0<=g.aR by omega);obtain⟨B,hB⟩:∃B,B=((b*g.rows+r)*g.aR).toNat:=⟨_,rfl⟩
 have tV:g.aR.toNat=n:=by omega
 rw[<-hB,tV];have lX:B+n<=c.array.cells.length:=by
  have:=UR C E I O T (show 0<=g.aR-1 by omega) (by omega);omega
 have e:=eF (step:=CD) n (λk=>(((),b,r,(),(k:Int),()),(gn c ⟨qD B k c.array.cells,c.array.bu,c.array.bg⟩,(g.bM,g.aE,g.rows,g.aR,()),()))) (.inl (((),b,r,(),()),(gn c ⟨qD B n c.array.cells,c.array.bu,c.array.bg⟩,(g.bM,g.aE,g.rows,g.aR,()),()))) bk (λk hk=>by
  have hat:fM g ⟨b,r,(k:Int)⟩=true:=AE C E I O T (by dsimp only;omega) (by dsimp only;omega);have hix:uL g ⟨b,r,(k:Int)⟩=((B+k:Nat):Int):=by
   have:=UR C E I O T (show 0<=(k:Int) by omega) (by omega);unfold uL;rw[hat,aq];dsimp only;omega
  have hlen:=NX B k c.array.cells;have U:=UQ k (by omega:B+k<=c.array.cells.length) Y;show CD (((),b,r,(),(k:Int),()),(gn c ⟨qD B k c.array.cells,c.array.bu,c.array.bg⟩,(g.bM,g.aE,g.rows,g.aR,()),()))=some (.inl (((),b,r,(),((k+1:Nat):Int),()),(gn c ⟨(qD B k c.array.cells).set (B+k) (Jl ((qD B k c.array.cells).getD (B+k) AR)),c.array.bu,c.array.bg⟩,(g.bM,g.aE,g.rows,g.aR,()),())));generalize qD B k c.array.cells=cs at hlen U;have D:B+k<cs.length:=by omega
  have s1:=Sy.mem U D;have l1:(0:Nat)<cs[B+k].symbols.length:=by rw[s1.1];omega
  have l2:(1:Nat)<cs[B+k].symbols.length:=by rw[s1.1];omega
  have c2:decide ((k:Int)<g.aR)=true:=aY;have zW:cs.getD (B+k) AR=cs[B+k]:=by rw[cL,bK D];rfl
  have f0:cs[B+k].symbols.getD 0 0=cs[B+k].symbols[0]:=by rw[cL,bK l1];rfl
  have f1:cs[B+k].symbols.getD 1 0=cs[B+k].symbols[1]:=by rw[cL,bK l2];rfl
  rw[zW];unfold Jl;rw[f0,f1];unfold CD gn xC aM xG xL xM;dsimp only;rw[c2,aq,uN g,Uc,ax,hix];generalize B+k=j at D s1 l1 l2;simp (disch:=omega) [D,bY,l1,l2]) (by unfold CD xC aM xG xL xM;simp[Z]) (cv)
 exact e
def aq2(c:au){R k:Int}{nb:aa Int}(Y:nb.length<1000)(E:∀ n∈nb,0<=n/\n<R)(Z:0<=k)(hk:k+R<=(c.array.bg.length:Int))(hH:c.array.bg.length<1000000)(I:∀ x∈c.array.bg,0<=x/\x<=100000):
  iter AB bk (((),k,(),(nb.length:Int),(0:Int),()),(c,nb,()))=some (.inl ((),(gn c ⟨c.array.cells,c.array.bu,nb.foldl (λh n=>nW (k+n).toNat h) c.array.bg⟩,()))):=by
 have e:=eF (step:=AB) nb.length (λi=>(((),k,(),(nb.length:Int),(i:Int),()),(gn c ⟨c.array.cells,c.array.bu,(nb.take i).foldl (λh n=>nW (k+n).toNat h) c.array.bg⟩,nb,()))) (.inl ((),(gn c ⟨c.array.cells,c.array.bu,nb.foldl (λh n=>nW (k+n).toNat h) c.array.bg⟩,()))) bk (λj h=>by
  have hx:=E _ (dc h);have O:=aep k (nb.take j) c.array.bg;have hB:=aeq k (nb.take j) c.array.bg I;rw[List.take_succ_eq_append_getElem h,List.foldl_append];simp only[List.foldl_cons,List.foldl_nil];generalize (nb.take j).foldl (λh n=>nW (k+n).toNat h) c.array.bg=G at O hB;obtain⟨q,D⟩:=fS (show 0<=k+nb[j] by omega);have C:q<G.length:=by omega
  have hg:=hB _ (dc C);have T:W6 (k+nb[j])=(q:Int):=by rw[D];exact bf
  have U:W6 (G[q]+1)=G[q]+1:=bf;rw[D,bE,apr C];unfold AB gn aM xG xL;simp (disch:=omega) [h,T,C,U,bY,nq]) (by unfold AB aM xG xL;simp) (cv)
 rw[dz,List.take_zero,List.foldl_nil]at e;exact e
def US{g:aH}(D:cx g=true)(l:lA){B:Int}(hB:0 <= B){a:dj}(C:fz g B a){b r:Int}(E:0 <= b)(I:b<aL g)(O:0 <= r)(T:r<g.rows):fz g B (AS g l a b r):=by
 have⟨_,_,_,_,Y,Z,g7,g8⟩:=fY D;have U:((b*g.rows+r)*g.aR).toNat+g.aR.toNat <= a.cells.length:=by
  have:=UR D E I O T (show 0 <= g.aR-1 by omega) (by omega);have:=C.cells;omega
 unfold AS;refine⟨?_,?_,by simp[C.bu],by simp[apt,C.bg],NF C.EX ⟨by omega,by omega⟩,apv C.hit⟩
 ·dsimp only;cases uO l a (b*g.rows+r).toNat with
  |false=>exact C.cells
  |true=>rw[aq,NX];exact C.cells
 ·dsimp only;cases uO l a (b*g.rows+r).toNat with
  |false=>exact C.syms
  |true=>rw[aq];exact UQ _ U C.syms
def aeJ{g:aH}(Y:cx g=true)(l:lA){B:Int}(c:au)(C:fz g B c.array){b r:Int}(Z:0<=b)(h2:b<aL g)(D:0<=r)(E:r<g.rows):It g l c b r=some ((),(gn c (AS g l c.array b r),())):=by
 obtain⟨_,_,_,_,g5,g6,g7,g8⟩:=fY Y;have b2:=s9 g;have er:aL g*g.rows=fF g:=by simp[fF,Y]
 obtain⟨r0,r1,r2⟩:=CG Z h2 D E;rw[er]at r2;have hk:b*g.rows+g.rows<=fF g:=by
  have:=(CG Z h2 (show 0<=g.rows-1 by omega) (show g.rows-1<g.rows by omega)).2.2;omega
 have a1:=C.bu;have a2:=C.bg;have I:W6 (b*g.rows)=b*g.rows:=bf;have e2:W6 (b*g.rows+r)=b*g.rows+r:=bf;have eL:=aq1 Y c C.cells C.syms Z h2 D E;unfold AS;generalize qD ((b*g.rows+r)*g.aR).toNat g.aR.toNat c.array.cells=cs at eL;obtain⟨i,hi⟩:=fS r1;obtain⟨k,O⟩:∃k,k=b*g.rows:=⟨_,rfl⟩
 rw[<-O]at hi hk I e2 r0 r1 r2;unfold It bR xL;rw[<-O,I,e2];rw[hi]at r2;rw[hi,bE];have T:i<c.array.bu.length:=by omega
 have U:i<c.array.bg.length:=by omega
 have QF:AA g l c.array b r=some (uO l c.array i):=by
  unfold AA xI;have UT:W6 (i:Int)=i:=bf;simp only[<-O,I,hi,UT];unfold uO;simp only[cL,bK T,bK U,Option.getD_some];by_cases h:c.array.bu[i] > l.bu<;>simp[T,U,h]
 rw[QF,ax];have b1:=NF C.hit (k:=i) (v:=0) ⟨by omega,by omega⟩;have zH:=aen g5 g6 D E;have sn:=aqs g.rows r;have UU:∀ cells:aa cy,iter AB bk (((),k,(),((gR g.rows r).length:Int),(0:Int),()),(gn c ⟨cells,c.array.bu.set i 0,c.array.bg.set i 0⟩,gR g.rows r,()))=some (.inl ((),(gn c ⟨cells,c.array.bu.set i 0,oW g.rows r i c.array.bg⟩,()))):=λcells=>by
  have:=aq2 (gn c ⟨cells,c.array.bu.set i 0,c.array.bg.set i 0⟩) (R:=g.rows) (k:=k) (nb:=gR g.rows r) (by omega) (aeo D E) r0 (by simp[gn];omega) (by simp[gn];omega) b1;simp only[gn]at this ⊢;rw[aqt hi r0 D]at this;exact this
 have h2x:TU=AB:=rfl;unfold gn at UU eL ⊢;cases uO l c.array i with
 | false=>
  simp[T,U,zH,h2x,UU]
 | true=>
  rw[aq,eL];have UT:W6 (i:Int)=i:=bf;simp[<-O,I,UT,hi,T,U,zH,UU]
def CQ(p:dQ×dQ):Bool:=(p.1.open_==p.2.open_)&&((p.1.row==p.2.row)&&true)
def NY(c:au):Bool:=(runT c.config.ak c.config.bP c.trace).isSome&&match CN c.config.ak c.trace with
 |some r=>(r.aN==c.aI.aN)&&((r.aE.zip c.aI.aE).all CQ&&(AN (n6 c.config.ak c.trace).last c.ready.last&&AN (n6 c.config.ak c.trace).aZ c.ready.aZ))
 |none=>false
def aeK{c:fl}{p:dD}(C:p.weights.length<1073741823)(h:n7 c p=true):iW c.bP=true:=by
 have⟨b,e,D⟩:=Ul c p C;have E:b=true:=by
  rw[Jh c p C]at e;simp_all
 have:=D E;simp[qt,aK]at this;simp_all
def aeL(c:au)(l:aa dQ)(n i p:Int):Nu (((),(),(),n,i,()),(jC c,(c.config.ak.bM,c.config.ak.aE,c.config.ak.rows,c.config.ak.aR,()),((),p,()),l,()))=bif (decide (i<n))then if E:0<=i/\i.toNat<l.length then if C:i.toNat<l.length then (if D:0<=i/\i.toNat<c.aI.aE.length then (bif (!CQ (l[i.toNat]'C,c.aI.aE[i.toNat]'D.2))then some (.inr (.inl ((false,()),())))else some (.inl (((),(),(),n,(W6 (i+(1:Int))),()),(jC c,(c.config.ak.bM,c.config.ak.aE,c.config.ak.rows,c.config.ak.aR,()),((),p,()),l,()))))else none)else none else none else some (.inr (.inr (.inl (((),(),()),(jC c,(c.config.ak.bM,c.config.ak.aE,c.config.ak.rows,c.config.ak.aR,()),()))))):=rfl
def aq3{c:au}(C:cG c)(h:cA c=true):cx c.config.ak=true/\iW c.config.bP=true/\(c.aI.aE.length:Int)=aL c.config.ak/\c.trace.length<=2000:=by
 have z1:c.box.bT.weights.length<=1048576:=C.1.1;simp only[cA,aK,fq]at h;obtain⟨D,T,U,E,Y,Z,h7,h8,h9,yz,uQ,qc,oY,s7,s8,uF,AJ,CR,CS,E8,Ay,E9⟩:=h;obtain⟨I,O,_⟩:=rK E;exact⟨I,aeK (by omega) D,O,by omega⟩
def aq4(c:au)(E:cG c):Nv c=some (cA c&&NY c):=by
 unfold Nv cZ;rw[CO c E,ax];cases C:cA c with
 |false=>rfl
 | true=>
  obtain⟨D,T,hb,U⟩:=aq3 E C;have b1:=eG c.config.ak;obtain⟨k,i,Y,Z⟩:=aqf D T U;rw[bL,av,Y,ax,aqo D (by omega),ax,cM];dsimp only;rw[Z];unfold NY UH;cases runT c.config.ak c.config.bP c.trace with
  |none=>rfl
  | some r0=>
   cases he:CN c.config.ak c.trace with
   |none=>rfl
   | some r=>
    have hlr:=aqn he;have I:r.aE.length=c.aI.aE.length:=by omega
    have hzl:=NS I;simp only[Option.isNone_some,Option.isSome_some,bL,av,cM];rw[bne];cases hp:(r.aN==c.aI.aN)with
    |false=>rfl
    | true=>
     have e:=jR (step:=Nu) (r.aE.zip c.aI.aE) CQ (λi=>(((),(),(),(r.aE.length:Int),(i:Int),()),(jC c,(c.config.ak.bM,c.config.ak.aE,c.config.ak.rows,c.config.ak.aR,()),((),r.aN,()),r.aE,()))) (.inl ((false,()),())) (.inr (.inl (((),(),()),(jC c,(c.config.ak.bM,c.config.ak.aE,c.config.ak.rows,c.config.ak.aR,()),())))) bk (λk C=>by
      rw[aeL,aY,aq,aO ⟨by omega,by omega⟩,aO,aO ⟨by omega,by omega⟩,bY,ael I C];simp only[bE];cases CQ (r.aE[k],c.aI.aE[k])<;>rfl) (by
      rw[aeL,bq,av]) (cv)
     rw[dz]at e;simp only[bL,av,cM]
     refine(bz (λo=>Option.bind o _) e).trans ?_
     rw[ax];cases (r.aE.zip c.aI.aE).all CQ with
     |false=>rfl
     | true=>
      have hlen:=aeh c.config.ak c.trace;change ((IY c.config.ak c.trace).bind λO=>(CF O.last c.ready.last).bind λvR=>bif vR then (CF O.aZ c.ready.aZ).bind λkW=>some kW else some false)=_;rw[aql D (by omega),ax,aem (by omega),ax,aem (by omega)];cases AN (n6 c.config.ak c.trace).last c.ready.last<;>rfl
def jW(i:Nat):aS:=⟨(i:Int) % 9+1,if (i:Int) % 9+1<=5 then (i:Int) / 9 else 0,0,0⟩
def tv(n m:Int):Int:=if n > m then n else m
def NZ(g:aH)(t:bW)(l:aa Int)(c:aS)(m:Int)(i:Nat):Int:=match l[i]? with
 |some n=>bif decide (n<0)then m else tv (n+gf g t (jW i) c) m
 |none=>m
def tw(g:aH)(t:bW)(l:aa Int)(c:aS)(k:Nat):Int:=(List.range k).foldl (NZ g t l c) 0
def lQ(g:aH)(t:bW)(r:dN)(c:aS):Int:=
 bif c.kind==1&&(r.aZ.length:Int)==4 then tv (r.aZ.getD 0 0+t.jZ) (tw g t r.last c r.last.length)else tw g t r.last c r.last.length
def N0(g:aH)(t:bW)(l:aa Int)(c:aS)(k:Nat):tw g t l c (k+1)=NZ g t l c (tw g t l c k) k:=by
 unfold tw;rw[List.range_succ,List.foldl_append];rfl
def N1{g:aH}{t:bW}{l:aa Int}{c:aS}{m:Int}{i:Nat}(h:i<l.length):NZ g t l c m i=bif decide (l[i]<0)then m else tv (l[i]+gf g t (jW i) c) m:=by
 unfold NZ;rw[bK h]
def aq5{a b C:Int}(D:a<=C)(E:0<=b/\b<=C):0<=tv a b/\tv a b<=C:=by
 unfold tv;split<;>omega
structure Jm (g:aH) (t:bW) (r:dN):Prop where
 tA:cx g=true
 N2:iW t=true
 len:r.last.length<1000
 last:∀(i:Nat) (h:i<r.last.length),(-1<=r.last[i]/\r.last[i]<=1000000)/\(r.last[i] = -1\/qy g i=true)
 a4:r.aZ.length<=4
 act:∀x∈r.aZ,0<=x/\x<=1000000
def aq6{g:aH}{t:bW}{r:dN}(E:iW t=true)(h:jn g r=true):Jm g t r:=by
 have Y:=eG g;simp only[jn,aK,bS,gq]at h;have⟨I,C,D,O,T⟩:=h;have C:(r.last.length:Int)=9*(aL g+1):=by simpa using C
 have D:¬ (r.aZ.length:Int) > 4:=by simpa using D
 refine⟨I,E,by omega,λi hi=>?_,by omega,λx U=>?_⟩
 ·have e:=O i hi;rw[NN hi]at e;simp only[aK,dZ]at e;refine⟨br.1 e.1,?_⟩
  grind
 ·obtain⟨i,hi,rfl⟩:=jY.1 U;have e:=T i hi;cases i with
  |zero=>rw[NO hi]at e;exact br.1 e
  |succ i=>rw[Je hi]at e;simp at e;exact br.1 e.1
def aq7(i:Nat):1<=(jW i).kind/\(jW i).kind<=9:=by
 unfold jW;dsimp only;omega
def aq8{g:aH}{i:Nat}(C:qy g i=true):(jW i).kind <= 5 -> 0 <= (jW i).ay/\(jW i).ay<aL g:=by
 unfold qy at C;unfold jW
 grind
def aq9{g:aH}{i:Nat}(hi:i<1000)(C:qy g i=true):∃ b,Cn g (i:Int)=some (jW i,b):=by
 have E:=C;unfold qy at C;unfold Cn jW;rw[jl,ax,Int.tdiv_eq_ediv_of_nonneg (by omega),rS (by omega),bf,bf,Jc,ax];cases D:decide ((i:Int) / 9<aL g)with
 |true =>simp_all
 | false=>
  rw[D]at C;have I:¬ (i:Int) % 9+1 <= 5:=by
   simp_all
  simp[*]
def UW{g:aH}{t:bW}{r:dN}(h:Jm g t r)(c:aS):∀ k,k <= r.last.length -> 0 <= tw g t r.last c k/\tw g t r.last c k <= 1000128
 |0,_=>⟨gz _,by show 0 <= _;omega⟩
 | k+1,D=>by
  have C:=UW h c k (by omega);rw[N0,N1 (by omega)];have E:=UD h.N2 g (jW k) c;have I:=(h.last k (by omega)).1;cases decide (r.last[k]<0)with
  |true=>exact C
  |false=>exact aq5 (by omega) C
def ara{g:aH}{t:bW}{r:dN}(h:Jm g t r)(c:aS):0 <= lQ g t r c:=by
 have C:=UW h c _ (dH _);unfold lQ tv
 grind
def arb{g:aH}{t:bW}{r:dN}{c:aS}(h:Jm g t r)(hr:jn g r=true)(C:cQ g c=true):MH g t r c=some (bif decide (lQ g t r c > 1000000)then -1 else lQ g t r c):=by
 have T:=λk D=>UW h c k D
 have U:(1<=c.kind/\c.kind<=9)/\(c.kind<=5->0<=c.ay/\c.ay<aL g):=by
  simp only[cQ,aK]at C
  refine⟨br.1 C.2.1,λh5=>?_⟩
  have E:=C.2.2.1;rw[apR (br.1 C.2.1),aY h5]at E;have:=br.1 E;omega
 have e:=eF (step:=Ig) r.last.length (λi=>(((),(),(),(),tw g t r.last c i,r.last,(r.last.length:Int),(i:Int),()),((g.bM,g.aE,g.rows,g.aR,()),t,(r.last,r.aZ,()),(c.kind,c.ay,c.row,c.bZ,()),()))) (.inl (((),(),(),tw g t r.last c r.last.length,()),(t,(r.last,r.aZ,()),(c.kind,c.ay,c.row,c.bZ,()),()))) bk (λk D=>by
  have E:=h.len;have h2:=(h.last k D).1;have h3:=T k (by omega);have hg:=UD h.N2 g (jW k) c;unfold Ig aM xG xI;dsimp only;rw[aY,aq,aO ⟨by omega,by omega⟩,bY];simp only[bE];rw[N0,N1 D];cases hd:decide (r.last[k]<0)with
  |true=>rfl
  | false=>
   have auL:¬ r.last[k]<0:=by simpa using hd
   have Y:qy g k=true:=by
    rcases(h.last k D).2 with h9|h9
    ·omega
    ·exact h9
   obtain⟨b,eb⟩:=aq9 (g:=g) (i:=k) (by omega) Y;rw[av,av,uN,eb,ax];show Option.bind (Av g t (jW k) c) _=_;rw[ad9 t h.tA (aq7 k) U.1 (aq8 Y) U.2,ax,bf (n:=r.last[k]+_)];rfl) (by
  unfold Ig aM xG xI;dsimp only;rw[bq,av]) (cv (by have:=h.len;omega))
 rw[dz]at e;unfold MH lQ xI bR;rw[I4,ax,h.N2,bL,av,Us,ax,hr,bL,av,NQ,ax,C,bL,av]
 refine(bz (λo=>Option.bind o _) e).trans ?_
 rw[ax];simp only[gA];have hL:=T r.last.length (dH _);have hf:=aef h.N2;have I:∀m:Int,(bif decide (m > 1000000)then some (-1:Int)else some m)=some (bif decide (m > 1000000)then -1 else m):=λm=>by cases decide (m > 1000000)<;>rfl
 cases c.kind==(1:Int)with
 |false=>exact I _
 | true=>
  cases Z:(r.aZ.length:Int)==(4:Int)with
  |false=>exact I _
  | true=>
   have Z:(r.aZ.length:Int)=4:=by simpa using Z
   have O:0<r.aZ.length:=by omega
   have ha:=h.act _ (dc O);rw[aq,aq,aO ⟨by omega,O⟩];show (bif decide ((if W6 (r.aZ[0]+t.jZ) > _ then W6 (r.aZ[0]+t.jZ)else _) > 1000000)then _ else some (if W6 (r.aZ[0]+t.jZ) > _ then W6 (r.aZ[0]+t.jZ)else _))=_;rw[bf,cL,bK O];exact I _
def cC(c:au)(x:aS):Bool:=iz c.aI x&&(decide (lQ c.config.ak c.config.bP c.ready x<=1000000)&&decide (lQ c.config.ak c.config.bP c.ready x<=c.now))
structure Pk (c:au):Prop where
 z:cG c
 ok:cA c=true
 rk:kC c.config.ak c.aI=true
 UX:jn c.config.ak c.ready=true
 R:Jm c.config.ak c.config.bP c.ready
 bl:(c.aI.aE.length:Int)=aL c.config.ak
def Pk.of{c:au}(C:cG c)(h:cA c=true):Pk c:=by
 have z1:c.box.bT.weights.length <= 1048576:=C.1.1;have I:=h;simp[cA,aK]at h;have⟨O,U,Y,D,E,Z,h7,h8,h9,yz,uQ,qc,oY,s7,s8,uF,AJ,CR,CS,E8,Ay,E9⟩:=h;have T:c.aI.aE.length=aL c.config.ak:=by
  simp[kC,aK]at D;simp_all
 exact⟨C,I,D,E,aq6 (aeK (by omega) O) E,T⟩
def yH{c:au}(h:Pk c){x:aS}(C:cQ c.config.ak x=true):iO c x=some (cC c x):=by
 have D:=ara h.R x;unfold iO cC;rw[Uv,ax,h.rk,C,cM,cM,arb h.R h.UX C,ax]
 grind
def bO(i:Nat):aa Int->aa Int
 |[]=>[]
 |d::l=>bif decide (d >= 4)then (i:Int)::bO (i+1) l else bO (i+1) l
def arc(i:Nat)(a b:aa Int):bO i (a++b)=bO i a++bO (i+a.length) b:=by
 induction a generalizing i with
 |nil=>rfl
 | cons d a C=>
  rw[List.cons_append,bO,bO,C,show i+1+a.length=i+(a.length+1) by omega]
  grind
def UY(i:Nat)(l:aa Int):(bO i l).length <= l.length:=by
 induction l generalizing i with
 |nil=>exact dH _
 | cons d l C=>
  have:=C (i+1);unfold bO
  grind
def ard{l:aa Int}{i:Nat}(h:i<l.length):bO 0 (l.take (i+1))=bif decide (l[i] >= 4)then bO 0 (l.take i)++[(i:Int)]else bO 0 (l.take i):=by
 rw[uM h,arc,kL,Nat.min_eq_left (by omega),fe];show _++(bif decide _ then _::bO _ []else bO _ [])=_;cases decide (l[i] >= 4)with
 |true=>rfl
 |false=>exact List.append_nil _
def aeM{l:aa Int}{i:Nat}{b:Int}(h:b∈bO i l):∃ j:Nat,b=((i+j:Nat):Int)/\j<l.length/\l.getD j 0 >= 4:=by
 induction l generalizing i with
 |nil=>cases h
 | cons d l D=>
  unfold bO at h;have tl:b∈bO (i+1) l -> ∃ j:Nat,b=((i+j):Int)/\j<(d :: l).length/\(d :: l).getD j 0 >= 4:=λh=>by
   have⟨j,E,I,O⟩:=D h;exact⟨j+1,by rw[E];omega,by simpa using I,by simpa using O⟩
  cases C:decide (d >= 4)with
  | true=>
   rw[C]at h;rcases gp.1 h with rfl|h
   ·exact⟨0,rfl,by simp,by simpa using C⟩
   ·exact tl h
  |false =>grind
def wh{r:eB}(h:fN r=true):r.aD.length<=8/\1<=r.aD.length:=by
 simp only[fN,aK]at h;have:=br.1 h.2.1;omega
def UZ{r:eB}(C:fN r=true):EE r=some (bO 0 r.aD):=by
 have E:=wh C;unfold EE bR;rw[I9 _ (by omega),ax,C,bL,av];have e:=eF (step:=Ih) r.aD.length (λi=>(((),r.aD,(r.aD.length:Int),(i:Int),()),(bO 0 (r.aD.take i),()))) (.inl (((),()),(bO 0 r.aD,()))) bk (λi h=>by
  have D:=UY 0 (r.aD.take i);rw[kL]at D;unfold Ih aM xG xI;dsimp only;rw[aY,aq,aO ⟨by omega,by omega⟩,bY,ard h];simp only[bE];cases decide (r.aD[i] >= 4)with
  |true=>rw[aq,aq,List.length_singleton,eO,aq]
  |false=>rfl) (by
  unfold Ih aM xG xI;dsimp only;rw[bq,av,mP]) (cv)
 rw[dz]at e
 refine(bz (λo=>Option.bind o _) e).trans ?_
 rfl
def n9(c:au):Bool:=decide ((c.queue.length:Int) > 0) ||(decide ((c.pending.length:Int) > 0) ||decide (((bO 0 c.aB.aD).length:Int) > 0))
def aeN{c:au}(C:fN c.aB=true):Aw c=some (n9 c):=by
 unfold Aw n9;rw[UZ C]
 grind
def wj(r:wG)(p:ij)(b:Bool):Int:=
 bif b then (bif p.state==1 then 7 else bif p.state==2 then 9 else 0)else bif p.state==0&&decide (p.idle >= r.sleep)then 8 else bif p.state==0&&decide (p.idle >= r.down)then 6 else bif p.state==1&&decide (p.idle >= r.sleep)then 7 else 0
def arf(r:wG)(p:ij)(b:Bool)(C:E0 r=true)(D:kX p=true):MJ r p b=some (wj r p b):=by
 unfold MJ wj;rw[adU,ax,C,bL,NJ,ax,D,bL]
 grind
def arh(r:wG)(p:ij)(b:Bool):wj r p b=0 \/ 6 <= wj r p b/\wj r p b <= 9:=by
 unfold wj
 grind
def CT(may:Nat->Bool)(v:Nat->Int)(C:Int)(i:Nat):Int:=bif may i&&(decide (C<0) ||decide (v i > v C.toNat))then (i:Int)else C
def lR(may:Nat->Bool)(v:Nat->Int)(k:Nat):Int:=(List.range k).foldl (CT may v) (-1)
def Jn(may:Nat->Bool)(v:Nat->Int)(k:Nat):lR may v (k+1)=CT may v (lR may v k) k:=by
 unfold lR;rw[List.range_succ,List.foldl_append];rfl
def uV(may:Nat -> Bool)(v:Nat -> Int):∀ k,-1 <= lR may v k/\lR may v k<k
 |0=>⟨gz _,by show (-1)<0;omega⟩
 | k+1=>by
  have C:=uV may v k;rw[Jn];unfold CT
  grind
def CU(may:Nat -> Bool)(v:Nat -> Int):∀ k,lR may v k = -1 \/ may (lR may v k).toNat=true
 |0=>.inl rfl
 | k+1=>by
  have C:=CU may v k;rw[Jn];unfold CT
  grind
def Jo{may:Nat -> Bool}(v:Nat -> Int){i:Nat}(h:may i=true):∀ k,i<k -> 0 <= lR may v k
 |0,C=>by omega
 | k+1,C=>by
  have D:=uV may v k;rw[Jn];unfold CT;by_cases E:i=k
  ·grind
  ·have I:=Jo v h k (by omega)
   grind
def oa(l:aa dw)(w:aa Bool):Int:=lR (λi=>w.getD i false) (λi=>(l.getD i ⟨0,0⟩).fB) (min l.length w.length)
def Fa(l:aa dw)(w:aa Bool)(U:l.length<1073741824):Ik l w=some (oa l w):=by
 unfold Ik oa bR;generalize Y:min l.length w.length=n;have e:=eF (step:=Ij) n (λi=>((l,w,lR (λi=>w.getD i false) (λi=>(l.getD i ⟨0,0⟩).fB) i,(i:Int),()),())) (.inl ((lR (λi=>w.getD i false) (λi=>(l.getD i ⟨0,0⟩).fB) n,()),())) bk (λi h=>by
  have C:i<l.length:=by omega
  have O:i<w.length:=by omega
  have T:=uV (λi=>w.getD i false) (λi=>(l.getD i ⟨0,0⟩).fB) i;rw[Jn];generalize lR (λi=>w.getD i false) (λi=>(l.getD i ⟨0,0⟩).fB) i=D at T;unfold Ij CT aM xG xI;dsimp only;rw[aY,aq,aY,aq,aO ⟨by omega,by omega⟩,bY];simp only[bE,cL,bK O,bK C,Option.getD_some];cases w[i]with
  |false=>rfl
  | true=>
   rw[aq,cM];by_cases E:D<0
   ·rw[aY E];rfl
   ·have I:D.toNat<l.length:=by omega
    rw[bq E,aO ⟨by omega,C⟩,aO ⟨by omega,I⟩,bK I,Option.getD_some];cases decide (l[i].fB > l[D.toNat].fB)<;>rfl) (by
  unfold Ij aM xG xI;dsimp only;by_cases C:n<l.length
  ·rw[aY,aq,bq,av]
  ·rw[bq,av]) (cv)
 rw[dz]at e
 refine(bz (λo=>Option.bind o _) e).trans ?_
 rfl
def CV(s:dw):dw:=⟨s.weight,s.weight⟩
def fP(l:aa dw):aa dw:=l.map CV
def U0(l:aa dw)(w:aa Bool)(C:l.length<1073741824):iter EI bk ((w,(),(l.length:Int),(0:Int),()),(l,()))=some (.inl ((w,(),()),(fP l,()))):=by
 have e:=eF (step:=EI) _ (λi=>((w,(),l.length,i,()),(upto CV l i,()))) (.inl ((w,(),()),(fP l,()))) bk (λi h=>by
  have hlen:=Nz CV l i;unfold EI aM xG xL;dsimp only;rw[aY,aq,aO ⟨by omega,by omega⟩,aO,aO ⟨by omega,by omega⟩,aO,bY];simp only[bE];rw[T7 CV l i h,<- T8 CV l i h];rfl) (by
  unfold EI aM xG xL;dsimp only;rw[bq,av,T6];rfl) (cv C)
 exact e
def U1{l:aa dw}(w:aa Bool)(U:l.length<1073741823)(D:jV l=true)(Y:l.length=w.length):∃ y t,qm l w=some (y,t)/\y.length=l.length:=by
 unfold qm xA xC bR xL xZ;have Z:=uV (λi=>w.getD i false) (λi=>(l.getD i ⟨0,0⟩).fB) (min l.length w.length);have E:(fP l).length=l.length:=by simp[fP]
 have I:=uV (λi=>w.getD i false) (λi=>((fP l).getD i ⟨0,0⟩).fB) (min (fP l).length w.length);have O:=CU (λi=>w.getD i false) (λi=>(l.getD i ⟨0,0⟩).fB) (min l.length w.length);rw[List.nil_append,Fa l w (by omega),ax,I6 _ (by omega),ax,D,bL,av,List.length_nil,fe,eO,aq];unfold oa;generalize hr:lR (λi=>w.getD i false) (λi=>(l.getD i ⟨0,0⟩).fB) (min l.length w.length)=b at *
 by_cases T:b<0
 ·simp_all
 ·have C:b.toNat<l.length:=by omega
  rw[bq T,av,aO ⟨by omega,C⟩,aO C];dsimp only;cases l[b.toNat].fB==0 with
  |false =>simp_all
  | true=>
   rw[aq,U0 l w (by omega),ax];simp only[gA];rw[Fa _ w (by omega),ax];have hp:0 <= oa (fP l) w:=Jo _ (i:=b.toNat) (by rcases O with h|h;exact absurd h (by omega);exact h) _ (by rw[E];omega);have hq:oa (fP l) w<((min (fP l).length w.length:Nat):Int):=I.2;simp_all
def AT(m:qP)(n:Int)(a:aP):aP:=bif m.hash then ⟨(a.ay+a.row) % n,a.row,a.bZ⟩else a
def CW(g:aH)(m:qP)(l:Int):aP:=AT m (aL g)
 (bif m.order==0 then ⟨l / g.aR % aL g,l / g.aR / aL g,l % g.aR⟩else bif m.order==1 then ⟨l % aL g,l / aL g / g.aR,l / aL g % g.aR⟩else ⟨l / g.aR / g.rows,l / g.aR % g.rows,l % g.aR⟩)
def Fb{l a b:Int}(C:0<=l)(D:0<b)(h:l<a*b):0<=l / b/\l / b<a/\l / b<=l:=by
 refine⟨Int.ediv_nonneg C (by omega),Int.ediv_lt_of_lt_mul D h,?_⟩;exact Int.ediv_le_self _ C
def AU{l b:Int}(C:0<b):0<=l % b/\l % b<b:=⟨Int.emod_nonneg _ (by omega),Int.emod_lt_of_pos _ C⟩
def U2{m:qP}{n:Int}{a:aP}(C:0<n)(D:0 <= a.ay/\a.ay<n):0 <= (AT m n a).ay/\(AT m n a).ay<n/\(AT m n a).row=a.row/\(AT m n a).bZ=a.bZ:=by
 unfold AT;cases m.hash with
 |false=>simp_all
 |true=>exact⟨(AU C).1,(AU C).2,rfl,rfl⟩
def U3{m:qP}{n b r c:Int}(C:0<n)(D:n<=8)(E:0<=b/\b<=100000)(I:0<=r/\r<=100000):(bif m.hash then if n=0 then none else some ((⟨(W6 (b+r)).tmod n,r,c⟩:aP),true)else some ((⟨b,r,c⟩:aP),true))=some (AT m n ⟨b,r,c⟩,true):=by
 unfold AT;cases m.hash with
 |false=>rfl
 |true=>rw[aq,aX,bf,rS (by omega),aq]
def ari{g:aH}{m:qP}{l:Int}(T:cx g=true)(hm:aT m.order 0 2=true)(D:0<=l)(hl:l<eA g):∀ (f:ah (aP×Bool)),f=(bif (m.order==(0:Int))then if g.aR=0 then none else if g.aR=0 then none else if aL g=0 then none else if g.aR=0 then none else if aL g=0 then none else bif m.hash then if aL g=0 then none else some ((⟨((W6 (((W6 (l.tdiv g.aR)).tmod (aL g))+(W6 ((W6 (l.tdiv g.aR)).tdiv (aL g))))).tmod (aL g)),(W6 ((W6 (l.tdiv g.aR)).tdiv (aL g))),(l.tmod g.aR)⟩:aP),true)else some ((⟨((W6 (l.tdiv g.aR)).tmod (aL g)),(W6 ((W6 (l.tdiv g.aR)).tdiv (aL g))),(l.tmod g.aR)⟩:aP),true)else bif (m.order==(1:Int))then if aL g=0 then none else if aL g=0 then none else if g.aR=0 then none else if aL g=0 then none else if g.aR=0 then none else bif m.hash then if aL g=0 then none else some ((⟨((W6 ((l.tmod (aL g))+(W6 ((W6 (l.tdiv (aL g))).tdiv g.aR)))).tmod (aL g)),(W6 ((W6 (l.tdiv (aL g))).tdiv g.aR)),((W6 (l.tdiv (aL g))).tmod g.aR)⟩:aP),true)else some ((⟨(l.tmod (aL g)),(W6 ((W6 (l.tdiv (aL g))).tdiv g.aR)),((W6 (l.tdiv (aL g))).tmod g.aR)⟩:aP),true)else if g.aR=0 then none else if g.aR=0 then none else if g.rows=0 then none else if g.aR=0 then none else if g.rows=0 then none else bif m.hash then if aL g=0 then none else some ((⟨((W6 ((W6 ((W6 (l.tdiv g.aR)).tdiv g.rows))+((W6 (l.tdiv g.aR)).tmod g.rows))).tmod (aL g)),((W6 (l.tdiv g.aR)).tmod g.rows),(l.tmod g.aR)⟩:aP),true)else some ((⟨(W6 ((W6 (l.tdiv g.aR)).tdiv g.rows)),((W6 (l.tdiv g.aR)).tmod g.rows),(l.tmod g.aR)⟩:aP),true))->f=some (CW g m l,true)/\fM g (CW g m l)=true:=by
 have hb:=eG g;have hp:=I0 T;have hL:=oV g;have gb:=fY T;have eL:eA g=aL g*g.rows*g.aR:=by simp[eA,T]
 have tT:aT l 0 (W6 (eA g-1))=true:=by rw[bf];exact br.2 ⟨D,by omega⟩
 have ho:=br.1 hm;rw[eL]at hl;have N3:¬ aL g=0:=by omega
 have q6:¬ g.aR=0:=by omega
 have iu:¬ g.rows=0:=by omega
 rintro f rfl;simp only[aX N3,aX q6,aX iu];unfold CW;by_cases o0:m.order=0
 ·have C:=Fb (a:=aL g*g.rows) D (show 0<g.aR by omega) hl;have E:=Fb (l:=l / g.aR) (a:=g.rows) (b:=aL g) C.1 (by omega) (by rw[Int.mul_comm];exact C.2.1);have U:=AU (l:=l / g.aR) (b:=aL g) (by omega);have a4:=AU (l:=l) (b:=g.aR) (by omega);rw[o0,kM,aq,aq,Int.tdiv_eq_ediv_of_nonneg D,rS D,bf (n:=l / g.aR),Int.tdiv_eq_ediv_of_nonneg C.1,rS C.1,bf (n:=l / g.aR / aL g)];obtain⟨Y,Z,I,O⟩:=U2 (m:=m) (n:=aL g) (a:=⟨l / g.aR % aL g,l / g.aR / aL g,l % g.aR⟩) (by omega) U;refine⟨?_,AE T Y Z (by rw[I];exact E.1) (by rw[I];exact E.2.1) (by rw[O];exact a4.1) (by rw[O];exact a4.2)⟩;refine Eq.trans ?_ (U3 (by omega) (by omega) (by omega) (by omega));rw[aX N3]
 ·rw[jS o0,av,av];by_cases o1:m.order=1
  ·have C:=Fb (a:=g.rows*g.aR) D (show 0<aL g by omega) (by rw[Int.mul_comm,<-Int.mul_assoc];exact hl);have E:=Fb (l:=l / aL g) (a:=g.rows) (b:=g.aR) C.1 (by omega) C.2.1;have U:=AU (l:=l) (b:=aL g) (by omega);have a4:=AU (l:=l / aL g) (b:=g.aR) (by omega);rw[o1,kM,aq,aq,Int.tdiv_eq_ediv_of_nonneg D,rS D,bf (n:=l / aL g),Int.tdiv_eq_ediv_of_nonneg C.1,rS C.1,bf (n:=l / aL g / g.aR)];obtain⟨Y,Z,I,O⟩:=U2 (m:=m) (n:=aL g) (a:=⟨l % aL g,l / aL g / g.aR,l / aL g % g.aR⟩) (by omega) U;refine⟨?_,AE T Y Z (by rw[I];exact E.1) (by rw[I];exact E.2.1) (by rw[O];exact a4.1) (by rw[O];exact a4.2)⟩;refine Eq.trans ?_ (U3 (by omega) (by omega) (by omega) (by omega));rw[aX N3]
  ·have C:=Fb (a:=aL g*g.rows) D (show 0<g.aR by omega) hl;have E:=Fb (l:=l / g.aR) (a:=aL g) (b:=g.rows) C.1 (by omega) C.2.1;have U:=AU (l:=l / g.aR) (b:=g.rows) (by omega);have a4:=AU (l:=l) (b:=g.aR) (by omega);rw[jS o1,av,av,Int.tdiv_eq_ediv_of_nonneg D,rS D,bf (n:=l / g.aR),Int.tdiv_eq_ediv_of_nonneg C.1,rS C.1,bf (n:=l / g.aR / g.rows)];obtain⟨Y,Z,I,O⟩:=U2 (m:=m) (n:=aL g) (a:=⟨l / g.aR / g.rows,l / g.aR % g.rows,l % g.aR⟩) (by omega) ⟨E.1,E.2.1⟩;refine⟨?_,AE T Y Z (by rw[I];exact U.1) (by rw[I];exact U.2) (by rw[O];exact a4.1) (by rw[O];exact a4.2)⟩;refine Eq.trans ?_ (U3 (by omega) (by omega) (by omega) (by omega));rw[aX N3]
def arj{g:aH}{m:qP}{l:Int}(C:cx g=true)(D:aT m.order 0 2=true)(E:0<=l)(I:l<eA g):MK g m l=some (CW g m l,true)/\fM g (CW g m l)=true:=by
 have T:=oV g;have O:aT l 0 (W6 (eA g-1))=true:=by rw[bf];exact br.2 ⟨E,by omega⟩
 refine ari C D E I _ ?_;unfold MK;rw[qp,ax,C,bL,av,adR,ax,D,bL,av,AD,ax,c9,ax,O,bL,av,jl,ax]
def iB(c:au)(l:Int):aP:=
 let a:=CW (gQ c.config.ak c.spare) c.config.mapping l
 ⟨a.ay,c.spare.map.getD (a.ay*(c.config.ak.rows-c.spare.cS)+a.row).toNat 0,a.bZ⟩
def U4{g:aH}{s:ke}(h:qB g s=true):gQ g s=⟨g.bM,g.aE,g.rows-s.cS,g.aR⟩/\cx g=true/\cx (gQ g s)=true/\aL (gQ g s)=aL g/\0 <= s.cS/\s.cS <= 2/\2 <= g.rows-s.cS/\g.rows <= 16:=by
 have D:=h;simp[qB,aK]at h;have⟨C,E,I,O,T⟩:=adP h.1;have Y:=fY C;have e:gQ g s=⟨g.bM,g.aE,g.rows-s.cS,g.aR⟩:=by
  unfold gQ;rw[D,aq,bf]
 have U:cx (gQ g s)=true:=by
  rw[e];unfold cx;simp[aK,br];omega
 refine⟨e,C,U,?_,E,I,O,T⟩;unfold aL;simp_all
def ark{g:aH}{s:ke}(h:qB g s=true){b r:Int}(O:0 <= b/\b<aL g)(T:0 <= r/\r<g.rows-s.cS):(b*(g.rows-s.cS)+r).toNat<s.map.length/\0 <= s.map.getD (b*(g.rows-s.cS)+r).toNat 0/\s.map.getD (b*(g.rows-s.cS)+r).toNat 0<g.rows:=by
 have⟨_,hg,_,_,h1,h2,h3,h4⟩:=U4 h;have U:=eG g;simp only[qB,aK,ff,bS,gq]at h;have⟨_,C,Y⟩:=h;obtain⟨b,rfl⟩:=fS O.1;obtain⟨r,rfl⟩:=fS T.1;have⟨R,D⟩:=fS (show 0 <= g.rows-s.cS by omega);have⟨E,Z⟩:=fS U.1;rw[D,Z,bE,bE]at C;have C:s.map.length=E*R:=by exact_mod_cast C
 have Dp:b<E:=by omega
 have I:r<R:=by omega
 have e:((b:Int)*(g.rows-s.cS)+(r:Int)).toNat=b*R+r:=by rw[D,<- Int.natCast_mul,<- Int.natCast_add,bE]
 have de:=CK (R:=R) Dp (show r+1 <= R from I);have hi:b*R+r<s.map.length:=by omega
 have h5:=Y b (by omega) r (by omega);rw[e];refine⟨hi,?_⟩;rw[cL,bK hi,Option.getD_some];have yU:(qA s.map R b)[r]?=some s.map[b*R+r]:=by rw[Ut,List.getElem?_take_of_lt I,List.getElem?_drop,bK hi]
 rw[D,bE]at h5;unfold AH at h5;rw[yU]at h5;simp only[dZ,aK,ff,br]at h5;rcases h5 with h5|h5
 ·omega
 ·grind
def arl{c:au}(h:Pk c)(E:qB c.config.ak c.spare=true)(he:c.spare.cS=c.config.cS)(hm:aT c.config.mapping.order 0 2=true){l:Int}(h0:0 <= l)(hl:l<eA (gQ c.config.ak c.spare)):vX c l=some (iB c l,true)/\fM c.config.ak (iB c l)=true:=by
 have⟨e1,hg,Bl,eb,s1,s2,s3,s4⟩:=U4 E;have⟨m1,m3⟩:=arj Bl hm h0 hl;have⟨_,C,D,I,O,b5,b6⟩:=uK m3;rw[eb]at D;have gb:=fY hg;have U:=eG c.config.ak;have er:(gQ c.config.ak c.spare).rows=c.config.ak.rows-c.spare.cS:=by rw[e1]
 have ec:(gQ c.config.ak c.spare).aR=c.config.ak.aR:=by rw[e1]
 rw[er]at O;rw[ec]at b6;have⟨k1,k2,k3⟩:=ark E ⟨C,D⟩ ⟨I,O⟩;have hmul:=CG C D I O;have hM:=Ua (a:=aL c.config.ak) (b:=c.config.ak.rows-c.spare.cS) (A:=8) (B:=16) U.1 U.2 (by omega) (by omega);unfold iB;generalize hA:CW (gQ c.config.ak c.spare) c.config.mapping l=A at *
 dsimp only;refine⟨?_,AE hg C D k2 k3 b5 b6⟩;unfold vX;rw[NP,ax,m1,ax];dsimp only;rw[bL,av];unfold TL xI;have hx:ML (gQ c.config.ak c.spare) A.ay A.row=some true:=by
  unfold ML;rw[Ub,ax,AE (a:=⟨A.ay,A.row,0⟩) Bl C (by rw[eb];exact D) I (by rw[er];exact O) (gz 0) (by rw[ec];show 0<_;omega)]
 have⟨b,hbN⟩:=fS C;have⟨r,hrN⟩:=fS I;have⟨R,hR⟩:=fS (show 0 <= c.config.ak.rows-c.spare.cS by omega);have⟨bn,hn⟩:=fS U.1;have Y:c.spare.map.length=bn*R:=by
  simp only[qB,aK,ff]at E;have:=E.2.1
  grind
 have T:b<bn:=by omega
 have Z:r<R:=by omega
 have de:=CK (R:=R) T (show r+1 <= R from Z);have auM:=CK (R:=R) T (dH R);have hi:b*R+r<c.spare.map.length:=by omega
 rw[NP,ax,hx,ax,bL,av,hbN,ad2 hR (by omega) (by omega) T Y,ax];have ht:((c.spare.map.take ((b+1)*R)).drop (b*R))=qA c.spare.map R b:=rfl;have ir:(qA c.spare.map R b).length=R:=ad0 (by rw[Y];exact jF R T);have hgx:(qA c.spare.map R b)[r]?=some c.spare.map[b*R+r]:=by rw[Ut,List.getElem?_take_of_lt Z,List.getElem?_drop,bK hi]
 have hgy:(qA c.spare.map R b)[r]'(by omega)=c.spare.map[b*R+r]:=by
  grind
 dsimp only;rw[jc (by rw[Nat.succ_mul];omega),jc (by rw[Nat.succ_mul,Y];omega),cM,aq,hrN,aO ⟨by omega,by rw[ht,ir,bE];exact Z⟩];simp only[bE,ht,hgy,ax];rw[hR,<- Int.natCast_mul,<- Int.natCast_add,bE,cL,bK hi,Option.getD_some]
def CX{c:fl}{p:dD}(C:p.weights.length<1073741823)(h:n7 c p=true):qt c=true/\yC p=true:=by
 have⟨b,e,E⟩:=Ul c p C;have I:b=true:=by
  rw[Jh c p C]at e;simp_all
 subst I;have D:=E rfl;refine⟨D,?_⟩;unfold sV at e;have⟨y,O⟩:=adV p.dG;simp[NG,I7 _ C,D]at e
 grind
structure Pq (c:au):Prop where
 p:Pk c
 sp:qB c.config.ak c.spare=true
 se:c.spare.cS=c.config.cS
 mo:aT c.config.mapping.order 0 2=true
 q:∀r∈c.queue,(0<=r.line/\r.line<eA (gQ c.config.ak c.spare))/\(0<=r.dR/\r.dR<=3)/\(0<=r.at_/\r.at_<=1000000)
 ql:c.queue.length<=12
 pe:∀a∈c.pending,fM c.config.ak a=true
 pl:c.pending.length<=128
 rf:fN c.aB=true
 dl:(c.aB.aD.length:Int)=aL c.config.ak
 sh:jV c.shares=true
 shl:c.shares.length=4
 dr:qw c.drain=true
 pw:kX c.aN=true
 ps:c.aN.state=c.aI.aN
 nw:0<=c.now/\c.now<=1000000
 cap:0<=c.box.bT.cap/\c.box.bT.cap<=100000
 bF:E0 c.box.bT.bF=true
def Pq.of{c:au}(E:cG c)(h:cA c=true):Pq c:=by
 have O:=Pk.of E h;have z1:c.box.bT.weights.length <= 1048576:=E.1.1;simp only[cA,aK]at h;have⟨T,h2,U,h4,h5,h6,Y,Z,D,I,uQ,qc,oY,s7,s8,uF,AJ,CR,CS,E8,Ay,E9⟩:=h;have⟨f1,f2⟩:=CX (by omega) T;simp only[qt,aK]at f1;simp only[yC,aK]at f2;have⟨f3,f4,f5,f6,f7,f8,f9⟩:=f2;simp only[th,aK,ff,gk,qO,bS,gq]at D;have⟨D,g1,g2,g3,g4,g5,g6⟩:=D;simp only[gD,aK,bS,gq,fq]at I;have⟨q1,q2⟩:=I;have MX:c.shares.length=4:=by
  grind
 refine⟨O,Y,by simpa using Z,f1.2.2.1,λr hr=>?_,by omega,λa ha=>?_,by omega,D,g1,uQ,MX,oY,s7,by simpa using s8,br.1 U,br.1 f4,f9⟩
 ·obtain⟨i,hi,rfl⟩:=jY.1 hr;have C:=q1 i hi;unfold rH at C;rw[bK hi]at C;simp[nZ,aK,fq]at C;have⟨⟨k1,k2,k3,k4,k5,k6,k7⟩,_⟩:=C;exact⟨⟨k3,k4⟩,br.1 k2,br.1 k7⟩
 ·obtain⟨i,hi,rfl⟩:=jY.1 ha;have C:=g6 i hi;unfold AI at C;simp_all
def Jp(r:bJ)(a:aP):Bool:=(cX r a.ay).open_&&((cX r a.ay).row==a.row)
def nu(r:bJ)(a:aP)(w:Bool):aS:=
 bif !(cX r a.ay).open_ then ⟨1,a.ay,a.row,0⟩else bif (cX r a.ay).row != a.row then ⟨4,a.ay,0,0⟩else bif w then ⟨3,a.ay,0,a.bZ⟩else ⟨2,a.ay,0,a.bZ⟩
def Jq{r:bJ}{b:Int}(h:b.toNat<r.aE.length):cX r b=r.aE[b.toNat]:=by
 unfold cX;rw[cL,bK h];rfl
def N4{b:Int}{n:Nat}(C:0<=b)(h:b.toNat<n)(D:n<=1048576):aT b 0 (W6 ((n:Int)-1))=true:=by
 rw[bf];exact br.2 ⟨C,by omega⟩
def aeO{r:bJ}{a:aP}(w:Bool)(C:0 <= a.ay)(h:a.ay.toNat<r.aE.length)(D:r.aE.length <= 1048576):Cw r a w=some (nu r a w):=by
 unfold Cw nu xI;rw[c9,ax,N4 C h D,bL,aO ⟨C,h⟩,Jq h]
 grind
def arn{r:bJ}{b:Int}(C:0 <= b)(h:b.toNat<r.aE.length)(D:r.aE.length <= 1048576):MP r b=some (bif (cX r b).open_ then (cX r b).row else -1):=by
 unfold MP xI;rw[c9,ax,N4 C h D,bL,aO ⟨C,h⟩,Jq h]
 grind
def aro{r:bJ}{a:aP}(E:0 <= a.row)(C:0 <= a.ay)(h:a.ay.toNat<r.aE.length)(D:r.aE.length <= 1048576):EH r a=some (Jp r a):=by
 unfold EH Jp;rw[gv (by omega:¬ a.row = -1),arn C h D,ax];cases (cX r _).open_ with
 |false=>rw[av,jS (by omega:¬ (-1)=a.row)];rfl
 |true=>rfl
def arp{g:aH}{r:bJ}{a:aP}(w:Bool)(h:fM g a=true):cQ g (nu r a w)=true:=by
 have⟨D,E,Y,I,Z,O,b6⟩:=uK h;have T:aT _ 0 (aL g-1)=true:=br.2 ⟨E,by omega⟩;have C:aT a.row 0 (g.rows-1)=true:=br.2 ⟨I,by omega⟩;have U:aT a.bZ 0 (g.aR-1)=true:=br.2 ⟨O,by omega⟩;unfold nu cQ uP;cases (cX r _).open_<;>cases (cX r _).row != a.row<;>cases w<;>simp[D,aT,C]<;>simp[aT,fq]at T C U<;>omega
def yI{g:aH}{k b:Int}(C:cx g=true)(D:k=4 \/ k=5)(E:0 <= b/\b<aL g):cQ g ⟨k,b,0,0⟩=true:=by
 have I:aT b 0 (aL g-1)=true:=br.2 ⟨E.1,by omega⟩;unfold cQ uP;rcases D with rfl|rfl<;>simp[C,aT]<;>simp[aT,fq]at I<;>omega
def aeP{g:aH}{a:aP}(h:fM g a=true):cQ g ⟨1,a.ay,a.row,0⟩=true:=by
 have⟨C,D,E,I,O,T,U⟩:=uK h;unfold cQ uP;simp[C,aT];omega
def N5{g:aH}{k:Int}(C:cx g=true)(D:6<=k/\k<=9):cQ g ⟨k,0,0,0⟩=true:=by
 obtain⟨n,rfl⟩:=fS (show 0<=k by omega);have:n=6\/n=7\/n=8\/n=9:=by omega
 unfold cQ;rw[C];rcases this with rfl|rfl|rfl|rfl<;>rfl
def U5(l:aa aP)(b:Int)(E:l.length<=1048576):Cv l b=some (l.any λa=>a.ay==b):=by
 have I:=E7 (λa:aP=>a.ay==b) l;unfold Cv TJ TI;rw[UP];have e:=eF (step:=EF) (eY (λa:aP=>a.ay==b) l) (λi=>((l,b,(l.length:Int),(i:Int),()),())) (if eY (λa:aP=>a.ay==b) l<l.length then .inl ((((eY (λa:aP=>a.ay==b) l:Nat):Int),()),())else .inr (.inl ((),()))) bk (λk h=>by
  have D:=uU h (by omega);unfold EF aM bG xG xI;dsimp only;rw[aY,aq,aO ⟨by omega,by omega⟩];simp only[bE];rw[D,av,bY]) (by
  by_cases C:eY (λa:aP=>a.ay==b) l<l.length
  ·have D:=AQ C;unfold EF aM bG xG xI;dsimp only;rw[aY,aq,aO ⟨by omega,by omega⟩];simp only[bE];rw[D,aq,aW C]
  ·unfold EF aM bG xG xI;dsimp only;rw[bq,av,aX C]) (cv)
 rw[dz]at e;rw[e];by_cases C:eY (λa:aP=>a.ay==b) l<l.length
 ·rw[aW C,aY C];simp
 ·rw[aX C,bq C];rfl
def qE(t:cJ)(row:Int):ah Nat:=match t.rows.findIdx? (λe=>e==row)with
 |some i=>some i
 |none=>t.counts.findIdx? (λe=>e==t.fh)
def iX(t:cJ)(row:Int):cJ:=match t.rows.findIdx? (λe=>e==row)with
 |some i=>⟨t.rows,t.counts.set i (t.counts.getD i 0+1),t.fh⟩
 | none=>match t.counts.findIdx? (λe=>e==t.fh)with
  |some i=>⟨t.rows.set i row,t.counts.set i (t.fh+1),t.fh⟩
  |none=>⟨t.rows,t.counts,t.fh+1⟩
def mH(t:cJ)(row cF:Int):cJ×Bool:=bif lO t&&(aT row 0 15&&aT cF 2 1000)then (bif lO (iX t row)then (iX t row,match qE t row with
    |some i=>((iX t row).counts.getD i 0).tmod cF==0
    |none=>false)else (t,false))else (t,false)
structure Tk (t:cJ):Prop where
 rl:t.rows.length<=16
 cl:t.counts.length=t.rows.length
 sp:0<=t.fh/\t.fh<=100000
 cs:∀i (h:i<t.counts.length),0<=t.counts[i]/\t.counts[i]<=100000
def Tk.of{t:cJ}(h:lO t=true):Tk t:=by
 simp[lO,aK,ff,bS,gq]at h;have⟨D,O,C,I⟩:=h;have D:=br.1 D;have C:=br.1 C
 refine⟨by omega,by omega,C,λi hi=>?_⟩
 have E:=I i (by omega);rw[NM (by omega) hi,aK,aK]at E;have:=br.1 E.2.1;omega
def CY{T:Type}{p:T -> Bool}{l:aa T}{i:Nat}(h:l.findIdx? p=some i):∃ hi:i<l.length,p l[i]=true:=by
 have⟨hi,C,_⟩:=qN.1 h;simp_all
def aeQ{t:cJ}(row:Int):(iX t row).rows.length=t.rows.length/\(iX t row).counts.length=t.counts.length:=by
 unfold iX
 grind
def arq{t:cJ}(h:Tk t){row:Int}{i:Nat}(hi:qE t row=some i):i<t.counts.length:=by
 have:=h.cl;unfold qE at hi;split at hi
 next j C=>cases hi;have⟨D,_⟩:=CY C;omega
 ·exact(CY hi).1
def ars(t:cJ)(hz:mG t)(row cF:Int):MY t row cF=some (mH t row cF):=by
 have sw:∀x:Int,(λe:Int=>x==e)=λe=>e==x:=λx=>funext λe=>by rw[Bool.eq_iff_iff,ff,ff];exact eq_comm
 unfold MY mH xL;rw[aeG t hz,ax,Ur,ax];dsimp only;cases ht:lO t with
 |false=>rfl
 | true=>
  have tk:=Tk.of ht;have r1:=tk.rl;have r2:=tk.cl;have vm:=tk.sp;rw[bL,av,c9,ax,cM];cases h1:aT row 0 15 with
  |false=>rfl
  | true=>
   rw[bL,av,c9,ax,cM];cases h2:aT cF 2 1000 with
   |false=>rfl
   | true=>
    have hl:=br.1 h2;rw[bL,av,aq,NL _ _ (by omega),ax,sw row];have U6:∀ (E:Int) (D:cJ),D=iX t row->(E=match qE t row with | some i=>(i:Int) | none=>-1)->
      ((Au D).bind λmB=>bif (!mB)then ((some t).bind λuI=>some (uI,false))else (bif (decide (E >= (0:Int)))then if h24:0<=E/\E.toNat<D.counts.length then if h25:E.toNat<D.counts.length then (if cF=0 then none else some (D,(D.counts[E.toNat]'h25).tmod cF==(0:Int)))else none else none else some (D,false)))=some (bif lO (iX t row)then (iX t row,match qE t row with
        |some i=>((iX t row).counts.getD i 0).tmod cF==0
        |none=>false)else (t,false)):=by
     intro E D T e2;subst T;rw[Ur,ax];cases h3:lO (iX t row)with
     |false=>rfl
     | true=>
      rw[bL,av,aq,e2];cases h4:qE t row with
      |none=>rfl
      | some i=>
       have hi:i<(iX t row).counts.length:=by rw[(aeQ row).2];exact arq tk h4
       simp only[bE];rw[aY,aq,aO ⟨by omega,hi⟩,aO hi,aX,cL,bK hi];rfl
    cases C:t.rows.findIdx? (λe=>e==row)with
    | some i=>
     obtain⟨hi,_⟩:=CY C;have O:i<t.counts.length:=by omega
     have hc:=tk.cs i O;have U:qE t row=some i:=by unfold qE;rw[C]
     have Y:iX t row=⟨t.rows,t.counts.set i (t.counts[i]+1),t.fh⟩:=by unfold iX;simp only[C];rw[cL,bK O];rfl
     have T:jm (λe=>e==row) t.rows=(i:Int):=by unfold jm;rw[C]
     rw[T,bq,av];simp only[bE];rw[aY,aq,aO ⟨by omega,O⟩,aO O,aO ⟨by omega,O⟩,aO O];have Z:W6 (t.counts[i]+1)=t.counts[i]+1:=bf;simp only[Z];exact U6 (i:Int) ⟨t.rows,t.counts.set i (t.counts[i]+1),t.fh⟩ Y.symm (by rw[U])
    | none=>
     have T:jm (λe=>e==row) t.rows = -1:=by unfold jm;rw[C]
     rw[T,aY,aq,NL _ _ (by omega),ax,sw t.fh];cases I:t.counts.findIdx? (λe=>e==t.fh)with
     | some i=>
      obtain⟨hi,hp⟩:=CY I;have N6:i<t.rows.length:=by omega
      have hp:t.counts[i]=t.fh:=by simpa using hp
      have U:qE t row=some i:=by unfold qE;rw[C];exact I
      have Y:iX t row=⟨t.rows.set i row,t.counts.set i (t.fh+1),t.fh⟩:=by unfold iX;rw[C];simp only[I]
      have e3:jm (λe=>e==t.fh) t.counts=(i:Int):=by unfold jm;rw[I]
      rw[e3];simp only[bE];rw[aY,aq,aO ⟨by omega,N6⟩,aO N6,aq,aO ⟨by omega,hi⟩,aO hi,aO ⟨by omega,hi⟩,aO hi];have Z:W6 (t.fh+1)=t.fh+1:=bf;simp only[hp,Z];exact U6 (i:Int) ⟨t.rows.set i row,t.counts.set i (t.fh+1),t.fh⟩ Y.symm (by rw[U])
     | none=>
      have U:qE t row=none:=by unfold qE;rw[C];exact I
      have Y:iX t row=⟨t.rows,t.counts,t.fh+1⟩:=by unfold iX;rw[C];simp only[I]
      have e3:jm (λe=>e==t.fh) t.counts = -1:=by unfold jm;rw[I]
      have Z:W6 (t.fh+1)=t.fh+1:=bf;rw[e3,bq,av,av];simp only[Z];exact U6 (-1) ⟨t.rows,t.counts,t.fh+1⟩ Y.symm (by rw[U])
def oc(k:Int):cJ:=⟨List.replicate k.toNat (-1),List.replicate k.toNat 0,0⟩
def art{k:Int}(h:aT k 1 16=true):Em k=some (oc k,true):=by
 have C:=br.1 h;unfold Em;have e:B8 ([(-1:Int)]) k=some (List.replicate k.toNat (-1)):=by
  unfold B8;simp_all
 rw[c9,ax,h,bL,e,ax,aW ⟨by omega,gz _,by omega⟩];rfl
def lS(r:eB)(b:Int):eB:=bif decide (r.aD.getD b.toNat 0 = -2)then r else ⟨r.aD.set b.toNat (r.aD.getD b.toNat 0-1),r.wait,r.dJ⟩
def Jr{r:eB}(h:fN r=true):∀ x∈r.aD,-2 <= x/\x <= 5:=by
 simp[fN,aK,bS]at h;exact λx C=>br.1 (h.1 x C)
def aru{α β:Type}{o:ah (α×β)}{a:α}(h:o.map Prod.fst=some a):∃b,o=some (a,b):=by simp_all
def arv{r:eB}(h:fN r=true){b:Int}(D:0 <= b)(C:b.toNat<r.aD.length):∃ y,M4 r b=some (lS r b,y):=by
 have O:=wh h;have T:=Jr h _ (dc C);have I:r.aD.getD b.toNat 0=r.aD[b.toNat]:=by rw[cL,bK C];rfl
 unfold M4 Cl lS xI xL xA xZ;rw[eO (by simp;omega),aq,ax,I9 _ (by omega),ax,h,bL,av,c9,ax,N4 D C (by omega),bL,av,aO ⟨D,C⟩,I];dsimp only;by_cases E:r.aD[b.toNat] = -2
 ·simp_all
 ·rw[jS E,bq E,List.nil_append,aO ⟨D,C⟩,aO C,aO ⟨D,C⟩,aO C,bf];simp_all
def yJ(p:ij)(k now:Int):ij:=bif kX p&&aT now p.since 1000000 then
 (bif (k==6)&&(p.state==0)then ⟨1,now,p.idle⟩else bif (k==8)&&(p.state==0)then ⟨2,now,p.idle⟩else bif (k==7)&&(p.state==1)then ⟨0,now,p.idle⟩else bif (k==9)&&(p.state==2)then ⟨0,now,p.idle⟩else p)else p
def N7(p:ij){k:Int}(C:6 <= k/\k <= 9)(now:Int):∃ y,Nf p k now=some (yJ p k now,y):=by
 refine aru ?_;unfold Nf yJ;rw[NJ,ax];cases kX p with
 |false=>rfl
 | true=>
  rw[bL,av,c9,ax];cases aT now p.since 1000000 with
  |false=>rfl
  | true=>
   have:k=6 \/ k=7 \/ k=8 \/ k=9:=by omega
   grind
def aeR{α β T:Type}{step:α -> ah (α⊕β)}(p:T -> Bool)(S:Nat -> Nat -> aa T -> α)(Z:Nat -> aa T -> β)
  (hs:∀i j s (E:j<s.length),i <= j -> j<1073741824 -> step (S i j s)=some (.inl (bif p s[j]then S i (j+1) s else S (i+1) (j+1) (s.set i s[j]))))
  (hz:∀i s,i <= s.length -> step (S i s.length s)=some (.inr (Z i s))):
  ∀(n i j fuel:Nat) (s:aa T),j+n=s.length -> i <= j -> s.length<1073741824 -> n<fuel -> ∃C D,iter step fuel (S i j s)=some (Z D C)/\C.length=s.length/\D <= s.length/\C.take D=s.take i++(s.drop j).filter (λx=>!p x):=by
 intro n
 induction n with
 | zero=>
  intro i j fuel s hn hi I hf;obtain⟨f,rfl⟩:∃f,fuel=f+1:=⟨fuel-1,by omega⟩
  have ej:j=s.length:=by omega
  subst ej;refine⟨s,i,?_,rfl,hi,by simp⟩;unfold iter;simp_all
 | succ n O=>
  intro i j fuel s hn hi I hf;obtain⟨f,rfl⟩:∃f,fuel=f+1:=⟨fuel-1,by omega⟩
  have E:j<s.length:=by omega
  unfold iter;rw[hs i j s E hi (by omega)];have hd:=List.drop_eq_getElem_cons E;cases hp:p s[j]with
  | true=>
   have⟨C,D,U,Y,h3,h4⟩:=O i (j+1) f s (by omega) (by omega) I (by omega)
   grind
  | false=>
   have⟨C,D,U,Y,h3,h4⟩:=O (i+1) (j+1) f (s.set i s[j]) (by simp;omega) (by omega) (by simp;omega) (by omega);refine⟨C,D,U,by simpa using Y,by simpa using h3,?_⟩;rw[h4,hd,List.filter_cons_of_pos (by simp[hp]),List.drop_set_of_lt (by omega),List.take_add_one,List.getElem?_set_self (by omega),List.take_set_of_le (by omega)];simp
def aeS{T:Type}{p:T -> Bool}{l:aa T}{k:Nat}(h:l.findIdx? p=some k):l.filter (λx=>!p x)=l.take k++(l.drop (k+1)).filter (λx=>!p x):=by
 have⟨D,E,I⟩:=qN.1 h;have e:l=l.take k++l[k] :: l.drop (k+1):=by
  simp[*]
 have O:(l.take k).filter (λx=>!p x)=l.take k:=by
  rw[List.filter_eq_self];intro a C;obtain⟨i,hi,rfl⟩:=jY.1 C
  grind
 grind
def U7{T:Type}(s r:aa T)(i:Nat)(h:i <= s.length):(splice s i r).take i=s.take i:=by
 unfold splice;simp_all
def arw(l:aa aP)(a:aP)(C:l.length<1073741824):MZ l a=some (jm (eH a) l):=by
 unfold MZ jm;have e:=Ja (step:=Iu) l (eH a) (λi=>((l,a,(l.length:Int),(i:Int),()),())) (λi=>.inl (((i:Int),()),())) (.inr (.inl ((),()))) bk (λk h=>by
  unfold Iu eH aM bG xG xI;dsimp only;rw[aY,aq,aO ⟨by omega,by omega⟩];simp only[bE];rw[bY];cases (l[k].ay==a.ay&&(l[k].row==a.row&&(l[k].bZ==a.bZ&&true)))<;>rfl) (by
  unfold Iu aM bG xG xI;dsimp only;rw[bq,av]) (cv C)
 rw[dz]at e;rw[e];cases l.findIdx? (eH a)<;>rfl
def arx(l:aa aP)(x:aS)(C:l.length<1073741824):Ng l x=some (jm (λa=>a.ay==x.ay) l):=by
 unfold Ng jm;have e:=Ja (step:=ID) l (λa=>a.ay==x.ay) (λi=>((l,x,(l.length:Int),(i:Int),()),())) (λi=>.inl (((i:Int),()),())) (.inr (.inl ((),()))) bk (λk h=>by
  unfold ID aM bG xG xI;dsimp only;rw[aY,aq,aO ⟨by omega,by omega⟩];simp only[bE];rw[bY];cases (l[k].ay==x.ay)<;>rfl) (by
  unfold ID aM bG xG xI;dsimp only;rw[bq,av]) (cv C)
 rw[dz]at e;rw[e];cases l.findIdx? (λa=>a.ay==x.ay)<;>rfl
def ary(l:aa aP)(a:aP)(O:l.length<1000000):M0 l a=some (l.filter (λx=>!eH a x),([],())):=by
 unfold M0;rw[arw l a (by omega),ax];unfold jm;cases C:l.findIdx? (eH a)with
 | none=>
  have e:l.filter (λx=>!eH a x)=l:=by
   rw[List.filter_eq_self];intro x D;have:=List.findIdx?_eq_none_iff.1 C x D;simp[this]
  rw[e];rfl
 | some k=>
  obtain⟨T,U,Y⟩:=qN.1 C;rw[aeS C];simp only;rw[jS (show ¬ (k:Int) = -1 by omega),av,bY];obtain⟨Z,i',E,h2,h3,I⟩:=aeR (step:=Iw) (eH a) (λi j s=>(((),a,(i:Int),(j:Int),()),(s,()))) (λi s=>.inl (((),(i:Int),()),(s,()))) (λi j s hj hi hb=>by
   unfold Iw eH aM xG xL;dsimp only;rw[aY,aq,aO ⟨by omega,by omega⟩,aO];simp only[bE];rw[bY,bY,aO ⟨by omega,by omega⟩,aO];cases (s[j].ay==a.ay&&(s[j].row==a.row&&(s[j].bZ==a.bZ&&true)))<;>rfl) (λi s hi=>by
   unfold Iw aM xG xL;dsimp only;rw[bq,av]) (l.length-(k+1)) k (k+1) bk l (by omega) (by omega) (by omega) (by unfold bk;omega)
  rw[E,ax,gA];dsimp only;rw[aW ⟨by omega,by omega,by omega⟩,aW ⟨by omega,by omega⟩,aW ⟨by omega,by omega,by
   rw[tP _ _ _ (by simp;omega)];omega⟩]
  rw[U7 _ _ _ (by omega),bE,I]
def arz(l:aa aP)(c:aS)(O:l.length<1000000):Nh l c=some (l.filter (λx=>!(x.ay==c.ay)),([],())):=by
 unfold Nh;rw[arx l c (by omega),ax];unfold jm;cases C:l.findIdx? (λa=>a.ay==c.ay)with
 | none=>
  have e:l.filter (λx=>!(x.ay==c.ay))=l:=by
   rw[List.filter_eq_self];intro x D;have:=List.findIdx?_eq_none_iff.1 C x D;simp[this]
  rw[e];rfl
 | some k=>
  obtain⟨T,U,Y⟩:=qN.1 C;rw[aeS C];simp only;rw[jS (show ¬ (k:Int) = -1 by omega),av,bY];obtain⟨Z,i',E,h2,h3,I⟩:=aeR (step:=IE) (λx=>x.ay==c.ay) (λi j s=>(((),c,(i:Int),(j:Int),()),(s,()))) (λi s=>.inl (((),(i:Int),()),(s,()))) (λi j s hj hi hb=>by
   unfold IE aM xG xL;dsimp only;rw[aY,aq,aO ⟨by omega,by omega⟩,aO];simp only[bE];rw[bY,bY,aO ⟨by omega,by omega⟩,aO];cases (s[j].ay==c.ay)<;>rfl) (λi s hi=>by
   unfold IE aM xG xL;dsimp only;rw[bq,av]) (l.length-(k+1)) k (k+1) bk l (by omega) (by omega) (by omega) (by unfold bk;omega)
  rw[E,ax,gA];dsimp only;rw[aW ⟨by omega,by omega,by omega⟩,aW ⟨by omega,by omega⟩,aW ⟨by omega,by omega,by
   rw[tP _ _ _ (by simp;omega)];omega⟩]
  rw[U7 _ _ _ (by omega),bE,I]
def iY(b:Int)(pd:aa aP)(n:Int):aa aP:=bif pd.any (eH ⟨b,n,0⟩)then pd else pd++[⟨b,n,0⟩]
def wm(c:au)(t:aa cJ)(C:aa Int)(pd:aa aP):au:=⟨c.config,c.box,c.now,c.aI,c.ready,c.array,c.spare,c.aB,t,C,pd,c.queue,c.shares,c.drain,c.aN,c.eg,c.errors,c.trace,c.cc⟩
def arB{T:Type}(p:T -> Bool)(l:aa T):decide (jm p l<0) = !l.any p/\decide (jm p l >= 0)=l.any p:=by
 unfold jm
 grind
def U8(b:Int):∀ (ns:aa Int) (pd:aa aP),(ns.foldl (iY b) pd).length <= pd.length+ns.length
 |[],pd=>dH _
 | n :: ns,pd=>by
  have:=U8 b ns (iY b pd n);have C:(iY b pd n).length <= pd.length+1:=by
   unfold iY
   grind
  grind
def arC{T U:Type}(f:U->T->U)(l:aa T)(u:U){k:Nat}(h:k<l.length):(l.take (k+1)).foldl f u=f ((l.take k).foldl f u) l[k]:=by
 rw[List.take_add_one,bK h,List.foldl_append];rfl
def arD(c:au)(x:aS)(ns:aa Int)(D:ns.length <= 1000)(E:c.pending.length <= 1000):iter ES bk (((),(),(),(ns.length:Int),(0:Int),()),(c,(x.kind,x.ay,x.row,x.bZ,()),ns,()))=some (.inl ((),(wm c c.bB c.guard (ns.foldl (iY x.ay) c.pending),()))):=by
 have e:=eF (step:=ES) _ (λi=>(((),(),(),ns.length,i,()),(wm c c.bB c.guard ((ns.take i).foldl _ _),(x.kind,x.ay,x.row,x.bZ,()),ns,()))) _ bk (λk h=>by
  have C:=U8 x.ay (ns.take k) c.pending;rw[kL]at C;rw[arC _ _ _ h];generalize (ns.take k).foldl (iY x.ay) c.pending=pd at C;unfold ES iY wm TT aM xG xL;dsimp only;rw[aY,aq,aO ⟨by omega,by omega⟩,aO];simp only[bE];rw[ad4 _ _ (by omega),ax,ax,(arB _ _).2,bY,eO (by simp;omega)];cases pd.any (eH ⟨x.ay,ns[k],0⟩)<;>rfl) (by
  unfold ES wm aM xG xL;dsimp only;rw[bq,av]) (cv)
 rw[ mP]at e;exact e
def zT:cJ:=⟨[],[],0⟩
def rN(c:au)(x:aS):cJ×Bool:=mH (c.bB.getD x.ay.toNat zT) x.row (c.guard.getD x.ay.toNat 0)
def qF(c:au)(x:aS):aa aP:=c.pending.filter (λa=>!eH ⟨x.ay,x.row,0⟩ a)
def uW(c:au)(x:aS):au:=
 wm (gn c (AS c.config.ak c.config.dO c.array x.ay x.row)) (c.bB.set x.ay.toNat (rN c x).1) c.guard (bif (rN c x).2 then (gR c.config.ak.rows x.row).foldl (iY x.ay) (qF c x)else qF c x)
def iC{T:Type}{l:aa T}{i:Nat}(d:T)(h:i<l.length):l.getD i d=l[i]:=by
 rw[cL,bK h];rfl
def aeT(R r:Int):(gR R r).length <= 2:=by
 unfold gR
 grind
def arE{T:Type}(p:T->Bool)(l:aa T):(l.filter p).length<=l.length:=List.length_filter_le p l
def arF{B:Int}(c:au)(x:aS)(I:cx c.config.ak=true)(Y:fz c.config.ak B c.array)(hp:c.pending.length <= 200)(Z:∀ t∈c.bB,mG t)(D:0 <= x.ay)(h2:x.ay<aL c.config.ak)(O:0 <= x.row)(T:x.row<c.config.ak.rows)(C:x.ay.toNat<c.bB.length)(E:x.ay.toNat<c.guard.length):M1 c x=some ((),(uW c x,())):=by
 have⟨_,_,_,_,g5,g6,g7,g8⟩:=fY I;have U:=aeJ I c.config.dO c Y D h2 O T;have e2:=ary c.pending ⟨x.ay,x.row,0⟩ (by omega);have hf:(qF c x).length <= c.pending.length:=List.length_filter_le _ _;have sn:=aeT c.config.ak.rows x.row;simp only[gn]at U;unfold M1 bR xL xM
 refine(bz (λo=>Option.bind o _) U).trans ?_
 rw[ax];dsimp only
 refine(bz (λo=>Option.bind o _) e2).trans ?_
 rw[ax];dsimp only;rw[aO ⟨D,C⟩,aO C,aO ⟨D,E⟩,aO E,aO C,aO C];rw[ars _ (Z _ (dc C)),ax,aO ⟨D,C⟩,aO C];unfold uW rN;rw[iC _ C,iC _ E];cases (mH (c.bB[x.ay.toNat]'C) x.row (c.guard[x.ay.toNat]'E)).2 with
 |false=>rfl
 | true=>
  rw[bL,av,aen (by omega) (by omega) O T,ax]
  refine(bz (λo=>Option.bind o _) (arD (wm (gn c (AS _ _ c.array x.ay x.row)) _ c.guard (qF c x)) x _ (by omega) (by unfold wm;dsimp only;omega))).trans ?_
  rfl
def CZ(l:aa aP):Prop:=∀i (h:i<l.length),(l.take i).any (eH l[i])=false
def Js{a b:aP}:eH a b=true ↔ a=b:=by
 have⟨C,D,E⟩:=a;have⟨I,O,T⟩:=b;simp[eH,aK,ff,and_true,aP.mk.injEq]
 grind
def o6{U:Type}(f:U->Nat->U)(u:U)(k:Nat):(List.range (k+1)).foldl f u=f ((List.range k).foldl f u) k:=by
 rw[List.range_succ,List.foldl_append];rfl
def gS(g:aH)(l:lA)(a:dj)(b:Int)(n:Nat):dj:=(List.range n).foldl (λa (r:Nat)=>AS g l a b (r:Int)) a
def Jt{g:aH}(C:cx g=true)(l:lA){B:Int}(hB:0<=B){a:dj}(D:fz g B a){b:Int}(E:0<=b)(I:b<aL g):∀ n:Nat,(n:Int)<=g.rows->fz g B (gS g l a b n)
 |0,_=>D
 | n+1,h=>by
  unfold gS;rw[o6];exact US C l hB (Jt C l hB D E I n (by omega)) E I (by omega) (by omega)
def aeU{B:Int}(hB:0 <= B)(c:au)(C:cx c.config.ak=true)(O:fz c.config.ak B c.array){b:Int}(D:0 <= b)(E:b<aL c.config.ak):M3 c b=some ((),(gn c (gS c.config.ak c.config.dO c.array b c.config.ak.rows.toNat),())):=by
 have⟨_,_,_,_,T,U,Y,Z⟩:=fY C;have e:=eF (step:=Ix) c.config.ak.rows.toNat (λi=>(((),b,i,()),(gn c (gS _ _ _ b i),()))) _ bk (λk h=>by
  have I:=aeJ C c.config.dO (gn c (gS c.config.ak c.config.dO c.array b k)) (Jt C c.config.dO hB O D E k (by omega)) D E (show 0 <= (k:Int) by omega) (by omega);simp only[gn]at I;unfold Ix gn aM xG;dsimp only;rw[aY,aq,I,ax,bY];dsimp only;unfold gS;rw[o6]) (by
  unfold Ix gn aM xG;dsimp only;rw[bq,av]) (cv)
 refine(bz (λo=>Option.bind o _) e).trans ?_
 rfl
def N8(c:au)(b:Int)(pd:aa aP):au:=
 wm (gn c (gS c.config.ak c.config.dO c.array b c.config.ak.rows.toNat)) (c.bB.set b.toNat (oc c.config.gU)) (c.guard.set b.toNat c.box.bT.dG) pd
def aeV(c:au)(I:aT c.config.gU 1 16=true){b:Int}(C:0<=b)(D:b.toNat<c.bB.length)(E:b.toNat<c.guard.length):Iy c b=some ((),(wm c (c.bB.set b.toNat (oc c.config.gU)) (c.guard.set b.toNat c.box.bT.dG) c.pending,())):=by
 unfold Iy xL;rw[art I,ax,aO ⟨C,D⟩,aO D,aO ⟨C,E⟩,aO E];rfl
def iF(c:au)(k:Nat)(pd:aa aP):au:=
 ⟨c.config,c.box,c.now,c.aI,c.ready,(List.range k).foldl (λa (b:Nat)=>gS c.config.ak c.config.dO a (b:Int) c.config.ak.rows.toNat) c.array,c.spare,⟨(List.range k).foldl (λd b=>d.set b 0) c.aB.aD,c.aB.wait,c.aB.dJ⟩,(List.range k).foldl (λd b=>d.set b (oc c.config.gU)) c.bB,(List.range k).foldl (λd b=>d.set b c.box.bT.dG) c.guard,pd,c.queue,c.shares,c.drain,c.aN,c.eg,c.errors,c.trace,c.cc⟩
def wo{T:Type}(x:T)(l:aa T):∀ k:Nat,((List.range k).foldl (λd b=>d.set b x) l).length=l.length
 |0=>rfl
 |k+1=>by rw[o6,jb,wo x l k]
def N9{g:aH}(C:cx g=true)(l:lA){B:Int}(hB:0 <= B){a:dj}(D:fz g B a):∀ k:Nat,(k:Int) <= aL g -> fz g B ((List.range k).foldl (λa (b:Nat)=>gS g l a (b:Int) g.rows.toNat) a)
 |0,_=>D
 | k+1,h=>by
  have⟨_,_,_,_,E,I,O,T⟩:=fY C;rw[o6];exact Jt C l hB (N9 C l hB D k (by omega)) (by omega) (by omega) _ (by omega)
structure wu (B:Int) (c:au):Prop where
 hB:0<=B
 g:cx c.config.ak=true
 a:fz c.config.ak B c.array
 k:aT c.config.gU 1 16=true
 p:c.pending.length<=200
 t:(c.bB.length:Int)=aL c.config.ak
 d:(c.guard.length:Int)=aL c.config.ak
 r:(c.aB.aD.length:Int)=aL c.config.ak
def wu.U9{B:Int}{c:au}(h:wu B c)(k:Nat)(C:(k:Int)<=aL c.config.ak)(pd:aa aP)(D:pd.length<=200):wu B (iF c k pd):=
 ⟨h.hB,h.g,N9 h.g c.config.dO h.hB h.a k C,h.k,D,(bz (λn:Nat=>(n:Int)) (wo _ _ k)).trans h.t,(bz (λn:Nat=>(n:Int)) (wo _ _ k)).trans h.d,(bz (λn:Nat=>(n:Int)) (wo _ _ k)).trans h.r⟩
def arG(c:au)(k:Nat)(pd C:aa aP):iF c (k+1) C=⟨c.config,c.box,c.now,c.aI,c.ready,(N8 (iF c k pd) (k:Int) C).array,c.spare,⟨(iF c k pd).aB.aD.set k 0,c.aB.wait,c.aB.dJ⟩,(N8 (iF c k pd) (k:Int) C).bB,(N8 (iF c k pd) (k:Int) C).guard,C,c.queue,c.shares,c.drain,c.aN,c.eg,c.errors,c.trace,c.cc⟩:=by
 unfold iF;simp only[o6];rfl
def arH{B:Int}{c:au}(h:wu B c):iter yw bk (((),(c.bB.length:Int),(0:Int),()),(iF c 0 [],()))=some (.inl ((),(iF c c.bB.length [],()))):=by
 have U:=eG c.config.ak;have Y:=h.t;have e:=eF (step:=yw) c.bB.length (λi=>(((),c.bB.length,i,()),(iF c i [],()))) _ bk (λk Z=>by
  have C:=h.U9 k (by omega) [] (by simp);have w1:=C.t;have E:=C.d;have I:=C.r;have D:aL (iF c k []).config.ak=aL c.config.ak:=rfl;rw[D]at w1 E I;have O:=aeU C.hB _ C.g C.a (b:=(k:Int)) (by omega) (by rw[D];omega);have T:=aeV (gn (iF c k []) (gS (iF c k []).config.ak (iF c k []).config.dO (iF c k []).array (k:Int) (iF c k []).config.ak.rows.toNat)) C.k (b:=(k:Int)) (by omega) (by show (k:Int).toNat<(iF c k []).bB.length;omega) (by show (k:Int).toNat<(iF c k []).guard.length;omega);rw[arG c k [] []];unfold yw aM xG xL;dsimp only;rw[aY,aq,O,ax,T,ax,bY];have w4:k<(iF c k []).aB.aD.length:=by omega
  rw[aO ⟨by omega,by show (k:Int).toNat<(iF c k []).aB.aD.length;omega⟩,aO (by show (k:Int).toNat<(iF c k []).aB.aD.length;omega)];rfl) (by
  unfold yw aM xG xL;dsimp only;rw[bq,av]) (cv)
 simp_all
def wv(l:aa Int):Nat->Int
 |0=>0
 |i+1=>bits .or .i64 (wv l i) (W6 (l.getD i 0*2 ^ (min (4*(i:Int)).toNat IntKind.i64.bits)))
def arI{l:aa Int}(h:l.length=8)(C:∀ s∈l,0 <= s/\s <= 15):v5 l 8=true:=by
 simp[v5,aK,bS,CI,br];simp_all
def arJ{l:aa Int}(h:l.length=8)(D:∀ s∈l,0<=s/\s<=15):M7 l=some (wv l 8,true):=by
 unfold M7 bR;rw[adF _ _ (by omega),arI h D,ax];have e:=eF (step:=IA) 8 (λi=>((wv l i,l,(l.length:Int),(i:Int),()),())) (.inl ((wv l 8,()),())) bk (λi hi=>by
  have C:i<l.length:=by omega
  have E:W6 (4*(i:Int))=4*(i:Int):=bf;have I:¬ 4*(i:Int)<0:=by omega
  have O:l.getD i 0=l[i]:=by rw[cL,bK C];rfl
  have T:wv l (i+1)=bits .or .i64 (wv l i) (W6 (l.getD i 0*2 ^ (min (4*(i:Int)).toNat IntKind.i64.bits))):=rfl;unfold IA aM xG xI;rw[T,O];simp (disch:=omega) [C,E,I,bY]) (by unfold IA aM xG xI;simp[h]) (cv)
 rw[dz]at e;simp only[bL,av];have U:wv l 0=0:=rfl;rw[U]at e;rw[e];rfl
def arK{w:aa Nat}(D:jU w)(E:w.length=11):(cE (w.drop 3)).length=8 /\ ∀ s∈cE (w.drop 3),0 <= s/\s <= 15:=by
 refine⟨by rw[vZ];simp[E],λs C=>?_⟩
 simp only[ List.mem_map]at C;obtain⟨x,I,rfl⟩:=C;have:=D x (List.mem_of_mem_drop I);omega
def Va(w:aa Nat):Int:=bif (kY w).2.1==2 then 0 else wv (cE ((kY w).1.drop 3)) 8
def arL{w:aa Nat}(C:jU w)(D:w.length=11):M9 (cE w)=some (Va w,(kY w).2.1,(kY w).2.2):=by
 have⟨E,I,_⟩:=NT C D;have⟨d1,d2⟩:=arK I E;unfold M9 Va;rw[aev C D,ax];cases h:(kY w).2.1==2 with
 |true=>simp
 | false=>
  rw[ aqB I E,ax,arJ d1 d2];rfl
def nw(c:cy):aa Nat:=c.symbols.map Int.toNat
def Vb{c:cy}(h:Sy c.symbols):cE (nw c)=c.symbols/\jU (nw c)/\(nw c).length=11:=by
 have⟨C,D⟩:=adK _ h.2;exact⟨C,D,by simp[nw,h.1]⟩
def kI(c:cy):Int:=bif c.pg then 2 else (kY (nw c)).2.1
def rO(c:cy):cy:=bif c.pg then c else bif (kY (nw c)).2.1==1 then ⟨cE (kY (nw c)).1,c.pg⟩else bif (kY (nw c)).2.1==2 then ⟨c.symbols,true⟩else c
def arM{l:aa cy}{j:Nat}(h:j<l.length):l.set j l[j]=l:=List.set_getElem_self h
def Vc{c:cy}(h:Sy c.symbols):Sy (rO c).symbols:=by
 have⟨O,C,D⟩:=Vb h;have⟨E,I,_⟩:=NT C D;unfold rO;cases c.pg with
 |true=>exact h
 | false=>
  cases (kY _).2.1==1 with
  |true=>exact adL I E
  |false=>grind
def sy1(x:Int)(k:Nat):Int:=bits .and .i64 (x.fdiv (2 ^ (min (4*(k:Int)).toNat IntKind.i64.bits))) 15
def tC(x:Int):Nat->aa Int
 |0=>[]
 |k+1=>tC x k++[sy1 x k]
def Vd(x:Int):∀ k,(tC x k).length=k
 |0=>rfl
 |k+1=>by simp[tC,Vd x k]
def aeW(x:Int):∀ k,∀ s∈tC x k,0<=s/\s<=15
 |0,s,h=>by cases h
 | k+1,s,h=>by
  rcases lz.1 h with h|h
  ·exact aeW x k s h
  ·rw[gL.1 h];exact aqv _
def arN{x:Int}(U:0<=x)(Y:x<=4294967295):Mk x=some (tC x 8):=by
 have C:aT x 0 4294967295=true:=by rw[br];omega
 unfold Mk Cg bR;rw[c9,ax,ax,C,bL,av];have e:=eF (step:=HH) 8 (λk=>((x,(),(k:Int),()),(tC x k,()))) (.inl (((),()),(tC x 8,()))) bk (λk Z=>by
  have D:(k:Int)<8:=by omega
  have E:bV ((tC x k).length+1)=true:=eO (by rw[Vd];omega);have I:W6 (4*(k:Int))=4*(k:Int):=bf;have O:¬ 4*(k:Int)<0:=by omega
  unfold HH aM xG;simp (disch:=omega) [D,I,O,E,bY,tC,sy1]) (by
  unfold HH aM xG;simp) (cv)
 rw[dz]at e;have T:tC x 0=[]:=rfl;rw[T]at e;rw[e];rfl
def Fc(x:Int):aa Int:=(Ap x).getD []
def Ve{x:Int}(E:0 <= x)(I:x <= 4294967295):Ap x=some (Fc x)/\Sy (Fc x) /\ ∃ w,Fc x=cE w/\w.length=11/\jU w/\cE (w.drop 3)=tC x 8/\E5 w=true:=by
 have O:aT x 0 4294967295=true:=by rw[br];omega
 have⟨t1,t2⟩:=adK _ (aeW x 8);have tl:((tC x 8).map Int.toNat).length=8:=by rw[eT,Vd]
 have⟨w,C,l1,d1,T,U,Y,Z⟩:=apj t2 tl;have z1:E5 w=true:=by simp[E5,U,Y,Z]
 rw[t1]at C;have D:Ap x=some (cE w):=by
  unfold Ap Cg;rw[c9,ax,ax,O,bL,av,arN E I,ax,C,ax]
 have ee:Fc x=cE w:=by unfold Fc;rw[D];rfl
 rw[ee];exact⟨D,adL d1 l1,w,rfl,l1,d1,by rw[T,t1],z1⟩
def Vf(d:cy):Int:=bif d.pg then 0 else Va (nw d)
def wz(c:au)(j:Nat)(d:cy):au:=gn c ⟨c.array.cells.set j d,c.array.bu,c.array.bg⟩
def arO{c:au}{j:Nat}(h:j<c.array.cells.length):wz c j c.array.cells[j]=c:=by
 unfold wz gn;rw[arM h]
def aeX{c:au}{j:Nat}(C:j<c.array.cells.length)(T:Sy c.array.cells[j].symbols):yu c (j:Int)=some ((Vf c.array.cells[j],kI c.array.cells[j]),(wz c j (rO c.array.cells[j]),())):=by
 have⟨U,D,E⟩:=Vb T;have I:=aev D E;have O:=arL D E;rw[U]at I O;have Z:=arO C;unfold yu kI rO Vf xL xM;rw[aO ⟨by omega,by omega⟩,aO];simp only[bE];cases Y:c.array.cells[j].pg with
 |true =>simp_all
 | false=>
  rw[av,av,av,av,aO C,aO C,I,ax,aO C,aO C,O,ax];dsimp only;rcases(NT D E).2.2 with q|q|q
  ·grind
  ·rw[q,kM,aO C,Y];rfl
  ·rw[q,jS (by omega),av,kM,aO C];rfl
def AV(q:aa aV)(i:Nat):Bool:=match q[i]? with
 |some r=>(q.take i).any λx=>x.line==r.line
 |none=>false
def arP{q:aa aV}{i:Nat}(h:i<q.length):AV q i=(q.take i).any λx=>x.line==q[i].line:=by
 unfold AV;rw[bK h]
def arQ{q:aa aV}{i:Nat}(h:i<q.length)(I:q.length <= 1000):MN q (i:Int)=some (AV q i):=by
 have O:=E7 (λx:aV=>x.line==q[i].line) (q.take i);have hlen:(q.take i).length=i:=by rw[kL];omega
 unfold MN cZ;rw[c9,ax,N4 (by omega) (by omega) (by omega),bL,av,aW ⟨by omega,by omega,by omega⟩,arP h,UP];simp only[bE,Int.toNat_zero,List.drop_zero];generalize T:q.take i=t at *
 have e:=eF (step:=EG) (eY (λx:aV=>x.line==q[i].line) t) (λj=>((q,(i:Int),t,(t.length:Int),(j:Int),()),())) (if eY (λx:aV=>x.line==q[i].line) t<t.length then .inl ((true,()),())else .inr (.inl ((),()))) bk (λk E=>by
  have D:=uU E (by omega);unfold EG aM bG xG xI;dsimp only;rw[aY,aq,aO ⟨by omega,by omega⟩,aO ⟨by omega,by omega⟩];simp only[bE];rw[D,av,bY]) (by
  by_cases C:eY (λx:aV=>x.line==q[i].line) t<t.length
  ·have D:=AQ C;unfold EG aM bG xG xI;dsimp only;rw[aY,aq,aO ⟨by omega,by omega⟩,aO ⟨by omega,by omega⟩]
   grind
  ·unfold EG aM bG xG xI;dsimp only;rw[bq,av,aX C]) (cv)
 rw[dz]at e
 refine(bz (λo=>Option.bind o _) e).trans ?_
 by_cases C:eY (λx:aV=>x.line==q[i].line) t<t.length
 ·rw[aW C,aY C];rfl
 ·rw[aX C,bq C];rfl
def Fe(d:mR)(n:Int)(w:Bool):Bool:=bif w then d.on ||decide (n<1)else !d.on
def arR{d:mR}(n:Int)(w:Bool)(h:qw d=true):MO d n w=some (Fe d n w):=by
 unfold MO Fe;rw[NH,h]
 grind
def wA(p:Nat->Bool)(k:Nat):Int:=((List.range k).countP p:Nat)
def aeY(p:Nat -> Bool)(k:Nat):wA p (k+1)=wA p k+(bif p k then 1 else 0):=by
 unfold wA;rw[List.range_succ,List.countP_append,List.countP_singleton]
 grind
def aeZ(p:Nat -> Bool)(k:Nat):0 <= wA p k/\wA p k <= k:=by
 unfold wA;have:=List.countP_le_length (p:=p) (l:=List.range k);simp_all
def rP(f:Nat->Bool)(n k:Nat):aa Bool:=(List.range k).map f++List.replicate (n-k) false
def Oa{f:Nat->Bool}{n k:Nat}(h:k<=n):(rP f n k).length=n:=by unfold rP;simp;omega
def Ob{f:Nat -> Bool}{n k:Nat}(h:k<n):(rP f n k).set k (f k)=rP f n (k+1):=by
 unfold rP;rw[List.set_append_right _ _ (by simp),eT,eD,Nat.sub_self,show n-k=(n-(k+1))+1 by omega,List.replicate_succ,List.range_succ,List.map_append,List.append_assoc];rfl
def Vg(f:Nat->Bool)(n:Nat):rP f n 0=List.replicate n false:=rfl
def Oc(f:Nat->Bool)(n:Nat):rP f n n=(List.range n).map f:=by unfold rP;simp
def Ju{f:Nat->Bool}{n k:Nat}(h:k<n)(C:k<((List.range n).map f).length):((List.range n).map f)[k]=f k:=by simp
def qG(q:aa aV)(i:Nat):Bool:=match q[i]? with
 |some r=>r.write
 |none=>false
def Jv{q:aa aV}{i:Nat}(h:i<q.length):qG q i=q[i].write:=by
 unfold qG;rw[bK h]
def mI(q:aa aV)(i:Nat):Bool:=!AV q i
def wB(q:aa aV)(k:Nat):Int:=wA (λi=>mI q i && !qG q i) k
def wC(q:aa aV)(k:Nat):Int:=wA (λi=>mI q i&&qG q i) k
def nv(c:au)(i:Nat):Bool:=mI c.queue i&&(Fe c.drain (wB c.queue c.queue.length) (qG c.queue i) ||(!qG c.queue i&&wC c.queue c.queue.length==0))
def gK(c:au):aa aP:=c.queue.map λr=>iB c r.line
def C0(c:au):(gK c).length=c.queue.length:=by unfold gK;rw[eT]
def ae0{c:au}{i:Nat}(h:i<c.queue.length)(C:i<(gK c).length):(gK c)[i]=iB c c.queue[i].line:=by simp only[gK,List.getElem_map]
def Od{c:au}(h:Pq c){r:aV}(C:r∈c.queue):vX c r.line=some (iB c r.line,true)/\fM c.config.ak (iB c r.line)=true:=
 arl h.p h.sp h.se h.mo (h.q r C).1.1 (h.q r C).1.2
def arS{c:au}(h:Pq c):MM c=some (gK c):=by
 have E:=h.ql;have e:=eF (step:=Ii) c.queue.length (λi=>(((),(),c.queue,c.queue.length,i,()),(c,(c.queue.take i).map _,()))) (.inl (((),()),(gK c,()))) bk (λk C=>by
  have D:((c.queue.take k).map (λr=>iB c r.line)).length=k:=by simp;omega
  unfold Ii aM xG xI;dsimp only;rw[aY,aq,aO ⟨by omega,by omega⟩];simp only[bE];rw[(Od h (dc C)).1,ax,bY,D,List.length_singleton,eO,aq,uM C,List.map_append];rfl) (by
  unfold Ii aM xG xI;dsimp only;rw[bq,av,mP];rfl) (cv)
 unfold MM bR;simp_all
def zA:aP:=⟨0,0,0⟩
def zQ:aV:=⟨0,0,0,false,0,0⟩
def cV(c:au)(i:Nat):aP:=(gK c).getD i zA
def qH(c:au)(i:Nat):aV:=c.queue.getD i zQ
def Jw{c:au}{i:Nat}(h:i<(gK c).length):(gK c)[i]=cV c i:=by
 unfold cV;rw[cL,bK h];rfl
def Ff{c:au}{i:Nat}(h:i<c.queue.length):c.queue[i]=qH c i:=by
 unfold qH;rw[cL,bK h];rfl
def Jx{c:au}(h:Pq c){i:Nat}(hi:i<c.queue.length):fM c.config.ak (cV c i)=true/\0 <= (cV c i).ay/\(cV c i).ay.toNat<c.aI.aE.length/\(cV c i).ay.toNat<c.aB.aD.length/\(cV c i).ay<aL c.config.ak/\0 <= (cV c i).row:=by
 have e:=ae0 hi (by rw[C0];exact hi);rw[Jw]at e;have C:=(Od h (dc hi)).2;rw[<- e]at C;have⟨_,D,E,I,O,T,U⟩:=uK C;have:=h.p.bl;have:=h.dl;simp_all
def Fg{c:au}(h:Pq c):c.aI.aE.length<=1048576:=by
 have:=h.p.bl;have:=eG c.config.ak;omega
def fQ(c:au)(i:Nat):Bool:=Jp c.aI (cV c i)
def arT{c:au}(h:Pq c)(C:aa Int)(D:aa aP)(Z:Int×Int×Int×Int×aj)(P:Int×Int×Int×Int×Int×(aa Int)×Int×Int×aj):iter EK bk ((C,D,(),(),(),(),(0:Int),(0:Int),c.queue,(c.queue.length:Int),(0:Int),()),(c,Z,P,List.replicate c.queue.length false,()))=some (.inl ((C,D,(),(),(),(),wB c.queue c.queue.length,wC c.queue c.queue.length,()),(c,Z,P,(List.range c.queue.length).map (mI c.queue),()))):=by
 have T:=h.ql;have e:=eF (step:=EK) c.queue.length (λi=>((C,D,(),(),(),(),wB c.queue i,wC c.queue i,c.queue,(c.queue.length:Int),(i:Int),()),(c,Z,P,rP (mI c.queue) c.queue.length i,()))) (.inl ((C,D,(),(),(),(),wB c.queue c.queue.length,wC c.queue c.queue.length,()),(c,Z,P,(List.range c.queue.length).map (mI c.queue),()))) bk (λk E=>by
  have U:=aeZ (λi=>mI c.queue i && !qG c.queue i) k;have Y:=aeZ (λi=>mI c.queue i&&qG c.queue i) k;have I:mI c.queue k = !AV c.queue k:=rfl;have O:=Oa (f:=mI c.queue) (n:=c.queue.length) (k:=k) (by omega);have ko:((rP (mI c.queue) c.queue.length k).set k (!AV c.queue k)).length=c.queue.length:=by rw[jb,O]
  rw[<- Ob E];unfold EK aM xG xI xL;dsimp only;rw[aY,aq,aO ⟨by omega,by omega⟩,arQ E (by omega),ax,aO ⟨by omega,by omega⟩,aO,aO ⟨by omega,by simp only[bE];omega⟩,aO (by simp only[bE];omega),bY];simp only[bE,List.getElem_set_self];unfold wB wC at *
  rw[aeY,aeY];simp only[I,Jv E];cases AV c.queue k with
  | true=>
   simp[*]
  | false=>
   rw[Bool.not_false,aq];cases c.queue[k].write with
   |true=>rw[ bf];simp
   | false=>
    rw[av,aO ⟨by omega,by rw[jb];omega⟩,aO (by rw[jb];omega),bf];simp) (by
  unfold EK aM xG xI xL;dsimp only;rw[bq,av,Oc]) (cv)
 rw[dz,Vg]at e;exact e
def tD(c:au):Nat->aa (Int×Bool)
 |0=>[]
 |k+1=>bif nv c k&&fQ c k then ng (tD c k) (cV c k).ay true else tD c k
def Jy(c:au)(k:Nat)(b:Int):Bool:=(List.range k).any λi=>nv c i&&fQ c i&&b==(cV c i).ay
def ae1(c:au)(b:Int):∀ k,mc (tD c k) b=Jy c k b
 |0=>rfl
 | k+1=>by
  have C:=ae1 c b k;have e:Jy c (k+1) b=(Jy c k b || (nv c k&&fQ c k&&b==(cV c k).ay)):=by
   unfold Jy
   grind
  rw[e,<- C];show mc (bif nv c k&&fQ c k then ng _ (cV c k).ay true else tD c k) b=_;cases nv c k&&fQ c k with
  |false=>simp
  |true=>rw[aq,aqp,cM,Bool.or_comm]
def arU{c:au}(h:Pq c)(D:aa Int)(Z:Int×Int×Int×Int×aj)(P:Int×Int×Int×Int×Int×(aa Int)×Int×Int×aj):iter EL bk ((D,gK c,(),(),(),(),wB c.queue c.queue.length,wC c.queue c.queue.length,(),(),(),c.queue,(c.queue.length:Int),(0:Int),()),(c,Z,P,(List.range c.queue.length).map (mI c.queue),List.replicate c.queue.length false,List.replicate c.queue.length false,([]:aa (Int×Bool)),()))=some (.inl ((D,gK c,(),(),(),(),(),(),()),(c,Z,P,(List.range c.queue.length).map (nv c),(List.range c.queue.length).map (fQ c),tD c c.queue.length,()))):=by
 have hq:=h.ql;have E:=Fg h;have e:=eF (step:=EL) c.queue.length (λi=>((D,gK c,(),(),(),(),wB c.queue c.queue.length,wC c.queue c.queue.length,(),(),(),c.queue,(c.queue.length:Int),(i:Int),()),(c,Z,P,(List.range c.queue.length).map (mI c.queue),rP (nv c) c.queue.length i,rP (fQ c) c.queue.length i,tD c i,()))) (.inl ((D,gK c,(),(),(),(),(),(),()),(c,Z,P,(List.range c.queue.length).map (nv c),(List.range c.queue.length).map (fQ c),tD c c.queue.length,()))) bk (λk C=>by
  have I:=Oa (f:=nv c) (n:=c.queue.length) (k:=k) (by omega);have O:=Oa (f:=fQ c) (n:=c.queue.length) (k:=k) (by omega);have T:=C0 c;have hl4:((List.range c.queue.length).map (mI c.queue)).length=c.queue.length:=by simp
  obtain⟨ho,U,Y,o3,o4,o5⟩:=Jx h C;have hh:=aro (r:=c.aI) (a:=cV c k) o5 U Y E;have hd:nv c k=(mI c.queue k&&(Fe c.drain (wB c.queue c.queue.length) c.queue[k].write ||(!c.queue[k].write&&wC c.queue c.queue.length==0))):=by unfold nv;rw[Jv C]
  have hhb:tD c (k+1)=bif nv c k&&fQ c k then ng (tD c k) (cV c k).ay true else tD c k:=rfl;have hit:fQ c k=Jp c.aI (cV c k):=rfl;rw[<-Ob C,<-Ob C,hhb];unfold EL aM xG xI xL;dsimp only;rw[aY,aq,aO ⟨by omega,by omega⟩,aO ⟨by omega,by omega⟩,aO];simp only[bE,Ju C,arR _ _ h.dr,ax,Jw,hh,bY (show k<4611686018427387904 by omega),List.getElem_set_self,jb,I,O,T];rw[hd,hit];cases mI c.queue k<;>cases Fe c.drain (wB c.queue c.queue.length) c.queue[k].write<;>cases c.queue[k].write<;>cases Jp c.aI (cV c k)<;>cases wC c.queue c.queue.length==0<;>simp[C]) (by
  unfold EL aM xG xI xL;dsimp only;rw[bq,av,Oc,Oc]) (cv)
 rw[dz,Vg,Vg]at e;exact e
def Oe(e:cI):cI:=⟨e.line,e.code,(if (999:Int)<(W6 (e.times+(1:Int)))then (999:Int)else (W6 (e.times+(1:Int))))⟩
def zEE:cI:=⟨0,0,0⟩
def tE(l:aa cI)(line code:Int):aa cI:=match l.findIdx? (qx ⟨line,code,1⟩)with
 |some i=>l.set i (Oe (l.getD i zEE))
 |none=>bif ((l.length:Int)==(6:Int))then l.drop 1++[⟨line,code,1⟩]else l++[⟨line,code,1⟩]
def arV{l:aa cI}(h:n5 l=true){line code:Int}(D:0<=line/\line<=1023)(E:code=1\/code=2):Na l line code=some (tE l line code,true):=by
 have U:l.length<=6:=by
  simp only[n5,aK,fq]at h;omega
 have I:aT line 0 1023=true:=br.2 D;unfold Na IB tE cZ xA xZ;rw[eO (by simp;omega),aq,ax,adZ _ (by omega),ax,h,bL,av,c9,ax,I,bL,av,List.nil_append];have e:=Ja (step:=IC) l (qx ⟨line,code,1⟩) (λk=>((line,code,(),(),(l.length:Int),(k:Int),()),(l,()))) (λi=>.inl (((),true,()),(l.set i (Oe (l.getD i zEE)),()))) (.inr (.inl ((line,code,(),()),(l,())))) bk (λk O=>by
  unfold IC qx aM bG xG xL;dsimp only;rw[aY,aq,aO ⟨by omega,by omega⟩,aO];simp only[bE];rw[aO ⟨by omega,by omega⟩,aO,bY,iC _ O];cases l[k].line==line<;>cases l[k].code==code<;>rfl) (by
  unfold IC aM bG xG xL;dsimp only;rw[bq,av]) (cv)
 rw[dz]at e;have T:iter TV bk ((line,code,(),(),(l.length:Int),(0:Int),()),(l,()))=_:=e;rcases E with rfl|rfl
 ·rw[bne_self_eq_false,av,T];cases l.findIdx? (qx ⟨line,1,1⟩)with
  |some i=>rfl
  | none=>
   rw[ax,Sum.elim_inr,gA];dsimp only;cases C:(l.length:Int)==(6:Int)with
   |false=>rw[av,av,eO (by simp;omega)];rfl
   | true=>
    have C:=eq_of_beq C;rw[aq,aq,aW ⟨by omega,by omega,by omega⟩,eO (by simp;omega),aq,ax,eO (by simp;omega),aq];simp
 ·rw[gv (by omega),aq,bne_self_eq_false,av,e];cases l.findIdx? (qx ⟨line,2,1⟩)with
  |some i=>rfl
  | none=>
   rw[ax,Sum.elim_inr,gA];dsimp only;cases C:(l.length:Int)==(6:Int)with
   |false=>rw[av,av,eO (by simp;omega)];rfl
   | true=>
    have C:=eq_of_beq C;rw[aq,aq,aW ⟨by omega,by omega,by omega⟩,eO (by simp;omega),aq,ax,eO (by simp;omega),aq];simp
def Of(c:au)(l:aa cI):au:=⟨c.config,c.box,c.now,c.aI,c.ready,c.array,c.spare,c.aB,c.bB,c.guard,c.pending,c.queue,c.shares,c.drain,c.aN,c.eg,l,c.trace,c.cc⟩
def Og(c:au)(n code:Int):au:=bif code != 0 then Of c (tE c.errors n code)else c
def ae2{c:au}(h:n5 c.errors=true){n code:Int}(C:0<=n/\n<=1023)(h2:code=0\/code=1\/code=2):yp c n code=some ((),(Og c n code,())):=by
 unfold yp Og;rcases h2 with rfl|h2
 ·rfl
 ·rw[arV h C h2,gv (by omega)];rfl
def arW(q:aa aV):Prop:=∀i (h:i<q.length),(q.take i).any (λx=>x.id==q[i].id)=false
def arX{q:aa aV}{i:Nat}(h:i<q.length)(E:q.length<=12):Nc q (i:Int) (W6 ((i:Int)+1))=some (q.take i++q.drop (i+1),([],())):=by
 have C:(splice q i ((q.take ((q.length:Int).toNat)).drop (i+1))).length=q.length:=by
  rw[tP _ _ _ (by simp;omega)]
 have I:((q.take ((q.length:Int).toNat)).drop (i+1))=q.drop (i+1):=by rw[bE,mP]
 unfold Nc;rw[bY,aW ⟨by omega,by omega,by omega,by omega⟩,jS (by omega),av,aW ⟨by omega,by omega,by omega⟩,aW ⟨by omega,by omega,by omega⟩];simp only[bE]at C ⊢;rw[aW ⟨by omega,by omega,by omega,by omega⟩,aW ⟨by omega,by omega,by omega⟩,aW ⟨by omega,by omega⟩];have D:i+(q.length-(i+1))-0=i+(q.length-(i+1)):=by omega
 rw[D,U7 _ _ _ (by omega)];unfold splice;rw[mP,List.take_append_of_le_length (by simp;omega),List.take_of_length_le (by simp;omega)]
def od:aV:=⟨0,0,0,false,0,0⟩
def C1(s:aa dw)(t:Int):aa dw:=match qm s ((List.replicate 4 false).set t.toNat true)with
 |some (l,_)=>l
 |none=>[]
def qI(c:au)(i:Nat)(a:dj)(e:aa cI)(x:eJ):au:=
 ⟨c.config,c.box,c.now,c.aI,c.ready,a,c.spare,c.aB,c.bB,c.guard,c.pending,c.queue.take i++c.queue.drop (i+1),C1 c.shares (c.queue.getD i od).dR,c.drain,c.aN,c.eg,e,c.trace,c.cc++[x]⟩
def jq(c:au)(i:Nat):au:=
 let r:=c.queue.getD i od
 let n:=tu c.config.ak (iB c r.line)
 bif r.write then qI c i ⟨c.array.cells.set n ⟨Fc r.data,false⟩,c.array.bu,c.array.bg⟩ c.errors ⟨r.id,c.now,0,0⟩
 else qI c i ⟨c.array.cells.set n (rO (c.array.cells.getD n AR)),c.array.bu,c.array.bg⟩ (bif kI (c.array.cells.getD n AR) != 0 then tE c.errors (n:Int) (kI (c.array.cells.getD n AR))else c.errors) ⟨r.id,c.now,Vf (c.array.cells.getD n AR),kI (c.array.cells.getD n AR)⟩
def Vh{d:cy}(h:Sy d.symbols):kI d=0 \/ kI d=1 \/ kI d=2:=by
 have⟨E,C,D⟩:=Vb h;unfold kI;cases d.pg with
 |true=>simp_all
 |false=>exact(NT C D).2.2
structure qJ (c:au) (i:Nat) (B:Int):Prop where
 ad:∀r∈c.queue,vX c r.line=some (iB c r.line,true)/\fM c.config.ak (iB c r.line)=true
 tn:∀r∈c.queue,0<=r.dR/\r.dR<=3
 ql:c.queue.length<=12
 sh:jV c.shares=true
 shl:c.shares.length=4
 u:arW c.queue
 i:i<c.queue.length
 d:∀r∈c.queue,0<=r.data/\r.data<=4294967295
 a:fz c.config.ak B c.array
 e:n5 c.errors=true
 r:c.cc.length<=1000
def qJ.facts{c:au}{i:Nat}{B:Int}(h:qJ c i B){r:aV}(C:r∈c.queue):vX c r.line=some (iB c r.line,true)/\uL c.config.ak (iB c r.line)=(tu c.config.ak (iB c r.line):Int)/\tu c.config.ak (iB c r.line)<c.array.cells.length/\(tu c.config.ak (iB c r.line):Int) <= 1023/\qm c.shares ((List.replicate 4 false).set r.dR.toNat true)=some (C1 c.shares r.dR,(qm c.shares ((List.replicate 4 false).set r.dR.toNat true)).get!.2)/\0 <= r.dR/\r.dR.toNat<4:=by
 obtain⟨D,E⟩:=h.ad _ C;have I:=h.tn _ C;obtain⟨O,T⟩:=aqr E;have U:=h.a.cells;have Y:=oV c.config.ak;obtain⟨y,t,e,_⟩:=U1 ((List.replicate 4 false).set _ true) (by have:=h.shl;omega) h.sh (by simp[h.shl]);refine⟨D,O,by omega,by omega,?_,I.1,by omega⟩;unfold C1;rw[e];rfl
def ae3{c:au}{i:Nat}{B:Int}(h:qJ c i B):Nd c (i:Int)=some ((),(jq c i,())):=by
 have hi:=h.i;have⟨f1,f3,f4,f5,f6,f7,f8⟩:=h.facts (dc hi);have C:=h.d _ (dc hi);have D:=h.a.syms _ (dc f4);have E:c.queue.getD i od=c.queue[i]:=iC _ hi;have O:=h.r;unfold Nd xL;rw[aO ⟨by omega,by omega⟩,aO];simp only[bE];rw[f1,ax,arX hi h.ql,ax,aW (by decide)];have I:(4:Int).toNat=4:=rfl;rw[I,aO ⟨f7,by simpa using f8⟩,aO (by simpa using f8)];dsimp only;rw[f6,ax];dsimp only;unfold jq;rw[E];dsimp only;cases hw:c.queue[i].write with
 | true=>
  rw[ Uc,ax,(Ve C.1 C.2).1,ax,aO ⟨by omega,by omega⟩,aO,eO (by simp;omega)];unfold qI;simp_all
 | false=>
  rw[av,av,Uc,ax,f3,iC _ f4]
  refine(bz (λo=>Option.bind o _) (aeX (c:=⟨c.config,c.box,c.now,c.aI,c.ready,c.array,c.spare,c.aB,c.bB,c.guard,c.pending,c.queue.take i++c.queue.drop (i+1),C1 c.shares c.queue[i].dR,c.drain,c.aN,c.eg,c.errors,c.trace,c.cc⟩) f4 D)).trans ?_
  rw[ax];unfold wz gn;dsimp only;rw[eO (by simp;omega),aq,ax]
  refine(bz (λo=>Option.bind o _) (ae2 (by exact h.e) ⟨by omega,f5⟩ (Vh D))).trans ?_
  rw[ax];unfold Og qI Of;rw[E];dsimp only;cases kI c.array.cells[tu c.config.ak (iB c c.queue[i].line)] != 0<;>rfl
def cz(c:au)(x:aS):au:=⟨c.config,c.box,c.now,cR c.aI x,fO c.config.ak c.ready ⟨c.now,x⟩,c.array,c.spare,c.aB,c.bB,c.guard,c.pending,c.queue,c.shares,c.drain,c.aN,c.eg,c.errors,c.trace++[⟨c.now,x⟩],c.cc⟩
def ae4(c:au)(p:ij):au:=⟨c.config,c.box,c.now,c.aI,c.ready,c.array,c.spare,c.aB,c.bB,c.guard,c.pending,c.queue,c.shares,c.drain,p,c.eg,c.errors,c.trace,c.cc⟩
def arY(c:au)(r:eB):au:=⟨c.config,c.box,c.now,c.aI,c.ready,c.array,c.spare,r,c.bB,c.guard,c.pending,c.queue,c.shares,c.drain,c.aN,c.eg,c.errors,c.trace,c.cc⟩
def AX(c:au)(k:Int):au:=ae4 c (yJ c.aN k c.now)
def Jz(c:au)(b:Int):au:=arY (N8 c b (c.pending.filter (λa=>!(a.ay==b)))) (lS c.aB b)
def dB(c:au)(x:aS)(i:Int):au:=
 bif x.kind==1 then uW (cz c x) x else
 bif x.kind==5 then Jz (cz c x) x.ay else
 bif x.kind==2 ||x.kind==3 then jq (cz c x) i.toNat else
 bif x.kind==4 then cz c x else
 bif x.kind==9 then iF (AX (cz c x) 9) c.bB.length []else AX (cz c x) x.kind
structure Bs (c:au):Prop where
 w:wu 100000 c
 u:CZ c.pending
 pk:∀a∈c.pending,0<=a.ay/\a.ay<aL c.config.ak
 zt:∀t∈c.bB,mG t
 rf:fN c.aB=true
 bl:(c.aI.aE.length:Int)=aL c.config.ak
 l1:c.ready.last.length<1073741824
 l2:c.ready.aZ.length<1073741824
 tl:c.trace.length<10000
def Bs.cz{c:au}(h:Bs c)(x:aS):wu 100000 (cz c x):=⟨h.w.hB,h.w.g,h.w.a,h.w.k,h.w.p,h.w.t,h.w.d,h.w.r⟩
def qJ.cz{c:au}{n:Nat}{B:Int}(h:qJ c n B)(x:aS):qJ (cz c x) n B:=⟨h.ad,h.tn,h.ql,h.sh,h.shl,h.u,h.i,h.d,h.a,h.e,h.r⟩
def arZ{c:au}(h:wu 100000 c):iter yw bk (((),(c.bB.length:Int),(0:Int),()),((⟨c.config,c.box,c.now,c.aI,c.ready,c.array,c.spare,c.aB,c.bB,c.guard,([]:aa aP),c.queue,c.shares,c.drain,c.aN,c.eg,c.errors,c.trace,c.cc⟩:au),()))=some (.inl ((),(iF c c.bB.length [],()))):=arH h
def Oh{g:aH}{x:aS}(h:cQ g x=true)(C:x.kind=1):0 <= x.row/\x.row<g.rows:=by
 simp[cQ,aK]at h;have D:=h.2.2.2.1;rw[uP,C,show ((1:Int)==1)=true from rfl,aq,br]at D;omega
def ar0{c:au}(h:Bs c){x:aS}(E:kD c.config.ak c.aI x=true){i:Int}(I:x.kind=2 \/ x.kind=3 -> qJ c i.toNat 100000/\0 <= i):IF c x i=some ((),(dB c x i,())):=by
 have⟨hg,hlen,T,O⟩:=CL E;have U:cQ c.config.ak x=true:=by
  simp only[kD,aK]at E
  grind
 have b1:=eG c.config.ak;have w:=h.cz x;have ht:=h.w.t;have hd:=h.w.d;have hr:=h.w.r;have AY:=h.tl;have er:yo c.config.ak c.aI x=some (cR c.aI x,true):=by
  rw[Uw _ _ _ (by omega)];unfold E1;simp_all
 unfold IF dB bR;rw[eO (by simp;omega),aq,aeb _ _ _ h.l1 h.l2,ax,er,ax];rcases kinds T with q|q|q|q|q|q|q|q|q<;>rw[q]<;>simp only[Int.reduceBEq,Int.reduceBNe,aq,av,Bool.or_true,Bool.or_false,Bool.true_or,Bool.false_or,Bool.or_self]
 ·have⟨C,Y⟩:=O (by omega);have⟨Z,r1⟩:=Oh U q
  refine(bz (λo=>Option.bind o _) (arF (c:=cz c x) x w.g w.a w.p h.zt C (by show x.ay<aL c.config.ak;omega) Z r1 (by show x.ay.toNat<c.bB.length;omega) (by show x.ay.toNat<c.guard.length;omega))).trans ?_
  rfl
 ·have⟨s,D⟩:=I (.inl q);have e:=ae3 (s.cz x);rw[Int.toNat_of_nonneg D]at e
  refine(bz (λo=>Option.bind o _) e).trans ?_
  rfl
 ·have⟨s,D⟩:=I (.inr q);have e:=ae3 (s.cz x);rw[Int.toNat_of_nonneg D]at e
  refine(bz (λo=>Option.bind o _) e).trans ?_
  rfl
 ·rfl
 ·have⟨C,Y⟩:=O (by omega);have⟨y,e4⟩:=arv h.rf (b:=x.ay) C (by omega)
  refine(bz (λo=>Option.bind o _) (aeU w.hB (cz c x) w.g w.a C (by show x.ay<aL c.config.ak;omega))).trans ?_
  rw[ax];unfold gn;dsimp only;rw[arz _ _ (by show c.pending.length<1000000;have:=h.w.p;omega),ax];dsimp only
  refine(bz (λo=>Option.bind o _) (aeV _ (by exact w.k) C (by show x.ay.toNat<c.bB.length;omega) (by show x.ay.toNat<c.guard.length;omega))).trans ?_
  rw[ax];unfold wm;dsimp only
  refine(bz (λo=>Option.bind o _) e4).trans ?_
  rfl
 ·have⟨y,e⟩:=N7 c.aN (k:=6) (by omega) c.now;rw[e,ax];rfl
 ·have⟨y,e⟩:=N7 c.aN (k:=7) (by omega) c.now;rw[e,ax];rfl
 ·have⟨y,e⟩:=N7 c.aN (k:=8) (by omega) c.now;rw[e,ax];rfl
 ·have⟨y,e⟩:=N7 c.aN (k:=9) (by omega) c.now;rw[e,ax]
  refine(bz (λo=>Option.bind o _) (arZ (c:=AX (cz c x) 9) ⟨w.hB,w.g,w.a,w.k,w.p,w.t,w.d,w.r⟩)).trans ?_
  rfl
def ar1{l m:aa Int}(h:l.length=m.length)(D:(l.zip m).all yB=true):(∀ x∈l,0 <= x/\x <= 100000) /\ ∀ x∈m,0 <= x/\x <= 100000:=by
 rw[bS]at D;have key:∀ i _ (E:i<m.length),(0 <= l[i]/\l[i] <= 100000)/\(0 <= m[i]/\m[i] <= 100000):=λi O E=>by
  have I:i<(l.zip m).length:=by rw[List.length_zip];omega
  have:=D _ (dc I);rw[List.getElem_zip]at this;simp[yB,aK,br]at this;exact this
 constructor
 ·intro x C;obtain⟨i,hi,rfl⟩:=jY.1 C
  grind
 ·intro x C;obtain⟨i,hi,rfl⟩:=jY.1 C;simp_all
def fz.wD{g:aH}{a:dj}(h:nj g a=true):fz g 100000 a:=by
 simp only[nj,aK,fq]at h;have⟨Z,C,D,E,I,O⟩:=h;have⟨T,U⟩:=ar1 (by omega) O
 refine⟨C,λc Y=>?_,D,E,T,U⟩
 exact Sy.of (bS.1 I c Y)
def Bs.of{c:au}(D:cG c)(h:cA c=true)(I:c.trace.length<10000):Bs c:=by
 have E:=Pq.of D h;have z1:c.box.bT.weights.length <= 1048576:=D.1.1;have h0:=h;simp only[cA,aK]at h;have⟨O,h2,h3,h4,T,U,h7,h8,C,yz,uQ,qc,oY,s7,s8,uF,AJ,CR,CS,E8,Ay,E9⟩:=h;have⟨f1,f2⟩:=CX (by omega) O;simp only[qt,aK]at f1;simp only[th,aK,ff,gk,qO,bS,gq]at C;have⟨C,Y,Z,g3,g4,g5,g6⟩:=C;have vn:=E.pl;have⟨hg,rl,ra⟩:=E3 T;have b1:=eG c.config.ak
 refine⟨⟨by decide,hg,fz.wD U,f1.2.2.2.2.2.1,by omega,Z,g3,Y⟩,λi hi=>?_,λa ha=>?_,D.2.2.2.2.2.2.1.2,C,E.p.bl,by omega,by omega,I⟩
 ·have hb:=g6 i hi;unfold AI at hb
  grind
 ·have⟨_,k1,k2,_⟩:=uK (E.pe a ha);simp_all
def qJ.of{c:au}(T:cG c)(h:cA c=true){n:Nat}(U:n<c.queue.length)(C:c.cc.length <= 1000):qJ c n 100000:=by
 have D:=Pq.of T h;simp[cA,aK]at h;have⟨h1,h2,h3,h4,h5,Y,h7,h8,h9,I,uQ,qc,oY,s7,s8,uF,AJ,CR,CS,Z,Ay,E9⟩:=h;simp[gD,aK,bS,gq]at I;have⟨O,q2⟩:=I
 refine⟨λr C=>Od D C,λr C=>(D.q r C).2.1,D.ql,D.sh,D.shl,λi hi=>?_,U,λr C=>?_,fz.wD Y,Z,C⟩
 ·cases i with
  |zero=>simp
  | succ i=>
   have E:=O _ hi;rw[NI hi]at E;simp_all
 ·obtain⟨i,hi,rfl⟩:=jY.1 C;have E:=O i hi;unfold rH at E;rw[bK hi]at E;simp[nZ,Un,aK,br]at E;simp_all
def AZ{g:aH}{B:Int}{a:dj}(h:fz g B a):NV a:=by
 have D:=h.cells;have E:=h.bu;have I:=h.bg;have O:=oV g;have T:=s9 g;exact⟨⟨by omega,λc C=>by unfold UI;rw[(h.syms c C).1];omega⟩,by omega,by omega⟩
def Vi{l:aa cJ}(h:l.length <= 1048576 /\ ∀y∈l,mG y){t:cJ}(C:mG t)(i:Nat):(l.set i t).length <= 1048576 /\ ∀y∈l.set i t,mG y:=by grind
def ae5{k:Int}(h:aT k 1 16=true):mG (oc k):=by
 have:=br.1 h;unfold oc mG
 grind
def ar2{t:cJ}(h:mG t)(row cF:Int):mG (mH t row cF).1:=by
 have C:=aeQ (t:=t) row;unfold mG at h ⊢;unfold mH
 grind
def ar3{c:au}(E:cG c)(I:c.ready.aZ.length <= 4)(ht:c.trace.length <= 10000)(x:aS):cG (cz c x):=by
 have⟨z1,C,⟨O,z4⟩,T,U,Y,Z,z9,nU,qC,rL,oU,rM,we⟩:=E;have D:=UG c.config.ak c.ready ⟨c.now,x⟩;refine⟨z1,by unfold aex at C ⊢;show (cR _ x).aE.length <= _;rw[ad7];exact C,⟨by show (fO _ _ _).last.length <= _;rw[D.1];exact O,Nat.le_trans (D.2 I) (by decide)⟩,T,U,Y,Z,z9,nU,qC,rL,oU,by simp[cz];omega,we⟩
def Oi{c:au}(D:cG c){a:dj}(E:NV a){r:eB}(I:E6 r){t:aa cJ}(O:t.length <= 1048576 /\ ∀ y∈t,mG y){C:aa Int}(T:C.length <= 1048576){pd:aa aP}(U:pd.length <= 1048576)(pw:ij):cG ⟨c.config,c.box,c.now,c.aI,c.ready,a,c.spare,r,t,C,pd,c.queue,c.shares,c.drain,pw,c.eg,c.errors,c.trace,c.cc⟩:=by
 have⟨z1,Y,Z,z5,z6,z7,z8,z9,nU,qC,rL,oU,rM,we⟩:=D;exact⟨z1,Y,Z,E,z6,I,O,T,U,qC,rL,oU,rM,we⟩
def ar4{c:au}(C:cG c)(h:wu 100000 c)(x:aS)(D:0 <= x.ay)(E:x.ay<aL c.config.ak)(I:0 <= x.row)(O:x.row<c.config.ak.rows):cG (uW c x):=by
 have zt:=C.2.2.2.2.2.2.1;have T:x.ay.toNat<c.bB.length:=by have:=h.t;omega
 have U:=h.p;refine Oi C (AZ (US h.g _ h.hB h.a D E I O)) C.2.2.2.2.2.1 (Vi zt ?_ _) C.2.2.2.2.2.2.2.1 ?_ _
 ·unfold rN;rw[iC];exact ar2 (zt.2 _ (dc T)) _ _
 ·have Y:(qF c x).length <= c.pending.length:=List.length_filter_le _ _;have Z:=aeT c.config.ak.rows x.row;have ha:=U8 x.ay (gR c.config.ak.rows x.row) (qF c x)
  grind
def ae6(r:eB)(b:Int):(lS r b).aD.length=r.aD.length:=by
 unfold lS;cases decide (r.aD.getD b.toNat 0 = -2)<;>simp
def ar5{c:au}(C:cG c)(h:wu 100000 c){b:Int}(D:0 <= b)(E:b<aL c.config.ak):cG (Jz c b):=by
 have⟨_,_,_,_,I,O,T,U⟩:=fY h.g;have zt:=C.2.2.2.2.2.2.1;have Y:=h.p;have Z:=arE (λa:aP=>!(a.ay==b)) c.pending;exact Oi C (AZ (Jt h.g _ h.hB h.a D E _ (by omega))) (by unfold E6;rw[ae6];exact C.2.2.2.2.2.1) (Vi zt (ae5 h.k) _) (by show (c.guard.set _ _).length <= _;rw[jb];exact C.2.2.2.2.2.2.2.1) (by show (c.pending.filter _).length <= _;omega) _
def ae7{l:aa cJ}(h:l.length<=1048576/\∀ y∈l,mG y){t:cJ}(C:mG t):∀ k:Nat,((List.range k).foldl (λd b=>d.set b t) l).length<=1048576/\∀ y∈(List.range k).foldl (λd b=>d.set b t) l,mG y
 |0=>h
 |k+1=>by rw[o6];exact Vi (ae7 h C k) C k
def ar6{c:au}(C:cG c)(h:wu 100000 c)(k:Nat)(D:(k:Int)<=aL c.config.ak):cG (iF c k []):=
 Oi C (AZ (N9 h.g c.config.dO h.hB h.a k D)) (by unfold E6;rw[wo];exact C.2.2.2.2.2.1) (ae7 C.2.2.2.2.2.2.1 (ae5 h.k) k) (by rw[wo];exact C.2.2.2.2.2.2.2.1) (by simp) c.aN
def ae8{l:aa cI}(n code:Int):(tE l n code).length <= l.length+1:=by
 unfold tE
 grind
def ae9{c:au}(I:cG c){i:Nat}(h:qJ c i 100000):cG (jq c i):=by
 have⟨z1,O,T,z5,U,Y,Z,z9,nU,qC,rL,oU,rM,we⟩:=I;have hi:=h.i;have Fh:=h.ql;have hr:=h.r;have⟨f1,f3,f4,f5,f6,f7,f8⟩:=h.facts (dc hi);have C:c.queue.getD i od=c.queue[i]:=iC _ hi;have D:=h.d _ (dc hi);have Sw:(C1 c.shares c.queue[i].dR).length <= 1048576:=by
  have⟨y,t,e,hl⟩:=U1 ((List.replicate 4 false).set c.queue[i].dR.toNat true) (by have:=h.shl;omega) h.sh (by simp[h.shl])
  grind
 have iq:c.errors.length <= 6:=by
  have E:=h.e;simp only[n5,aK,fq]at E;omega
 have key:∀ (a:dj) (e:aa cI) (x:eJ),NV a -> e.length <= 100 -> cG (qI c i a e x):=λa e x ha E=>
  ⟨z1,O,T,ha,U,Y,Z,z9,nU,by simp[qI];omega,by unfold qI;rw[C];exact Sw,by show e.length <= _;omega,rM,by simp[qI];omega⟩
 unfold jq;rw[C];dsimp only;cases c.queue[i].write with
 |true=>exact key _ _ _ (AZ (h.a.Jg _ (c:=⟨_,false⟩) (Ve D.1 D.2).2.1)) (by omega)
 | false=>
  rw[av,iC _ f4];refine key _ _ _ (AZ (h.a.Jg _ (Vc (h.a.syms _ (dc f4))))) ?_;have:=ae8 (l:=c.errors) (tu c.config.ak (iB c c.queue[i].line):Int) (kI c.array.cells[tu c.config.ak (iB c c.queue[i].line)]);cases kI c.array.cells[tu c.config.ak (iB c c.queue[i].line)] != 0 with
  |true=>grind
  |false=>grind
end Go.Proofs.YtgjfmljpdnnihaaGreat
