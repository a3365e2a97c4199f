/-
  Plain laws. Nothing here is a claim.
-/
import Derived.Test.YtgjfmljpdnnihaaGreatVZ
import Derived.Test.YtgjfmljpdnnihaaGreatOpenV
import Derived.Test.YtgjfmljpdnnihaaGreatG1
import Derived.Test.YtgjfmljpdnnihaaGreatG2
import Derived.Test.YtgjfmljpdnnihaaGreatG3
import Derived.Test.YtgjfmljpdnnihaaGreatG4
import Derived.Test.YtgjfmljpdnnihaaGreatG5
import Derived.Test.YtgjfmljpdnnihaaGreatG6
import Derived.Test.YtgjfmljpdnnihaaGreatGX
namespace Go.Proofs.YtgjfmljpdnnihaaGreat
set_option linter.defProp false
open Go.RowKit
set_option linter.unusedVariables false
set_option linter.unusedSimpArgs false
set_option maxRecDepth 100000
def bf{n:Int}(C:-9223372036854775808<=n:=by omega)(D:n<9223372036854775808:=by omega):W6 n=n:=by
 exact(IntKind.wrap_i64 n).trans (by omega)
def acY{α β:Type}{step:α -> aj (α⊕β)}(I:α -> Prop)(m:α -> Nat)(Q:β -> Prop)
  (h:∀x,I x -> (∃y,step x=some (.inl y)/\I y/\m y<m x) \/ ∃z,step x=some (.inr z)/\Q z):
  ∀(n:Nat) (x:α),I x -> m x<n -> ∃z,iter step n x=some z/\Q z
 |0,x,_,E=>by omega
 | n+1,x,O,E=>by
  unfold iter;rcases h x O with ⟨y,C,D,T⟩|⟨z,C,D⟩
  ·rw[C];exact acY I m Q h n y D (by omega)
  ·simp_all
def au{α β:Type}(x:α)(f:α->aj β):(some x).bind f=f x:=rfl
def jB{α β T:Type}{step:α -> aj (α⊕β)}(l:aa T)(q:T -> Bool)(S:Nat -> α)(D z:β)(fuel:Nat)(I:∀ k (h:k<l.length),step (S k)=some (bif q l[k]then .inl (S (k+1))else .inr D))(O:step (S l.length)=some (.inr z))(C:l.length<fuel):
  iter step fuel (S 0)=some (bif l.all q then z else D):=by
 have key:∀ (n i fuel:Nat),i+n=l.length -> n<fuel -> iter step fuel (S i)=some (bif (l.drop i).all q then z else D):=by
  intro n
  induction n with
  | zero=>
   intro i fuel hi C
   match fuel,C with
   | f+1,_=>
    have:i=l.length:=by omega
    subst this;unfold iter;simp_all
  | succ n U=>
   intro i fuel hi C
   match fuel,C with
   | f+1,C=>
    have E:i<l.length:=by omega
    unfold iter;rw[I i E,List.drop_eq_getElem_cons E,List.all_cons];cases q l[i]with
    |true=>grind
    |false=>rfl
 exact key l.length 0 fuel (by omega) C
def eE{α β:Type}{step:α -> aj (α⊕β)}(n:Nat)(S:Nat -> α)(z:β)(fuel:Nat)(E:∀ k,k<n -> step (S k)=some (.inl (S (k+1))))(D:step (S n)=some (.inr z))(C:n<fuel):iter step fuel (S 0)=some z:=by
 have key:∀ (m i fuel),i+m=n -> m<fuel -> iter step fuel (S i)=some z:=by
  intro m
  induction m with
  | zero=>
   intro i fuel hi C
   match fuel,C with
   | f+1,_=>
    have:i=n:=by omega
    subst this;unfold iter;rw[D]
  | succ m I=>
   intro i fuel hi C
   match fuel,C with
   | f+1,C=>
    unfold iter
    grind
 simp_all
def TN{α β:Type}{step:α -> aj (α⊕β)}(n:Nat)(I:Nat -> α -> Prop)(Q:β -> Prop){x:α}(fuel:Nat)(Y:I 0 x)(E:∀ k,k<n -> ∀ x,I k x -> ∃ y,step x=some (.inl y)/\I (k+1) y)(O:∀ x,I n x -> ∃ z,step x=some (.inr z)/\Q z)(C:n<fuel):∃ z,iter step fuel x=some z/\Q z:=by
 have key:∀ (m i fuel:Nat) (x:α),i+m=n -> m<fuel -> I i x -> ∃ z,iter step fuel x=some z/\Q z:=by
  intro m
  induction m with
  | zero=>
   intro i fuel x hi C D
   match fuel,C with
   | f+1,_=>
    have:i=n:=by omega
    subst this;have⟨z,T,U⟩:=O x D;unfold iter;simp_all
  | succ m Z=>
   intro i fuel x hi C D
   match fuel,C with
   | f+1,C=>
    have⟨y,T,U⟩:=E i (by omega) x D;unfold iter
    grind
 grind
def acZ{α β:Type}{step:α -> aj (α⊕β)}(n:Nat)(I:Nat -> α -> Prop)(Q:β -> Prop){x:α}(fuel:Nat)(E:I 0 x)(T:∀ k,k<n -> ∀ x,I k x -> (∃ y,step x=some (.inl y)/\I (k+1) y) \/ ∃ z,step x=some (.inr z)/\Q z)(O:∀ x,I n x -> ∃ z,step x=some (.inr z)/\Q z)(C:n<fuel):∃ z,iter step fuel x=some z/\Q z:=by
 have key:∀ (m i fuel:Nat) (x:α),i+m=n -> m<fuel -> I i x -> ∃ z,iter step fuel x=some z/\Q z:=by
  intro m
  induction m with
  | zero=>
   intro i fuel x hi C D
   match fuel,C with
   | f+1,_=>
    have:i=n:=by omega
    subst this;have⟨z,U,Y⟩:=O x D;unfold iter;simp_all
  | succ m Z=>
   intro i fuel x hi C D
   match fuel,C with
   | f+1,C=>
    unfold iter
    grind
 exact key n 0 fuel x (by omega) C E
def upto{α:Type}(f:α->α)(l:aa α)(i:Nat):aa α:=(l.take i).map f++l.drop i
def M8{α:Type}(f:α->α)(l:aa α)(i:Nat):(upto f l i).length=l.length:=by
 simp[upto];omega
def ac0{α:Type}(f:α->α)(l:aa α):upto f l 0=l:=by simp[upto]
def TO{α:Type}(f:α->α)(l:aa α):upto f l l.length=l.map f:=by simp[upto]
def TP{α:Type}(f:α -> α)(l:aa α)(i:Nat)(h:i<l.length)(C:i<(upto f l i).length):(upto f l i)[i]=l[i]:=by
 simp[upto]
 grind
def TQ{α:Type}(f:α -> α)(l:aa α)(i:Nat)(h:i<l.length):(upto f l i).set i (f l[i])=upto f l (i+1):=by
 have C:min i l.length=i:=by omega
 have e:=List.drop_eq_getElem_cons h;simp only[upto];rw[List.set_append_right _ _ (by simp;omega),e,List.take_succ_eq_append_getElem h];simp only[List.map_append,List.map_cons,List.map_nil,eN,kG,C,Nat.sub_self,List.set_cons_zero,List.append_assoc,List.cons_append,List.nil_append]
def kS{x y:Int}(h:¬ x=y):(x==y)=false:=by simp[h]
def gU{x y:Int}(h:¬ x=y):(x != y)=true:=by simp[h]
def fe{n:Nat}(h:n<1073741824:=by omega):cv n=true:=aZ h
def bT{i:Nat}(h:i<4611686018427387904:=by omega):W6 ((i:Int)+1)=((i+1:Nat):Int):=by
 rw[bf];simp
def bZ{n:Nat}(h:n<1073741824:=by omega):n<br:=by unfold br;omega
def aQ(x a b:Int):Bool:=decide (a<=x)&&decide (x<=b)
def bh{x a b:Int}:aQ x a b=true ↔ a<=x/\x<=b:=by simp[aQ]
def cI(x a b:Int):bO x a b=some (aQ x a b):=by
 unfold bO aQ;by_cases h:a<=x<;>simp[h]
def aoL(x a b:Int):El x a b=some (aQ x a b):=cI x a b
def cg(g:aF):Bool:=aQ g.bD 1 2&&aQ g.aD 1 4&&aQ g.rows 2 16&&aQ g.aM 1 8
def pU(g:aF):m0 g=some (cg g):=by
 unfold m0 cg;simp[cI]
 grind
def ac1(g:aF):Im g=some (cg g):=by
 unfold Im cg;simp[aoL]
 grind
def fW{g:aF}(h:cg g=true):1<=g.bD/\g.bD<=2/\1<=g.aD/\g.aD<=4/\2<=g.rows/\g.rows<=16/\1<=g.aM/\g.aM<=8:=by
 simp only[cg,aQ,aJ,fI]at h;omega
def aL(g:aF):Int:=bif cg g then g.bD*g.aD else 0
def ef(g:aF):0 <= aL g/\aL g <= 8:=by
 unfold aL;cases h:cg g with
 |false=>simp
 | true=>
  have⟨C,D,E,I,_⟩:=fW h;simp;rcases(by omega:g.bD=1 \/ g.bD=2)with e|e<;>rw[e]<;>omega
def M9{g:aF}(h:cg g=true):1 <= aL g:=by
 have⟨C,D,E,I,_⟩:=fW h;simp[aL,h,aq];rcases(by omega:g.bD=1 \/ g.bD=2)with e|e<;>rw[e]<;>omega
def jo(g:aF):jA g=some (aL g):=by
 have hb:=ef g;unfold jA;rw[pU,au];unfold aL at hb ⊢;cases h:cg g with
 |false=>rfl
 | true=>
  rw[h]at hb;simp at hb;simp;rw[bf]
def TR(g:aF):Em g=some (aL g):=by
 have hb:=ef g;unfold Em;rw[ac1,au];unfold aL at hb ⊢;cases h:cg g with
 |false=>rfl
 | true=>
  rw[h]at hb;simp at hb;simp;rw[bf]
def fF(g:aF):Int:=bif cg g then aL g*g.rows else 0
def eK(g:aF):Int:=bif cg g then aL g*g.rows*g.aM else 0
def TS{a b A B:Int}(D:0<=a)(E:a<=A)(C:0<=b)(I:b<=B):0<=a*b/\a*b<=A*B:=
 ⟨Int.mul_nonneg D C,Int.le_trans (Int.mul_le_mul_of_nonneg_right E C) (Int.mul_le_mul_of_nonneg_left I (by omega))⟩
def sD(g:aF):0 <= fF g/\fF g <= 128:=by
 unfold fF;cases h:cg g with
 |false=>simp
 | true=>
  have⟨_,_,_,_,D,C,_⟩:=fW h;have:=ef g;exact TS this.1 this.2 (by omega) C
def oF(g:aF):0 <= eK g/\eK g <= 1024:=by
 have C:=sD g;unfold eK fF at *
 cases h:cg g with
 |false=>simp
 | true=>
  rw[h]at C;have⟨_,_,_,_,E,I,O,D⟩:=fW h;exact TS C.1 C.2 (by omega) D
def Ac(g:aF):su g=some (eK g):=by
 have C:=oF g;have D:=sD g;unfold su;rw[jo,au];unfold eK fF at *
 cases h:cg g with
 |false=>simp only[aL,h,av,Int.zero_mul];rw[show W6 0=0 from rfl,Int.zero_mul];rfl
 | true=>
  rw[h]at C D;simp only[aq]at C D;simp only[aq];rw[bf (n:=aL g*g.rows),bf]
def aoM(g:aF):MK g=some (eK g):=by
 have C:=oF g;have D:=sD g;unfold MK;rw[ac1,au,TR,au];unfold eK fF at *
 cases h:cg g with
 |false=>rfl
 | true=>
  rw[h]at C D;simp at C D;simp;rw[bf (n:=aL g*g.rows),bf]
def dU(g:aF)(a:aN):Bool:=cg g&&aQ a.aA 0 (aL g-1)&&aQ a.row 0 (g.rows-1)&&aQ a.bX 0 (g.aM-1)
def sE{g:aF}{a:aN}(h:dU g a=true):cg g=true/\0 <= a.aA/\a.aA<aL g/\0 <= a.row/\a.row<g.rows/\0 <= a.bX/\a.bX<g.aM:=by
 simp[dU,aQ,aJ,fI]at h
 grind
def vo{g:aF}{a:aN}(h:cg g=true)(C:0 <= a.aA)(D:a.aA<aL g)(E:0 <= a.row)(I:a.row<g.rows)(O:0 <= a.bX)(T:a.bX<g.aM):dU g a=true:=by
 simp[dU,aQ,aJ,fI]
 grind
def B7(g:aF)(a:aN):xw g a=some (dU g a):=by
 unfold xw dU;simp[pU,jo,cI,au];have hb:=ef g;cases h:cg g with
 |false=>rfl
 | true=>
  have⟨_,_,_,_,C,D,E,I⟩:=fW h;rw[bf,bf,bf]
  grind
def B8{b n r R:Int}(C:0 <= b)(D:b<n)(E:0 <= r)(I:r<R):0 <= b*R/\0 <= b*R+r/\b*R+r<n*R:=by
 have O:0 <= b*R:=Int.mul_nonneg C (by omega);have T:(b+1)*R <= n*R:=Int.mul_le_mul_of_nonneg_right (by omega) (by omega)
 grind
def uc(g:aF)(a:aN):Int:=bif dU g a then (a.aA*g.rows+a.row)*g.aM+a.bX else -1
def ac2{g:aF}{a:aN}(h:dU g a=true):0 <= uc g a/\uc g a<eK g/\0 <= a.aA*g.rows/\0 <= a.aA*g.rows+a.row/\a.aA*g.rows+a.row<fF g/\0 <= (a.aA*g.rows+a.row)*g.aM:=by
 have⟨C,D,E,I,O,T,U⟩:=sE h;have⟨r0,Y,Z⟩:=B8 D E I O;have⟨l0,l1,l2⟩:=B8 Y Z T U;simp[uc,h,eK,fF,C,aq];omega
def Er(g:aF)(a:aN):zV g a=some (uc g a):=by
 unfold zV;rw[B7,au];cases h:dU g a with
 |false=>simp[uc,h]
 | true=>
  have hb:=ac2 h;have D:=oF g;have E:=sD g;have⟨C,I,O,T,U,Y,Z⟩:=sE h;have⟨_,_,_,_,g5,g6,g7,g8⟩:=fW C;simp only[uc,h,aq]at hb ⊢;simp only[bI,av];rw[bf (n:=a.aA*g.rows),bf (n:=a.aA*g.rows+a.row),bf (n:=(a.aA*g.rows+a.row)*g.aM),bf]
def Ix{α β:Type}{step:α -> aj (α⊕β)}(S:Nat -> α){z:β}:∀ (n i fuel:Nat),(∀ k,i <= k -> k<i+n -> step (S k)=some (.inl (S (k+1)))) -> step (S (i+n))=some (.inr z) -> n<fuel -> iter step fuel (S i)=some z
 | 0,i,fuel,_,C,D=>by
  match fuel,D with
  |f+1,_=>unfold iter;rw[Nat.add_zero]at C;rw[C]
 | n+1,i,fuel,E,C,D=>by
  match fuel,D with
  | f+1,D=>
   unfold iter;rw[E i (dz _) (by omega)];exact Ix S n _ f (λk I O=>E k (by omega) (by omega)) (by rw[show i+1+n=i+(n+1) by omega];exact C) (by omega)
def Es{i:Nat}(h:i<4611686018427387904:=by omega):W6 ((i:Int)+1)=((i+1:Nat):Int):=by
 rw[bf];simp
def ac3(y:Int):0 <= bits .and .i64 y 255/\bits .and .i64 y 255 <= 255:=by
 have e:bits .and .i64 y 255=IntKind.wrap .i64 ((BitVec.ofInt 64 y &&& BitVec.ofInt 64 255).toNat):=rfl;have h:(BitVec.ofInt 64 y &&& BitVec.ofInt 64 255).toNat <= 255:=by
  exact Nat.le_trans Nat.and_le_right (by decide)
 rw[e,IntKind.wrap_i64];omega
structure jS (b:List Int) (c:bz):Prop where
 eq:c.b=b
 lo:0<=c.i
 hi:c.i<=b.length
 len:b.length<=1073741823
def jS.eta{b:aa Int}{c:bz}(h:jS b c):(⟨b,c.i,c.h⟩:bz)=c:=by
 have⟨C,i,D⟩:=c;have:=h.eq;simp_all
def Dr{α:Type}(b:aa Int)(f:aj (α×(bz×ah)))(P:α->Prop):Prop:=∃x c,f=some (x,(c,()))/\jS b c/\P x
def Dr.bind{α β:Type}{b:aa Int}{f:aj (α×(bz×ah))}{g:α×(bz×ah) -> aj (β×(bz×ah))}{P:α -> Prop}{Q:β -> Prop}(h:Dr b f P)(C:∀ x c,P x -> jS b c -> Dr b (g (x,(c,()))) Q):Dr b (f.bind g) Q:=by
 have⟨x,c,D,E,I⟩:=h;simp_all
def Dr.pure{α:Type}{b:aa Int}{x:α}{c:bz}{P:α->Prop}(C:jS b c)(D:P x):Dr b (some (x,(c,()))) P:=⟨x,c,rfl,C,D⟩
def aoN(l:aa Int)(h:l.length<=1073741823):∃ y,Ik l=some y:=by
 unfold Ik bQ;obtain⟨z,C,I⟩:=acY (step:=Ij)
  (λx=>∃(i:Nat) (y:Int),x=(((),y,(i:Int),()),(l,()))/\i<=l.length)
  (λx=>l.length-x.1.2.2.1.toNat) (λz=>∃ y,(Sum.elim (λO:((ah×Int×ah)×((aa Int)×ah))=>some O.1.2.1) (λz=>nomatch z)) z=some y) (by
   rintro x ⟨i,y,rfl,hi⟩;unfold Ij aK xG xI;dsimp only;by_cases D:i<l.length
   ·have E:decide ((i:Int)<(l.length:Int))=true:=by simpa using D
    have T:0<=(i:Int)/\(i:Int).toNat<l.length:=⟨by omega,by simpa using D⟩
    rw[E,aq];cases U:decide ((i:Int)<4000)with
    | true=>
     rw[aq,aO T];left;refine⟨_,rfl,⟨i+1,_,by rw[Es],by omega⟩,?_⟩;dsimp only;rw[Es];omega
    | false=>
     rw[av];right;exact⟨_,rfl,_,rfl⟩
   ·have E:decide ((i:Int)<(l.length:Int))=false:=by simpa using D
    rw[E,av];right;exact⟨_,rfl,_,rfl⟩)
  br (((),(W6 ((97301:Int)+(l.length:Int))),((0:Nat):Int),()),(l,())) ⟨0,_,rfl,by omega⟩ (by dsimp only;unfold br;omega)
 have C:iter Ij br (((),(W6 ((97301:Int)+(l.length:Int))),(0:Int),()),(l,()))=some z:=C;rw[C];exact I
def aoO(l:aa Int)(y:Int)(h:l.length<=1073741823):jS l ⟨l,0,y⟩:=⟨rfl,eW _,by simp,h⟩
def Iy{b:aa Int}{c:bz}(C:jS b c):Dr b (Aa c) λx=>0<=x/\x<=255:=by
 have hb:=C.eq;have E:=C.lo;have O:=C.hi;have I:=C.len;unfold Aa xI;by_cases h:c.i<(c.b.length:Int)
 ·have D:decide (c.i<(c.b.length:Int))=true:=by simpa using h
  rw[D,aq,aO ⟨E,by omega⟩];refine Dr.pure ⟨hb,?_,?_,I⟩ (ac3 _)
  ·show 0<=W6 (c.i+1);rw[hb]at h;rw[bf];omega
  ·show W6 (c.i+1)<=_;rw[hb]at h;rw[bf];omega
 ·have D:decide (c.i<(c.b.length:Int))=false:=by simpa using h
  rw[D,av];exact Dr.pure ⟨hb,E,O,I⟩ (ac3 _)
def ac4{x n:Int}(h:0<=x)(C:0<n):0<=x.tmod n/\x.tmod n<n:=by
 rw[ru h];exact⟨Int.emod_nonneg _ (by omega),Int.emod_lt_of_pos _ C⟩
def fh{b:aa Int}{c:bz}(C:jS b c)(n:Int):Dr b (eS c n) λx=>0 <= x/\(n <= 0 -> x=0)/\(0<n -> x<n):=by
 unfold eS;by_cases U:n <= 0
 ·have O:decide (n <= 0)=true:=by simpa using U
  rw[O];exact Dr.pure C ⟨eW _,λ_=>rfl,λh=>by omega⟩
 ·have O:decide (n <= 0)=false:=by simpa using U
  have Y:¬ n=0:=by omega
  rw[O];by_cases Z:n <= 256
  ·have T:decide (n <= 256)=true:=by simpa using Z
   rw[T,aq]
   refine(Iy C).bind λx c' hx hc'=>?_
   rw[aW Y];rw[C.eq,hc'.eta];have:=ac4 hx.1 (show 0<n by omega);exact Dr.pure hc' ⟨this.1,λh=>by omega,λ_=>this.2⟩
  ·have T:decide (n <= 256)=false:=by simpa using Z
   rw[T,av,C.eq]
   refine(Iy C).bind λD k1 P4 zx=>?_
   dsimp only;rw[zx.eta]
   refine(Iy zx).bind λE k2 Jz qT=>?_
   dsimp only;rw[qT.eta]
   refine(Iy qT).bind λI k3 Zt tQ=>?_
   dsimp only;rw[tQ.eta]
   refine(Iy tQ).bind λx4 k4 hx4 vh=>?_
   rw[aW Y];dsimp only;rw[vh.eta];rw[bf (n:=D*16777216),bf (n:=E*65536),bf (n:=D*16777216+E*65536),bf (n:=I*256),bf (n:=D*16777216+E*65536+I*256),bf (n:=D*16777216+E*65536+I*256+x4)];have:=ac4 (x:=D*16777216+E*65536+I*256+x4) (by omega) (show 0<n by omega);exact Dr.pure vh ⟨this.1,λh=>by omega,λ_=>this.2⟩
def aoP(x a b:Int):bO x a b=some (decide (a <= x)&&decide (x <= b)):=by
 unfold bO
 grind
def aoQ{x a b:Int}(h:a<=x)(C:x<=b):bO x a b=some true:=by
 rw[aoP,aZ h,aZ C];rfl
def opens:Nat->aa dK->aa Int
 |_,[]=>[]
 |i,b::bs=>bif b.open_ then (i:Int)::opens (i+1) bs else opens (i+1) bs
def ac5(i:Nat)(a b:aa dK):opens i (a++b)=opens i a++opens (i+a.length) b:=by
 induction a generalizing i with
 |nil=>simp[opens]
 | cons x a C=>
  simp[List.cons_append,opens]
  grind
def ac6(i:Nat)(l:aa dK):(opens i l).length <= l.length:=by
 induction l generalizing i with
 |nil=>simp[opens]
 | cons x a C=>
  have:=C (i+1);simp[opens]
  grind
def ud{α:Type}{l:aa α}{i:Nat}(h:i<l.length):l.take (i+1)=l.take i++[l[i]]:=by
 rw[List.take_succ_eq_append_getElem h]
def Na(r:bL)(h:r.aD.length<1073741823):zI r=some (opens 0 r.aD):=by
 unfold zI bQ;have e:=Ix (step:=DO) (λi=>(((),r.aD,(r.aD.length:Int),(i:Int),()),(opens 0 (r.aD.take i),()))) (z:=.inl (((),()),(opens 0 r.aD,()))) r.aD.length 0 br (λk _ C=>?_) ?_ (by unfold br;omega)
 ·have e:iter DO br (((),r.aD,r.aD.length,0,()),(([]),()))=_:=e;simp_all
 ·have C:k<r.aD.length:=by omega
  unfold DO aK xG xI;dsimp only;have D:decide ((k:Int)<(r.aD.length:Int))=true:=aZ;have E:0 <= (k:Int)/\(k:Int).toNat<r.aD.length:=⟨by omega,by simpa using C⟩
  have hl:=ac6 0 (r.aD.take k);rw[kG]at hl;have I:cv ((opens 0 (r.aD.take k)).length+([(k:Int)]:aa Int).length)=true:=by
   unfold cv;simp;omega
  rw[D,aq,aO E,Es,ud C,ac5];simp only[bA,opens,kG,ff,Nat.min_eq_left (Nat.le_of_lt C)];cases r.aD[k].open_ with
  |true=>grind
  |false=>grind
 ·rw[ff];unfold DO aK xG xI;simp_all
def gmT:Nat:=116196760129267793630862849262464326346044543732748708940920453221664288556434379745879494961270582141731748813355742142288220638766218855867759359510984593843506004200114943278699875244065120512813025380665946106619127097398772031257643617143689515450995722003729973585221105779229319991106539050771048038400
def gm(a b:Nat):Nat:=(gmT / 2 ^ (4*(16*a+b))) % 16
def pwT:Nat:=44684875893970114885940500792407720993
def pw(n:Nat):Nat:=(pwT / 2 ^ (4*n)) % 16
def pW(f:Nat->Bool):Bool:=(List.range 16).all f
def mA{f:Nat->Bool}(h:pW f=true){a:Nat}(C:a<16):f a=true:=by
 have:=bN.1 h a (fA.2 C);exact this
def gE(a b:Nat):gm a b<16:=Nat.mod_lt _ (by decide)
def ac7(n:Nat):pw n<16:=Nat.mod_lt _ (by decide)
def aoR:(pW λa=>pW λb=>jn (Int.ofNat a) (Int.ofNat b)==some (Int.ofNat (gm a b)))=true:=by kernel_rfl
def aoS:((List.range 31).all λn=>HN 2 (Int.ofNat n)==some (Int.ofNat (pw n)))=true:=by kernel_rfl
def ac8:(pW λa=>pW λb=>decide (bits .xor .i64 (Int.ofNat a) (Int.ofNat b)=Int.ofNat (a ^^^ b))&&Nat.blt (a ^^^ b) 16)=true:=by kernel_rfl
def aoT:(pW λa=>Nat.beq (gm a 1) a&&Nat.beq (gm 0 a) 0)=true:=by kernel_rfl
def aoU:(pW λC=>pW λs1=>pW λs2=>
  (λy z=>(λx=>Nat.beq (gm x 1 ^^^ (gm y 1 ^^^ (gm z 1 ^^^ C))) 0&&Nat.beq (gm x 1 ^^^ (gm y 2 ^^^ (gm z 4 ^^^ s1))) 0&&Nat.beq (gm x 1 ^^^ (gm y 4 ^^^ (gm z 3 ^^^ s2))) 0) (C ^^^ y ^^^ z))
   (gm (gm 2 (C ^^^ s1) ^^^ gm 5 (C ^^^ s2)) 13) (gm (gm 3 (C ^^^ s2) ^^^ gm 5 (C ^^^ s1)) 13))=true:=by kernel_rfl
def aoV:B3 4=some 13:=by kernel_rfl
def B9{a b:Nat}(C:a<16)(hb:b<16):jn (a:Int) (b:Int)=some (gm a b:Int):=by
 have h:=mA (mA aoR C) hb;exact eq_of_beq h
def aoW{n:Nat}(h:n<31):HN 2 (n:Int)=some (pw n:Int):=eq_of_beq (bN.1 aoS n (fA.2 h))
def vp{a b:Nat}(C:a<16)(hb:b<16):bits .xor .i64 (a:Int) (b:Int)=((a ^^^ b:Nat):Int):=by
 have h:=mA (mA ac8 C) hb;simp_all
def mB{a b:Nat}(C:a<16)(hb:b<16):a ^^^ b<16:=by
 have h:=mA (mA ac8 C) hb;simp_all
def aoX{a:Nat}(C:a<16):gm 0 a=0:=by
 have h:=mA aoT C;rw[aJ]at h;exact cE h.2
abbrev cA (w:aa Nat):aa Int:=w.map λ(n:Nat)=>(n:Int)
def jT(w:aa Nat):Prop:=∀x∈w,x<16
def vr(w:aa Nat):(cA w).length=w.length:=by simp[cA]
def TT{w:aa Nat}{k:Nat}(h:k<(cA w).length):(cA w)[k]=((w.getD k 0:Nat):Int):=by grind
def jT.get{w:aa Nat}(h:jT w)(k:Nat):w.getD k 0<16:=by
 by_cases C:k<w.length
 ·simp[cW,bH C];exact h _ (dg C)
 ·simp_all
def TU{w:aa Nat}(E:jT w)(hl:w.length<1000)(n:Int):vk (cA w) n=some ((w.length:Int)==n):=by
 unfold vk cH;have e:=Ix (step:=zJ) (λi=>((cA w,n,cA w,((cA w).length),i,()),())) (z:=.inr (.inl ((cA w,n,()),()))) w.length 0 br (λk _ C=>?_) ?_ (by unfold br;omega)
 ·simp_all
 ·have C:k<(cA w).length:=by rw[vr];omega
  unfold zJ aK bF xG xI;dsimp only;have I:decide ((k:Int)<((cA w).length:Int))=true:=aZ;have D:0 <= (k:Int)/\(k:Int).toNat<(cA w).length:=⟨by omega,by simpa using C⟩
  rw[I,aq,aO D];have O:(cA w)[(k:Int).toNat]'D.2=((w.getD k 0:Nat):Int):=TT C;rw[O];have:=E.get k;unfold sv;rw[aoQ (by omega) (by omega),au,au,Es];rfl
 ·unfold zJ aK bF xG xI;simp_all
def dN(w:aa Nat)(j:Nat):Nat->Nat
 |0=>0
 |i+1=>dN w j i ^^^ gm (w.getD i 0) (pw (i*j))
def xH(w:aa Nat)(j:Nat):∀ i,dN w j i<16
 |0=>Nat.zero_lt_succ _
 |i+1=>mB (xH w j i) (gE _ _)
def aoY{w:aa Nat}(O:jT w)(hl:w.length=11)(j:Nat)(hj:j<3)(a b:Int)(o:aa Int)(T:j<o.length)(U:o.set j 0=o):
  iter B2 br ((cA w,(),(j:Int),a,b,cA w,((cA w).length:Int),(0:Int),()),(o,()))=some (.inl ((cA w,(),a,b,()),(o.set j (dN w j 11:Int),()))):=by
 have e:=Ix (step:=B2) (λi=>((cA w,(),(j:Int),a,b,cA w,((cA w).length:Int),(i:Int),()),(o.set j (dN w j i:Int),()))) (z:=.inl ((cA w,(),a,b,()),(o.set j (dN w j 11:Int),()))) 11 0 br (λk _ D=>?_) ?_ (by unfold br;omega)
 ·have e:iter B2 br ((cA w,(),(j:Int),a,b,cA w,((cA w).length:Int),(0:Int),()),(o.set j 0,()))=_:=e;rw[U]at e;exact e
 ·have D:k<(cA w).length:=by rw[vr];omega
  unfold B2 aK xG xI xL;dsimp only;have E:decide ((k:Int)<((cA w).length:Int))=true:=aZ;have I:0<=(k:Int)/\(k:Int).toNat<(cA w).length:=⟨by omega,by simpa using D⟩
  have C:0<=(j:Int)/\(j:Int).toNat<(o.set j (dN w j k:Int)).length:=⟨by omega,by simpa using T⟩
  have Y:(cA w)[(k:Int).toNat]'I.2=((w.getD k 0:Nat):Int):=TT D;have Z:(o.set j (dN w j k:Int))[(j:Int).toNat]'C.2=(dN w j k:Int):=List.getElem_set_self _;rw[E,aq,aO I,aO C,aO C.2,Y,Z];have Wl:k*j<=20:=Nat.le_trans (Nat.mul_le_mul (show k<=10 by omega) (show j<=2 by omega)) (by decide);have c6:W6 ((k:Int)*(j:Int))=((k*j:Nat):Int):=by
   rw[<-Int.natCast_mul,bf]
  rw[c6,aoW (by omega),au,B9 (O.get k) (ac7 _),au,aO C,aO C.2,vp (xH _ _ _) (gE _ _),Es];have c7:(o.set j (dN w j k:Int)).set (j:Int).toNat ((dN w j k ^^^ gm (w.getD k 0) (pw (k*j)):Nat):Int)=o.set j (dN w j (k+1):Int):=List.set_set ..;rw[c7]
 ·unfold B2 aK xG xI xL;dsimp only;have E:decide (((0+11:Nat):Int)<((cA w).length:Int))=false:=bu (by rw[vr];omega);rw[E,av]
def sF(w:aa Nat):Nat->aa Int
 |0=>[0,0,0]
 |1=>[(dN w 0 11:Int),0,0]
 |2=>[(dN w 0 11:Int),(dN w 1 11:Int),0]
 |_=>[(dN w 0 11:Int),(dN w 1 11:Int),(dN w 2 11:Int)]
def TV{w:aa Nat}(D:jT w)(hl:w.length=11):zX (cA w)=some [(dN w 0 11:Int),(dN w 1 11:Int),(dN w 2 11:Int)]:=by
 unfold zX bQ;have c0:((w.length:Int)==(11:Int))=true:=by rw[hl];rfl
 rw[TU D (by omega),c0,au];have e:=Ix (step:=Ed) (λj=>((cA w,(),(3:Int),(j:Int),()),(sF w j,()))) (z:=.inl (((),()),(sF w 3,()))) 3 0 br (λk _ I=>?_) ?_ (by unfold br;omega)
 ·have e:iter Ed br ((cA w,(),((List.replicate (3:Int).toNat (0:Int)).length:Int),(0:Int),()),(List.replicate (3:Int).toNat (0:Int),()))=_:=e;rw[show (!true)=false from rfl,av,aV (by decide),e];rfl
 ·unfold Ed aK xG bQ;dsimp only;have E:decide ((k:Int)<(3:Int))=true:=aZ;have C:sF w k=(sF w k).set k 0/\k<(sF w k).length/\(sF w k).set k (dN w k 11:Int)=sF w (k+1):=by
   have:k=0\/k=1\/k=2:=by omega
   rcases this with rfl|rfl|rfl
   ·exact⟨rfl,by simp[sF],rfl⟩
   ·exact⟨rfl,by simp[sF],rfl⟩
   ·exact⟨rfl,by simp[sF],rfl⟩
  rw[E,aq,aoY D hl k (by omega) (3:Int) (k:Int) (sF w k) C.2.1 C.1.symm,C.2.2];show some (Sum.inl ((cA w,(),(3:Int),W6 ((k:Int)+1),()),(sF w (k+1),())))=_;rw[Es]
 ·unfold Ed aK xG bQ;dsimp only;rfl
def aoZ{w:aa Nat}(C:jT w)(hl:w.length=11):Mf (cA w)=some (Nat.beq (dN w 0 11) 0&&(Nat.beq (dN w 1 11) 0&&Nat.beq (dN w 2 11) 0)):=by
 unfold Mf xL;rw[TV C hl,au];generalize dN w 0 11=a;generalize dN w 1 11=b;generalize dN w 2 11=c;have q:∀ n:Nat,((n:Int)==(0:Int))=Nat.beq n 0:=by
  intro n;cases n with
  |zero=>rfl
  |succ n=>rfl
 show (bif ((a:Int)==(0:Int))then (bif ((b:Int)==(0:Int))then some ((c:Int)==(0:Int))else some false)else some false)=_
 grind
def ao0(C D E:Nat)(I:C<16)(O:D<16)(T:E<16):
  (λy z=>(λx=>(gm x 1 ^^^ (gm y 1 ^^^ (gm z 1 ^^^ C)))=0/\(gm x 1 ^^^ (gm y 2 ^^^ (gm z 4 ^^^ D)))=0/\(gm x 1 ^^^ (gm y 4 ^^^ (gm z 3 ^^^ E)))=0) (C ^^^ y ^^^ z))
   (gm (gm 2 (C ^^^ D) ^^^ gm 5 (C ^^^ E)) 13) (gm (gm 3 (C ^^^ E) ^^^ gm 5 (C ^^^ D)) 13):=by
 have h:=mA (mA (mA aoU I) O) T;simp_all
def ao1{d:aa Nat}(U:jT d)(hl:d.length=8):∃ w,HO (cA d)=some (cA w)/\w.length=11/\jT w/\w.drop 3=d/\dN w 0 11=0/\dN w 1 11=0/\dN w 2 11=0:=by
 have Z:jT (0 :: 0 :: 0 :: d):=by
  intro x hx;simp only[gk]at hx;rcases hx with rfl|rfl|rfl|hx
  ·decide
  ·decide
  ·decide
  ·exact U x hx
 have key:∀ j x y z,j<3->x<16->y<16->z<16->dN (x :: y :: z :: d) j 11=gm x (pw (0*j)) ^^^ (gm y (pw (1*j)) ^^^ (gm z (pw (2*j)) ^^^ dN (0 :: 0 :: 0 :: d) j 11)):=by
  intro j x y z hj hx hy Z;simp only[dN,List.getD_cons_zero,List.getD_cons_succ,Nat.xor_assoc,Nat.zero_xor,aoX (ac7 _)]
 have e0:∀ C E I:Nat,C<16->E<16->I<16->zX (cA (0 :: 0 :: 0 :: d))=some [(C:Int),(E:Int),(I:Int)]->
   HO (cA d)=some (cA ((C ^^^ gm (gm 2 (C ^^^ E) ^^^ gm 5 (C ^^^ I)) 13 ^^^ gm (gm 3 (C ^^^ I) ^^^ gm 5 (C ^^^ E)) 13)::gm (gm 2 (C ^^^ E) ^^^ gm 5 (C ^^^ I)) 13::gm (gm 3 (C ^^^ I) ^^^ gm 5 (C ^^^ E)) 13::d)):=by
  intro C E I D O T hs;unfold HO xL;have c0:((d.length:Int)==(8:Int))=true:=by rw[hl];rfl
  have c1:cv ((List.replicate (3:Int).toNat (0:Int)).length+(cA d).length)=true:=by
   rw[vr,hl];rfl
  rw[TU U (by omega),au,c0,show (!true)=false from rfl,av,aV (by decide),c1,aq];have Y:zX (List.replicate (3:Int).toNat (0:Int)++cA d)=some [(C:Int),(E:Int),(I:Int)]:=hs;rw[Y,au];show (B3 (4:Int)).bind (λmw=>(jn (2:Int) (bits .xor .i64 (C:Int) (E:Int))).bind λpL=>(jn (5:Int) (bits .xor .i64 (C:Int) (I:Int))).bind λqW=>(jn (bits .xor .i64 pL qW) mw).bind λzL=>(jn (3:Int) (bits .xor .i64 (C:Int) (I:Int))).bind λmz=>(jn (5:Int) (bits .xor .i64 (C:Int) (E:Int))).bind λua=>(jn (bits .xor .i64 mz ua) mw).bind λzY=>some (bits .xor .i64 (bits .xor .i64 (C:Int) zL) zY::zL::zY::cA d))=_;have m2:∀b:Nat,b<16->jn (2:Int) (b:Int)=some (gm 2 b:Int):=λb hb=>B9 (a:=2) (by decide) hb
  have m3:∀b:Nat,b<16->jn (3:Int) (b:Int)=some (gm 3 b:Int):=λb hb=>B9 (a:=3) (by decide) hb
  have m5:∀b:Nat,b<16->jn (5:Int) (b:Int)=some (gm 5 b:Int):=λb hb=>B9 (a:=5) (by decide) hb
  have m13:∀b:Nat,b<16->jn (b:Int) (13:Int)=some (gm b 13:Int):=λb hb=>B9 (b:=13) hb (by decide)
  rw[aoV,au,vp D O,vp D T,m2 _ (mB D O),au,m5 _ (mB D T),au,vp (gE _ _) (gE _ _),m13 _ (mB (gE _ _) (gE _ _)),au,m3 _ (mB D T),au,m5 _ (mB D O),au,vp (gE _ _) (gE _ _),m13 _ (mB (gE _ _) (gE _ _)),au,vp D (gE _ _),vp (mB D (gE _ _)) (gE _ _)];rfl
 have D:=xH (0::0::0::d) 0 11;have O:=xH (0::0::0::d) 1 11;have T:=xH (0::0::0::d) 2 11;have Y:=e0 _ _ _ D O T (TV Z (by simp[hl]));have f:=ao0 _ _ _ D O T;dsimp only at f;refine⟨_,Y,by simp[hl],?_,rfl,?_,?_,?_⟩
 ·intro x hx;simp only[gk]at hx;rcases hx with rfl | rfl | rfl | hx
  ·exact mB (mB D (gE _ _)) (gE _ _)
  ·exact gE _ _
  ·exact gE _ _
  ·exact U x hx
 ·rw[key 0 _ _ _ (by decide) (mB (mB D (gE _ _)) (gE _ _)) (gE _ _) (gE _ _)];exact f.1
 ·rw[key 1 _ _ _ (by decide) (mB (mB D (gE _ _)) (gE _ _)) (gE _ _) (gE _ _)];exact f.2.1
 ·rw[key 2 _ _ _ (by decide) (mB (mB D (gE _ _)) (gE _ _)) (gE _ _) (gE _ _)];exact f.2.2
def jT.set{w:aa Nat}(h:jT w){k v:Nat}(D:v<16):jT (w.set k v):=by
 intro x C;rcases List.mem_or_eq_of_mem_set C with C|rfl
 ·exact h x C
 ·exact D
def ivT:Nat:=9460475325918865680
def iv(a:Nat):Nat:=(ivT / 2 ^ (4*a)) % 16
def ao2(a:Nat):iv a<16:=Nat.mod_lt _ (by decide)
def ao3:(pW λa=>Nat.beq a 0 ||B3 (Int.ofNat a)==some (Int.ofNat (iv a)))=true:=by kernel_rfl
def ao4(w:aa Nat)(k v:Nat):(cA w).set k (v:Int)=cA (w.set k v):=(List.map_set ..).symm
def Ca(s:Int):Bool:=aQ s 0 15
def vt(l:aa Int)(n:Int):Bool:=l.all Ca&&decide ((l.length:Int)=n)
def ac9(l:aa Int)(n:Int)(hl:l.length<1073741824):vk l n=some (vt l n):=by
 unfold vk vt cH;have e:=jB (step:=zJ) l Ca (λi=>((l,n,l,l.length,i,()),())) _ (.inr (.inl ((l,n,()),()))) br (λk h=>by
  unfold zJ sv aK bF xG xI;simp (disch:=omega) [h,bT,cI,Ca];cases aQ l[k] 0 15<;>rfl) (by unfold zJ aK bF xG xI;simp) (bZ hl)
 rw[cZ]at e;rw[e];cases l.all Ca<;>simp;rfl
def Sy(l:aa Int):Prop:=l.length=11/\∀s∈l,0<=s/\s<=15
def Sy.ok{l:aa Int}(h:Sy l):vt l 11=true:=by
 simp[vt,aJ,bN,Ca,bh];exact⟨λx C=>h.2 x C,by rw[h.1];rfl⟩
def Sy.of{l:aa Int}(h:vt l 11=true):Sy l:=by
 simp[vt,aJ,bN,fI,Ca,bh]at h;exact⟨by omega,h.1⟩
def TW{a b:Int}(E:0 <= a/\a <= 15)(hb:0 <= b/\b <= 15):0 <= bits .xor .i64 a b/\bits .xor .i64 a b <= 15/\bits .xor .i64 (bits .xor .i64 a b) b=a:=by
 obtain⟨x,rfl⟩:=fk E.1;obtain⟨y,rfl⟩:=fk hb.1;have D:x<16:=by omega
 have C:y<16:=by omega
 have:=mB D C;rw[vp D C];rw[vp this C]
 grind
def Sy.set{l:aa Int}(h:Sy l){k:Nat}{v:Int}(D:0<=v/\v<=15):Sy (l.set k v):=by
 refine⟨by simp[h.1],λs C=>?_⟩
 rcases List.mem_or_eq_of_mem_set C with C|rfl
 ·exact h.2 s C
 ·exact D
def Sy.get{l:aa Int}(h:Sy l){k:Nat}(C:k<l.length):0<=l[k]/\l[k]<=15:=h.2 _ (dg C)
structure eA (g:aF) (B:Int) (a:cN):Prop where
 cells:(a.cells.length:Int)=eK g
 syms:∀c∈a.cells,Sy c.symbols
 bq:(a.bq.length:Int)=fF g
 aY:(a.aY.length:Int)=fF g
 Et:∀x∈a.bq,0<=x/\x<=B
 hit:∀x∈a.aY,0<=x/\x<=100000
def ada(c:cu)(h:c.symbols.length<1073741824):GN c=some c:=by
 unfold GN xA xZ;simp[cv,h]
def adb(a:cN)(T:a.cells.length<1073741823)(C:a.bq.length<1073741824)(D:a.aY.length<1073741824)(E:∀ c∈a.cells,c.symbols.length<1073741824):BA a=some a:=by
 unfold BA xA bQ xZ;have e:=eE (step:=GO) a.cells.length (λi=>(((),(),a.cells,(a.cells.length:Int),(i:Int),()),(((),(),(),()),((),(),(),()),([]:aa cu),([]:aa Int),([]:aa Int),a.cells.take i,(([]:aa Int)++a.bq),(([]:aa Int)++a.aY),())))
  (.inl (((),(),()),(((),(),(),()),((),(),(),()),([]:aa cu),([]:aa Int),([]:aa Int),a.cells,(([]:aa Int)++a.bq),(([]:aa Int)++a.aY),()))) br (λk h=>by
  unfold GO aK xG xI;have I:min k a.cells.length=k:=by omega
  have O:cv (k+1)=true:=fe;simp (disch:=omega) [h,bT,ada _ (E _ (dg h)),I,O]) (by unfold GO aK xG xI;simp) (bZ)
 rw[cZ,List.take_zero]at e;rw[e];simp[cv,C,D]
def eA.lens{g:aF}{B:Int}{a:cN}(h:eA g B a):a.cells.length<1073741823/\a.bq.length<1073741824/\a.aY.length<1073741824/\∀ c∈a.cells,c.symbols.length<1073741824:=by
 have D:=h.cells;have E:=h.bq;have I:=h.aY;have O:=oF g;have T:=sD g;exact⟨by omega,by omega,by omega,λc C=>by rw[(h.syms c C).1];omega⟩
def eA.copy{g:aF}{B:Int}{a:cN}(h:eA g B a):BA a=some a:=
 let ⟨C,D,E,I⟩:=h.lens;adb a C D E I
def Iz(c:cu):Bool:=vt c.symbols 11
def xJ(p:Int×Int):Bool:=aQ p.1 0 100000&&aQ p.2 0 100000
def lM(g:aF)(a:cN):Bool:=cg g&&(decide ((a.cells.length:Int)=eK g)&&(decide ((a.bq.length:Int)=fF g)&&(decide ((a.aY.length:Int)=fF g)&&(a.cells.all Iz&&(a.bq.zip a.aY).all xJ))))
def ade(g:aF)(a:cN)(I:∀ c∈a.cells,c.symbols.length<1073741824):BI g a=some (lM g a):=by
 unfold BI lM cH;rw[jo,au,pU,au,Ac];cases O:cg g with
 |false=>rfl
 | true=>
  have Y:=oF g;have Z:=sD g;have er:aL g*g.rows=fF g:=by simp[fF,O]
  simp only[bI,av,au,cP,er];rw[bf];by_cases C:(a.cells.length:Int)=eK g
  ·by_cases D:(a.bq.length:Int)=fF g
   ·by_cases E:(a.aY.length:Int)=fF g
    ·have hl:a.bq.length=a.aY.length:=by omega
     have l1:=jB (step:=G5) a.cells Iz (λi=>(((),a.cells,(a.cells.length:Int),(i:Int),()),((a.cells,a.bq,a.aY,()),()))) (.inl ((false,()),())) (.inr (.inl (((),()),((a.cells,a.bq,a.aY,()),())))) br (λk h=>by
      unfold G5 aK bF xG xI;simp (disch:=omega) [h,bT,ac9 _ 11 (I _ (dg h)),Iz];cases vt a.cells[k].symbols 11<;>rfl) (by unfold G5 aK bF xG xI;simp) (bZ)
     have l2:=jB (step:=G6) (a.bq.zip a.aY) xJ (λi=>(((),(a.bq.length:Int),(i:Int),()),((a.cells,a.bq,a.aY,()),()))) (.inl ((false,()),())) (.inr (.inl ((),()))) br (λk h=>by
      have T:k<a.bq.length:=by simp at h;omega
      have U:k<a.aY.length:=by omega
      unfold G6 aK bF xG xI;simp (disch:=omega) [T,U,bT,cI,xJ];cases aQ a.bq[k] 0 100000<;>cases aQ a.aY[k] 0 100000<;>rfl) (by unfold G6 aK bF xG xI;simp[hl]) (bZ (by simp;omega))
     rw[cZ]at l1 l2;simp only[C,D,E,bne_self_eq_false,av,decide_true,cP];rw[<-C,l1];cases h1:a.cells.all Iz with
     |false=>simp
     | true=>
      simp only[aq,Option.bind_some,Sum.elim_inr,gw];rw[l2];cases (a.bq.zip a.aY).all xJ<;>simp
    ·simp[C,D,gU E,E]
   ·simp[C,gU D,D]
  ·simp[gU C,C]
def eA.ok{g:aF}{B:Int}{a:cN}(h:eA g B a)(E:cg g=true)(hB:B <= 100000):BI g a=some true:=by
 rw[ade g a (λc C=>by rw[(h.syms c C).1];omega)];have I:=h.cells;have O:=h.bq;have T:=h.aY;have U:a.cells.all Iz=true:=bN.2 λc C=>(h.syms c C).ok
 have Y:(a.bq.zip _).all xJ=true:=bN.2 λp Z=>by
  obtain⟨x,y⟩:=p;have D:=List.of_mem_zip Z;have a1:=h.Et x D.1;have a2:=h.hit y D.2;simp[xJ,aJ,bh];omega
 simp[lM,E,I,O,T,U,Y]
def Nb{b:aa Int}{c:bz}(C:jS b c)(l:aa Int)(hl:0<l.length):Dr b (Ab c l) λx=>x∈l:=by
 unfold Ab xI;rw[C.eq]
 refine(fh C _).bind λI O E D=>?_
 rw[aO ⟨E.1,by dsimp only;omega⟩];rw[D.eta];exact Dr.pure D (dg _)
def Nc{b:aa Int}{c:bz}(C:jS b c)(n:Int):Dr b (B6 c n) λ_=>True:=by
 unfold B6;rw[C.eq]
 refine(fh C _).bind λE I O D=>?_
 rw[D.eta];exact Dr.pure D trivial
def qY(g:aF):(⟨g.bD,g.aD,g.rows,g.aM⟩:aF)=g:=rfl
def ao5{b:aa Int}{c:bz}(D:jS b c){g:aF}(C:cg g=true):Dr b (ML c g) λa=>dU g a=true:=by
 have Z:=M9 C;have⟨_,_,_,_,g5,g6,g7,g8⟩:=fW C;unfold ML;rw[TR,au,D.eq]
 refine(fh D _).bind λx1 k1 E I=>?_
 dsimp only;rw[I.eta]
 refine(fh I _).bind λx2 k2 O T=>?_
 dsimp only;rw[T.eta]
 refine(fh T _).bind λx3 k3 U Y=>?_
 dsimp only;rw[Y.eta];exact Dr.pure Y (vo C E.1 (E.2.2 (by omega)) O.1 (O.2.2 (by omega)) U.1 (U.2.2 (by omega)))
def m6(n x:Int):Int:=if 100000<x+n then 100000 else x+n
def adf(l:aa Int)(h:∀ s∈l,0 <= s/\s <= 15):cA (l.map Int.toNat)=l/\jT (l.map Int.toNat):=by
 constructor
 ·induction l with
  |nil=>rfl
  | cons x l C=>
   have D:=h x (.head _);have:=C λs E=>h s (.tail _ E)
   grind
 ·intro x D
  grind
def adg{w:aa Nat}(D:jT w)(hl:w.length=11):Sy (cA w):=by
 refine⟨by rw[vr,hl],λs C=>?_⟩
 simp at C;obtain⟨x,E,rfl⟩:=C;have:=D x E;omega
def Sy.mem{l:aa cu}(h:∀c∈l,Sy c.symbols){k:Nat}(C:k<l.length):Sy l[k].symbols:=h _ (dg C)
def Sy.bG{l:aa cu}(h:∀c∈l,Sy c.symbols){k:Nat}{d:cu}(C:Sy d.symbols):∀c∈l.set k d,Sy c.symbols:=by grind
def Nd{l:aa Int}{B C:Int}(h:∀x∈l,B <= x/\x <= C){k:Nat}{v:Int}(D:B <= v/\v <= C):∀x∈l.set k v,B <= x/\x <= C:=by grind
def ue(l:kY)(a:cN)(i:Nat):Bool:=decide (a.bq.getD i 0 > l.bq) ||decide (a.aY.getD i 0 > l.aY)
def ao6{l:aa Int}{B C:Int}(h:∀ x∈l,B<=x/\x<=C)(k:Nat)(D:B<=0/\0<=C):B<=l.getD k 0/\l.getD k 0<=C:=by
 rw[cW];cases E:l[k]? with
 |none=>exact D
 |some x=>exact h x (gv E)
def adh{x:Int}(h:0<=x/\x<=100000){n:Int}(C:0<=n):0<=m6 n x/\m6 n x<=100000:=by
 unfold m6;split<;>omega
def nJ(k:Nat)(h:aa Int):aa Int:=h.set k (m6 1 (h.getD k 0))
def TX(k:Nat)(h:aa Int):(nJ k h).length=h.length:=by simp[nJ]
def TY{k:Nat}{h:aa Int}(hb:∀ x∈h,0<=x/\x<=100000):∀ x∈nJ k h,0<=x/\x<=100000:=
 Nd hb (adh (ao6 hb k ⟨by omega,by omega⟩) (by omega))
def ao7{k:Nat}{h:aa Int}(C:k<h.length):nJ k h=h.set k (m6 1 h[k]):=by
 unfold nJ;rw[cW,bH C];rfl
def vu(row:Int)(i:Nat)(h:aa Int):aa Int:=bif decide (0<row)then nJ (i-1) (h.set i 0)else h.set i 0
def oG(R row:Int)(i:Nat)(h:aa Int):aa Int:=bif decide (row<R-1)then nJ (i+1) (vu row i h)else vu row i h
def ao8(row:Int)(i:Nat)(h:aa Int):(vu row i h).length=h.length:=by
 unfold vu;cases decide (0<row)<;>simp[TX]
def ao9(R row:Int)(i:Nat)(h:aa Int):(oG R row i h).length=h.length:=by
 unfold oG;cases decide (row<R-1)<;>simp[TX,ao8]
def apa{row:Int}{i:Nat}{h:aa Int}(hb:∀ x∈h,0<=x/\x<=100000):∀ x∈vu row i h,0<=x/\x<=100000:=by
 have C:=Nd hb (k:=i) (v:=0) ⟨by omega,by omega⟩;unfold vu;cases decide (0<row)
 ·exact C
 ·exact TY C
def apb{R row:Int}{i:Nat}{h:aa Int}(hb:∀ x∈h,0<=x/\x<=100000):∀ x∈oG R row i h,0<=x/\x<=100000:=by
 have C:=apa (row:=row) (i:=i) hb;unfold oG;cases decide (row<R-1)
 ·exact C
 ·exact TY C
def qZ(t:bW):aa Int:=[t.qq,t.rp,t.jD,t.rz,t.nT,t.jY,t.rA,t.rB,t.mK,t.wr,t.rC,t.rD,t.uF,t.sW,t.sX,t.xp,t.xs]
def Eu(x:Int):Bool:=aQ x 1 64
def ja(t:bW):Bool:=(qZ t).all Eu&&(decide (t.qq<=t.jD)&&(decide (t.rz<=t.nT)&&(decide (t.rA<=t.rB)&&decide (t.rC<=t.rD))))
def IA(t:bW):BB t=some (ja t):=by
 unfold BB ja cH;change (iter DI br (((),(),((qZ t).length:Int),(0:Int),()),(t,qZ t,()))).bind _=_;have C:(qZ t).length=17:=rfl;generalize qZ t=l at *
 have e:=jB (step:=DI) l Eu (λi=>(((),(),(l.length:Int),(i:Int),()),(t,l,()))) _ (.inr (.inl (((),()),(t,())))) br (λk h=>by
  unfold DI aK bF xG xL;simp (disch:=omega) [h,bT,cI,Eu];cases aQ l[k] 1 64<;>rfl) (by unfold DI aK bF xG xL;simp) (bZ)
 rw[cZ]at e;rw[e];cases l.all Eu<;>simp
 grind
def apc(t:bW):∃ y,BE t=some y:=by
 unfold BE;rw[IA];cases ja t<;>exact⟨_,rfl⟩
def adi(R i:Nat):Int:=((i % R:Nat):Int)
def q5(n R:Nat):aa Int:=(List.range n).map (adi R)
def adj(n R:Nat):(q5 n R).length=n:=by simp[q5]
def m7(g:aF)(n:Int):Bool:=cg g&&(aQ n 0 2&&decide (2<=g.rows-n))
def vw(g:aF)(n:Int):fm×Bool:=bif m7 g n then (⟨n,q5 ((aL g).toNat*(g.rows-n).toNat) (g.rows-n).toNat⟩,true)else (⟨0,[]⟩,false)
def adk{g:aF}{n:Int}(h:m7 g n=true):cg g=true/\0 <= n/\n <= 2/\2 <= g.rows-n/\g.rows <= 16:=by
 simp[m7,aJ,bh,fI]at h;have⟨C,⟨D,E⟩,I⟩:=h;have:=fW C;simp_all
def apd(b R:Nat)(hR:0<R)(j:Nat)(C:j <= R):q5 (b*R+j) R=q5 (b*R) R++(List.range j).map (λi:Nat=>(i:Int)):=by
 unfold q5;rw[List.range_add,List.map_append,List.map_map];congr 1
 refine List.map_congr_left λi hi=>?_
 have hi:=fA.1 hi;simp only[Function.comp,adi];rw[Nat.mul_comm,Nat.mul_add_mod,Nat.mod_eq_of_lt (by omega)]
def TZ(g:aF)(n:Int):DH g n=some (vw g n):=by
 unfold DH vw bQ;rw[pU,au];cases C:cg g with
 |false=>simp[m7,C]
 | true=>
  simp only[bI,av,cI,au];cases D:aQ n 0 2 with
  |false=>simp[m7,D]
  | true=>
   have Z:=bh.1 D;have gb:=fW C;simp only[bI,av];rw[bf];by_cases I:g.rows-n<2
   ·have:decide (2<=g.rows-n)=false:=bu;rw[aZ I,aq];simp[m7,this]
   ·have T:m7 g n=true:=by simp[m7,C,D];omega
    rw[bu I,av,T,aq];have U:=ef g;obtain⟨E,hb⟩:=fk U.1;obtain⟨R,hR⟩:=fk (show 0<=g.rows-n by omega);have O:W6 (g.rows-n)=(R:Int):=by rw[hR];exact bf
    have inner:∀ b:Nat,b<E->iter DG br ((n,(),(),(),(b:Int),(0:Int),()),((g.bD,g.aD,g.rows,g.aM,()),((0:Int),(),()),(n,(),()),([]:aa Int),q5 (b*R) R,()))=some (.inl ((n,(),(),(),(b:Int),()),((g.bD,g.aD,g.rows,g.aM,()),((0:Int),(),()),(n,(),()),([]:aa Int),q5 ((b+1)*R) R,()))):=by
     intro b IB;have hm:b*R<=8*16:=Nat.mul_le_mul (by omega) (by omega);have e:=eE (step:=DG) R (λj=>((n,(),(),(),(b:Int),(j:Int),()),((g.bD,g.aD,g.rows,g.aM,()),((0:Int),(),()),(n,(),()),([]:aa Int),q5 (b*R) R++(List.range j).map (λi:Nat=>(i:Int)),())))
      (.inl ((n,(),(),(),(b:Int),()),((g.bD,g.aD,g.rows,g.aM,()),((0:Int),(),()),(n,(),()),([]:aa Int),q5 (b*R) R++(List.range R).map (λi:Nat=>(i:Int)),()))) br (λk h=>by
      unfold DG aK xG;have Y:cv ((q5 (b*R) R++(List.range k).map (λi:Nat=>(i:Int))).length+1)=true:=fe (by simp[adj];omega);dsimp only;rw[O,aZ,aq];simp only[List.length_cons,List.length_nil,ff];rw[Y,aq,bT,List.range_succ,List.map_append,List.append_assoc];rfl) (by
      unfold DG aK xG;dsimp only;rw[O,bu,av]) (bZ)
     rw[cZ,List.range_zero,List.map_nil,List.append_nil]at e;rw[e,<-apd b R (by omega) R (dz _),iC]
    have e:=eE (step:=GQ) E (λi=>((n,(),(),(),(i:Int),()),((g.bD,g.aD,g.rows,g.aM,()),((0:Int),(),()),(n,(),()),([]:aa Int),q5 (i*R) R,())))
     (.inl (((),(),()),(((0:Int),(),()),(n,(),()),([]:aa Int),q5 (E*R) R,()))) br (λk h=>by
     unfold GQ aK xG bQ;dsimp only;rw[qY,jo,au,hb,aZ,aq]
     refine(bx (λo=>Option.bind o _) (inner k h)).trans ?_
     rw[au];simp only[gw];rw[bT]) (by
     unfold GQ aK xG bQ;dsimp only;rw[qY,jo,au,hb,bu,av]) (bZ)
    rw[cZ,Nat.zero_mul]at e
    refine(bx (λo=>Option.bind o _) e).trans ?_
    rw[hb,hR];rfl
def Ev(t:bW):Int:=(BE t).getD 0
def adl(t:bW):BE t=some (Ev t):=by
 obtain⟨y,e⟩:=apc t;unfold Ev;rw[e];rfl
def adm(m:qp):GR m=some (aQ m.order 0 2):=by
 unfold GR;rw[cI];rfl
def pX(c:fq):Bool:=cg c.ak&&(ja c.bU&&(aQ c.mapping.order 0 2&&(m7 c.ak c.bR&&(aQ c.interval (Ev c.bU) 10000&&(aQ c.iU 1 16&&(aQ c.dJ.bq (W6 ((6:Int)*c.interval)) 100000&&aQ c.dJ.aY 0 100000))))))
def adn(g:aF)(n:Int):(vw g n).2=m7 g n:=by
 unfold vw;cases m7 g n<;>rfl
def Nf(c:fq):Lw c=some (pX c):=by
 unfold Lw pX;simp only[TZ,pU,IA,adm,adl,cI,au,adn];cases cg c.ak<;>cases ja c.bU<;>cases aQ c.mapping.order 0 2<;>cases m7 c.ak c.bR<;>cases aQ c.interval (Ev c.bU) 10000<;>cases aQ c.iU 1 16<;>cases aQ c.dJ.bq (W6 ((6:Int)*c.interval)) 100000<;>rfl
def ado{c:fq}(h:pX c=true):cg c.ak=true/\ja c.bU=true/\m7 c.ak c.bR=true/\aQ c.iU 1 16=true:=by
 simp[pX,aJ]at h;simp_all
def ape{t:bW}(h:ja t=true):(1 <= t.jD/\t.jD <= 64)/\1 <= t.rp/\t.rp <= 64:=by
 simp[ja,aJ,bN]at h;have C:=h.1 t.jD (by simp[qZ]);have D:=h.1 t.rp (by simp[qZ]);simp[Eu,bh]at C D;simp_all
def pZ(s:di):Bool:=aQ s.weight 1 9&&aQ s.gx 0 s.weight
def kz(l:aa di):Bool:=l.all pZ&&aQ (l.length:Int) 1 4
def Ng(l:aa di)(hl:l.length<1073741824):DJ l=some (kz l):=by
 unfold DJ kz cH;have e:=jB (step:=GS) l pZ (λi=>((l,l,l.length,i,()),())) _ (.inr (.inl ((l,()),()))) br (λk h=>by
  unfold GS aK bF xG xI;simp (disch:=omega) [h,bT,cI,pZ];cases aQ l[k].weight 1 9<;>cases aQ l[k].gx 0 l[k].weight<;>rfl) (by unfold GS aK bF xG xI;simp) (bZ hl)
 rw[cZ]at e;rw[e];cases l.all pZ<;>simp[cI]
def nK(w:Int):di:=⟨w,w⟩
def Cb(l:aa Int):aa di×Bool:=bif kz (l.map nK)then (l.map nK,true)else ([],false)
def apf{l:aa Int}{k:Nat}(h:k<l.length):(l.take (k+1)).map nK=(l.take k).map nK++[⟨l[k],l[k]⟩]:=by
 rw[List.take_succ_eq_append_getElem h,List.map_append];rfl
def T0(l:aa Int)(hl:l.length<1073741823):xo l=some (Cb l):=by
 unfold xo Cb bQ;have e:=eE (step:=GU) l.length (λi=>(((),l,(l.length:Int),(i:Int),()),((l.take i).map nK,()))) _ br (λk h=>by
  unfold GU aK xG xI;have C:cv (((l.take k).map nK).length+1)=true:=fe (by simp;omega);dsimp only;rw[aZ,aq,aO ⟨by omega,by omega⟩];simp only[List.length_cons,List.length_nil,ff,bA];rw[C,aq,bT,apf h]) (by
  unfold GU aK xG xI;dsimp only;rw[bu,av,List.take_length]) (bZ)
 refine(bx (λo=>Option.bind o _) e).trans ?_
 rw[au];simp only[gw];rw[Ng _ (by simp;omega),au]
 grind
def apg(l:aa Int):(Cb l).2=kz (l.map nK):=by
 unfold Cb;cases kz (l.map nK)<;>rfl
def p6(d:mM):Bool:=decide (d.low >= 0)&&(decide (d.low<d.high)&&decide (d.high<=12))
def Nh(d:mM):BF d=some (p6 d):=by
 unfold BF p6
 grind
def Ew(r:vJ):Bool:=aQ r.down 1 10000&&(decide (r.sleep > r.down)&&decide (r.sleep<=20000))
def adp(r:vJ):GV r=some (Ew r):=by
 unfold GV Ew;rw[cI]
 grind
def sG(p:eo):Bool:=aQ p.fY 0 1&&(aQ p.cap 0 100000&&(aQ p.ey 3 1000&&(p6 ⟨false,p.low,p.high⟩&&((p.weights.length:Int)==4&&(kz (p.weights.map nK)&&Ew p.eY)))))
def aph(x:Int):aQ x 0 1=(x==0 || x==1):=by
 rw[Bool.eq_iff_iff];simp[aQ];omega
def Ex(p:eo)(hl:p.weights.length<1073741823):DK p=some (sG p):=by
 unfold DK sG;simp[T0 _ hl,au,cI,Nh,adp,apg,aph]
 grind
def adq(x:Int):∃ y,zH x=some y:=by
 unfold zH;rw[cI];cases aQ x 3 1000<;>exact⟨_,rfl⟩
def T1(c:fq)(p:eo)(hl:p.weights.length<1073741823):∃ b,qX c p=some b/\(b=true->pX c=true):=by
 unfold qX;obtain⟨y,e⟩:=adq p.ey;simp only[Nf,Ex _ hl,e,au];cases C:pX c with
 |false=>exact⟨false,rfl,λh=>by cases h⟩
 | true=>
  have E:=ape (ado C).2.1;have D:¬ W6 (c.bU.jD+c.bU.rp)=0:=by
   rw[bf];omega
  cases sG p with
  |false=>exact⟨false,rfl,λ_=>rfl⟩
  | true=>
   simp only[aW D,bI,av,aq];cases decide (W6 (y+2)<=c.dJ.aY)<;>exact⟨_,rfl,λ_=>by first|rfl|trivial⟩
def adr(i:Nat)(l:aa dK):((opens i l).length==0)=l.all λb=>!b.open_:=by
 induction l generalizing i with
 |nil=>rfl
 | cons x a C=>
  simp[opens,List.all_cons]
  grind
def xK(g:aF)(b:dK):Bool:=aQ b.row 0 (g.rows-1)&&(b.open_ ||b.row==0)
def kA(g:aF)(r:bL):Bool:=cg g&&(((r.aD.length:Int)==aL g)&&(aQ r.aU 0 2&&(r.aD.all (xK g)&&(r.aU != 2 ||r.aD.all λb=>!b.open_))))
def ads(g:aF)(r:bL):G0 g r=some (kA g r):=by
 unfold G0 kA cH;rw[pU,au,jo];cases D:cg g with
 |false=>rfl
 | true=>
  simp only[bI,av,au,cP];by_cases C:(r.aD.length:Int)=aL g
  ·have I:=ef g;have O:=fW D;simp only[C,bne_self_eq_false,av,kH,cP,cI,au];cases T:aQ r.aU 0 2 with
   |false=>rfl
   | true=>
    have e:=jB (step:=GZ) r.aD (xK g) (λi=>(((),(),r.aD,(r.aD.length:Int),(i:Int),()),((g.bD,g.aD,g.rows,g.aM,()),(r.aD,r.aU,()),()))) (.inl ((false,()),())) (.inr (.inl (((),()),((r.aD,r.aU,()),())))) br (λk h=>by
     unfold GZ aK bF xG xI;dsimp only;rw[aZ,aq,aO ⟨by omega,by omega⟩];simp only[bA,cI,au];rw[bf (n:=g.rows-1),bT];unfold xK;cases aQ r.aD[k].row 0 (g.rows-1)with
     |false=>rfl
     | true=>
      cases r.aD[k].open_ with
      |true=>rfl
      | false=>
       simp[bne];cases r.aD[k].row==0<;>rfl) (by
     unfold GZ aK bF xG xI;dsimp only;rw[bu,av]) (bZ)
    rw[cZ,C]at e;simp only[bI,av,cP]
    refine(bx (λo=>Option.bind o _) e).trans ?_
    rw[au];cases r.aD.all (xK g)with
    |false=>rfl
    | true=>
     simp only[aq,Sum.elim_inr,gw,cP];cases U:r.aU != 2 with
     |true=>rfl
     | false=>
      simp;rw[Na ⟨r.aD,r.aU⟩ (by show r.aD.length<_;omega),au,<- adr 0 r.aD];congr 1
      grind
  ·have E:((r.aD.length:Int)==aL g)=false:=by simp[C]
   rw[gU C,E];rfl
def IC(d:Int):Bool:=aQ d (-2) 5
def fj(r:dB):Bool:=r.aC.all IC&&(aQ (r.aC.length:Int) 1 8&&aQ r.wait 1 10000)
def Ey(r:dB)(hl:r.aC.length<1073741824):xx r=some (fj r):=by
 unfold xx fj cH;have e:=jB (step:=G8) _ IC (λi=>(((),r.aC,r.aC.length,i,()),((r.aC,r.wait,r.dL,()),()))) _ (.inr (.inl (((),()),((r.aC,r.wait,r.dL,()),())))) br (λk h=>by
  unfold G8 aK bF xG xI;simp (disch:=omega) [h,bT,cI,IC];cases aQ r.aC[k] _ 5<;>rfl) (by unfold G8 aK bF xG xI;simp) (bZ hl)
 rw[cZ]at e;rw[e];cases r.aC.all IC<;>simp[cI]
 grind
def iu{T:Type}(p:T->Bool)(l:aa T):Int:=match l.findIdx? p with
 |some i=>(i:Int)
 |none=>-1
def Ez{α β T:Type}{step:α -> aj (α⊕β)}(l:aa T)(p:T -> Bool)(S:Nat -> α)(D:Nat -> β)(z:β)(fuel:Nat)(E:∀ k (h:k<l.length),step (S k)=some (bif p l[k]then .inr (D k)else .inl (S (k+1))))(I:step (S l.length)=some (.inr z))(C:l.length<fuel):
  iter step fuel (S 0)=some (match l.findIdx? p with|some i=>D i|none=>z):=by
 have key:∀ (n i fuel:Nat),i+n=l.length -> n<fuel -> (∀ j (h:j<l.length),j<i -> p l[j]=false) -> iter step fuel (S i)=some (match l.findIdx? p with | some i=>D i | none=>z):=by
  intro n
  induction n with
  | zero=>
   intro i fuel hi C O
   match fuel,C with
   | f+1,_=>
    have:i=l.length:=by omega
    subst this;have e:l.findIdx? p=none:=by
     rw[List.findIdx?_eq_none_iff];intro x U;obtain⟨j,Y,rfl⟩:=jf.1 U
     grind
    unfold iter;rw[I,e]
  | succ n Z=>
   intro i fuel hi C O
   match fuel,C with
   | f+1,C=>
    have c9:i<l.length:=by omega
    unfold iter;rw[E i c9];cases hp:p l[i]with
    | true=>
     have e:l.findIdx? p=some i:=by
      rw[qm]
      grind
     rw[e];rfl
    | false=>
     simp only[av]
     refine Z (i+1) f (by omega) (by omega) λj Y Gv=>?_
     by_cases e:j=i
     ·grind
     ·grind
 exact key l.length 0 fuel (by omega) C λj _ h=>by omega
def adt{T:Type}{p:T -> Bool}{l:aa T}{i:Nat}(h:i<l.length)(E:p l[i]=true):(iu p l != (i:Int))=(l.take i).any p:=by
 unfold iu;cases C:(l.take i).any p with
 | false=>
  have e:l.findIdx? p=some i:=by
   rw[qm]
   refine⟨h,E,λj D=>?_⟩
   have:=mJ.1 C l[j] (jf.2 ⟨j,by simp;omega,by simp⟩);exact this
  rw[e];simp
 | true=>
  have⟨x,I,U⟩:=List.any_eq_true.1 C;obtain⟨j,D,rfl⟩:=jf.1 I;rw[kG]at D;cases O:l.findIdx? p with
  |none=>simp
  | some k=>
   have⟨Y,Z,k3⟩:=qm.1 O;have:k≠i:=by
    grind
   simp only;simp;omega
def T2(x:Int):Bool:=aQ x 0 4294967295
def uf(n:Int)(r:bg):Bool:=aQ r.id 1 100000&&(aQ r.eC 0 3&&(decide (r.line >= 0)&&(decide (r.line<n)&&(T2 r.data&&((r.write ||r.data==0)&&aQ r.at_ 0 1000000)))))
def api(n:Int)(r:bg):LG n r=some (uf n r):=by
 unfold LG uf BM T2;simp[cI]
 grind
def fX(x y:bg):Bool:=decide (x.at_<y.at_) ||(x.at_==y.at_&&decide (x.id<y.id))
def T3(x y:bg):Hg x y=some (fX x y):=by
 unfold Hg fX
 grind
def ug(n:Int)(q:aa bg)(i:Nat):Bool:=match q[i]? with
 |some r=>uf n r&&((i==0 ||(match q[i-1]? with|some x=>fX x r|none=>false)) && !((q.take i).any λx=>x.id==r.id))
 |none=>false
def adu{n:Int}{q:aa bg}(h:0<q.length):ug n q 0=uf n q[0]:=by
 unfold ug;rw[bH h];simp
def Ni{n:Int}{q:aa bg}{i:Nat}(h:i+1<q.length):ug n q (i+1)=(uf n q[i+1]&&(fX q[i] q[i+1] && !((q.take (i+1)).any λx=>x.id==q[i+1].id))):=by
 unfold ug
 grind
def gK(n:Int)(q:aa bg):Bool:=(List.range q.length).all (ug n q)&&decide ((q.length:Int)<=12)
def apj(n:Int)(q:aa bg){i:Nat}(h:i<q.length)(hl:q.length<1073741824):
  iter DT br ((n,q,(),q,(q.length:Int),(i:Int),((q.take i).drop 0),(((q.take i).drop 0).length:Int),(0:Int),()),((q[i].id,q[i].eC,q[i].line,q[i].write,q[i].data,q[i].at_,()),()))=some (bif (q.take i).any (λx=>x.id==q[i].id)then .inl ((false,()),())else .inr (.inl ((n,q,q,(q.length:Int),(i:Int),()),()))):=by
 rw[List.drop_zero];have hlen:(q.take i).length=i:=by rw[kG];omega
 generalize C:q[i]=r;generalize D:q.take i=t at *
 have e:=jB (step:=DT) t (λx=>!(x.id==r.id)) (λj=>((n,q,(),q,(q.length:Int),(i:Int),t,(t.length:Int),(j:Int),()),((r.id,r.eC,r.line,r.write,r.data,r.at_,()),()))) (.inl ((false,()),())) _ br (λk h=>by
  unfold DT aK bF xG xI;dsimp only;rw[aZ,aq,aO ⟨by omega,by omega⟩];simp only[bA];rw[bT];cases t[k].id==r.id<;>rfl) (by
  unfold DT aK bF xG xI;dsimp only;rw[bu,av]) (bZ)
 grind
def T4(n:Int)(q:aa bg)(hl:q.length<1073741824):BN n q=some (gK n q):=by
 unfold BN gK cH;have e:=jB (step:=Hh) (List.range q.length) (ug n q) (λi=>((n,q,q,(q.length:Int),(i:Int),()),())) (.inl ((false,()),())) (.inr (.inl ((q,()),()))) br (λk h=>by
   rw[eB]at h;rw[lV];unfold Hh aK bF xG xI cH;dsimp only;rw[aZ,aq,aO ⟨by omega,by omega⟩];simp only[bA,api,au];have C:=apj n q h hl;cases k with
   | zero=>
    rw[adu h];cases uf n q[0]with
    |false=>rfl
    | true=>
     simp only[bI,av,aq];rw[bu,av,aV ⟨by omega,by omega,by omega⟩]
     refine(bx (λo=>Option.bind o _) C).trans ?_
     simp;rfl
   | succ k=>
    rw[Ni h];cases uf n q[k+1]with
    |false=>rfl
    | true=>
     simp only[bI,av,cP];have D:W6 (((k+1:Nat):Int)-1)=(k:Int):=by rw[bf];omega
     simp only[D,bA];rw[aZ,aq,aO ⟨by omega,by omega⟩,T3,au];cases fX q[k] q[k+1]with
     |false=>rfl
     | true=>
      simp only[bI,av,cP];rw[aV ⟨by omega,by omega,by omega⟩]
      refine(bx (λo=>Option.bind o _) C).trans ?_
      rw[au];cases (q.take (k+1)).any λx=>x.id==q[k+1].id with
      |true=>rfl
      | false=>
       simp only[av,Sum.elim_inr,gw];rw[bT];rfl) (by
   rw[eB];unfold Hh aK bF xG xI cH;dsimp only;rw[bu,av]) (by rw[eB];exact bZ)
 rw[cZ]at e
 refine(bx (λo=>Option.bind o _) e).trans ?_
 rw[au];cases (List.range q.length).all (ug n q)<;>rfl
def lN(p:iG):Bool:=aQ p.state 0 2&&(aQ p.since 0 1000000&&aQ p.idle 0 1000000)
def Nj(p:iG):BO p=some (lN p):=by
 unfold BO lN;simp[cI]
 grind
def Ad(e:cC):Bool:=aQ e.line 0 1023&&((e.code==1 ||e.code==2)&&aQ e.times 1 999)
def p7(e x:cC):Bool:=x.line==e.line&&x.code==e.code
def Nk(l:aa cC)(i:Nat):Bool:=match l[i]? with
 |some e=>Ad e && !((l.take i).any (p7 e))
 |none=>false
def T5{l:aa cC}{i:Nat}(h:i<l.length):Nk l i=(Ad l[i] && !((l.take i).any (p7 l[i]))):=by
 unfold Nk;rw[bH h]
def nL(l:aa cC):Bool:=(List.range l.length).all (Nk l)&&decide ((l.length:Int)<=6)
def apk(l:aa cC){i:Nat}(h:i<l.length)(hl:l.length<1073741824):
  iter DU br ((l,(),l,(l.length:Int),(i:Int),((l.take i).drop 0),(((l.take i).drop 0).length:Int),(0:Int),()),((l[i].line,l[i].code,l[i].times,()),()))=some (bif (l.take i).any (p7 l[i])then .inl ((false,()),())else .inr (.inl ((l,l,(l.length:Int),(i:Int),()),()))):=by
 rw[List.drop_zero];have hlen:(l.take i).length=i:=by rw[kG];omega
 generalize C:l[i]=r;generalize D:l.take i=t at *
 have e:=jB (step:=DU) t (λx=>!(p7 r x)) (λj=>((l,(),l,(l.length:Int),(i:Int),t,(t.length:Int),(j:Int),()),((r.line,r.code,r.times,()),()))) _ _ br (λk h=>by
  unfold DU p7 aK bF xG xI;dsimp only;rw[aZ,aq,aO ⟨by omega,by omega⟩];simp only[bA];rw[bT,BEq.comm (a:=r.line),BEq.comm (a:=r.code)];cases t[k].line==r.line<;>cases t[k].code==r.code<;>rfl) (by
  unfold DU aK bF xG xI;dsimp only;rw[bu,av]) (bZ)
 grind
def adw(l:aa cC)(hl:l.length<1073741824):Hj l=some (nL l):=by
 unfold Hj nL cH;have e:=jB (step:=Hi) _ (Nk l) (λi=>((l,l,l.length,i,()),())) _ _ br (λk h=>by
   rw[eB]at h;rw[lV,T5 h];have C:=apk l h hl;unfold Hi Ad aK bF xG xI cH;dsimp only;rw[aZ,aq,aO ⟨by omega,by omega⟩];simp only[bA,cI,au,bne];rw[aV ⟨by omega,by omega,by omega⟩];rw[show (0:Int).toNat=0 from rfl,C];cases aQ l[k].line 0 1023<;>cases l[k].code==1<;>cases l[k].code==2<;>cases aQ l[k].times 1 999<;>cases (l.take k).any (p7 l[k])<;>first|rfl|(simp only[aq,av,bI,Bool.not_false,au,Sum.elim_inr,gw];rw[bT];rfl)) (by
   rw[eB];unfold Hi aK bF xG xI cH;dsimp only;rw[bu,av]) (by rw[eB];exact bZ)
 refine(bx (λo=>Option.bind o _) e).trans ?_
 cases (List.range _).all _<;>rfl
def Nl(l:aa Int)(x:Int)(hl:l.length<1073741824):BJ l x=some (iu (λe=>x==e) l):=by
 unfold BJ iu;have e:=Ez (step:=G9) l (λe=>x==e) (λi=>((l,x,l.length,i,()),())) _ _ br (λk h=>by
  unfold G9 aK bF xG xI;dsimp only;rw[aZ,aq,aO ⟨by omega,by omega⟩];simp only[bA];rw[bT];cases x==l[k]<;>rfl) (by
  unfold G9 aK bF xG xI;dsimp only;rw[bu,av]) (bZ hl)
 rw[cZ]at e;rw[e];cases l.findIdx? _<;>rfl
def ID(t:cK)(i:Nat):Bool:=match t.rows[i]?,t.counts[i]? with
 |some r,some c=>aQ r (-1) 15&&(aQ c t.eX 100000&&((r != -1 ||c==0)&&(r == -1 ||!((t.rows.take i).any λx=>r==x))))
 |_,_=>false
def Nm{t:cK}{i:Nat}(h:i<t.rows.length)(C:i<t.counts.length):ID t i=(aQ t.rows[i] (-1) 15&&(aQ t.counts[i] t.eX 100000&&((t.rows[i] != -1 || t.counts[i]==0)&&(t.rows[i] == -1 || !((t.rows.take i).any λx=>t.rows[i]==x))))):=by
 unfold ID;rw[bH h,bH C]
def lO(t:cK):Bool:=aQ (t.rows.length:Int) 1 16&&((t.rows.length:Int)==(t.counts.length:Int)&&(aQ t.eX 0 100000&&(List.range t.rows.length).all (ID t)))
def T6(t:cK):zK t=some (lO t):=by
 unfold zK lO cH;simp only[cI,au];cases D:aQ (t.rows.length:Int) 1 16 with
 |false=>rfl
 | true=>
  have D:=bh.1 D;by_cases C:(t.rows.length:Int)=(t.counts.length:Int)
  ·simp only[C,bne_self_eq_false,kH,bI,av,cP];cases T:aQ t.eX 0 100000 with
   |false=>rfl
   | true=>
    have e:=jB (step:=He) (List.range t.rows.length) (ID t) (λi=>(((),t.rows,(t.rows.length:Int),(i:Int),()),((t.rows,t.counts,t.eX,()),()))) (.inl ((false,()),())) (.inr (.inl ((),()))) br (λk h=>by
     rw[eB]at h;have E:k<t.counts.length:=by omega
     rw[lV,Nm h E];unfold He aK bF xG xI;dsimp only;rw[aZ,aq,aO ⟨by omega,by omega⟩,aO ⟨by omega,by omega⟩,aO ⟨by omega,by omega⟩];simp only[bA,cI,au,Nl _ _ (show t.rows.length<1073741824 by omega)];rw[adt (p:=λe=>t.rows[k]==e) h (by simp),bT];simp only[bne];cases aQ t.rows[k] (-1) 15<;>cases aQ t.counts[k] t.eX 100000<;>cases t.rows[k] == -1<;>cases t.counts[k]==0<;>cases (t.rows.take k).any (λe=>t.rows[k]==e)<;>rfl) (by
     rw[eB];unfold He aK bF xG xI;dsimp only;rw[bu,av]) (by rw[eB];exact bZ)
    rw[cZ,C]at e;simp only[bI,av,cP]
    refine(bx (λo=>Option.bind o _) e).trans ?_
    rw[au];cases (List.range t.rows.length).all (ID t)<;>rfl
  ·have I:((t.rows.length:Int)==(t.counts.length:Int))=false:=by simp[C]
   have O:((t.counts.length:Int) != (t.rows.length:Int))=true:=gU λh=>C h.symm
   rw[I,O];rfl
def w9(g:aF):W6 ((9:Int)*(W6 (aL g+(1:Int))))=9*(aL g+1):=by
 have:=ef g;rw[bf (n:=aL g+1),bf]
def IE(k:Int):xu k=some (aQ k 1 5):=by
 unfold xu;rw[cI];rfl
def apl(n:Int)(u:Bool)(k:Int):BP n u k=some (bif u then aQ n 0 (W6 (k-1))else n==0):=by
 unfold BP;rw[cI];cases u<;>rfl
def p9(g:aF)(i:Nat):Bool:=decide ((i:Int) / 9<aL g)==decide ((i:Int) % 9+1<=5)
def apm(g:aF){i:Nat}(hi:i<1000):∃ c,BH g (i:Int)=some (c,p9 g i):=by
 unfold BH p9;rw[jo,au,sV (by omega),ru (by omega),bf,bf,IE];have:aQ (i % 9+1) 1 5=decide ((i:Int) % 9+1 <= 5):=by
  simp[aQ];omega
 rw[this];cases decide (i / 9<aL g)<;>exact⟨_,rfl⟩
def IF(g:aF)(l:aa Int)(i:Nat):Bool:=match l[i]? with
 |some e=>aQ e (-1) 1000000&&(p9 g i ||e == -1)
 |none=>false
def Nn{g:aF}{l:aa Int}{i:Nat}(h:i<l.length):IF g l i=(aQ l[i] (-1) 1000000&&(p9 g i || l[i] == -1)):=by
 unfold IF;rw[bH h]
def qa(l:aa Int)(i:Nat):Bool:=match l[i]? with
 |some e=>aQ e 0 1000000&&(i==0 ||(match l[i-1]? with|some x=>!(decide (x >= e))|none=>false))
 |none=>false
def Np{l:aa Int}(h:0<l.length):qa l 0=aQ l[0] 0 1000000:=by
 unfold qa;rw[bH h];simp
def IG{l:aa Int}{i:Nat}(h:i+1<l.length):qa l (i+1)=(aQ l[i+1] 0 1000000 && !(decide (l[i] >= l[i+1]))):=by
 unfold qa
 grind
def jU(g:aF)(r:dP):Bool:=cg g&&((r.last.length:Int)==9*(aL g+1)&&(!(decide ((r.aX.length:Int) > 4))&&((List.range r.last.length).all (IF g r.last)&&(List.range r.aX.length).all (qa r.aX))))
def T7(g:aF)(r:dP):DP g r=some (jU g r):=by
 unfold DP jU cH;rw[pU,au,jo];cases T:cg g with
 |false=>rfl
 | true=>
  simp only[bI,av,au,cP,w9];by_cases C:(r.last.length:Int)=9*(aL g+1)
  ·have U:=ef g;rw[C,bne_self_eq_false,av,kH,cP,<-C];cases D:decide ((r.aX.length:Int) > 4)with
   |true=>rfl
   | false=>
    have D:=of_decide_eq_false D;have l1:=jB (step:=G1) (List.range r.last.length) (IF g r.last) (λi=>(((),(),r.last,(r.last.length:Int),(i:Int),()),((g.bD,g.aD,g.rows,g.aM,()),(r.last,r.aX,()),()))) (.inl ((false,()),())) (.inr (.inl (((),()),((r.last,r.aX,()),())))) br (λk h=>by
     rw[eB]at h;obtain⟨c,E⟩:=apm g (i:=k) (by omega);rw[lV,Nn h];unfold G1 aK bF xG xI;dsimp only;rw[aZ,aq,aO ⟨by omega,by omega⟩];simp only[bA,cI,au,qY,E,bne];rw[bT];cases aQ r.last[k] (-1) 1000000<;>cases p9 g k<;>cases r.last[k] == -1<;>rfl) (by
     rw[eB];unfold G1 aK bF xG xI;dsimp only;rw[bu,av]) (by rw[eB];exact bZ)
    have l2:=jB (step:=G2) (List.range r.aX.length) (qa r.aX) (λi=>(((),r.aX,(r.aX.length:Int),(i:Int),()),((r.last,r.aX,()),()))) (.inl ((false,()),())) (.inr (.inl ((),()))) br (λk h=>by
     rw[eB]at h;rw[lV];unfold G2 aK bF xG xI;dsimp only;rw[aZ,aq,aO ⟨by omega,by omega⟩];simp only[bA,cI,au];cases k with
     | zero=>
      rw[Np h];cases aQ r.aX[0] 0 1000000 with
      |false=>rfl
      | true=>
       rw[bu];rfl
     | succ k=>
      rw[IG h];have I:W6 (((k+1:Nat):Int)-1)=(k:Int):=by rw[bf];omega
      simp only[I,bA];rw[aZ (show ((k+1:Nat):Int) > 0 by omega),aO ⟨by omega,by omega⟩,bT];cases aQ r.aX[k+1] 0 1000000<;>cases decide (r.aX[k] >= r.aX[k+1])<;>rfl) (by
     rw[eB];unfold G2 aK bF xG xI;dsimp only;rw[bu,av]) (by rw[eB];exact bZ)
    rw[cZ]at l1 l2;simp only[Bool.not_false,av,cP]
    refine(bx (λo=>Option.bind o _) l1).trans ?_
    rw[au];cases (List.range r.last.length).all (IF g r.last)with
    |false=>rfl
    | true=>
     simp only[aq,Sum.elim_inr,gw,cP]
     refine(bx (λo=>Option.bind o _) l2).trans ?_
     rw[au];cases (List.range r.aX.length).all (qa r.aX)<;>rfl
  ·have O:((r.last.length:Int)==9*(aL g+1))=false:=by simp[C]
   rw[gU C,O];rfl
def apn(l:aa Int)(x:Int)(hl:l.length<1073741824):Lz l x=some (l.count x:Int):=by
 unfold Lz bQ;have e:=eE (step:=GW) _ (λi=>((x,((l.take i).count x),l,l.length,i,()),())) _ br (λk h=>by
  unfold GW aK xG xI;have C:(l.take k).count x <= k:=Nat.le_trans List.count_le_length (by rw[kG];omega);dsimp only;rw[aZ,aq,aO ⟨by omega,by omega⟩];simp only[bA];rw[List.take_succ_eq_append_getElem h,List.count_append,List.count_singleton,bT,bT];cases l[k]==x<;>rfl) (by
  unfold GW aK xG xI;dsimp only;rw[bu,av,List.take_length]) (bZ hl)
 simp_all
def adx{x:Int}:∀ (l:aa Int),(∀ j (h:j<l.length),l[j]=x -> x ∉ l.take j) -> l.count x <= 1
 |[],_=>by simp
 | y :: ys,h=>by
  rw[List.count_cons];by_cases e:y=x
  ·have:x ∉ ys:=by
    intro C;have⟨j,E,D⟩:=jf.1 C;refine h (j+1) (by simp;omega) (by simpa using D) ?_;simp_all
   grind
  ·have:=adx ys λj E D C=>h (j+1) (by simp;omega) (by simpa using D) (by rw[List.take_succ_cons];exact List.mem_cons_of_mem _ C)
   simp_all
def apo{x:Int}:∀ (l:aa Int) (j:Nat) (h:j<l.length),l[j]=x -> x∈l.take j -> 2 <= l.count x:=by
 intro l j h e C;have D:=List.count_pos_iff.2 C;have E:1 <= (l.drop j).count x:=List.count_pos_iff.2 (by rw[<- e];exact jf.2 ⟨0,by simp;omega,by simp⟩);have:l.count x=(l.take j).count x+(l.drop j).count x:=by rw[<- List.count_append,List.take_append_drop]
 omega
def uh(R M:Int)(L:aa Int)(j:Nat):Bool:=match L[j]? with
 |some e=>e==(j:Int) ||(aQ e R M && !(decide ((L.count e:Int) > 1)))
 |none=>false
def EA(R M:Int)(L:aa Int)(j:Nat):Bool:=match L[j]? with
 |some e=>e==(j:Int) ||(aQ e R M && !((L.take j).any λx=>x==e))
 |none=>false
def ady(R M:Int)(L:aa Int)(hR:(L.length:Int)=R):(List.range L.length).all (uh R M L)=(List.range L.length).all (EA R M L):=by
 rw[Bool.eq_iff_iff,bN,bN];simp only[fA];constructor
 ·intro h j C;have:=h j C;unfold uh at this;unfold EA;rw[bH C]at *
  simp only[dS,aJ,fH,oQ]at *
  rcases this with D|⟨D,U⟩
  ·simp_all
  ·refine .inr ⟨D,?_⟩;rw[mJ];intro x O I;have I:x=L[j]:=by simpa using I
   have:=apo L j C rfl (I ▸ O);omega
 ·intro h j C;have:=h j C;unfold EA at this;unfold uh;rw[bH C]at *
  simp only[dS,aJ,fH,oQ]at *
  rcases this with D|⟨D,U⟩
  ·simp_all
  ·refine .inr ⟨D,?_⟩;have Y:=(bh.1 D).1;have:=adx (x:=L[j]) L λk T e O=>by
    have E:=h k T;unfold EA at E;rw[bH T]at E;simp only[dS,aJ,fH]at E;rcases E with Z|⟨_,h4⟩
    ·grind
    ·grind
   omega
def gf(m:aa Int)(R b:Nat):aa Int:=(m.take ((b+1)*R)).drop (b*R)
def Nq(m:aa Int)(R b:Nat):gf m R b=(m.drop (b*R)).take R:=by
 unfold gf;rw[List.drop_take,iC,Nat.add_sub_cancel_left]
def II{m:aa Int}{R b:Nat}(h:(b+1)*R<=m.length):(gf m R b).length=R:=by
 rw[Nq,kG,List.length_drop];rw[iC]at h;omega
def Ae{C R b j:Nat}(hb:b<C)(D:j <= R):b*R+j <= C*R:=by
 have:=iB R hb
 grind
def adz{n:Nat}(h:n<4611686018427387904):W6 (n:Int)=(n:Int):=bf
def mC(g:aF)(s:fm):Bool:=m7 g s.bR&&((s.map.length:Int)==((aL g).toNat*(g.rows-s.bR).toNat:Nat)&&(List.range (aL g).toNat).all λb=>(List.range (g.rows-s.bR).toNat).all (uh (g.rows-s.bR) (g.rows-1) (gf s.map (g.rows-s.bR).toNat b)))
def Nr{g:aF}{s:fm}{R C b:Nat}(hR:g.rows-s.bR=(R:Int))(D:R<=16)(E:C<=8)(hb:b<C)(hl:s.map.length=C*R):BG g s (b:Int)=some (b*R,(b+1)*R):=by
 have U:C*R<=8*16:=Nat.mul_le_mul E D;have Y:b*R+R<=C*R:=Ae hb (dz R);have I:W6 (g.rows-s.bR)=(R:Int):=by rw[hR];exact bf
 have O:W6 ((b:Int)*(R:Int))=((b*R:Nat):Int):=by rw[<-Int.natCast_mul];exact bf
 have T:W6 (((b+1:Nat):Int)*(R:Int))=(((b+1)*R:Nat):Int):=by
  rw[<-Int.natCast_mul];exact bf (by omega) (by rw[iC];omega)
 unfold BG;rw[I,bT,O,T,iC,aV ⟨by omega,by omega,by omega⟩];simp only[bA]
def apq{g:aF}{s:fm}(R b:Int)(L:aa Int)(C:cg g=true)(D:L.length<1073741824):
  iter DM br (((),(),R,b,L,L,(L.length:Int),(0:Int),()),((g.bD,g.aD,g.rows,g.aM,()),(s.bR,s.map,()),()))=some (bif (List.range L.length).all (uh R (g.rows-1) L)then .inr (.inl (((),(),R,b,()),((g.bD,g.aD,g.rows,g.aM,()),(s.bR,s.map,()),())))else .inl ((false,()),())):=by
 have E:=fW C;have e:=jB (step:=DM) (List.range L.length) (uh R _ L) (λi=>(((),(),R,b,L,L,L.length,i,()),((g.bD,g.aD,g.rows,g.aM,()),(s.bR,s.map,()),()))) _ _ br (λk h=>by
  rw[eB]at h;rw[lV];unfold DM uh aK bF xG xI;dsimp only;rw[aZ,aq,aO ⟨by omega,by omega⟩,bH h];simp only[bA,cI,au,apn _ _ D,bne];rw[bT,bf (n:=g.rows-1)];cases L[k]==(k:Int)<;>cases aQ L[k] R (g.rows-1)<;>cases decide ((L.count L[k]:Int) > 1)<;>rfl) (by
  rw[eB];unfold DM aK bF xG xI;dsimp only;rw[bu,av]) (by rw[eB];exact bZ)
 simp_all
def adA(g:aF)(s:fm):GY g s=some (mC g s):=by
 unfold GY mC cH;rw[TZ,au,adn];cases D:m7 g s.bR with
 |false=>rfl
 | true=>
  obtain⟨I,s0,s2,th,Ns⟩:=adk D;have O:=ef g;have T:((vw g s.bR).1.map.length:Int)=(((aL g).toNat*(g.rows-s.bR).toNat:Nat):Int):=by
   unfold vw;rw[D,aq,adj]
  rw[T];obtain⟨C,hb⟩:=fk O.1;obtain⟨R,hR⟩:=fk (show 0<=g.rows-s.bR by omega);rw[hb,hR];simp only[bA,bI,av,cP];by_cases hl:(s.map.length:Int)=((C*R:Nat):Int)
  ·have E:s.map.length=C*R:=by omega
   rw[hl,bne_self_eq_false,av,kH,cP];have U:W6 (R:Int)=(R:Int):=bf;have e:=jB (step:=GX) (List.range C) (λb=>(List.range R).all (uh (R:Int) (g.rows-1) (gf s.map R b))) (λi=>(((),(),(R:Int),(i:Int),()),((g.bD,g.aD,g.rows,g.aM,()),(s.bR,s.map,()),()))) (.inl ((false,()),())) (.inr (.inl ((),()))) br (λk h=>by
    rw[eB]at h;rw[lV];have Y:=Ae (R:=R) h (dz R);have hlen:(gf s.map R k).length=R:=II (by rw[iC,E];exact Y);have Z:=apq (g:=g) (s:=s) (R:Int) (k:Int) (gf s.map R k) I (by omega);unfold GX aK bF xG cH;dsimp only;rw[qY,jo,au,hb,aZ,aq];have hbr:BG g (⟨s.bR,s.map⟩:fm) (k:Int)=some (k*R,(k+1)*R):=Nr (s:=⟨s.bR,s.map⟩) hR (by omega) (by omega) h E;rw[hbr,au];have hc:(Nat.ble (k*R) ((k+1)*R)&&Nat.ble ((k+1)*R) s.map.length)=true:=by
     rw[aJ];exact⟨iF (by rw[iC];omega),iF (by rw[iC];omega)⟩
    rw[hc,aq]
    refine(bx (λo=>Option.bind o _) Z).trans ?_
    rw[au,hlen];cases (List.range R).all (uh (R:Int) (g.rows-1) (gf s.map R k))with
    |false=>rfl
    | true=>
     simp only[aq,Sum.elim_inr,gw];rw[bT]) (by
    rw[eB];unfold GX aK bF xG cH;dsimp only;rw[qY,jo,au,hb,bu,av]) (by rw[eB];exact bZ)
   rw[cZ]at e;rw[U]
   refine(bx (λo=>Option.bind o _) e).trans ?_
   rw[au];cases (List.range C).all λb=>(List.range R).all (uh (R:Int) (g.rows-1) (gf s.map R b))<;>rfl
  ·have e2:((s.map.length:Int)==((C*R:Nat):Int))=false:=by simp only[beq_eq_false_iff_ne];exact hl
   rw[gU hl,e2];rfl
def fP(g:aF)(s:fm):aF:=bif mC g s then ⟨g.bD,g.aD,W6 (g.rows-s.bR),g.aM⟩else ⟨0,0,0,0⟩
def Cc(g:aF)(s:fm):xq g s=some (fP g s):=by
 unfold xq fP;rw[adA,au];cases mC g s<;>rfl
def gV(c:ax):ax:=c
def eF(a x:aN):Bool:=x.aA==a.aA&&(x.row==a.row&&(x.bX==a.bX&&true))
def adB(l:aa aN)(a:aN)(hl:l.length<1073741824):DS l a=some (iu (eF a) l):=by
 unfold DS iu;have e:=Ez (step:=Hf) l (eF a) (λi=>((l,(),l.length,i,()),((a.aA,a.row,a.bX,()),()))) _ _ br (λk h=>by
  unfold Hf eF aK bF xG xI;dsimp only;rw[aZ,aq,aO ⟨by omega,by omega⟩];simp only[bA];rw[bT,BEq.comm (a:=a.aA),BEq.comm (a:=a.row),BEq.comm (a:=a.bX)];cases (l[k].aA==a.aA&&(l[k].row==a.row&&(l[k].bX==a.bX&&true)))<;>rfl) (by
  unfold Hf aK bF xG xI;dsimp only;rw[bu,av]) (bZ hl)
 rw[cZ]at e;rw[e];cases l.findIdx? _<;>rfl
def partAt(c:ax)(i:Nat):Bool:=match c.bE[i]?,c.guard[i]? with
 |some t,some x=>lO t&&aQ x 3 1000
 |_,_=>false
def Af(c:ax)(i:Nat):Bool:=match c.pending[i]? with
 |some a=>dU c.config.ak a&&(a.bX==0 && !((c.pending.take i).any (eF a)))
 |none=>false
def sH(c:ax):Bool:=(c.aE.aC.length:Int)==aL c.config.ak&&((c.bE.length:Int)==aL c.config.ak&&((c.guard.length:Int)==aL c.config.ak&&(!(decide ((c.pending.length:Int) > 128))&&((List.range c.bE.length).all (partAt c)&&(List.range c.pending.length).all (Af c)))))
def adC(c:ax)(G:(Int×Int×Int×Int×ah))(n i:Int):LC (((),(),n,i,()),(gV c,G,()))=(bif (decide (i<n))then if C:0<=i/\i.toNat<c.bE.length then (zK (c.bE[i.toNat]'C.2)).bind λD=>bif (!D)then some (.inr (.inl ((false,()),())))else if E:0<=i/\i.toNat<c.guard.length then (bO (c.guard[i.toNat]'E.2) (3:Int) (1000:Int)).bind λI=>bif (!I)then some (.inr (.inl ((false,()),())))else some (.inl (((),(),n,(W6 (i+(1:Int))),()),(gV c,G,())))else none else none else some (.inr (.inr (.inl (((),(),()),(gV c,G,())))))):=rfl
def adD(c:ax)(g:aF)(l:aa aN)(n i:Int):LD (((),(),l,n,i,()),(gV c,(g.bD,g.aD,g.rows,g.aM,()),()))=(bif (decide (i<n))then if C:0<=i/\i.toNat<l.length then (xw g (l[i.toNat]'C.2)).bind λD=>bif (!D)then some (.inr (.inl ((false,()),())))else bif ((l[i.toNat]'C.2).bX != (0:Int))then some (.inr (.inl ((false,()),())))else (DS c.pending (l[i.toNat]'C.2)).bind λE=>bif (E != i)then some (.inr (.inl ((false,()),())))else some (.inl (((),(),l,n,(W6 (i+(1:Int))),()),(gV c,(g.bD,g.aD,g.rows,g.aM,()),())))else none else some (.inr (.inr (.inl ((),()))))):=rfl
def apr(c:ax)(T:c.aE.aC.length<1073741824):LF c=some (fj c.aE&&sH c):=by
 unfold LF sH cH;rw[jo,au,Ey _ T,au];cases fj c.aE with
 |false=>rfl
 |true=>
 simp only[bI,av,cP];have b1:=ef c.config.ak;by_cases C:(c.aE.aC.length:Int)=aL c.config.ak
 ·by_cases D:(c.bE.length:Int)=aL c.config.ak
  ·by_cases E:(c.guard.length:Int)=aL c.config.ak
   ·have U:((c.aE.aC.length:Int) != aL c.config.ak)=false:=by simp[C]
    have Y:((c.bE.length:Int) != aL c.config.ak)=false:=by simp[D]
    have Z:((c.guard.length:Int) != aL c.config.ak)=false:=by simp[E]
    have q1:((c.aE.aC.length:Int)==aL c.config.ak)=true:=by simp[C]
    have q2:((c.bE.length:Int)==aL c.config.ak)=true:=by simp[D]
    have q3:((c.guard.length:Int)==aL c.config.ak)=true:=by simp[E]
    rw[U,Y,Z,q1,q2,q3];simp only[av,cP];cases I:decide ((c.pending.length:Int) > 128)with
    |true=>rfl
    | false=>
     have I:=of_decide_eq_false I;have l1:=jB (step:=LC) (List.range c.bE.length) (partAt c) (λi=>(((),(),(c.bE.length:Int),(i:Int),()),(gV c,(c.config.ak.bD,c.config.ak.aD,c.config.ak.rows,c.config.ak.aM,()),()))) (.inl ((false,()),())) (.inr (.inl (((),(),()),(gV c,(c.config.ak.bD,c.config.ak.aD,c.config.ak.rows,c.config.ak.aM,()),())))) br (λk h=>by
      rw[eB]at h;rw[lV,adC,aZ,aq,aO ⟨by omega,by omega⟩,aO ⟨by omega,by omega⟩];simp only[bA,T6,cI,au];unfold partAt;rw[bH h,bH (show k<c.guard.length by omega),bT];simp only;cases lO c.bE[k]<;>cases aQ (c.guard[k]'(by omega)) 3 1000<;>rfl) (by
      rw[eB,adC,bu,av]) (by rw[eB];exact bZ)
     have l2:=jB (step:=LD) (List.range c.pending.length) (Af c) (λi=>(((),(),c.pending,(c.pending.length:Int),(i:Int),()),(gV c,(c.config.ak.bD,c.config.ak.aD,c.config.ak.rows,c.config.ak.aM,()),()))) (.inl ((false,()),())) (.inr (.inl ((),()))) br (λk h=>by
      rw[eB]at h;rw[lV,adD,aZ,aq,aO ⟨by omega,by omega⟩];simp only[bA,B7,au,adB _ _ (show c.pending.length<1073741824 by omega),bne];have O:=adt (p:=eF c.pending[k]) h (by simp[eF]);rw[bne]at O;rw[O];unfold Af;rw[bH h,bT];simp only;cases dU c.config.ak c.pending[k]<;>cases c.pending[k].bX==0<;>cases (c.pending.take k).any (eF c.pending[k])<;>rfl) (by
      rw[eB,adD,bu,av]) (by rw[eB];exact bZ)
     rw[cZ]at l1 l2;simp only[Bool.not_false,av,cP]
     refine(bx (λo=>Option.bind o _) l1).trans ?_
     rw[au];cases (List.range c.bE.length).all (partAt c)with
     |false=>rfl
     | true=>
      simp only[aq,Sum.elim_inr,gw,cP]
      refine(bx (λo=>Option.bind o _) l2).trans ?_
      rw[au];cases (List.range c.pending.length).all (Af c)<;>rfl
   ·simp[C,D,gU E,E]
  ·simp[C,gU D,D]
 ·simp[gU C,C]
def uj(n:Int)(u:Bool)(k:Int):Bool:=bif u then aQ n 0 (k-1)else n==0
def cQ(g:aF)(c:aR):Bool:=cg g&&(aQ c.kind 1 9&&(uj c.aA (aQ c.kind 1 5) (aL g)&&(uj c.row (c.kind==1) g.rows&&uj c.bX (c.kind==2 ||c.kind==3) g.aM)))
def aps(k:Int):LI k=some (k==1):=by
 unfold LI;rfl
def apt(k:Int):LJ k=some (k==2 || k==3):=by
 unfold LJ;cases k==2<;>rfl
def T8{n k:Int}(u:Bool)(h:-1000<k/\k<1000):BP n u k=some (uj n u k):=by
 rw[apl,bf];rfl
def Nt(g:aF)(c:aR):BQ g c=some (cQ g c):=by
 unfold BQ cQ;rw[pU];cases C:cg g with
 |false=>rfl
 | true=>
  have D:=ef g;have E:=fW C;unfold S5;simp only[aq,jo,au,cI,IE,aps,apt,T8 _ (show -1000<aL g/\aL g<1000 by omega),T8 _ (show -1000<g.rows/\g.rows<1000 by omega),T8 _ (show -1000<g.aM/\g.aM<1000 by omega),cP]
  grind
def q6{g:aF}{c:aR}(h:cQ g c=true):cg g=true/\(1 <= c.kind/\c.kind <= 9)/\(c.kind <= 5 -> 0 <= c.aA/\c.aA<aL g)/\(5<c.kind -> c.aA=0):=by
 simp[cQ,aJ,bh]at h
 refine⟨h.1,h.2.1,λD=>?_,λD=>?_⟩
 ·have:=h.2.2.1;rw[uj,show aQ _ 1 5=true from bh.2 ⟨h.2.1.1,D⟩,aq,bh]at this;omega
 ·have:=h.2.2.1;have C:aQ c.kind 1 5=false:=by
   cases C:aQ _ 1 5 with
   |false=>rfl
   |true=>have:=bh.1 C;omega
  rwa [uj,C,av,fl]at this
def kinds{k:Int}(h:1<=k/\k<=9):k=1\/k=2\/k=3\/k=4\/k=5\/k=6\/k=7\/k=8\/k=9:=by omega
def eT(r:bL)(b:Int):dK:=r.aD.getD b.toNat ⟨false,0⟩
def iO(r:bL)(c:aR):Bool:=
 bif c.kind==1 ||c.kind==5 then r.aU==0 && !(eT r c.aA).open_ else
 bif c.kind==2 ||c.kind==3 ||c.kind==4 then r.aU==0&&(eT r c.aA).open_ else
 bif c.kind==6 then r.aU==0 else
 bif c.kind==8 then r.aU==0&&r.aD.all (λb=>!b.open_)else
 bif c.kind==7 then r.aU==1 else r.aU==2
def dx(r:bL)(c:aR):bL:=
 bif c.kind==1 then ⟨r.aD.set c.aA.toNat ⟨true,c.row⟩,r.aU⟩else
 bif c.kind==4 then ⟨r.aD.set c.aA.toNat ⟨false,0⟩,r.aU⟩else
 bif c.kind==6 then ⟨r.aD,1⟩else
 bif c.kind==8 then ⟨r.aD,2⟩else
 bif c.kind==7 ||c.kind==9 then ⟨r.aD,0⟩else r
def apu{r:bL}{b:Int}(h:b.toNat<r.aD.length):r.aD[b.toNat]=eT r b:=by
 simp[eT,h]
def apv(r:bL):(((opens 0 r.aD).length:Int)==0)=r.aD.all λb=>!b.open_:=by
 rw[<-adr 0 r.aD,Bool.eq_iff_iff];simp only[fl];omega
def T9(g:aF)(r:bL)(c:aR):Ho g r c=some (kA g r&&(cQ g c&&iO r c)):=by
 unfold Ho xI;rw[ads,au];cases C:kA g r with
 |false=>rfl
 | true=>
  rw[Nt,au];cases D:cQ g c with
  |false=>rfl
  | true=>
   have⟨I,E,hb,_⟩:=q6 D;have hlen:(r.aD.length:Int)=aL g:=by
    simp[kA,aJ,fl]at C;simp_all
   have O:=ef g;have hb:c.kind <= 5 -> 0 <= c.aA/\c.aA.toNat<r.aD.length:=λh=>by have:=hb h;omega
   have hl:r.aD.length<1073741823:=by omega
   simp only[bI,av,cP];unfold iO;rcases kinds E with h|h|h|h|h|h|h|h|h
   case inr.inr.inr.inr.inr.inr.inr.inl=>simp[h,Na r hl,apv];cases r.aU==0<;>rfl
   all_goals (try (have hb:=hb (by omega)))<;>simp[h,hb,apu]<;>(cases r.aU==0<;>rfl)
def kB(g:aF)(r:bL)(c:aR):Bool:=kA g r&&(cQ g c&&iO r c)
def EB(g:aF)(r:bL)(c:aR):bL×Bool:=bif kB g r c then (dx r c,true)else (r,false)
def Cd{g:aF}{r:bL}{c:aR}(h:kB g r c=true):cg g=true/\(r.aD.length:Int)=aL g/\(1 <= c.kind/\c.kind <= 9)/\(c.kind <= 5 -> 0 <= c.aA/\c.aA.toNat<r.aD.length):=by
 simp[kB,aJ]at h;have⟨D,E,hb,_⟩:=q6 h.2.1;have C:=h.1;simp[kA,aJ,fl]at C;simp_all
def apw(r:bL):(⟨r.aD,r.aU⟩:bL)=r:=rfl
def apx(r:bL)(h:r.aD.length<1073741824):DC r=some r:=by
 unfold DC xA xZ;rw[show ([]).length+r.aD.length=r.aD.length by simp,fe h];rfl
def Ua(g:aF)(r:bL)(c:aR)(h:r.aD.length<1073741824):xz g r c=some (EB g r c):=by
 unfold xz EB xL;rw[apx r h,T9];change (bif !(kB g r c)then _ else _)=_;cases C:kB g r c with
 |false=>rfl
 | true=>
  have⟨D,hlen,E,hb⟩:=Cd C;unfold dx
  grind
def kC(g:aF):bL:=⟨List.replicate (aL g).toNat ⟨false,0⟩,0⟩
def Ub(g:aF):Ei g=some (kC g):=by
 have D:=ef g;unfold Ei kC;rw[pU,au];cases C:cg g with
 | false=>
  have:aL g=0:=by simp[aL,C]
  rw[this];rfl
 | true=>
  simp only[bI,av,jo,au];rw[aV ⟨by omega,by omega,by omega⟩]
def adE(r:bL)(c:aR):(dx r c).aD.length=r.aD.length:=by
 unfold dx
 grind
def xN(t:bW)(a b:Int):Int:=
 bif a==1 then (bif b==2 ||b==3 then t.qq else bif b==4 then t.jD else bif b==1 ||b==5 then W6 (t.jD+t.rp)else 0)else
 bif a==2 then (bif b==4 then t.mK else bif b==1 ||b==5 then W6 (t.mK+t.rp)else 0)else
 bif a==3 then (bif b==4 then t.wr else bif b==1 ||b==5 then W6 (t.wr+t.rp)else 0)else
 bif a==4 then (bif b==1 ||b==5 then t.rp else 0)else
 bif a==5 then (bif b==1 ||b==5 then t.sW else 0)else 0
def Ag(t:bW)(a b:Int)(C:Bool):Int:=
 bif a==7 then t.xp else bif a==9 then t.xs else
 bif (a==6&&b==7) ||(a==8&&b==9)then t.sX else
 bif a==1&&b==1 then (bif C then t.nT else t.rz)else
 bif (a==2&&b==2) ||(a==3&&b==3)then (bif C then t.rB else t.rA)else
 bif a==3&&b==2 then (bif C then t.rD else t.rC)else
 bif a==2&&b==3 then t.uF else
 bif a==5&&b==5 then t.nT else
 bif a==2&&b==6 then t.mK else bif a==3&&b==6 then t.wr else
 bif b==8 then xN t a 1 else 0
def apy(t:bW){a b:Int}(C:1<=a/\a<=9)(hb:1<=b/\b<=9):LL t a b=some (xN t a b):=by
 rcases kinds C with rfl|rfl|rfl|rfl|rfl|rfl|rfl|rfl|rfl<;>rcases kinds hb with rfl|rfl|rfl|rfl|rfl|rfl|rfl|rfl|rfl<;>kernel_rfl
def Uc(t:bW){a b:Int}(C:Bool)(D:1<=a/\a<=9)(hb:1<=b/\b<=9):LM t a b C=some (Ag t a b C):=by
 cases C<;>rcases kinds D with rfl|rfl|rfl|rfl|rfl|rfl|rfl|rfl|rfl<;>rcases kinds hb with rfl|rfl|rfl|rfl|rfl|rfl|rfl|rfl|rfl<;>kernel_rfl
def sI(a b:aR):Bool:=aQ a.kind 1 5&&aQ b.kind 1 5
def Ah(g:aF)(a b:aR):Bool:=sI a b&&(W6 (a.aA.tdiv g.aD)==W6 (b.aA.tdiv g.aD))
def gp(g:aF)(t:bW)(a b:aR):Int:=
 bif sI a b&&a.aA==b.aA then max (max 1 (Ag t a.kind b.kind (Ah g a b))) (xN t a.kind b.kind)else max 1 (Ag t a.kind b.kind (Ah g a b))
def Ud(x y:Int):(if x > y then x else y)=max x y:=by
 rw[Int.max_def];split<;>split<;>omega
def adF{g:aF}{b:Int}(h:0<=b/\b<aL g)(C:cg g=true):Hs g b=some (W6 (b.tdiv g.aD)):=by
 have D:=ef g;have E:=fW C;unfold Hs;rw[jo,au,cI,au,bf,bh.2 ⟨h.1,by omega⟩,bI,av,aW]
def apz{k:Int}(h:1<=k/\k<=9):aQ k 1 5=decide (k<=5):=by
 unfold aQ;rw[aZ h.1,cP]
def adG{g:aF}(t:bW){a b:aR}(E:cg g=true)(C:1 <= a.kind/\a.kind <= 9)(D:1 <= b.kind/\b.kind <= 9)(I:a.kind <= 5 -> 0 <= a.aA/\a.aA<aL g)(O:b.kind <= 5 -> 0 <= b.aA/\b.aA<aL g):zM g t a b=some (gp g t a b):=by
 unfold zM gp Ah sI;simp only[IE,au];cases T:aQ a.kind 1 5 with
 | false=>
  simp;rw[Uc t false C D,au,Ud,Int.max_comm]
 | true=>
  cases U:aQ b.kind 1 5 with
  | false=>
   simp;rw[Uc t false C D,au,Ud,Int.max_comm]
  | true=>
   have Y:=bh.1 T;have Z:=bh.1 U;simp only[aq,cP];rw[adF (I Y.2) E,au,adF (O Z.2) E,au,Uc t _ C D,au,apy t C D];cases a.aA==b.aA with
   |false=>grind
   |true =>grind
def apA(g:aF)(t:bW)(a b:aR):1<=gp g t a b:=by
 unfold gp;cases sI a b&&a.aA==b.aA<;>simp only[aq,av]<;>omega
def Ue{t:bW}(h:ja t=true):∀ x∈qZ t,1 <= x/\x <= 64:=by
 simp[ja,aJ,bN]at h;exact λx C=>bh.1 (h.1 x C)
def adH{t:bW}(h:ja t=true)(a b:Int):0 <= xN t a b/\xN t a b <= 128:=by
 have hb:=Ue h;simp only[qZ,gk,List.not_mem_nil,or_false,forall_eq_or_imp,forall_eq]at hb;have⟨C,D,E,I,O,T,U,Y,Z,Ce,xO,o9,oH,uk,vz,pJ,Ai⟩:=hb;unfold xN;rw[bf (n:=t.jD+t.rp),bf (n:=t.mK+t.rp),bf (n:=t.wr+t.rp)]
 grind
def apB{c:Bool}{x y a b:Int}(C:a<=x/\x<=b)(D:a<=y/\y<=b):a<=(bif c then x else y)/\(bif c then x else y)<=b:=by
 cases c
 ·exact D
 ·exact C
def apC{t:bW}(h:ja t=true)(a b:Int)(n:Bool):0 <= Ag t a b n/\Ag t a b n <= 128:=by
 have hb:=Ue h;simp[qZ,gk,forall_eq_or_imp,forall_eq]at hb;have C:=adH h a 1
 repeat' (first|exact C|refine apB ?_ ?_|omega)
def gA(g:aF)(c:aR):Int:=9*(bif aQ c.kind 1 5 then c.aA else aL g)+c.kind-1
def EC{g:aF}{c:aR}(h:cQ g c=true):0 <= gA g c/\gA g c<9*(aL g+1):=by
 have⟨C,D,hb,_⟩:=q6 h;have E:=ef g;unfold gA
 grind
def apD{g:aF}{c:aR}(h:cQ g c=true):L4 g c=some (gA g c):=by
 have⟨C,D,hb,_⟩:=q6 h;have E:=ef g;unfold L4 gA;simp[jo,au,IE];cases hu:aQ _ 1 5 with
 | true=>
  have:=bh.1 hu;simp;rw[bf (n:=9*c.aA),bf (n:=9*c.aA+c.kind),bf]
 | false=>
  simp;rw[bf (n:=9*aL g),bf (n:=9*aL g+c.kind),bf]
def apE(r:dP)(C:r.last.length<1073741824)(D:r.aX.length<1073741824):DD r=some r:=by
 unfold DD xA xZ;rw[show ([]).length+r.last.length=r.last.length by simp,fe C,show ([]).length+r.aX.length=r.aX.length by simp,fe D];rfl
def vA(r:dP)(x:Int):Bool:=match r.aX.getLast? with
 |some y=>decide (x<=y)
 |none=>false
def Cf(l:aa Int)(x:Int):aa Int:=(l++[x]).drop (l.length+1-4)
def gL(g:aF)(r:dP)(e:bK):dP:=
 bif jU g r&&(cQ g e.cmd&&(aQ e.at_ 0 1000000 && !(e.cmd.kind==1&&vA r e.at_)))then ⟨r.last.set (gA g e.cmd).toNat e.at_,bif e.cmd.kind==1 then Cf r.aX e.at_ else r.aX⟩else r
def ED{g:aF}{r:dP}(h:jU g r=true):cg g=true/\(r.last.length:Int)=9*(aL g+1)/\r.aX.length <= 4:=by
 simp[jU,aJ,fl,fH,oQ]at h
 grind
def apF{l:aa Int}(h:0<l.length)(C:(W6 ((l.length:Int)-1)).toNat<l.length)(hl:l.length<1073741824):l.getLast?=some (l[(W6 ((l.length:Int)-1)).toNat]'C):=by
 have e:(W6 ((l.length:Int)-1)).toNat=l.length-1:=by rw[bf];omega
 simp only[e];rw[List.getLast?_eq_getElem?,bH (by omega)]
def adJ(g:aF)(r:dP)(e:bK)(T:r.last.length<1073741824)(U:r.aX.length<1073741824):D8 g r e=some (gL g r e):=by
 unfold D8 gL xA xI xL xZ;rw[apE r T U,au,T7,au];cases Y:jU g r with
 |false=>rfl
 | true=>
  simp only[bI,av,cP];rw[Nt,au];cases D:cQ g e.cmd with
  |false=>rfl
  | true=>
   simp only[bI,av,cP];rw[cI,au];cases ha:aQ e.at_ 0 1000000 with
   |false=>rfl
   | true=>
    obtain⟨hg,hl,h4⟩:=ED Y;have E:=EC D;have b1:=ef g;simp only[bI,av,cP,apD D,au];cases hk:(e.cmd.kind==1)with
    | false=>
     simp only[av,Bool.false_and,Bool.not_false,aq];rw[aO ⟨E.1,by omega⟩,aO]
    | true=>
     have tl:∀ (A B:aj dP),(if o9:0<=gA g e.cmd/\(gA g e.cmd).toNat<r.last.length then if oH:(gA g e.cmd).toNat<r.last.length then (bif cv (r.aX.length+([e.at_]:aa Int).length)then if 0<=(if W6 (((r.aX++[e.at_]).length:Int)-4) > 0 then W6 (((r.aX++[e.at_]).length:Int)-4)else 0)/\(if W6 (((r.aX++[e.at_]).length:Int)-4) > 0 then W6 (((r.aX++[e.at_]).length:Int)-4)else 0)<=((r.aX++[e.at_]).length:Int)/\((r.aX++[e.at_]).length:Int)<=((r.aX++[e.at_]).length:Int)then bif cv (([]:aa Int).length+(((r.aX++[e.at_]).take (((r.aX++[e.at_]).length:Int).toNat)).drop ((if W6 (((r.aX++[e.at_]).length:Int)-4) > 0 then W6 (((r.aX++[e.at_]).length:Int)-4)else 0).toNat)).length)then some (⟨(r.last.set (gA g e.cmd).toNat e.at_),(([]:aa Int)++(((r.aX++[e.at_]).take (((r.aX++[e.at_]).length:Int).toNat)).drop ((if W6 (((r.aX++[e.at_]).length:Int)-4) > 0 then W6 (((r.aX++[e.at_]).length:Int)-4)else 0).toNat)))⟩:dP)else none else none else none)else A else B)=some ⟨r.last.set (gA g e.cmd).toNat e.at_,Cf r.aX e.at_⟩:=by
      intro A B;have I:(r.aX++[e.at_]).length=r.aX.length+1:=by simp
      have Z:(if W6 (((r.aX.length+1:Nat):Int)-4) > 0 then W6 (((r.aX.length+1:Nat):Int)-4)else 0)=((r.aX.length+1-4:Nat):Int):=by
       rw[bf];split<;>omega
      rw[aO ⟨E.1,by omega⟩,aO,fe (by simp;omega),aq,I,Z,aV ⟨by omega,by omega,by omega⟩,fe (by simp;omega),aq];unfold Cf;simp only[bA,List.nil_append];rw[<-I,List.take_length]
     simp only[aq,cP];unfold vA;by_cases C:0<r.aX.length
     ·have O:(W6 ((r.aX.length:Int)-1))=((r.aX.length-1:Nat):Int):=by rw[bf];omega
      have hi:(W6 ((r.aX.length:Int)-1)).toNat<r.aX.length:=by rw[O];omega
      rw[aZ (show (r.aX.length:Int) > 0 by omega),aq,aO ⟨by rw[O];omega,hi⟩,apF C hi (by omega)];dsimp only;cases decide (e.at_<=r.aX[(W6 ((r.aX.length:Int)-1)).toNat])with
      |true=>rfl
      | false=>
       simp only[av,Bool.not_false,aq];exact tl _ _
     ·have C:r.aX=[]:=List.eq_nil_of_length_eq_zero (by omega);rw[bu (by rw[C];simp),av];rw[show r.aX.getLast?=none by rw[C];rfl];simp only[Bool.not_false,aq];exact tl _ _
def mD{A T:Type}(f:Nat->A->T->aj A):Nat->aa T->A->aj A
 |_,[],a=>some a
 | k,x :: l,a=>match f k a x with
  |some C=>mD f (k+1) l C
  |none=>none
def Uf{α β T A:Type}{step:α->aj (α⊕β)}(f:Nat->A->T->aj A)(S:Nat->A->α)(zf:Nat->A->T->β)(z:A->β)(I:Nat->A->Prop):∀ (l:aa T) (k:Nat) (a:A) (fuel:Nat),I k a->l.length<fuel->
  (∀i (h:i<l.length) a,I (k+i) a->step (S (k+i) a)=some (match f (k+i) a l[i]with|some C=>.inl (S (k+i+1) C)|none=>.inr (zf (k+i) a l[i])))->
  (∀i (h:i<l.length) a C,I (k+i) a->f (k+i) a l[i]=some C->I (k+i+1) C)->
  (∀a,I (k+l.length) a->step (S (k+l.length) a)=some (.inr (z a)))->
  (∃C,mD f k l a=some C/\I (k+l.length) C/\iter step fuel (S k a)=some (z C))\/(mD f k l a=none/\∃i C,∃(h:i<l.length),I (k+i) C/\f (k+i) C l[i]=none/\iter step fuel (S k a)=some (zf (k+i) C l[i]))
 | [],k,a,fuel,E,Y,hs,hI,hz=>by
  obtain⟨n,rfl⟩:∃n,fuel=n+1:=⟨fuel-1,by simp at Y;omega⟩
  refine .inl ⟨a,rfl,by simpa using E,?_⟩;have:=hz a (by simpa using E);rw[List.length_nil,Nat.add_zero]at this;simp only[iter,this]
 | x :: l,k,a,fuel,E,Y,hs,hI,hz=>by
  obtain⟨n,rfl⟩:∃n,fuel=n+1:=⟨fuel-1,by simp at Y;omega⟩
  have O:=hs 0 (by simp) a (by simpa using E);simp only[Nat.add_zero,List.getElem_cons_zero]at O;cases D:f k a x with
  | none=>
   rw[D]at O;refine .inr ⟨by simp only[mD,D],0,a,by simp,by simpa using E,by simpa using D,?_⟩;simp only[iter,O,Nat.add_zero,List.getElem_cons_zero]
  | some Z=>
   rw[D]at O;have h1:I (k+1) Z:=by
    have:=hI 0 (by simp) a Z (by simpa using E) (by simpa using D)
    simpa using this
   have ih:=Uf f S zf z I l (k+1) Z n h1 (by simp at Y;omega) (λi h a U=>by
     have e:=hs (i+1) (by simp;omega) a (by rw[show k+(i+1)=k+1+i by omega];exact U);rw[show k+(i+1)=k+1+i by omega]at e
     simpa using e) (λi h a C U hff=>by
     have e:=hI (i+1) (by simp;omega) a C (by rw[show k+(i+1)=k+1+i by omega];exact U) (by rw[show k+(i+1)=k+1+i by omega];simpa using hff);rw[show k+(i+1)=k+1+i by omega]at e;exact e) (λa U=>by
     have e:=hz a (by simp only[List.length_cons];rw[show k+(l.length+1)=k+1+l.length by omega];exact U);simp only[List.length_cons]at e;rw[show k+(l.length+1)=k+1+l.length by omega]at e;exact e)
   have hit:iter step (n+1) (S k a)=iter step n (S (k+1) Z):=by simp only[iter,O]
   rcases ih with ⟨C,e1,e2,e3⟩|⟨e1,i,C,h,e2,e3,e4⟩
   ·refine .inl ⟨C,by simp only[mD,D];exact e1,?_,by rw[hit];exact e3⟩;simp only[List.length_cons];rw[show k+(l.length+1)=k+1+l.length by omega];exact e2
   ·refine .inr ⟨by simp only[mD,D];exact e1,i+1,C,by simp;omega,?_,?_,?_⟩
    ·rw[show k+(i+1)=k+1+i by omega];exact e2
    ·rw[show k+(i+1)=k+1+i by omega];simpa using e3
    ·rw[hit,show k+(i+1)=k+1+i by omega];simpa using e4
def gq(l:aa bK):aa Int:=(l.filter λe=>e.cmd.kind==1).map (·.at_)
def apG{l:aa bK}{i:Nat}(h:i<l.length):gq (l.take (i+1))=bif l[i].cmd.kind==1 then gq (l.take i)++[l[i].at_]else gq (l.take i):=by
 unfold gq;rw[ud h,List.filter_append,List.map_append];cases C:(l[i].cmd.kind==1)<;>simp[List.filter,C]
def adK(l:aa bK):(gq l).length<=l.length:=by
 unfold gq;rw[eN];exact List.length_filter_le _ _
def apH(l:aa bK)(hl:l.length<1073741823):Mx l=some (gq l):=by
 have e:=eE (step:=Ia) l.length (λi=>(((),l,(l.length:Int),(i:Int),()),(gq (l.take i),()))) (.inl (((),()),(gq l,()))) br (λk h=>by
  have hlen:=adK (l.take k);rw[kG]at hlen;unfold Ia aK xG xI;dsimp only;rw[aZ,aq,aO ⟨by omega,by omega⟩,bT,apG h];simp only[bA];cases l[k].cmd.kind==1 with
  |true=>rw[aq,fe (by simp;omega)];rfl
  |false=>rfl) (by
  unfold Ia aK xG xI;dsimp only;rw[bu,av,List.take_length]) (bZ)
 unfold Mx bQ;rw[cZ,List.take_zero]at e;exact(bx (λo=>Option.bind o _) e).trans rfl
def xP(g:aF)(e:bK):Bool:=cQ g e.cmd&&aQ e.at_ 0 1000000
def Ug{g:aF}{e:bK}(h:xP g e=true):cQ g e.cmd=true/\0<=e.at_/\e.at_<=1000000:=by
 simp only[xP,aJ,bh]at h;exact h
def Uh{t:bW}(C:ja t=true)(g:aF)(a b:aR):1 <= gp g t a b/\gp g t a b <= 128:=by
 have D:=apC C a.kind b.kind (Ah g a b);have E:=adH C a.kind b.kind;unfold gp
 grind
def apI{g:aF}{t:bW}{a b:aR}(C:cQ g a=true)(hb:cQ g b=true):zM g t a b=some (gp g t a b):=by
 obtain⟨D,E,I,_⟩:=q6 C;obtain⟨_,O,T,_⟩:=q6 hb;exact adG t D E O I T
def um(g:aF)(t:bW)(l:aa bK)(e:bK):Bool:=l.any λx=>decide (e.at_-x.at_<gp g t x.cmd e.cmd)
def Aj(g:aF)(t:bW)(l:aa bK)(c:aR):Int:=l.foldl (λm x=>max m (x.at_+gp g t x.cmd c)) 0
def apJ{g:aF}{t:bW}{l:aa bK}{c:aR}{i:Nat}(h:i<l.length):Aj g t (l.take (i+1)) c=max (Aj g t (l.take i) c) (l[i].at_+gp g t l[i].cmd c):=by
 unfold Aj;rw[ud h,List.foldl_append];rfl
def adL(g:aF)(t:bW)(l:aa bK)(c:aR)(m i n:Int):Mw (((),(),(),m,l,n,i,()),((g.bD,g.aD,g.rows,g.aM,()),t,(c.kind,c.aA,c.row,c.bX,()),())) =
  bif decide (i<n)then if C:0<=i/\i.toNat<l.length then ((zM g t (l[i.toNat]'C.2).cmd c).bind λD=>some (.inl (((),(),(),(if (W6 ((l[i.toNat]'C.2).at_+D)) > m then (W6 ((l[i.toNat]'C.2).at_+D))else m),l,n,(W6 (i+(1:Int))),()),((g.bD,g.aD,g.rows,g.aM,()),t,(c.kind,c.aA,c.row,c.bX,()),()))))else none else some (.inr (.inl ((m,()),()))):=rfl
def apK{g:aF}{t:bW}(C:ja t=true){l:aa bK}{c:aR}(hl:l.length<1073741823)(D:∀ x∈l,xP g x=true)(E:cQ g c=true):H9 g t l c=some (Aj g t l c):=by
 have e:=eE (step:=Mw) l.length (λi=>(((),(),(),Aj g t (l.take i) c,l,(l.length:Int),(i:Int),()),((g.bD,g.aD,g.rows,g.aM,()),t,(c.kind,c.aA,c.row,c.bX,()),()))) (.inl ((Aj g t l c,()),())) br (λk h=>by
  obtain⟨I,O,T⟩:=Ug (D l[k] (dg h));have U:=Uh C g l[k].cmd c;rw[adL,aZ,aq,aO ⟨by omega,by omega⟩];simp only[bA];rw[apI I E,au,bf,bT,Ud,Int.max_comm,apJ h]) (by
  rw[adL,bu,av,List.take_length]) (bZ)
 unfold H9 bQ;rw[cZ,List.take_zero]at e;exact(bx (λo=>Option.bind o _) e).trans rfl
def adM{T:Type}(f:T->Int)(y:Int):∀ (l:aa T) (m:Int),(y<l.foldl (λm x=>max m (f x)) m) ↔ (y<m\/∃ x∈l,y<f x)
 |[],m=>by simp
 | x :: l,m=>by
  rw[List.foldl_cons,adM f y l];simp only[gk,exists_eq_or_imp];constructor
  ·rintro(h | h)
   ·rcases(show y<m\/m<=y by omega)with h1 | h1
    ·exact .inl h1
    ·exact .inr (.inl (by omega))
   ·exact .inr (.inr h)
  ·rintro(h | h | h)
   ·exact .inl (by omega)
   ·exact .inl (by omega)
   ·exact .inr h
def apL{g:aF}{t:bW}{l:aa bK}{e:bK}(E:0<=e.at_):decide (e.at_<Aj g t l e.cmd)=um g t l e:=by
 rw[Bool.eq_iff_iff,fI];unfold Aj um;rw[adM,List.any_eq_true];simp only[fI];constructor
 ·rintro(h | ⟨x,C,D⟩)
  ·omega
  ·exact⟨x,C,by omega⟩
 ·rintro⟨x,C,D⟩;exact .inr ⟨x,C,by omega⟩
def Nu(t:bW)(A:aa Int):Int:=if A.length<4 then 0 else A.getD (A.length-4) 0+t.jY
def Ak(t:bW)(A:aa Int)(x:Int):Bool:=decide (4<=A.length)&&decide (x-A.getD (A.length-4) 0<t.jY)
def apM{g:aF}{l:aa bK}(h:∀ x∈l,xP g x=true):∀ y∈gq l,0<=y/\y<=1000000:=by
 intro y C;unfold gq at C;obtain⟨e,D,rfl⟩:=List.mem_map.1 C;exact(Ug (h e (List.mem_filter.1 D).1)).2
def apN{A:aa Int}(h:∀ y∈A,0<=y/\y<=1000000)(i:Nat):0<=A.getD i 0/\A.getD i 0<=1000000:=by
 rw[cW];cases hi:A[i]? with
 |none=>exact⟨by simp,by simp⟩
 |some y=>exact h y (gv hi)
def adN{t:bW}(C:ja t=true):1<=t.jY/\t.jY<=64:=Ue C _ (by simp[qZ])
def apO{g:aF}{t:bW}(E:ja t=true){l:aa bK}(hl:l.length<1073741823)(I:∀ x∈l,xP g x=true):Ib t l=some (Nu t (gq l)):=by
 have O:=apM I;have hlen:=adK l;have T:=adN E;unfold Ib Nu xL;rw[apH l hl,au];generalize gq l=A at *
 by_cases D:A.length<4
 ·rw[aZ,aq,aV D]
 ·have C:W6 ((A.length:Int)-4)=((A.length-4:Nat):Int):=by rw[bf];omega
  have U:=apN O (A.length-4);rw[bu,av,aW D];have hi:(W6 ((A.length:Int)-4)).toNat<A.length:=by rw[C];omega
  rw[aO ⟨by rw[C];omega,hi⟩,aO hi];have e:A[(W6 ((A.length:Int)-4)).toNat]=A.getD (A.length-4) 0:=by
   rw[cW];have:(W6 ((A.length:Int)-4)).toNat=A.length-4:=by rw[C];omega
   simp only[this];rw[bH (by omega)];rfl
  dsimp only;rw[e,bf]
def apP{t:bW}{A:aa Int}{x:Int}(D:0<=x):decide (x<Nu t A)=Ak t A x:=by
 unfold Nu Ak;by_cases C:A.length<4
 ·rw[aV C,bu,bu (show ¬ 4<=A.length by omega),Bool.false_and]
 ·rw[aW C,aZ (show 4<=A.length by omega),cP,Bool.eq_iff_iff];simp only[fI];omega
def Ui{T:Type}{p:T -> Bool}{l:aa T}{i:Nat}{x:T}(h:l.all p=true)(C:p x=true):(l.set i x).all p=true:=by grind
def uo{g:aF}{r:bL}(h:kA g r=true):cg g=true/\(r.aD.length:Int)=aL g/\(0 <= r.aU/\r.aU <= 2)/\r.aD.all (xK g)=true/\(r.aU=2 -> (r.aD.all λb=>!b.open_)=true):=by
 simp only[kA,aJ,fl,bh,dS,bne_iff_ne]at h
 grind
def Cg{g:aF}{r:bL}(C:cg g=true)(D:(r.aD.length:Int)=aL g)(E:0 <= r.aU/\r.aU <= 2)(I:r.aD.all (xK g)=true)(O:r.aU=2 -> (r.aD.all λb=>!b.open_)=true):kA g r=true:=by
 simp only[kA,aJ,fl,bh,dS,bne_iff_ne]
 grind
def Uj{g:aF}{r:bL}{c:aR}(O:kA g r=true)(I:cQ g c=true)(D:iO r c=true):kA g (dx r c)=true:=by
 have⟨C,hlen,Z,E,hz⟩:=uo O;have⟨_,T,hb,_⟩:=q6 I;have gb:=fW C;have U:c.kind=1 -> 0 <= c.row/\c.row <= g.rows-1:=by
  intro h;simp[cQ,aJ]at I;have:=I.2.2.2.1;rw[uj,h]at this
  simpa [bh]using this
 rcases kinds T with h|h|h|h|h|h|h|h|h
 ·have e:dx r c=⟨r.aD.set c.aA.toNat ⟨true,c.row⟩,r.aU⟩:=by simp[dx,h]
  have Y:r.aU=0:=by simp[iO,h]at D;exact D.1
  rw[e];exact Cg C (by simpa using hlen) (by omega) (Ui E (by simp only[xK,aJ,bh];exact⟨U h,by simp⟩)) (λe=>by simp only at e;omega)
 ·have e:dx r c=r:=by simp[dx,h]
  simp_all
 ·have e:dx r c=r:=by simp[dx,h]
  simp_all
 ·have e:dx r c=⟨r.aD.set c.aA.toNat ⟨false,0⟩,r.aU⟩:=by simp[dx,h]
  have Y:r.aU=0:=by simp[iO,h]at D;exact D.1
  rw[e];exact Cg C (by simpa using hlen) (by omega) (Ui E (by simp only[xK,aJ,bh];exact⟨by omega,by simp⟩)) (λe=>by simp only at e;omega)
 ·have e:dx r c=r:=by simp[dx,h]
  simp_all
 ·have e:dx r c=⟨r.aD,1⟩:=by simp[dx,h]
  rw[e];exact Cg C hlen (by simp) E (λe=>by simp at e)
 ·have e:dx r c=⟨r.aD,0⟩:=by simp[dx,h]
  rw[e];exact Cg C hlen (by simp) E (λe=>by simp at e)
 ·have e:dx r c=⟨r.aD,2⟩:=by simp[dx,h]
  rw[e];exact Cg C hlen (by simp) E (λ_=>by simp[iO,h]at D;simpa using D.2)
 ·have e:dx r c=⟨r.aD,0⟩:=by simp[dx,h]
  rw[e];exact Cg C hlen (by simp) E (λe=>by simp at e)
def apQ{g:aF}(C:cg g=true):kA g (kC g)=true:=by
 have E:=ef g;have I:=fW C
 refine Cg C (by simp[kC];omega) (by simp[kC]) ?_ (λe=>by simp[kC]at e)
 unfold kC;rw[bN];intro x D;obtain⟨_,rfl⟩:=List.mem_replicate.1 D;simp only[xK,aJ,bh];exact⟨by omega,by simp⟩
def sJ(l:aa bK)(k:Nat)(e:bK):Bool:=match k with
 |0=>true
 | k+1=>match l[k]? with
  |some x=>decide (x.at_<e.at_)
  |none=>true
def fT(g:aF)(t:bW)(l:aa bK)(k:Nat)(r:bL)(e:bK):aj bL:=
 bif !cQ g e.cmd then none else bif !aQ e.at_ 0 1000000 then none else bif !sJ l k e then none else bif !iO r e.cmd then none else
 bif um g t (l.take k) e then none else bif e.cmd.kind==1&&Ak t (gq (l.take k)) e.at_ then none else some (dx r e.cmd)
def cT(g:aF)(t:bW)(l:aa bK)(k:Nat)(r:bL)(e:bK):Int:=
 bif !cQ g e.cmd then 1 else bif !aQ e.at_ 0 1000000 then 1 else bif !sJ l k e then 1 else bif !iO r e.cmd then 2 else
 bif um g t (l.take k) e then 3 else 4
def apR(g:aF)(t:bW)(l:aa bK)(k:Nat)(r:bL)(e:bK):(cT g t l k r e != 0)=true:=by
 unfold cT;cases cQ g e.cmd<;>cases aQ e.at_ 0 1000000<;>cases sJ l k e<;>cases iO r e.cmd<;>cases um g t (l.take k) e<;>rfl
def IT(g:aF)(l:aa bK)(k:Nat)(r:bL):Prop:=kA g r=true/\∀x∈l.take k,xP g x=true
def apS{g:aF}{t:bW}{l:aa bK}{k:Nat}{r T:bL}(Z:k<l.length)(h:IT g l k r)(C:fT g t l k r l[k]=some T):IT g l (k+1) T:=by
 unfold fT at C;cases D:cQ g l[k].cmd with
 |false=>rw[D]at C;cases C
 | true=>
  cases E:aQ l[k].at_ 0 1000000 with
  |false=>rw[D,E]at C;cases C
  | true=>
   cases I:sJ l k l[k]with
   |false=>rw[D,E,I]at C;cases C
   | true=>
    cases O:iO r l[k].cmd with
    |false=>rw[D,E,I,O]at C;cases C
    | true=>
     rw[D,E,I,O]at C;simp only[bI,av]at C;cases U:um g t (l.take k) l[k]with
     |true=>rw[U]at C;cases C
     | false=>
      rw[U,av]at C;cases Y:(l[k].cmd.kind==1&&Ak t (gq (l.take k)) l[k].at_)with
      |true=>rw[Y]at C;cases C
      | false=>
       rw[Y,av]at C;injection C with C;subst C
       refine⟨Uj h.1 D O,λx hx=>?_⟩
       rw[ud Z]at hx;rcases kX.1 hx with hx|hx
       ·exact h.2 x hx
       ·obtain rfl:=gF.1 hx;simp only[xP,D,E,Bool.and_self]
def apT(g:aF):(⟨g.bD,g.aD,g.rows,g.aM⟩:aF)=g:=rfl
def apU(t:bW):(⟨t.qq,t.rp,t.jD,t.rz,t.nT,t.jY,t.rA,t.rB,t.mK,t.wr,t.rC,t.rD,t.uF,t.sW,t.sX,t.xp,t.xs⟩:bW)=t:=rfl
def apV(l:aa bK)(e:bK):sJ l 0 e=true:=rfl
def apW{l:aa bK}{k:Nat}(e:bK)(h:0<k)(E:k<l.length)(C:(W6 ((k:Int)-1)).toNat<l.length)(hl:l.length<1073741824):sJ l k e = !decide (e.at_<=(l[(W6 ((k:Int)-1)).toNat]'C).at_):=by
 obtain⟨n,rfl⟩:∃n,k=n+1:=⟨k-1,by omega⟩
 have D:(W6 (((n+1:Nat):Int)-1)).toNat=n:=by rw[bf];omega
 unfold sJ;simp only[D];rw[bH (by omega)];simp only;rw[Bool.eq_iff_iff];simp
def tS(t:bW):bW:=t
def apX{g:aF}{t:bW}(O:ja t=true){l:aa bK}(hl:l.length<1073741823){k:Nat}(hk:k<l.length){r:bL}(hI:IT g l k r):
  B4 ((l,(),(),(),l,(l.length:Int),(k:Int),()),((g.bD,g.aD,g.rows,g.aM,()),tS t,((),r.aU,()),r.aD,())) =
   some (match fT g t l k r l[k]with|some C=>.inl ((l,(),(),(),l,(l.length:Int),((k+1:Nat):Int),()),((g.bD,g.aD,g.rows,g.aM,()),tS t,((),C.aU,()),C.aD,()))|none=>.inr (.inl ((cT g t l k r l[k],(k:Int),()),()))):=by
 obtain⟨T,U⟩:=hI;obtain⟨hg,hlen,_⟩:=uo T;have b1:=ef g;unfold B4 fT cT tS aK bF xG xI;dsimp only;simp only[apT,apU,apw,aZ (show (k:Int)<(l.length:Int) by omega),aq];rw[aO ⟨by omega,by omega⟩];simp only[bA];rw[Nt,au];cases Y:cQ g l[k].cmd with
 |false=>rfl
 | true=>
  simp only[bI,av];rw[cI,au];cases h2:aQ l[k].at_ 0 1000000 with
  |false=>rfl
  | true=>
   obtain⟨Z,hm⟩:=bh.1 h2;have tl:((xz g r l[k].cmd).bind λD=>bif (!D.2)then (some (.inr (.inl (((2:Int),(k:Int),()),()))):aj ((((aa bK)×ah×ah×ah×(aa bK)×Int×Int×ah)×((Int×Int×Int×Int×ah)×bW×(ah×Int×ah)×(aa dK)×ah))⊕(((Int×Int×ah)×(ah))⊕(((ah)×(ah))⊕Empty))))else if 0<=(0:Int)/\(0:Int)<=(k:Int)/\(k:Int)<=(l.length:Int)then (H9 g t ((l.take k).drop (0:Int).toNat) l[k].cmd).bind λmq=>bif (decide (l[k].at_<mq))then some (.inr (.inl (((3:Int),(k:Int),()),())))else bif (l[k].cmd.kind==(1:Int))then if 0<=(0:Int)/\(0:Int)<=(k:Int)/\(k:Int)<=(l.length:Int)then (Ib t ((l.take k).drop (0:Int).toNat)).bind λmw=>bif (decide (l[k].at_<mw))then some (.inr (.inl (((4:Int),(k:Int),()),())))else some (.inl ((l,(),(),(),l,(l.length:Int),(W6 ((k:Int)+(1:Int))),()),((g.bD,g.aD,g.rows,g.aM,()),t,((),D.1.aU,()),D.1.aD,())))else none else some (.inl ((l,(),(),(),l,(l.length:Int),(W6 ((k:Int)+(1:Int))),()),((g.bD,g.aD,g.rows,g.aM,()),t,((),D.1.aU,()),D.1.aD,())))else none) =
     some (match (bif !iO r l[k].cmd then none else bif um g t (l.take k) l[k]then none else bif l[k].cmd.kind==1&&Ak t (gq (l.take k)) l[k].at_ then none else some (dx r l[k].cmd))with|some C=>.inl ((l,(),(),(),l,(l.length:Int),((k+1:Nat):Int),()),((g.bD,g.aD,g.rows,g.aM,()),t,((),C.aU,()),C.aD,()))|none=>.inr (.inl ((bif !iO r l[k].cmd then 2 else bif um g t (l.take k) l[k]then 3 else 4,(k:Int),()),()))):=by
    rw[Ua g r _ (by omega),au];unfold EB kB;rw[T,Y];cases h4:iO r l[k].cmd with
    |false=>rfl
    | true=>
     simp only[cP,aq,bI,av,Int.toNat_zero,List.drop_zero];rw[aV ⟨by omega,by omega,by omega⟩,apK O (by simp;omega) U Y,au,apL Z];cases h5:um g t (l.take k) l[k]with
     |true=>rfl
     | false=>
      simp only[av];cases h6:(l[k].cmd.kind==1)with
      |false=>simp only[av,Bool.false_and,bT (show k<4611686018427387904 by omega)]
      | true=>
       simp only[aq,cP];rw[aV ⟨by omega,by omega,by omega⟩,apO O (by simp;omega) U,au,apP Z];cases Ak t (gq (l.take k)) l[k].at_ with
       |true=>rfl
       |false=>simp only[av,bT (show k<4611686018427387904 by omega)]
   simp only[bI,av];by_cases E:0<k
   ·have I:(W6 ((k:Int)-1)).toNat<l.length:=by rw[bf];omega
    rw[aZ (show (k:Int) > 0 by omega),aq,aO ⟨by rw[bf];omega,I⟩,apW _ E hk I (by omega)];cases decide (l[k].at_<=(l[(W6 ((k:Int)-1)).toNat]'I).at_)with
    |true=>rfl
    | false=>
     simp only[av,Bool.not_false,bI];exact tl
   ·have E:k=0:=by omega
    subst E;rw[bu,av,apV];simp only[bI,av];exact tl
def runT(g:aF)(t:bW)(l:aa bK):aj bL:=mD (fT g t l) 0 l (kC g)
def apY{g:aF}{t:bW}(I:cg g=true)(O:ja t=true){l:aa bK}(hl:l.length<=2000):∃ c i,My g t l=some (c,i)/\(c != 0)=(runT g t l).isNone:=by
 have h:=Uf (step:=B4) (fT g t l) (λk r=>((l,(),(),(),l,(l.length:Int),(k:Int),()),((g.bD,g.aD,g.rows,g.aM,()),tS t,((),r.aU,()),r.aD,()))) (λk r e=>.inl ((cT g t l k r e,(k:Int),()),())) (λr=>.inr (.inl ((),()))) (IT g l) l 0 (kC g) br ⟨apQ I,λx Y=>by simp at Y⟩ (bZ)
  (λi h r C=>by rw[ff]at C ⊢;exact(apX O (by omega) h C).trans (by cases fT g t l i r l[i]<;>rfl))
  (λi h r T C U=>by rw[ff]at C U ⊢;exact apS h C U)
  (λr C=>by rw[ff];unfold B4 aK bF xG xI;dsimp only;rw[bu,av])
 unfold My cH;rw[pU,au,I,bI,av,IA,au,O,bI,av,bu,av,Ub,au];change ∃c i,((iter B4 br ((l,(),(),(),l,(l.length:Int),((0:Nat):Int),()),((g.bD,g.aD,g.rows,g.aM,()),tS t,((),(kC g).aU,()),(kC g).aD,()))).bind _)=some (c,i)/\_;rcases h with ⟨T,D,_,E⟩|⟨D,i,T,hi,_,_,E⟩
 ·refine⟨0,-1,(bx (λo=>Option.bind o _) E).trans rfl,?_⟩
  unfold runT;rw[D];rfl
 ·refine⟨_,_,(bx (λo=>Option.bind o _) E).trans rfl,?_⟩
  unfold runT;rw[D];exact apR _ _ _ _ _ _
def uq(n k:Nat):aa Int:=List.replicate k (-1)++List.replicate (n-k) 0
def apZ{n k:Nat}(h:k<=n):(uq n k).length=n:=by
 unfold uq;simp;omega
def ap0{n k:Nat}(h:k<n):(uq n k).set k (-1)=uq n (k+1):=by
 obtain⟨m,rfl⟩:∃m,n=k+1+m:=⟨n-k-1,by omega⟩
 unfold uq;rw[show k+1+m-k=m+1 by omega,show k+1+m-(k+1)=m by omega,List.set_append_right _ _ (by simp),jX,Nat.sub_self,List.replicate_succ,List.replicate_succ',List.append_assoc];rfl
def ap1(n:Nat):uq n 0=List.replicate n 0:=by simp[uq]
def ap2(n:Nat):uq n n=List.replicate n (-1):=by simp[uq]
def ur(g:aF):dP:=⟨List.replicate (9*(aL g+1)).toNat (-1),[]⟩
def adO{g:aF}(C:cg g=true):Ig g=some (ur g):=by
 have hb:=ef g;obtain⟨n,D⟩:∃n:Nat,9*(aL g+1)=(n:Int):=⟨(9*(aL g+1)).toNat,by omega⟩
 have E:n<1073741824:=by omega
 have e:=eE (step:=Ie) n (λi=>(((),(),(n:Int),(i:Int),()),(((),(),()),((),(),()),([]:aa Int),([]:aa Int),uq n i,([]:aa Int),()))) (.inl (((),(),()),(((),(),()),((),(),()),([]:aa Int),([]:aa Int),uq n n,([]:aa Int),()))) br (λk h=>by
  have hl:=apZ (show k<=n by omega);unfold Ie aK xG xL;dsimp only;rw[aZ,aq,aO ⟨by omega,by omega⟩,aO,bT,bA,ap0 h]) (by
  unfold Ie aK xG xL;dsimp only;rw[bu,av]) (bZ)
 rw[ap1,ap2,cZ]at e;unfold Ig ur bQ;rw[pU,au,C,bI,av,jo,au,w9,D,aV ⟨by omega,by omega,by omega⟩,bA,jX];exact(bx (λo=>Option.bind o _) e).trans rfl
def Uk(g:aF)(r:dP)(e:bK):(gL g r e).last.length=r.last.length/\(r.aX.length <= 4 -> (gL g r e).aX.length <= 4):=by
 unfold gL;cases (jU g r&&(cQ g e.cmd&&(aQ e.at_ 0 1000000 && !(e.cmd.kind==1&&vA r e.at_))))with
 |false=>simp_all
 | true=>
  refine⟨by simp,λh=>?_⟩
  cases e.cmd.kind==1 with
  |false=>exact h
  | true=>
   simp[aq,Cf,List.length_drop,List.length_append,List.length_singleton];omega
def nM(g:aF)(l:aa bK):dP:=l.foldl (gL g) (ur g)
def ap3{g:aF}{l:aa bK}{k:Nat}(h:k<l.length):nM g (l.take (k+1))=gL g (nM g (l.take k)) l[k]:=by
 unfold nM;rw[ud h,List.foldl_append];rfl
def adP(g:aF)(l:aa bK):(nM g l).last.length<=1000/\(nM g l).aX.length<=4:=by
 have hb:=ef g;have C:(ur g).last.length<=1000/\(ur g).aX.length<=4:=⟨by simp only[ur,jX];omega,by simp[ur]⟩
 unfold nM;generalize ur g=r at C
 induction l generalizing r with
 |nil=>exact C
 |cons x l D=>exact D (gL g r x) ⟨by rw[(Uk g r x).1];exact C.1,(Uk g r x).2 C.2⟩
def adQ(g:aF)(l:aa bK)(n i:Int)(r:dP):MA (((),(),(),l,n,i,()),((g.bD,g.aD,g.rows,g.aM,()),((),(),()),((),(),()),([]:aa Int),([]:aa Int),r.last,r.aX,()))=bif (decide (i<n))then if D:0<=i/\i.toNat<l.length then ((D8 g r (l[i.toNat]'D.2)).bind λC=>some (.inl (((),(),(),l,n,(W6 (i+(1:Int))),()),((g.bD,g.aD,g.rows,g.aM,()),((),(),()),((),(),()),([]:aa Int),([]:aa Int),C.last,C.aX,()))))else none else some (.inr (.inl (((),(),()),(((),(),()),((),(),()),([]:aa Int),([]:aa Int),r.last,r.aX,())))):=rfl
def ap4{g:aF}(C:cg g=true){l:aa bK}(hl:l.length<1073741823):Ih g l=some (nM g l):=by
 have e:=eE (step:=MA) l.length (λi=>(((),(),(),l,(l.length:Int),(i:Int),()),((g.bD,g.aD,g.rows,g.aM,()),((),(),()),((),(),()),([]:aa Int),([]:aa Int),(nM g (l.take i)).last,(nM g (l.take i)).aX,()))) (.inl (((),(),()),(((),(),()),((),(),()),([]:aa Int),([]:aa Int),(nM g l).last,(nM g l).aX,()))) br (λk h=>by
  have hlen:=adP g (l.take k);rw[adQ,aZ,aq,aO ⟨by omega,by omega⟩];simp only[bA];rw[adJ _ _ _ (by omega) (by omega),au,bT,ap3 h]) (by
  rw[adQ,bu,av,List.take_length]) (bZ)
 rw[cZ,List.take_zero]at e;unfold Ih bQ;rw[adO C,au];exact(bx (λo=>Option.bind o _) e).trans rfl
def fE(g:aF)(_:Nat)(r:bL)(e:bK):aj bL:=bif kB g r e.cmd then some (dx r e.cmd)else none
def Ch(g:aF)(l:aa bK):aj bL:=mD (fE g) 0 l (kC g)
def Ul(g:aF)(l:aa bK):bL×Bool:=match Ch g l with
 |some r=>(r,true)
 |none=>(⟨[],0⟩,false)
def ap5(g:aF)(r:bL)(e:bK)(k:Nat):(EB g r e.cmd)=match fE g k r e with | some C=>(C,true) | none=>(r,false):=by
 unfold EB fE;cases kB g r e.cmd<;>rfl
def adR{g:aF}{r C:bL}{e:bK}{k:Nat}(h:fE g k r e=some C):C.aD.length=r.aD.length:=by
 unfold fE at h;cases D:kB g r e.cmd with
 |false=>rw[D]at h;cases h
 | true=>
  rw[D]at h;injection h with h;rw[<-h,adE]
def ap6{g:aF}{l:aa bK}{r:bL}(h:Ch g l=some r):(r.aD.length:Int)=aL g:=by
 have hb:=ef g;have key:∀ (l:aa bK) (k:Nat) (a:bL),mD (fE g) k l a=some r->r.aD.length=a.aD.length:=by
  intro l
  induction l with
  | nil=>
   intro k a h;injection h with h;rw[h]
  | cons x l D=>
   intro k a h;unfold mD at h;cases C:fE g k a x with
   |none=>rw[C]at h;cases h
   | some E=>
    rw[C]at h;rw[D (k+1) E h,adR C]
 rw[key l 0 _ h];simp only[kC,jX];omega
def adS(g:aF)(l:aa bK)(n i:Int)(r:bL):Ic (((),(),(),l,n,i,()),((g.bD,g.aD,g.rows,g.aM,()),((),(0:Int),()),((),r.aU,()),([]:aa dK),r.aD,()))=bif (decide (i<n))then if D:0<=i/\i.toNat<l.length then ((xz g r (l[i.toNat]'D.2).cmd).bind λC=>bif (!C.2)then some (.inr (.inl (((),false,()),(((),(0:Int),()),([]:aa dK),()))))else some (.inl (((),(),(),l,n,(W6 (i+(1:Int))),()),((g.bD,g.aD,g.rows,g.aM,()),((),(0:Int),()),((),C.1.aU,()),([]:aa dK),C.1.aD,()))))else none else some (.inr (.inr (.inl (((),(),()),(((),(0:Int),()),((),r.aU,()),([]:aa dK),r.aD,()))))):=rfl
def ap7{g:aF}(O:cg g=true){l:aa bK}(hl:l.length<1073741823):Mz g l=some (Ul g l):=by
 have hb:=ef g;have h:=Uf (step:=Ic) (fE g) (λk r=>(((),(),(),l,(l.length:Int),(k:Int),()),((g.bD,g.aD,g.rows,g.aM,()),((),(0:Int),()),((),r.aU,()),([]:aa dK),r.aD,()))) (λk r e=>.inl (((),false,()),(((),(0:Int),()),([]:aa dK),()))) (λr=>.inr (.inl (((),(),()),(((),(0:Int),()),((),r.aU,()),([]:aa dK),r.aD,())))) (λ_ r=>r.aD.length<1073741824) l 0 (kC g) br (by simp only[kC,jX];omega) (bZ)
  (λi h r C=>by
   rw[ff,adS,aZ,aq,aO ⟨by omega,by omega⟩];simp only[bA];rw[Ua g r _ C,au,ap5 g r l[i] i,bT];cases fE g i r l[i]<;>rfl)
  (λi h r I C T=>by rw[adR T];exact C)
  (λr C=>by rw[ff,adS,bu,av])
 unfold Mz cH;rw[pU,au,O,bI,av,Ub,au];change ((iter Ic br (((),(),(),l,(l.length:Int),((0:Nat):Int),()),((g.bD,g.aD,g.rows,g.aM,()),((),(0:Int),()),((),(kC g).aU,()),([]:aa dK),(kC g).aD,()))).bind _)=_;unfold Ul Ch;rcases h with ⟨I,D,_,E⟩|⟨D,i,I,hi,_,_,E⟩
 ·rw[D];exact(bx (λo=>Option.bind o _) E).trans rfl
 ·rw[D];exact(bx (λo=>Option.bind o _) E).trans rfl
def Al(a b:aa Int):Bool:=((a.length:Int)==(b.length:Int))&&(a.zip b).all λp=>p.1==p.2
def Nv{A B:Type}{a:aa A}{b:aa B}(h:a.length=b.length):(a.zip b).length=a.length:=by
 rw[List.length_zip];omega
def adT{A B:Type}{a:aa A}{b:aa B}(h:a.length=b.length){k:Nat}(C:k<(a.zip b).length):(a.zip b)[k]=(a[k]'(by rw[Nv h]at C;exact C),b[k]'(by rw[Nv h]at C;omega)):=by
 rw[List.getElem_zip]
def adU{a b:aa Int}(D:a.length<1073741824):B5 a b=some (Al a b):=by
 unfold B5 Al cH;by_cases h:a.length=b.length
 ·have E:=Nv h;have e:=jB (step:=Ii) (a.zip b) (λp=>p.1==p.2) (λi=>((a,b,(a.length:Int),(i:Int),()),())) (.inl ((false,()),())) (.inr (.inl ((),()))) br (λk C=>by
   unfold Ii aK bF xG xI;dsimp only;rw[aZ,aq,aO ⟨by omega,by omega⟩,aO ⟨by omega,by omega⟩,bT,adT h C];simp only[bA];rw[bne];cases a[k]==b[k]<;>rfl) (by
   unfold Ii aK bF xG xI;dsimp only;rw[bu,av]) (bZ)
  rw[cZ]at e;rw[show ((a.length:Int) != (b.length:Int))=false by simp[h],av,show ((a.length:Int)==(b.length:Int))=true by simp[h],cP]
  refine(bx (λo=>Option.bind o _) e).trans ?_
  cases (a.zip b).all λp=>p.1==p.2<;>rfl
 ·rw[show ((a.length:Int) != (b.length:Int))=true by simp;omega,aq,show ((a.length:Int)==(b.length:Int))=false by simp;omega,Bool.false_and]
def IJ(x:eo):Prop:=(x.weights.length<=1048576)
def pE(x y:eo):Bool:=(x.fY==y.fY)&&((x.cap==y.cap)&&((x.ey==y.ey)&&((x.low==y.low)&&((x.high==y.high)&&(Al x.weights y.weights&&((x.eY.down==y.eY.down)&&((x.eY.sleep==y.eY.sleep)&&true)))))))
def iE(u a:jE):Bool:=((u.request.id==a.request.id)&&((u.request.eC==a.request.eC)&&((u.request.line==a.request.line)&&((u.request.write==a.request.write)&&((u.request.data==a.request.data)&&((u.request.at_==a.request.at_)&&true))))))&&((u.n==a.n)&&((u.AD==a.AD)&&(((u.addr.aA==a.addr.aA)&&((u.addr.row==a.addr.row)&&((u.addr.bX==a.addr.bX)&&true)))&&pE u.kZ a.kZ)))
def place(l:aa bg)(id:Int):Int:=match l.findIdx? (λr=>r.id==id)with
 |some i=>(i:Int)
 |none=>-1
def ap8(l:aa (Int×Bool))(k j:Int):l8 (mX l k true) j=(j==k || l8 l j):=by
 induction l with
 |nil =>rfl
 | cons p ps D=>
  simp only[mX];cases C:(k==p.1)with
  | true=>
   have e:k=p.1:=by simpa using C
   rw[aq];simp[l8]
   grind
  | false=>
   rw[av];simp only[l8]
   grind
def ap9(x y:Int):(x==y)=(y==x):=Bool.eq_iff_iff.2 ⟨λh=>by simpa using (by simpa using h:x=y).symm,λh=>by simpa using (by simpa using h:y=x).symm⟩
def iP(g:aF)(a:aN):Nat:=(uc g a).toNat
def IK{g:aF}{a:aN}(h:dU g a=true):uc g a=(iP g a:Int)/\(iP g a:Int)<eK g:=by
 have:=ac2 h;unfold iP;omega
def eA.lt{g:aF}{B:Int}{a:cN}(C:eA g B a){at_:aN}(h:dU g at_=true):iP g at_<a.cells.length:=by
 have:=IK h;have:=C.cells;omega
def eA.Ci{g:aF}{B:Int}{a:cN}(C:eA g B a)(k:Nat){c:cu}(D:Sy c.symbols):eA g B ⟨a.cells.set k c,a.bq,a.aY⟩:=
 ⟨by simp[C.cells],Sy.bG C.syms D,C.bq,C.aY,C.Et,C.hit⟩
def aqa{g:aF}{B:Int}{a:cN}(C:eA g B a)(hB:B<=100000){at_:aN}(h:dU g at_=true)(hl:iP g at_<a.cells.length){k:Nat}(Y:k<11)(D:k<a.cells[iP g at_].symbols.length){x:Int}(E:0<=x/\x<=15):
  Eo g a at_ (k:Int) x=some ⟨a.cells.set (iP g at_) ⟨a.cells[iP g at_].symbols.set k (bits .xor .i64 a.cells[iP g at_].symbols[k] x),a.cells[iP g at_].mL⟩,a.bq,a.aY⟩:=by
 obtain⟨I,_⟩:=sE h;obtain⟨O,Z⟩:=IK h;have T:aQ (k:Int) 0 10=true:=by rw[bh];omega
 have U:aQ x 0 15=true:=bh.2 E;unfold Eo sv xC xL xM;simp[C.copy,C.ok I hB,B7,h,cI,T,U,Er,O,hl,D]
def gW(R row:Int):aa Int:=(bif decide (0<row)then [row-1]else [])++(bif decide (row<R-1)then [row+1]else [])
def adV{R row:Int}(O:2<=R)(T:R<=16)(U:0<=row)(Y:row<R):Ea R row=some (gW R row):=by
 unfold Ea gW xA xZ;have C:aQ R 2 16=true:=by rw[bh];omega
 have D:aQ row 0 (R-1)=true:=by rw[bh];omega
 rw[cI,au,C,bf (n:=R-1),cI,bf (n:=row-1),bf (n:=row+1)];by_cases E:0<row<;>by_cases I:row<R-1<;>simp[D,E,I,cv]
def adW{R row:Int}(D:0 <= row)(E:row<R):∀ n∈gW R row,0 <= n/\n<R:=by
 intro n C;unfold gW at C
 grind
def aqb(R row:Int):(gW R row).length <= 2:=by
 unfold gW
 grind
def aqc{R row k:Int}{i:Nat}(hi:k+row=(i:Int))(C:0 <= k)(D:0 <= row)(H:aa Int):(gW R row).foldl (λh n=>nJ (k+n).toNat h) (H.set i 0)=oG R row i H:=by
 unfold gW oG vu
 grind
def adX(k:Int):∀ (l:aa Int) (H:aa Int),(l.foldl (λh n=>nJ (k+n).toNat h) H).length=H.length
 |[],H=>rfl
 |x::l,H=>by rw[List.foldl_cons,adX k l,TX]
def adY(k:Int):∀ (l:aa Int) (H:aa Int),(∀ x∈H,0<=x/\x<=100000)->∀ x∈l.foldl (λh n=>nJ (k+n).toNat h) H,0<=x/\x<=100000
 |[],H,h=>h
 |x::l,H,h=>by rw[List.foldl_cons];exact adY k l _ (TY h)
def aqd{g:aF}(D:cg g=true){B:Int}{a:cN}(C:eA g B a)(hB:B <= 100000){n:Int}(O:0 <= n)(T:n <= 100000):HZ g a n=some ⟨a.cells,a.bq.map (m6 n),a.aY⟩:=by
 have U:=sD g;have Y:=C.bq;have E:aQ n 0 100000=true:=by rw[bh];omega
 unfold HZ bQ;rw[C.copy,au,C.ok D hB,au,cI,au,E];have e:=eE (step:=HY) _ (λi=>((n,(),(),(a.bq.length:Int),(i:Int),()),(((),(),(),()),((),(),(),()),([]:aa cu),([]:aa Int),([]:aa Int),a.cells,upto (m6 n) a.bq i,a.aY,()))) (.inl (((),(),()),(((),(),(),()),((),(),(),()),([]:aa cu),([]:aa Int),([]),a.cells,a.bq.map (m6 n),a.aY,()))) br (λk h=>by
  unfold HY aK xG xL;have Z:=C.Et _ (dg h);have I:=TQ (m6 n) a.bq k h;have D:=TP (m6 n) a.bq k h (by rw[M8];exact h);simp (disch:=omega) [M8,h,D,bf];rw[<- I];rfl) (by unfold HY aK xG xL;simp[TO]) (bZ)
 rw[cZ,ac0]at e;simp_all
def aqe(y:Int):0 <= bits .and .i64 y 15/\bits .and .i64 y 15 <= 15:=by
 have e:bits .and .i64 y 15=IntKind.wrap .i64 ((BitVec.ofInt 64 y &&& BitVec.ofInt 64 15).toNat):=rfl;have h:(BitVec.ofInt 64 y &&& BitVec.ofInt 64 15).toNat <= 15:=by
  exact Nat.le_trans Nat.and_le_right (by decide)
 rw[e,IntKind.wrap_i64];omega
def lg(a:Nat):Nat:=(14688061253356765440 / 2 ^ (4*a)) % 16
def okB(C s1 s2 i:Nat):Bool:=!Nat.beq C 0&&(Nat.beq (gm C (pw i)) s1&&Nat.beq (gm s1 (pw i)) s2)
def loc(C s1 s2:Nat):aj Nat:=(List.range 11).find? (okB C s1 s2)
def EE:aj Nat->Nat
 |some n=>n
 |none=>99
def aqf:(pW λa=>Nat.beq a 0 ||Mg (Int.ofNat a)==some (Int.ofNat (lg a)))=true:=by kernel_rfl
def adZ:(pW λC=>pW λs1=>pW λs2=>bif Nat.beq C 0 || Nat.beq s1 0 then Nat.beq (EE (loc C s1 s2)) 99 else
  (λx=>!Nat.beq x 0&&Nat.beq (EE (loc C s1 s2)) (bif Nat.blt (lg x) 11&&Nat.beq (gm s1 x) s2 then lg x else 99)) (gm s1 (iv C)))=true:=by kernel_rfl
def EF(w:aa Nat):Bool:=Nat.beq (dN w 0 11) 0&&(Nat.beq (dN w 1 11) 0&&Nat.beq (dN w 2 11) 0)
def kT(w:aa Nat):aa Nat×Int×Int:=bif EF w then (w,0,-1)else match loc (dN w 0 11) (dN w 1 11) (dN w 2 11)with
 |some k=>(w.set k (w.getD k 0 ^^^ dN w 0 11),1,(k:Int))
 |none=>(w,2,-1)
def ad0(n m:Nat):((n:Int)==(m:Int))=Nat.beq n m:=by
 cases h:Nat.beq n m with
 |true=>simp_all
 | false=>
  have:n≠m:=by rintro rfl;simp at h
  grind
def ad1{D s1 s2 k:Nat}(h:loc D s1 s2=some k):k<11/\okB D s1 s2 k=true /\ ∀ i,i<k -> okB D s1 s2 i=false:=by
 refine⟨fA.1 (List.mem_of_find?_eq_some h),List.find?_some h,λi hi=>?_⟩
 have⟨O,l1,l2,E,T⟩:=List.find?_eq_some_iff_append.1 h;have U:l1.length=k/\l1=List.range k:=by
  have C:(List.range 11)[l1.length]?=some k:=by rw[E];simp
  have I:l1.length<11:=by have:=bx List.length E;simp at this;omega
  rw[List.getElem?_range I]at C;injection C with C;refine⟨C,?_⟩;have Y:(List.range 11).take l1.length=l1:=by rw[E];simp
  grind
 simp_all
def ad2{C s1 s2:Nat}(D:C<16)(E:s1<16)(I:s2<16)(h:C=0 \/ s1=0):loc C s1 s2=none:=by
 have t:=mA (mA (mA adZ D) E) I;have O:(Nat.beq C 0 ||Nat.beq s1 0)=true:=by rcases h with rfl|rfl<;>simp
 rw[O]at t;have t:=cE t;cases hl:loc C s1 s2 with
 |none=>rfl
 | some k=>
  rw[hl]at t;have:=(ad1 hl).1;simp[EE]at t;omega
def aqg{C s1 s2:Nat}(E:C<16)(I:s1<16)(O:s2<16)(T:C≠0)(U:s1≠0):gm s1 (iv C)≠0/\loc C s1 s2=bif Nat.blt (lg (gm s1 (iv C))) 11&&Nat.beq (gm s1 (gm s1 (iv C))) s2 then some (lg (gm s1 (iv C)))else none:=by
 have t:=mA (mA (mA adZ E) I) O;have c0:Nat.beq C 0=false:=by cases h:Nat.beq C 0 with|false=>rfl|true=>exact absurd (cE h) T
 have Y:Nat.beq s1 0=false:=by cases h:Nat.beq s1 0 with|false=>rfl|true=>exact absurd (cE h) U
 dsimp only at t;rw[c0,Y,Bool.or_false,av,aJ]at t;have⟨t1,D⟩:=t;have D:=cE D;refine⟨(by rintro e;rw[e]at t1;cases t1),?_⟩;cases hb:(Nat.blt (lg (gm s1 (iv C))) 11&&Nat.beq (gm s1 (gm s1 (iv C))) s2)with
 | true=>
  rw[hb,aq]at D;rw[aJ]at hb;have Z:lg (gm s1 (iv C))<11:=cr hb.1;cases hl:loc C s1 s2 with
  |none=>rw[hl]at D;simp[EE]at D;omega
  |some k=>rw[hl]at D;simp[EE]at D;rw[D];rfl
 | false=>
  rw[hb,av]at D;cases hl:loc C s1 s2 with
  |none=>rfl
  | some k=>
   have:=(ad1 hl).1;rw[hl]at D;simp[EE]at D;omega
def aqh{a:Nat}(h:a<16)(C:a≠0):B3 (a:Int)=some (iv a:Int):=by
 have t:=mA ao3 h;simp_all
def aqi{a:Nat}(h:a<16)(C:a≠0):Mg (a:Int)=some (lg a:Int):=by
 have t:=mA aqf h;simp_all
def ad3{w:aa Nat}(U:jT w)(hl:w.length=11):HQ (cA w)=some (cA (kT w).1,(kT w).2.1,(kT w).2.2):=by
 have ho:cv (([]:aa Int).length+(cA w).length)=true:=fe (by simp[vr,hl]);have h0:∀n:Nat,((n:Int)==(0:Int))=Nat.beq n 0:=λn=>ad0 n 0
 have C:=xH w 0 11;have D:=xH w 1 11;have Y:=xH w 2 11;have O:∀i (h:i<(cA w).length),(cA w)[i]=((w.getD i 0:Nat):Int):=λi h=>TT h
 have T:∀ k,(cA w).set k (bits .xor .i64 ((w.getD k 0:Nat):Int) ((dN w 0 11:Nat):Int))=cA (w.set k (w.getD k 0 ^^^ dN w 0 11)):=λk=>by
  rw[vp (U.get k) C,ao4]
 have hlen:(cA w).length=11:=by rw[vr,hl]
 unfold HQ xA xC xL xZ;rw[TV U hl,au,aoZ U hl,ho];have aqj:jt [((dN w 0 11:Nat):Int),((dN w 1 11:Nat):Int),((dN w 2 11:Nat):Int)]=false:=rfl;rw[aqj,av,aq,au];unfold kT EF;cases hz:(Nat.beq (dN w 0 11) 0&&(Nat.beq (dN w 1 11) 0&&Nat.beq (dN w 2 11) 0))with
 |true=>simp
 | false=>
  simp only[av,List.nil_append];generalize Z:cA w=W at O T hlen ⊢;generalize hg0:dN w 0 11=E at *
  generalize ZF:dN w 1 11=s1 at *
  generalize uO:dN w 2 11=s2 at *
  have ck:∀n:Nat,((n:Int) != (0:Int)) = !Nat.beq n 0:=λn=>by rw[bne,h0]
  by_cases I:E=0
  ·rw[ad2 C D Y (.inl I)];subst I;simp[Z]
  ·have c0:Nat.beq E 0=false:=by cases h:Nat.beq E 0 with | false=>rfl | true=>exact absurd (cE h) I
   by_cases n1:s1=0
   ·rw[ad2 C D Y (.inr n1)];simp_all
   ·have c1:Nat.beq s1 0=false:=by cases h:Nat.beq s1 0 with | false=>rfl | true=>exact absurd (cE h) n1
    have⟨nx,Py⟩:=aqg C D Y I n1;have e1:=aqh C I;have e2:=B9 D (ao2 E);rw[Py];generalize hx:gm s1 (iv E)=x at *
    have ad4:x<16:=by rw[<- hx];exact gE _ _
    have e3:=aqi ad4 nx;have e4:=B9 D ad4;generalize hn:lg x=n at *
    by_cases q1:n<11
    ·have d1:Nat.blt n 11=true:=iF q1;have d2:(n:Int)<11:=by omega
     have c9:n<W.length:=by omega
     have O:=O n c9;have T:=T n;cases q2:Nat.beq (gm s1 x) s2 with
     | true=>
      simp only[d1,cP,aq];generalize w.getD n 0=c at O T ⊢;simp_all
     | false=>
      simp[ e1,e2,e3,e4,ad0,q2,Z]
    ·have d1:Nat.blt n 11=false:=by
      cases h:Nat.blt n 11 with
      |false=>rfl
      |true=>exact absurd (cr h) (by omega)
     have d2:¬ (n:Int)<11:=by omega
     simp only[d1,Bool.false_and,av];simp[ck,c0,c1,e1,e2,e3,d2,Z]
def Nw{w:aa Nat}(C:jT w)(hl:w.length=11):(kT w).1.length=11/\jT (kT w).1/\((kT w).2.1=0 \/ (kT w).2.1=1 \/ (kT w).2.1=2):=by
 have D:=xH w 0 11;unfold kT;cases EF w with
 |true=>simp_all
 | false=>
  cases loc _ _ _ with
  |none=>simp_all
  |some k=>exact⟨by simp[hl],C.set (mB (C.get k) D),.inr (.inl rfl)⟩
def aqk{w:aa Nat}(C:jT w)(hl:w.length=11):Mi (cA w)=some (cA (w.drop 3)):=by
 unfold Mi xA xZ;have c0:((w.length:Int)==(11:Int))=true:=by rw[hl];rfl
 have D:(cA w).length=11:=by rw[vr,hl]
 rw[TU C (by omega),au,c0,show (!true)=false from rfl,av,D];have e:((cA w).take ((11:Nat):Int).toNat).drop (3:Int).toNat=cA (w.drop 3):=by
  rw[List.take_of_length_le (by omega)];simp_all
 have E:cv (([]:aa Int).length+(cA (w.drop 3)).length)=true:=by
  rw[vr,List.length_drop,hl];rfl
 simp_all
def IL(x:jZ):Prop:=IJ x.bS/\IJ x.next
def ad5(x:bL):Prop:=(x.aD.length<=1048576)
def aql(x:dP):Prop:=(x.last.length<=1048576)/\(x.aX.length<=1048576)
def Um(x:cu):Prop:=(x.symbols.length<=1048576)
def Ny(x:cN):Prop:=(x.cells.length<=1048576/\∀y∈x.cells,Um y)/\(x.bq.length<=1048576)/\(x.aY.length<=1048576)
def aqm(x:fm):Prop:=(x.map.length<=1048576)
def Cj(x:dB):Prop:=(x.aC.length<=1048576)
def mE(x:cK):Prop:=(x.rows.length<=1048576)/\(x.counts.length<=1048576)
def cB(x:ax):Prop:=IL x.box/\ad5 x.aS/\aql x.ready/\Ny x.array/\aqm x.spare/\Cj x.aE/\(x.bE.length<=1048576/\∀y∈x.bE,mE y)/\(x.guard.length<=1048576)/\(x.pending.length<=1048576)/\(x.queue.length<=1048576)/\(x.shares.length<=1048576)/\(x.errors.length<=1048576)/\(x.trace.length<=1048576)/\(x.cx.length<=1048576)
def m8(c:fq)(p:eo):Bool:=(qX c p).getD false
def EG(c:fq)(p:eo)(hl:p.weights.length<1073741823):qX c p=some (m8 c p):=by
 obtain⟨b,e,_⟩:=T1 c p hl;unfold m8;rw[e];rfl
def ba1(a x:Bool):(bif a then some x else some false)=some (a&&x):=by cases a<;>rfl
def ba2(a x:Bool):(bif !a then some false else some x)=some (a&&x):=by cases a<;>rfl
def ba3(a b:Int)(x:Bool):(bif a != b then some false else some x)=some (a==b&&x):=by
 rw[bne];cases a==b<;>rfl
theorem ba4(p:Prop)[Decidable p](x:Bool):(bif decide p then some false else some x)=some (!decide p&&x):=by cases decide p<;>rfl
def cy(c:ax):Bool:=
 m8 c.config c.box.bS&&(m8 c.config c.box.next&&(aQ c.now 0 1000000&&(kA c.config.ak c.aS&&(jU c.config.ak c.ready&&(lM c.config.ak c.array&&(mC c.config.ak c.spare&&(c.spare.bR==c.config.bR&&((fj c.aE&&sH c)&&(gK (eK (fP c.config.ak c.spare)) c.queue&&(kz c.shares&&((c.shares.length:Int)==4&&(p6 c.drain&&(lN c.aU&&(c.aU.state==c.aS.aU&&(!decide (c.aU.since > c.now)&&(aQ c.dD.every 1 100000&&(aQ c.dD.wait 1 c.dD.every&&(aQ c.dD.next 0 (W6 (eK c.config.ak-1))&&(nL c.errors&&(decide ((c.trace.length:Int)<=2000)&&decide ((c.cx.length:Int)<=400)))))))))))))))))))))
def aqn(c:ax)(h:cy c=true):lM c.config.ak c.array=true:=by
 simp only[cy,aJ]at h;exact h.2.2.2.2.2.1
def xQ(c:ax)(C:cB c):sx c=some (cy c):=by
 have⟨⟨D,E⟩,Y,⟨Z,z5⟩,⟨⟨z6,I⟩,z7,z8⟩,z9,O,⟨kU,aul⟩,lP,ku,lQ,nN,z16,z17,z18⟩:=C;unfold IJ at D E;have T:∀ x∈c.array.cells,x.symbols.length<1073741824:=λx U=>by
  have:=I x U;unfold Um at this;omega
 unfold Cj at O;unfold sx cy;simp only[EG _ _ (show c.box.bS.weights.length<1073741823 by omega),EG _ _ (show c.box.next.weights.length<1073741823 by omega),cI,ads,T7,ade _ _ T,adA,apr _ (show c.aE.aC.length<1073741824 by omega),Cc,Ac,T4 _ _ (show c.queue.length<1073741824 by omega),Ng _ (show c.shares.length<1073741824 by omega),Nh,Nj,adw _ (show c.errors.length<1073741824 by omega),au,ba1,ba2,ba3,ba4]
def EH(d:Int):Bool:=!decide (d > 4)
def ad6(c:ax)(l:aa Int)(n i:Int):M6 (((),l,n,i,()),(gV c,()))=(bif (decide (i<n))then if C:0<=i/\i.toNat<l.length then (bif (decide (l[i.toNat]'C.2 > (4:Int)))then some (.inr (.inl ((false,()),())))else some (.inl (((),l,n,(W6 (i+(1:Int))),()),(gV c,()))))else none else some (.inr (.inr (.inl (((),()),(gV c,())))))):=rfl
def aqo(c:ax)(C:cB c):M7 c=some (c.aE.aC.all EH&&cy c):=by
 have E:c.aE.aC.length<=1048576:=C.2.2.2.2.2.1;have e:=jB (step:=M6) c.aE.aC EH (λi=>(((),c.aE.aC,(c.aE.aC.length:Int),(i:Int),()),(gV c,()))) (.inl ((false,()),())) (.inr (.inl (((),()),(gV c,())))) br (λk h=>by
  rw[ad6,aZ,aq,aO ⟨by omega,by omega⟩,bT];simp only[bA];unfold EH;cases decide (c.aE.aC[k] > 4)<;>rfl) (by
  rw[ad6,bu,av]) (bZ)
 rw[cZ]at e;unfold M7 cH
 refine(bx (λo=>Option.bind o _) e).trans ?_
 rw[au];cases c.aE.aC.all EH with
 |false=>rfl
 |true=>exact(bx (λo:aj Bool=>Option.bind o λD=>some D) (xQ c C)).trans rfl
def xR(c:ax)(i:Nat):Bool:=!(ue c.config.dJ c.array i)
def aqp(R C:Nat)(hR:0<R)(p:Nat->Bool):(List.range (C*R)).all p=(List.range C).all λb=>(List.range R).all λj=>p (b*R+j):=by
 rw[Bool.eq_iff_iff,bN,bN];simp only[fA,bN];constructor
 ·intro h b hb j D;refine h _ ?_;have:=Ae (R:=R) hb (show j+1<=R from D);omega
 ·intro h i hi;have hb:i / R<C:=Nat.div_lt_of_lt_mul (by rw[Nat.mul_comm];exact hi);have D:i % R<R:=Nat.mod_lt _ hR;have e:i / R*R+i % R=i:=by rw[Nat.mul_comm];exact Nat.div_add_mod i R
  have:=h _ hb _ D;rw[e]at this;exact this
def ad7(c:ax)(g:aF)(b r:Int):Ej (((),(),b,r,()),(gV c,(g.bD,g.aD,g.rows,g.aM,()),()))=(bif (decide (r<g.rows))then (zU g c.config.dJ c.array b r).bind λC=>bif C then some (.inr (.inl ((false,()),())))else some (.inl (((),(),b,(W6 (r+(1:Int))),()),(gV c,(g.bD,g.aD,g.rows,g.aM,()),())))else some (.inr (.inr (.inl (((),(),b,()),(gV c,(g.bD,g.aD,g.rows,g.aM,()),())))))):=rfl
def ad8(c:ax)(g:aF)(b:Int):MD (((),(),b,()),(gV c,(g.bD,g.aD,g.rows,g.aM,()),()))=((jA g).bind λD=>bif (decide (b<D))then (iter Ej br (((),(),b,(0:Int),()),(gV c,(g.bD,g.aD,g.rows,g.aM,()),()))).bind (Sum.elim (λE=>some (.inr (.inl ((E.1.1,()),())))) (Sum.elim (λC=>some (.inl (((),(),(W6 (C.1.2.2.1+(1:Int))),()),C.2))) (λz=>nomatch z)))else some (.inr (.inr (.inl ((),()))))):=rfl
def Nz{g:aF}{a:cN}(h:lM g a=true):cg g=true/\(a.bq.length:Int)=fF g/\(a.aY.length:Int)=fF g:=by
 simp[lM,aJ,fI]at h;simp_all
def aqq{g:aF}(l:kY)(a:cN){R b j:Nat}(hR:g.rows=(R:Int))(C:b*R+j<a.bq.length)(D:b*R+j<a.aY.length)(T:a.bq.length<100000):zU g l a (b:Int) (j:Int)=some (ue l a (b*R+j)):=by
 have E:W6 ((b:Int)*(R:Int))=((b*R:Nat):Int):=by rw[<-Int.natCast_mul];exact adz (by omega)
 have I:W6 (((b*R:Nat):Int)+(j:Int))=((b*R+j:Nat):Int):=by rw[<-Int.natCast_add];exact adz (by omega)
 have O:W6 (W6 ((b:Int)*g.rows)+(j:Int))=((b*R+j:Nat):Int):=by rw[hR,E,I]
 unfold zU ue xI;generalize b*R+j=i at *
 simp only[O,cW,bH C,bH D,Option.getD_some];by_cases h:a.bq[i] > l.bq<;>simp[C,D,h]
def aqr(c:ax)(E:cB c):ME c=some (cy c&&(List.range c.array.bq.length).all (xR c)):=by
 unfold ME cH;rw[xQ c E,au];cases I:cy c with
 |false=>rfl
 | true=>
  obtain⟨D,Y,Z⟩:=Nz (aqn c I);have O:=ef c.config.ak;have b2:=sD c.config.ak;have gb:=fW D;have er:aL c.config.ak*c.config.ak.rows=fF c.config.ak:=by simp[fF,D]
  generalize T:c.config.ak=g at *
  obtain⟨C,hb⟩:=fk O.1;obtain⟨R,hR⟩:=fk (show 0<=g.rows by omega);have hlen:c.array.bq.length=C*R:=by
   rw[hb,hR,<-Int.natCast_mul]at er;omega
  have inner:∀ b:Nat,b<C->iter Ej br (((),(),(b:Int),(0:Int),()),(gV c,(g.bD,g.aD,g.rows,g.aM,()),()))=some (bif (List.range R).all (λj=>xR c (b*R+j))then .inr (.inl (((),(),(b:Int),()),(gV c,(g.bD,g.aD,g.rows,g.aM,()),())))else .inl ((false,()),())):=by
   intro b U;have e:=jB (step:=Ej) (List.range R) (λj=>xR c (b*R+j)) (λi=>(((),(),(b:Int),(i:Int),()),(gV c,(g.bD,g.aD,g.rows,g.aM,()),()))) (.inl ((false,()),())) (.inr (.inl (((),(),(b:Int),()),(gV c,(g.bD,g.aD,g.rows,g.aM,()),())))) br (λk h=>by
    rw[eB]at h;have hk:=Ae (R:=R) U (show k+1<=R from h);rw[lV,ad7,aZ,aq,aqq c.config.dJ c.array hR (by omega) (by omega) (by omega),au,bT];unfold xR;cases ue c.config.dJ c.array (b*R+k)<;>rfl) (by
    rw[eB,ad7,bu,av]) (by rw[eB];exact bZ)
   rw[cZ]at e;exact e
  have e:=jB (step:=MD) (List.range C) (λb=>(List.range R).all λj=>xR c (b*R+j)) (λi=>(((),(),(i:Int),()),(gV c,(g.bD,g.aD,g.rows,g.aM,()),()))) (.inl ((false,()),())) (.inr (.inl ((),()))) br (λk h=>by
   rw[eB]at h;rw[lV,ad8,jo,au,hb,aZ,aq,inner k h,au];cases (List.range R).all λj=>xR c (k*R+j)with
   |false=>rfl
   | true=>
    simp only[aq,Sum.elim_inr,gw];rw[bT]) (by
   rw[eB,ad8,jo,au,hb,bu,av]) (by rw[eB];exact bZ)
  rw[cZ]at e;simp only[bI,av,cP];subst T
  refine(bx (λo=>Option.bind o _) e).trans ?_
  rw[au,hlen,aqp R C (by omega)];cases (List.range C).all λb=>(List.range R).all λj=>xR c (b*R+j)<;>rfl
def ad9(p:eo):Prop:=(0<=p.fY/\p.fY<=1)/\(0<=p.cap/\p.cap<=200)/\(0<=p.low/\p.low<=2)/\(p.low<p.high/\p.high<=6)/\(∃(i:Nat) (w:Int),i<4/\1<=w/\w<=4/\p.weights=[1,1,1,1].set i w)/\(5<=p.eY.down/\p.eY.down<=24)/\(60<=p.eY.sleep/\p.eY.sleep<=119)
def vB(p:eo):Prop:=ad9 p/\8<=p.ey/\p.ey<=17
def aqs{b:aa Int}{c:bz}(T:jS b c):Dr b (MJ c) ad9:=by
 unfold MJ xL;rw[T.eq];show Dr b (Option.bind (some _) _) _;rw[au]
 refine(fh T 2).bind λx1 k1 U Y=>?_
 dsimp only;rw[Y.eta]
 refine(Nb Y _ (by decide)).bind λZ k2 h2 qT=>?_
 dsimp only;rw[qT.eta]
 refine(fh qT 6).bind λx3 k3 h3 tQ=>?_
 dsimp only;rw[tQ.eta]
 refine(fh tQ 3).bind λC k4 D vh=>?_
 dsimp only;rw[vh.eta]
 refine(fh vh 4).bind λE k5 h5 wW=>?_
 dsimp only;rw[wW.eta]
 refine(fh wW 4).bind λx6 k6 h6 Am=>?_
 dsimp only;rw[Am.eta]
 refine(fh Am 4).bind λx7 k7 h7 An=>?_
 have a1:=U.2.2 (by omega);have a3:=h3.2.2 (by omega);have a4:=D.2.2 (by omega);have a5:=h5.2.2 (by omega);have a6:=h6.2.2 (by omega);have a7:=h7.2.2 (by omega);have b3:=h3.1;have b4:=D.1;have b5:=h5.1;have b6:=h6.1;have b7:=h7.1;have hl:x6.toNat<([1,1,1,1]:aa Int).length:=by simp only[List.length_cons,List.length_nil];omega
 dsimp only;rw[aO ⟨b6,hl⟩,aO hl,An.eta]
 refine(fh An 20).bind λI k8 h8 IM=>?_
 dsimp only;rw[IM.eta]
 refine(fh IM 60).bind λO k9 h9 IN=>?_
 dsimp only;rw[IN.eta];have a8:=h8.2.2 (by omega);have a9:=h9.2.2 (by omega);have b8:=h8.1;have b9:=h9.1;rw[bf (n:=3+x3),bf (n:=C+1),bf (n:=C+1+E),bf (n:=1+x7),bf (n:=5+I),bf (n:=60+O)];simp only[gk,List.not_mem_nil,or_false]at h2;refine Dr.pure IN ⟨⟨U.1,by show x1<=_;omega⟩,⟨by show 0<=Z;omega,by show Z<=_;omega⟩,⟨D.1,by show C<=_;omega⟩,⟨by show C<C+1+E;omega,by show C+1+E<=_;omega⟩,⟨x6.toNat,1+x7,by omega,by omega,by omega,rfl⟩,⟨by show 5<=5+I;omega,by show 5+I<=_;omega⟩,⟨by show 60<=60+O;omega,by show 60+O<=_;omega⟩⟩
def aea{b:aa Int}{c:bz}(C:jS b c):Dr b (Il c) vB:=by
 unfold Il;rw[C.eq]
 refine(aqs C).bind λT U O D=>?_
 dsimp only;rw[D.eta]
 refine(fh D 10).bind λE Y Z I=>?_
 dsimp only;rw[I.eta];rw[bf];exact Dr.pure I ⟨O,by show 8 <= 8+E;omega,by show 8+E <= _;omega⟩
def aqt{b:aa Int}{c:bz}(C:jS b c):Dr b (MF c) λg=>g.bD=1/\1<=g.aD/\g.aD<=2/\1<=g.aM/\g.aM<=2:=by
 unfold MF;rw[C.eq]
 refine(fh C 2).bind λD k1 E I=>?_
 dsimp only;rw[I.eta]
 refine(fh I 3).bind λx2 k2 O T=>?_
 dsimp only;rw[T.eta]
 refine(fh T 2).bind λU k3 Y Z=>?_
 dsimp only;rw[Z.eta];have a1:=E.2.2 (by omega);have a2:=O.2.2 (by omega);have a3:=Y.2.2 (by omega);have b1:=E.1;have b2:=O.1;have b3:=Y.1;rw[bf,bf,bf];exact Dr.pure Z ⟨rfl,by show 1<=1+D;omega,by show 1+D<=_;omega,by show 1<=1+U;omega,by show 1+U<=_;omega⟩
def aqu{b:aa Int}{c:bz}(C:jS b c):Dr b (MH c) λm=>0 <= m.order/\m.order <= 2:=by
 unfold MH;rw[C.eq]
 refine(fh C 3).bind λI T O D=>?_
 rw[D.eta]
 refine(Nc D 2).bind λU Y Z E=>?_
 rw[E.eta];exact Dr.pure E ⟨O.1,by show I <= 2;omega⟩
def nO(mK wr:Int):bW:=⟨3,3,7,2,3,10,2,3,mK,wr,4,5,4,12,3,4,16⟩
def NA(g:aF):Prop:=(1<=g.bD/\g.bD<=2)/\(1<=g.aD/\g.aD<=2)/\(4<=g.rows/\g.rows<=6)/\(1<=g.aM/\g.aM<=2)
def lR(x:fq):Prop:=NA x.ak/\(∃r w:Int,1<=r/\r<=4/\4<=w/\w<=8/\x.bU=nO r w)/\(0<=x.mapping.order/\x.mapping.order<=2)/\(0<=x.bR/\x.bR<=2)/\(200<=x.interval/\x.interval<=259)/\x.iU=16/\x.dJ=⟨6*x.interval,40⟩
def aqv{b:aa Int}{c:bz}(O:jS b c):Dr b (MI c) lR:=by
 unfold MI;rw[O.eq]
 refine(aqt O).bind λg kg hg T=>?_
 dsimp only;rw[T.eta];obtain⟨g1,g2,g3,g4,g5⟩:=hg;show Dr b (Option.bind (some _) _) _;rw[au]
 refine(aqu T).bind λm km U Y=>?_
 dsimp only;rw[Y.eta]
 refine(fh Y 60).bind λC k1 Z zx=>?_
 dsimp only;rw[zx.eta]
 refine(fh zx 3).bind λD k2 h2 qT=>?_
 dsimp only;rw[qT.eta]
 refine(fh qT 2).bind λE k3 h3 tQ=>?_
 dsimp only;rw[tQ.eta]
 refine(fh tQ 3).bind λx4 k4 h4 vh=>?_
 dsimp only;rw[vh.eta]
 refine(Nc vh 3).bind λx5 k5 h5 I=>?_
 dsimp only;rw[I.eta];have a1:=Z.2.2 (by omega);have a2:=h2.2.2 (by omega);have a3:=h3.2.2 (by omega);have a4:=h4.2.2 (by omega);have b1:=Z.1;have b2:=h2.1;have b3:=h3.1;have b4:=h4.1;have e1:W6 (200+C)=200+C:=bf;have e2:W6 (6*(200+C))=6*(200+C):=bf;have e3:W6 (4+D)=4+D:=bf;have e4:W6 (1+E)=1+E:=bf;rw[e1,e2,e3,e4];have hG:NA ⟨1+E,g.aD,4+D,g.aM⟩:=⟨⟨by show 1<=1+E;omega,by show 1+E<=2;omega⟩,⟨g2,g3⟩,⟨by show 4<=4+D;omega,by show 4+D<=6;omega⟩,⟨g4,g5⟩⟩
 cases x5 with
 | true=>
  rw[aq]
  refine(fh I 5).bind λx6 k6 h6 Am=>?_
  dsimp only;rw[Am.eta]
  refine(fh Am 4).bind λx7 k7 h7 An=>?_
  dsimp only;rw[An.eta];have a6:=h6.2.2 (by omega);have a7:=h7.2.2 (by omega);have b6:=h6.1;have b7:=h7.1;rw[bf (n:=1+x7),bf (n:=4+x6)];exact Dr.pure An ⟨hG,⟨1+x7,4+x6,by omega,by omega,by omega,by omega,rfl⟩,U,⟨b4,by show x4<=2;omega⟩,⟨by show 200<=200+C;omega,by show 200+C<=259;omega⟩,rfl,rfl⟩
 |false=>exact Dr.pure I ⟨hG,⟨3,6,by omega,by omega,by omega,by omega,rfl⟩,U,⟨b4,by show x4<=2;omega⟩,⟨by show 200<=200+C;omega,by show 200+C<=259;omega⟩,rfl,rfl⟩
def kD(p:bg->Bool)(q:aa bg):Nat:=(q.findIdx? p).getD q.length
def Un(p:bg -> Bool)(q:aa bg):kD p q <= q.length:=by
 unfold kD;cases h:q.findIdx? p with
 |none=>simp_all
 | some k=>
  have⟨C,_⟩:=qm.1 h
  grind
def kE(p:bg->Bool)(q:aa bg)(r:bg):aa bg:=(q.take (kD p q)++[r])++q.drop (kD p q)
def Uo(p:bg->Bool)(q:aa bg)(r:bg):(kE p q r).length=q.length+1:=by
 have:=Un p q;simp[kE];omega
def aqw{p:bg -> Bool}{q:aa bg}{i:Nat}(h:i<kD p q)(hi:i<q.length):p q[i]=false:=by
 unfold kD at h;cases C:q.findIdx? p with
 |none =>simp_all
 | some k=>
  rw[C]at h;have⟨_,_,D⟩:=qm.1 C;simp_all
def aqx{p:bg -> Bool}{q:aa bg}(h:kD p q<q.length):p q[kD p q]=true:=by
 unfold kD at h;cases C:q.findIdx? p with
 |none=>grind
 | some k=>
  have⟨D,E,_⟩:=qm.1 C;have e:kD p q=k:=by unfold kD;rw[C];rfl
  simp_all
def Up{n:Int}{l:aa bg}(h:gK n l=true){i j:Nat}(E:i<j)(D:j<l.length):(l[i].id==l[j].id)=false:=by
 unfold gK at h;rw[aJ,bN]at h;have C:=h.1 j (fA.2 D);unfold ug at C;rw[bH D]at C;simp at C;have:=C.2.2 l[i] (jf.2 ⟨i,by simp;omega,by simp⟩);simp_all
def aeb{n:Int}{p:bg->Bool}{q:aa bg}{r:bg}(h:gK n (kE p q r)=true):∀ x∈q,(x.id==r.id)=false:=by
 intro x D;have E:=Un p q;have hl:=Uo p q r;obtain⟨i,hi,rfl⟩:=jf.1 D;have C:(kE p q r)[kD p q]'(by omega)=r:=by
  unfold kE;rw[List.getElem_append_left (by simp;omega),List.getElem_append_right (by simp;omega)];simp
 by_cases c:i<kD p q
 ·have e:(kE p q r)[i]'(by omega)=q[i]:=by
   unfold kE;rw[List.getElem_append_left (by simp;omega),List.getElem_append_left (by simp;omega),List.getElem_take]
  have:=Up h c (by omega);rw[e,C]at this;exact this
 ·have e:(kE p q r)[i+1]'(by omega)=q[i]:=by
   unfold kE;rw[List.getElem_append_right (by simp;omega),List.getElem_drop];congr 1;simp;omega
  have:=Up h (show kD p q<i+1 by omega) (by omega);rw[e,C]at this;rw[ap9];exact this
def aec{p C:bg->Bool}:∀ {q:aa bg},(∀ x∈q,p x=C x)->q.findIdx? p=q.findIdx? C
 |[],_=>rfl
 | y :: q,h=>by
  rw[List.findIdx?_cons,List.findIdx?_cons,h y (.head _),aec λx D=>h x (.tail _ D)]
def aed{n:Int}{q:aa bg}{r:bg}(h:gK n (kE (λx=>!fX x r) q r)=true\/gK n (kE (λx=>fX r x) q r)=true):kE (λx=>!fX x r) q r=kE (λx=>fX r x) q r:=by
 have E:∀ x∈q,(x.id==r.id)=false:=by
  rcases h with h|h
  ·exact aeb h
  ·exact aeb h
 have C:∀ x∈q,(!fX x r)=fX r x:=by
  intro x C;have D:=E x C;have D:¬ x.id=r.id:=by simpa using D
  unfold fX;rw[Bool.eq_iff_iff];simp only[fH,nh,Bool.and_eq_false_iff,oQ,beq_eq_false_iff_ne,dS,aJ,fI,fl];omega
 have e:kD (λx=>!fX x r) q=kD (λx=>fX r x) q:=by
  unfold kD;rw[aec C]
 unfold kE;rw[e]
def EI(n:Int)(q:aa bg)(r:bg):aa bg×Bool:=bif gK n q&&gK n (kE (λx=>fX r x) q r)then (kE (λx=>fX r x) q r,true)else (q,false)
def Uq(q:aa bg)(h:q.length<1073741824):Iq q=some q:=by
 unfold Iq xA xZ;rw[fe (by simpa using h)];rfl
def Ur(r:bg):(⟨r.id,r.eC,r.line,r.write,r.data,r.at_⟩:bg)=r:=rfl
def aqy(n:Int)(q:aa bg)(r:bg)(hl:q.length<1000000000):MV n q r=some (EI n q r):=by
 have E:=Un (λx=>!fX x r) q;unfold MV bQ;have e:=eE (step:=Ir) (kD (λx=>!fX x r) q) (λi=>((n,q,(),(i:Int),()),((r.id,r.eC,r.line,r.write,r.data,r.at_,()),()))) (.inl ((n,q,(),((kD (λx=>!fX x r) q:Nat):Int),()),((r.id,r.eC,r.line,r.write,r.data,r.at_,()),()))) br (λk h=>by
  have C:=aqw h (by omega);have C:fX q[k] r=true:=by simpa using C
  unfold Ir aK xG xI;dsimp only;rw[aZ,aq,aO ⟨by omega,by omega⟩];simp only[bA];rw[Ur,T3,au,C,aq,bT]) (by
  unfold Ir aK xG xI;dsimp only;by_cases c:kD (λx=>!fX x r) q<q.length
  ·have C:=aqx c;have C:fX q[kD (λx=>!fX x r) q] r=false:=by simpa using C
   rw[aZ,aq,aO ⟨by omega,by omega⟩];simp only[bA];rw[Ur,T3,au,C,av]
  ·rw[bu,av]) (bZ)
 rw[cZ]at e;rw[e,au];simp only[gw];rw[aV ⟨by omega,by omega,by omega⟩,aV ⟨by omega,by omega,by omega⟩];simp only[bA,Int.toNat_zero,List.drop_zero,List.take_length];rw[Ur,Uq _ (by simp;omega),au,fe (by simp;omega),aq,fe (by simp;omega),aq,T4 n q (by omega),au];unfold EI;have I:=Uo (λx=>!fX x r) q r;cases O:gK n q with
 | false=>
  rw[Bool.not_false,aq,Uq _ (by omega),au];rfl
 | true=>
  rw[bI,av];show (BN n (kE (λx=>!fX x r) q r)).bind _=_;rw[T4 n _ (by omega),au,cP];cases C:gK n (kE (λx=>!fX x r) q r)with
  | false=>
   have D:gK n (kE (λx=>fX r x) q r)=false:=by
    cases D:gK n (kE (λx=>fX r x) q r)with
    |false=>rfl
    |true=>rw[aed (.inr D),D]at C;cases C
   rw[D,Bool.not_false,aq,Uq _ (by omega),au];rfl
  | true=>
   have D:=aed (.inl C);rw[<-D,C,bI,av,aq];rfl
abbrev aqz:=((ah×ah×ah×(aa cK)×Int×Int×ah)×(ax×ax×(Int×Int×Int×Int×Int×Int×Int×Int×Int×Int×Int×Int×Int×Int×Int×Int×Int×Int×Int×Int×Int×Int×Bool×Int×Int×Int×Int×Int×Int×Int×Int×Int×Int×ah×Int×Int×Int×Int×Int×Int×Int×ah×Int×Int×Bool×Int×ah×Int×ah×ah×ah×ah×ah×Int×ah×ah×Int×Bool×ah×(aa Int)×(aa aN)×(aa bg)×(aa di)×Bool×Int×Int×Int×Int×Int×Int×Int×Int×(aa cC)×(aa bK)×(aa fN)×ah)×(aa Int)×(aa Int)×(aa dK)×(aa Int)×(aa Int)×(aa cu)×(aa Int)×(aa Int)×(aa Int)×(aa Int)×(aa cK)×ah))
def m9{α:Type}(l:aa α)(h:l.length<=1048577:=by omega):cv (([]:aa α).length+l.length)=true:=fe (by simp;omega)
def aee(t:cK)(h:mE t):DE t=some t:=by
 unfold DE xA xZ;have C:=h.1;have D:=h.2;rw[m9 _,m9 _];rfl
def aqA(s:aqz)(D:s.1.2.2.2.2.2.1=0)(E:s.1.2.2.2.2.1=(s.1.2.2.2.1.length:Int))(I:s.2.2.2.2.2.2.2.2.2.2.2.2.2.2.1=[])(C:s.1.2.2.2.1.length <= 1048576 /\ ∀ y∈s.1.2.2.2.1,mE y):iter DF br s=some (.inl (((),(),(),()),(s.2.1,s.2.2.1,s.2.2.2.1,s.2.2.2.2.1,s.2.2.2.2.2.1,s.2.2.2.2.2.2.1,s.2.2.2.2.2.2.2.1,s.2.2.2.2.2.2.2.2.1,s.2.2.2.2.2.2.2.2.2.1,s.2.2.2.2.2.2.2.2.2.2.1,s.2.2.2.2.2.2.2.2.2.2.2.1,s.2.2.2.2.2.2.2.2.2.2.2.2.1,s.2.2.2.2.2.2.2.2.2.2.2.2.2.1,s.1.2.2.2.1,s.2.2.2.2.2.2.2.2.2.2.2.2.2.2.2))):=by
 have e:=eE (step:=DF) s.1.2.2.2.1.length (λi=>(((),(),(),s.1.2.2.2.1,s.1.2.2.2.1.length,i,()),(s.2.1,s.2.2.1,s.2.2.2.1,s.2.2.2.2.1,s.2.2.2.2.2.1,s.2.2.2.2.2.2.1,s.2.2.2.2.2.2.2.1,s.2.2.2.2.2.2.2.2.1,s.2.2.2.2.2.2.2.2.2.1,s.2.2.2.2.2.2.2.2.2.2.1,s.2.2.2.2.2.2.2.2.2.2.2.1,s.2.2.2.2.2.2.2.2.2.2.2.2.1,s.2.2.2.2.2.2.2.2.2.2.2.2.2.1,s.1.2.2.2.1.take i,s.2.2.2.2.2.2.2.2.2.2.2.2.2.2.2))) _ br (λk h=>by
  unfold DF aK xG xI;dsimp only;rw[aZ,aq,aO ⟨by omega,by omega⟩];simp only[bA];rw[aee _ (C.2 _ (dg _)),au,fe (by simp;omega),aq,bT,ud h]) (by
  unfold DF aK xG xI;dsimp only;rw[bu,av,List.take_length]) (bZ)
 grind
def aef(l:aa Int)(h:l.length <= 1048577):Ls l=some l:=by
 cases l with
 |nil=>rfl
 | cons a l=>
  show (bif cv _ then some _ else none)=_;rw[m9 _ h];rfl
def aqB(l:aa aN)(h:l.length <= 1048577):SN l=some l:=by
 cases l with
 |nil=>rfl
 | cons a l=>
  show (bif cv _ then some _ else none)=_;rw[m9 _ h];rfl
def aqC(l:aa bg)(h:l.length <= 1048577):SO l=some l:=by
 cases l with
 |nil=>rfl
 | cons a l=>
  show (bif cv _ then some _ else none)=_;rw[m9 _ h];rfl
def aqD(l:aa di)(h:l.length <= 1048577):SP l=some l:=by
 cases l with
 |nil=>rfl
 | cons a l=>
  show (bif cv _ then some _ else none)=_;rw[m9 _ h];rfl
def aqE(l:aa cC)(h:l.length <= 1048577):SQ l=some l:=by
 cases l with
 |nil=>rfl
 | cons a l=>
  show (bif cv _ then some _ else none)=_;rw[m9 _ h];rfl
def aqF(l:aa bK)(h:l.length <= 1048577):SR l=some l:=by
 cases l with
 |nil=>rfl
 | cons a l=>
  show (bif cv _ then some _ else none)=_;rw[m9 _ h];rfl
def aqG(l:aa fN)(h:l.length <= 1048577):SS l=some l:=by
 cases l with
 |nil=>rfl
 | cons a l=>
  show (bif cv _ then some _ else none)=_;rw[m9 _ h];rfl
def Us(b:jZ)(h:IL b):DB b=some b:=by
 have C:b.bS.weights.length <= 1048576:=h.1;have D:b.next.weights.length <= 1048576:=h.2
 unfold DB sq xA xZ;rw[m9 _,aq,m9 _];rfl
def IP(c:ax)(D:cB c):zF c=some c:=by
 obtain⟨E,I,O,C,T,U,Y,z8,z9,jQ,kU,lP,ku,lQ⟩:=D;have y2:c.aS.aD.length<=1048576:=I;obtain⟨y3,y3'⟩:=O;have y5:c.spare.map.length<=1048576:=T;have y6:c.aE.aC.length<=1048576:=U;unfold zF bQ;rw[Us _ E,au];unfold DC DD xm xA xZ;rw[m9 _,aq,au,m9 _,aq,m9 _,aq,au,adb _ (by have:=C.1.1;omega) (by have:=C.2.1;omega) (by have:=C.2.2;omega) (λx Z=>by have:x.symbols.length<=1048576:=C.1.2 x Z;omega),au,aef _ (by omega),au,m9 _,aq,au]
 refine(bx (λo=>Option.bind o _) (aqA _ rfl rfl rfl Y)).trans ?_
 rw[au];simp only[gw];rw[aef c.guard (by omega),au,aqB c.pending (by omega),au,aqC c.queue (by omega),au,aqD c.shares (by omega),au,aqE c.errors (by omega),au,aqF c.trace (by omega),au,aqG c.cx (by omega),au];rfl
def eU{α:Type}(p:α->Bool)(q:aa α):Nat:=(q.findIdx? p).getD q.length
def EJ{α:Type}(p:α -> Bool)(q:aa α):eU p q <= q.length:=by
 unfold eU;cases h:q.findIdx? p with
 |none=>simp_all
 | some k=>
  have⟨C,_⟩:=qm.1 h
  grind
def uv{α:Type}{p:α -> Bool}{q:aa α}{i:Nat}(h:i<eU p q)(hi:i<q.length):p q[i]=false:=by
 unfold eU at h;cases C:q.findIdx? p with
 |none =>simp_all
 | some k=>
  rw[C]at h;have⟨_,_,D⟩:=qm.1 C;simp_all
def Ao{α:Type}{p:α -> Bool}{q:aa α}(h:eU p q<q.length):p q[eU p q]=true:=by
 unfold eU at h;cases C:q.findIdx? p with
 |none=>grind
 | some k=>
  have⟨D,E,_⟩:=qm.1 C;have e:eU p q=k:=by unfold eU;rw[C];rfl
  simp_all
def Ut{α:Type}(p:α -> Bool)(q:aa α):q.any p=decide (eU p q<q.length):=by
 by_cases c:eU p q<q.length
 ·rw[aZ c,List.any_eq_true];exact⟨_,dg c,Ao c⟩
 ·rw[bu c,mJ];intro x C;obtain⟨i,hi,rfl⟩:=jf.1 C;rw[uv (p:=p) (by omega) hi];simp
def aqH(l:aa fN)(r:bg)(hl:l.length<=1048576):MW l r=some (l.any λx=>x.id==r.id):=by
 have D:=EJ (λx:fN=>x.id==r.id) l;unfold MW TL;rw[Ut];have e:=eE (step:=Is) (eU (λx:fN=>x.id==r.id) l) (λi=>((l,r,(l.length:Int),(i:Int),()),())) (if eU (λx:fN=>x.id==r.id) l<l.length then .inl ((((eU (λx:fN=>x.id==r.id) l:Nat):Int),()),())else .inr (.inl ((),()))) br (λk h=>by
  have C:=uv h (by omega);unfold Is aK bF xG xI;dsimp only;rw[aZ,aq,aO ⟨by omega,by omega⟩];simp only[bA];rw[C,av,bT]) (by
  unfold Is aK bF xG xI;dsimp only;by_cases c:eU (λx:fN=>x.id==r.id) l<l.length
  ·rw[aZ,aq,aO ⟨by omega,by omega⟩,aV c];simp only[bA];rw[Ao c,aq]
  ·rw[bu,av,aW c]) (bZ)
 rw[cZ]at e;rw[e,au];by_cases c:eU (λx:fN=>x.id==r.id) l<l.length
 ·rw[aV c,aZ c,gw,au];dsimp only;rw[aZ]
 ·rw[aW c,bu c,Sum.elim_inr,gw,au];rfl
def Uu(c:ax)(r:bg):bg:=⟨r.id,r.eC,r.line,r.write,r.data,c.now⟩
def nP(c:ax)(r:bg):aa bg×Bool:=EI (eK (fP c.config.ak c.spare)) c.queue (Uu c r)
def qb(c:ax)(r:bg):ax×Bool:=bif (!cy c) ||((!(nP c r).2) ||(c.cx.any λx=>x.id==r.id))then (c,false)else ({ c with queue:=(nP c r).1 },true)
def aqI(c:ax)(r:bg)(C:cB c):MX c r=some (qb c r):=by
 unfold MX qb;rw[IP c C,au,xQ c C,au];obtain⟨E,I,O,T,U,Y,Z,z8,z9,jQ,kU,lP,ku,D⟩:=C;cases h:cy c with
 |false=>rfl
 | true=>
  rw[bI,av,Bool.false_or,Cc,au,Ac,au,aqy _ _ _ (by omega),au,aqH _ _ D,au];show (bif !(nP c r).2 then some (c,false)else bif (c.cx.any λx=>x.id==r.id)then some (c,false)else some ({ c with queue:=(nP c r).1 },true))=_;cases (nP c r).2<;>cases (c.cx.any λx=>x.id==r.id)<;>rfl
def aqJ(c:ax)(r:bg)(h:c.queue.length <= 1048576):(nP c r).1.length <= 1048576:=by
 unfold nP EI;cases C:(gK _ _&&gK _ _)with
 |false=>exact h
 | true=>
  rw[aq];rw[aJ]at C;have:=C.2;unfold gK at this
  grind
def aqK(c:ax)(r:bg)(C:cB c):cB (qb c r).1:=by
 unfold qb;cases hb:((!cy c) ||((!(nP c r).2) ||(c.cx.any λx=>x.id==r.id)))with
 |true=>exact C
 | false=>
  have⟨D,E,I,O,T,U,Y,Z,z9,jQ,kU,lP,ku,lQ⟩:=C;exact⟨D,E,I,O,T,U,Y,Z,z9,aqJ c r jQ,kU,lP,ku,lQ⟩
def nb(l:aa UInt8):aa Int:=l.map λb=>(b.toNat:Int)
def dO(c:ax)(a:cN):ax:=⟨c.config,c.box,c.now,c.aS,c.ready,a,c.spare,c.aE,c.bE,c.guard,c.pending,c.queue,c.shares,c.drain,c.aU,c.dD,c.errors,c.trace,c.cx⟩
def Ap:cu:=⟨[],false⟩
def IQ(d:cu):cu:=⟨(d.symbols.set 0 (bits .xor .i64 (d.symbols.getD 0 0) 5)).set 1 (bits .xor .i64 (d.symbols.getD 1 0) 10),d.mL⟩
def qc(base:Nat):Nat->aa cu->aa cu
 |0,cs=>cs
 |n+1,cs=>(qc base n cs).set (base+n) (IQ ((qc base n cs).getD (base+n) Ap))
def NB(base:Nat):∀ (n:Nat) (cs:aa cu),(qc base n cs).length=cs.length
 |0,_=>rfl
 | n+1,cs=>by
  show ((qc base n cs).set _ _).length=_;rw[iS,NB]
def aqL{d:cu}(h:Sy d.symbols):Sy (IQ d).symbols:=by
 have C:0<d.symbols.length:=by rw[h.1];omega
 have l1:1<d.symbols.length:=by rw[h.1];omega
 have I:d.symbols.getD 0 0=d.symbols[0]:=by rw[cW,bH C];rfl
 have O:d.symbols.getD 1 0=d.symbols[1]:=by rw[cW,bH l1];rfl
 have D:=TW (h.get (k:=0) C) (b:=5) ⟨by omega,by omega⟩;have E:=TW (h.get l1) (b:=10) ⟨by omega,by omega⟩;unfold IQ;rw[I,O];exact(h.set ⟨D.1,D.2.1⟩).set ⟨E.1,E.2.1⟩
def Uv{base:Nat}:∀ (n:Nat) {cs:aa cu},base+n <= cs.length -> (∀ c∈cs,Sy c.symbols) -> ∀ c∈qc base n cs,Sy c.symbols
 |0,cs,_,h=>h
 | n+1,cs,hl,h=>by
  have C:=Uv (base:=base) n (by omega) h;have hlen:=NB base n cs;refine Sy.bG C (aqL ?_)
  grind
def Aq(g:aF)(l:kY)(a:cN)(b r:Int):cN:=
 ⟨bif ue l a (b*g.rows+r).toNat then qc ((b*g.rows+r)*g.aM).toNat g.aM.toNat a.cells else a.cells,a.bq.set (b*g.rows+r).toNat 0,oG g.rows r (b*g.rows+r).toNat a.aY⟩
def Uw{g:aF}(C:cg g=true){b r k:Int}(E:0 <= b)(I:b<aL g)(O:0 <= r)(T:r<g.rows)(U:0 <= k)(Y:k<g.aM):0 <= (b*g.rows+r)*g.aM/\(b*g.rows+r)*g.aM+k<eK g/\0 <= b*g.rows+r/\b*g.rows+r<fF g:=by
 have er:aL g*g.rows=fF g:=by simp[fF,C]
 have⟨r0,Z,D⟩:=B8 E I O T;rw[er]at D;have⟨q0,q1,q2⟩:=B8 Z D U Y;have el:fF g*g.aM=eK g:=by simp[fF,eK,C]
 simp_all
def aqM{g:aF}(C:cg g=true)(c:ax){b r:Int}(hc:(c.array.cells.length:Int)=eK g)(Y:∀ x∈c.array.cells,Sy x.symbols)(E:0<=b)(I:b<aL g)(O:0<=r)(T:r<g.rows):
  iter B1 br (((),b,r,(),(0:Int),()),(c,(g.bD,g.aD,g.rows,g.aM,()),()))=some (.inl (((),b,r,(),()),(dO c ⟨qc ((b*g.rows+r)*g.aM).toNat g.aM.toNat c.array.cells,c.array.bq,c.array.aY⟩,(g.bD,g.aD,g.rows,g.aM,()),()))):=by
 obtain⟨_,_,_,_,g5,g6,g7,g8⟩:=fW C;have b1:=oF g;obtain⟨n,Z⟩:=fk (show 0<=g.aM by omega);obtain⟨B,hB⟩:∃B,B=((b*g.rows+r)*g.aM).toNat:=⟨_,rfl⟩
 have uL:g.aM.toNat=n:=by omega
 rw[<-hB,uL];have lX:B+n<=c.array.cells.length:=by
  have:=Uw C E I O T (show 0<=g.aM-1 by omega) (by omega);omega
 have e:=eE (step:=B1) n (λk=>(((),b,r,(),(k:Int),()),(dO c ⟨qc B k c.array.cells,c.array.bq,c.array.aY⟩,(g.bD,g.aD,g.rows,g.aM,()),()))) (.inl (((),b,r,(),()),(dO c ⟨qc B n c.array.cells,c.array.bq,c.array.aY⟩,(g.bD,g.aD,g.rows,g.aM,()),()))) br (λk hk=>by
  have NC:dU g ⟨b,r,(k:Int)⟩=true:=vo C E I O T (by dsimp only;omega) (by dsimp only;omega);have hix:uc g ⟨b,r,(k:Int)⟩=((B+k:Nat):Int):=by
   have:=Uw C E I O T (show 0<=(k:Int) by omega) (by omega);unfold uc;rw[NC,aq];dsimp only;omega
  have hlen:=NB B k c.array.cells;have U:=Uv k (by omega:B+k<=c.array.cells.length) Y;show B1 (((),b,r,(),(k:Int),()),(dO c ⟨qc B k c.array.cells,c.array.bq,c.array.aY⟩,(g.bD,g.aD,g.rows,g.aM,()),()))=some (.inl (((),b,r,(),((k+1:Nat):Int),()),(dO c ⟨(qc B k c.array.cells).set (B+k) (IQ ((qc B k c.array.cells).getD (B+k) Ap)),c.array.bq,c.array.aY⟩,(g.bD,g.aD,g.rows,g.aM,()),())));generalize qc B k c.array.cells=cs at hlen U;have D:B+k<cs.length:=by omega
  have s1:=Sy.mem U D;have l1:(0:Nat)<cs[B+k].symbols.length:=by rw[s1.1];omega
  have l2:(1:Nat)<cs[B+k].symbols.length:=by rw[s1.1];omega
  have c2:decide ((k:Int)<g.aM)=true:=aZ;have zv:cs.getD (B+k) Ap=cs[B+k]:=by rw[cW,bH D];rfl
  have f0:cs[B+k].symbols.getD 0 0=cs[B+k].symbols[0]:=by rw[cW,bH l1];rfl
  have f1:cs[B+k].symbols.getD 1 0=cs[B+k].symbols[1]:=by rw[cW,bH l2];rfl
  rw[zv];unfold IQ;rw[f0,f1];unfold B1 dO xC aK xG xL xM;dsimp only;rw[c2,aq,qY g,Er,au,hix];generalize B+k=j at D s1 l1 l2;simp (disch:=omega) [D,bT,l1,l2]) (by unfold B1 xC aK xG xL xM;simp[Z]) (bZ)
 exact e
def aqN(c:ax){R k:Int}{nb:aa Int}(hl:nb.length<1000)(E:∀ n∈nb,0<=n/\n<R)(U:0<=k)(Y:k+R<=(c.array.aY.length:Int))(Z:c.array.aY.length<1000000)(hb:∀ x∈c.array.aY,0<=x/\x<=100000):
  iter zW br (((),k,(),(nb.length:Int),(0:Int),()),(c,nb,()))=some (.inl ((),(dO c ⟨c.array.cells,c.array.bq,nb.foldl (λh n=>nJ (k+n).toNat h) c.array.aY⟩,()))):=by
 have e:=eE (step:=zW) nb.length (λi=>(((),k,(),(nb.length:Int),(i:Int),()),(dO c ⟨c.array.cells,c.array.bq,(nb.take i).foldl (λh n=>nJ (k+n).toNat h) c.array.aY⟩,nb,()))) (.inl ((),(dO c ⟨c.array.cells,c.array.bq,nb.foldl (λh n=>nJ (k+n).toNat h) c.array.aY⟩,()))) br (λj h=>by
  have hx:=E _ (dg h);have I:=adX k (nb.take j) c.array.aY;have hB:=adY k (nb.take j) c.array.aY hb;rw[List.take_succ_eq_append_getElem h,List.foldl_append];simp only[List.foldl_cons,List.foldl_nil];generalize (nb.take j).foldl (λh n=>nJ (k+n).toNat h) c.array.aY=G at I hB;obtain⟨q,D⟩:=fk (show 0<=k+nb[j] by omega);have C:q<G.length:=by omega
  have hg:=hB _ (dg C);have O:W6 (k+nb[j])=(q:Int):=by rw[D];exact bf
  have T:W6 (G[q]+1)=G[q]+1:=bf;rw[D,bA,ao7 C];unfold zW dO aK xG xL;simp (disch:=omega) [h,O,C,T,bT,m6]) (by unfold zW aK xG xL;simp) (bZ)
 rw[cZ,List.take_zero,List.foldl_nil]at e;exact e
def Ux{g:aF}(D:cg g=true)(l:kY){B:Int}(hB:0 <= B){a:cN}(C:eA g B a){b r:Int}(E:0 <= b)(I:b<aL g)(O:0 <= r)(T:r<g.rows):eA g B (Aq g l a b r):=by
 have⟨_,_,_,_,Y,Z,g7,g8⟩:=fW D;have U:((b*g.rows+r)*g.aM).toNat+g.aM.toNat <= a.cells.length:=by
  have:=Uw D E I O T (show 0 <= g.aM-1 by omega) (by omega);have:=C.cells;omega
 unfold Aq;refine⟨?_,?_,by simp[C.bq],by simp[ao9,C.aY],Nd C.Et ⟨by omega,by omega⟩,apb C.hit⟩
 ·dsimp only;cases ue l a (b*g.rows+r).toNat with
  |false=>exact C.cells
  |true=>rw[aq,NB];exact C.cells
 ·dsimp only;cases ue l a (b*g.rows+r).toNat with
  |false=>exact C.syms
  |true=>rw[aq];exact Uv _ U C.syms
def aeg{g:aF}(Y:cg g=true)(l:kY){B:Int}(c:ax)(C:eA g B c.array){b r:Int}(Z:0<=b)(h2:b<aL g)(D:0<=r)(E:r<g.rows):HH g l c b r=some ((),(dO c (Aq g l c.array b r),())):=by
 obtain⟨_,_,_,_,g5,g6,g7,g8⟩:=fW Y;have b2:=sD g;have er:aL g*g.rows=fF g:=by simp[fF,Y]
 obtain⟨r0,r1,r2⟩:=B8 Z h2 D E;rw[er]at r2;have hk:b*g.rows+g.rows<=fF g:=by
  have:=(B8 Z h2 (show 0<=g.rows-1 by omega) (show g.rows-1<g.rows by omega)).2.2;omega
 have a1:=C.bq;have a2:=C.aY;have I:W6 (b*g.rows)=b*g.rows:=bf;have e2:W6 (b*g.rows+r)=b*g.rows+r:=bf;have eL:=aqM Y c C.cells C.syms Z h2 D E;unfold Aq;generalize qc ((b*g.rows+r)*g.aM).toNat g.aM.toNat c.array.cells=cs at eL;obtain⟨i,hi⟩:=fk r1;obtain⟨k,O⟩:∃k,k=b*g.rows:=⟨_,rfl⟩
 rw[<-O]at hi hk I e2 r0 r1 r2;unfold HH bQ xL;rw[<-O,I,e2];rw[hi]at r2;rw[hi,bA];have T:i<c.array.bq.length:=by omega
 have U:i<c.array.aY.length:=by omega
 have Qi:zU g l c.array b r=some (ue l c.array i):=by
  unfold zU xI;have Uy:W6 (i:Int)=i:=bf;simp only[<-O,I,hi,Uy];unfold ue;simp only[cW,bH T,bH U,Option.getD_some];by_cases h:c.array.bq[i] > l.bq<;>simp[T,U,h]
 rw[Qi,au];have b1:=Nd C.hit (k:=i) (v:=0) ⟨by omega,by omega⟩;have ze:=adV g5 g6 D E;have rQ:=aqb g.rows r;have Uz:∀ cells:aa cu,iter zW br (((),k,(),((gW g.rows r).length:Int),(0:Int),()),(dO c ⟨cells,c.array.bq.set i 0,c.array.aY.set i 0⟩,gW g.rows r,()))=some (.inl ((),(dO c ⟨cells,c.array.bq.set i 0,oG g.rows r i c.array.aY⟩,()))):=λcells=>by
  have:=aqN (dO c ⟨cells,c.array.bq.set i 0,c.array.aY.set i 0⟩) (R:=g.rows) (k:=k) (nb:=gW g.rows r) (by omega) (adW D E) r0 (by simp[dO];omega) (by simp[dO];omega) b1;simp only[dO]at this ⊢;rw[aqc hi r0 D]at this;exact this
 have h2x:Tv=zW:=rfl;unfold dO at Uz eL ⊢;cases ue l c.array i with
 | false=>
  simp[T,U,ze,h2x,Uz]
 | true=>
  rw[aq,eL];have Uy:W6 (i:Int)=i:=bf;simp[<-O,I,Uy,hi,T,U,ze,Uz]
def Cl(p:dK×dK):Bool:=(p.1.open_==p.2.open_)&&((p.1.row==p.2.row)&&true)
def ND(c:ax):Bool:=(runT c.config.ak c.config.bU c.trace).isSome&&match Ch c.config.ak c.trace with
 |some r=>(r.aU==c.aS.aU)&&((r.aD.zip c.aS.aD).all Cl&&(Al (nM c.config.ak c.trace).last c.ready.last&&Al (nM c.config.ak c.trace).aX c.ready.aX))
 |none=>false
def aeh{c:fq}{p:eo}(hl:p.weights.length<1073741823)(h:m8 c p=true):ja c.bU=true:=by
 have⟨b,e,C⟩:=T1 c p hl;have hb:b=true:=by
  rw[EG c p hl]at e;simp_all
 have:=C hb;simp[pX,aJ]at this;simp_all
def aei(c:ax)(l:aa dK)(n i p:Int):MB (((),(),(),n,i,()),(gV c,(c.config.ak.bD,c.config.ak.aD,c.config.ak.rows,c.config.ak.aM,()),((),p,()),l,()))=bif (decide (i<n))then if E:0<=i/\i.toNat<l.length then if C:i.toNat<l.length then (if D:0<=i/\i.toNat<c.aS.aD.length then (bif (!Cl (l[i.toNat]'C,c.aS.aD[i.toNat]'D.2))then some (.inr (.inl ((false,()),())))else some (.inl (((),(),(),n,(W6 (i+(1:Int))),()),(gV c,(c.config.ak.bD,c.config.ak.aD,c.config.ak.rows,c.config.ak.aM,()),((),p,()),l,()))))else none)else none else none else some (.inr (.inr (.inl (((),(),()),(gV c,(c.config.ak.bD,c.config.ak.aD,c.config.ak.rows,c.config.ak.aM,()),()))))):=rfl
def aqO{c:ax}(C:cB c)(h:cy c=true):cg c.config.ak=true/\ja c.config.bU=true/\(c.aS.aD.length:Int)=aL c.config.ak/\c.trace.length<=2000:=by
 have O:c.box.bS.weights.length<=1048576:=C.1.1;simp only[cy,aJ,fI]at h;obtain⟨D,T,U,E,Y,Z,h7,h8,h9,Ce,xO,o9,oH,uk,vz,pJ,Ai,Cm,Cn,EK,zR,EL⟩:=h;obtain⟨I,hl,_⟩:=uo E;exact⟨I,aeh (by omega) D,hl,by omega⟩
def aqP(c:ax)(E:cB c):MC c=some (cy c&&ND c):=by
 unfold MC cH;rw[xQ c E,au];cases C:cy c with
 |false=>rfl
 | true=>
  obtain⟨D,T,hb,hl⟩:=aqO E C;have b1:=ef c.config.ak;obtain⟨k,i,U,Y⟩:=apY D T hl;rw[bI,av,U,au,ap7 D (by omega),au,cP];dsimp only;rw[Y];unfold ND Ul;cases runT c.config.ak c.config.bU c.trace with
  |none=>rfl
  | some r0=>
   cases he:Ch c.config.ak c.trace with
   |none=>rfl
   | some r=>
    have hlr:=ap6 he;have I:r.aD.length=c.aS.aD.length:=by omega
    have hzl:=Nv I;simp only[Option.isNone_some,Option.isSome_some,bI,av,cP];rw[bne];cases hp:(r.aU==c.aS.aU)with
    |false=>rfl
    | true=>
     have e:=jB (step:=MB) (r.aD.zip c.aS.aD) Cl (λi=>(((),(),(),(r.aD.length:Int),(i:Int),()),(gV c,(c.config.ak.bD,c.config.ak.aD,c.config.ak.rows,c.config.ak.aM,()),((),r.aU,()),r.aD,()))) (.inl ((false,()),())) (.inr (.inl (((),(),()),(gV c,(c.config.ak.bD,c.config.ak.aD,c.config.ak.rows,c.config.ak.aM,()),())))) br (λk C=>by
      rw[aei,aZ,aq,aO ⟨by omega,by omega⟩,aO,aO ⟨by omega,by omega⟩,bT,adT I C];simp only[bA];cases Cl (r.aD[k],c.aS.aD[k])<;>rfl) (by
      rw[aei,bu,av]) (bZ)
     rw[cZ]at e;simp only[bI,av,cP]
     refine(bx (λo=>Option.bind o _) e).trans ?_
     rw[au];cases (r.aD.zip c.aS.aD).all Cl with
     |false=>rfl
     | true=>
      have hlen:=adP c.config.ak c.trace;change ((Ih c.config.ak c.trace).bind λO=>(B5 O.last c.ready.last).bind λZ=>bif Z then (B5 O.aX c.ready.aX).bind λjR=>some jR else some false)=_;rw[ap4 D (by omega),au,adU (by omega),au,adU (by omega)];cases Al (nM c.config.ak c.trace).last c.ready.last<;>rfl
def jV(i:Nat):aR:=⟨(i:Int) % 9+1,if (i:Int) % 9+1<=5 then (i:Int) / 9 else 0,0,0⟩
def sK(n m:Int):Int:=if n > m then n else m
def NF(g:aF)(t:bW)(l:aa Int)(c:aR)(m:Int)(i:Nat):Int:=match l[i]? with
 |some n=>bif decide (n<0)then m else sK (n+gp g t (jV i) c) m
 |none=>m
def sL(g:aF)(t:bW)(l:aa Int)(c:aR)(k:Nat):Int:=(List.range k).foldl (NF g t l c) 0
def lS(g:aF)(t:bW)(r:dP)(c:aR):Int:=
 bif c.kind==1&&(r.aX.length:Int)==4 then sK (r.aX.getD 0 0+t.jY) (sL g t r.last c r.last.length)else sL g t r.last c r.last.length
def NG(g:aF)(t:bW)(l:aa Int)(c:aR)(k:Nat):sL g t l c (k+1)=NF g t l c (sL g t l c k) k:=by
 unfold sL;rw[List.range_succ,List.foldl_append];rfl
def NH{g:aF}{t:bW}{l:aa Int}{c:aR}{m:Int}{i:Nat}(h:i<l.length):NF g t l c m i=bif decide (l[i]<0)then m else sK (l[i]+gp g t (jV i) c) m:=by
 unfold NF;rw[bH h]
def aqQ{a b C:Int}(D:a<=C)(hb:0<=b/\b<=C):0<=sK a b/\sK a b<=C:=by
 unfold sK;split<;>omega
structure IS (g:aF) (t:bW) (r:dP):Prop where
 sM:cg g=true
 NI:ja t=true
 len:r.last.length<1000
 last:∀(i:Nat) (h:i<r.last.length),(-1<=r.last[i]/\r.last[i]<=1000000)/\(r.last[i] = -1\/p9 g i=true)
 a4:r.aX.length<=4
 act:∀x∈r.aX,0<=x/\x<=1000000
def aqR{g:aF}{t:bW}{r:dP}(E:ja t=true)(h:jU g r=true):IS g t r:=by
 have hb:=ef g;simp only[jU,aJ,bN,fA]at h;have⟨I,C,D,O,T⟩:=h;have C:(r.last.length:Int)=9*(aL g+1):=by simpa using C
 have D:¬ (r.aX.length:Int) > 4:=by simpa using D
 refine⟨I,E,by omega,λi hi=>?_,by omega,λx U=>?_⟩
 ·have e:=O i hi;rw[Nn hi]at e;simp only[aJ,dS]at e;refine⟨bh.1 e.1,?_⟩
  grind
 ·obtain⟨i,hi,rfl⟩:=jf.1 U;have e:=T i hi;cases i with
  |zero=>rw[Np hi]at e;exact bh.1 e
  |succ i=>rw[IG hi]at e;simp at e;exact bh.1 e.1
def aqS(i:Nat):1<=(jV i).kind/\(jV i).kind<=9:=by
 unfold jV;dsimp only;omega
def aqT{g:aF}{i:Nat}(C:p9 g i=true):(jV i).kind <= 5 -> 0 <= (jV i).aA/\(jV i).aA<aL g:=by
 unfold p9 at C;unfold jV
 grind
def aqU{g:aF}{i:Nat}(hi:i<1000)(C:p9 g i=true):∃ b,BH g (i:Int)=some (jV i,b):=by
 have E:=C;unfold p9 at C;unfold BH jV;rw[jo,au,sV (by omega),ru (by omega),bf,bf,IE,au];cases D:decide ((i:Int) / 9<aL g)with
 |true =>simp_all
 | false=>
  rw[D]at C;have I:¬ (i:Int) % 9+1 <= 5:=by
   simp_all
  simp[*]
def UA{g:aF}{t:bW}{r:dP}(h:IS g t r)(c:aR):∀ k,k <= r.last.length -> 0 <= sL g t r.last c k/\sL g t r.last c k <= 1000128
 |0,_=>⟨eW _,by show 0 <= _;omega⟩
 | k+1,D=>by
  have C:=UA h c k (by omega);rw[NG,NH (by omega)];have E:=Uh h.NI g (jV k) c;have hl:=(h.last k (by omega)).1;cases decide (r.last[k]<0)with
  |true=>exact C
  |false=>exact aqQ (by omega) C
def aqV{g:aF}{t:bW}{r:dP}(h:IS g t r)(c:aR):0 <= lS g t r c:=by
 have C:=UA h c _ (dz _);unfold lS sK
 grind
def aqW{g:aF}{t:bW}{r:dP}{c:aR}(h:IS g t r)(Z:jU g r=true)(C:cQ g c=true):LN g t r c=some (bif decide (lS g t r c > 1000000)then -1 else lS g t r c):=by
 have hb:=λk D=>UA h c k D
 have T:(1<=c.kind/\c.kind<=9)/\(c.kind<=5->0<=c.aA/\c.aA<aL g):=by
  simp only[cQ,aJ]at C
  refine⟨bh.1 C.2.1,λh5=>?_⟩
  have E:=C.2.2.1;rw[apz (bh.1 C.2.1),aZ h5]at E;have:=bh.1 E;omega
 have e:=eE (step:=Hu) r.last.length (λi=>(((),(),(),(),sL g t r.last c i,r.last,(r.last.length:Int),(i:Int),()),((g.bD,g.aD,g.rows,g.aM,()),t,(r.last,r.aX,()),(c.kind,c.aA,c.row,c.bX,()),()))) (.inl (((),(),(),sL g t r.last c r.last.length,()),(t,(r.last,r.aX,()),(c.kind,c.aA,c.row,c.bX,()),()))) br (λk D=>by
  have E:=h.len;have h2:=(h.last k D).1;have h3:=hb k (by omega);have hg:=Uh h.NI g (jV k) c;unfold Hu aK xG xI;dsimp only;rw[aZ,aq,aO ⟨by omega,by omega⟩,bT];simp only[bA];rw[NG,NH D];cases hd:decide (r.last[k]<0)with
  |true=>rfl
  | false=>
   have aum:¬ r.last[k]<0:=by simpa using hd
   have U:p9 g k=true:=by
    rcases(h.last k D).2 with h9|h9
    ·omega
    ·exact h9
   obtain⟨b,eb⟩:=aqU (g:=g) (i:=k) (by omega) U;rw[av,av,qY,eb,au];show Option.bind (zM g t (jV k) c) _=_;rw[adG t h.sM (aqS k) T.1 (aqT U) T.2,au,bf (n:=r.last[k]+_)];rfl) (by
  unfold Hu aK xG xI;dsimp only;rw[bu,av]) (bZ (by have:=h.len;omega))
 rw[cZ]at e;unfold LN lS xI bQ;rw[IA,au,h.NI,bI,av,T7,au,Z,bI,av,Nt,au,C,bI,av]
 refine(bx (λo=>Option.bind o _) e).trans ?_
 rw[au];simp only[gw];have hL:=hb r.last.length (dz _);have hf:=adN h.NI;have I:∀m:Int,(bif decide (m > 1000000)then some (-1:Int)else some m)=some (bif decide (m > 1000000)then -1 else m):=λm=>by cases decide (m > 1000000)<;>rfl
 cases c.kind==(1:Int)with
 |false=>exact I _
 | true=>
  cases Y:(r.aX.length:Int)==(4:Int)with
  |false=>exact I _
  | true=>
   have Y:(r.aX.length:Int)=4:=by simpa using Y
   have O:0<r.aX.length:=by omega
   have ha:=h.act _ (dg O);rw[aq,aq,aO ⟨by omega,O⟩];show (bif decide ((if W6 (r.aX[0]+t.jY) > _ then W6 (r.aX[0]+t.jY)else _) > 1000000)then _ else some (if W6 (r.aX[0]+t.jY) > _ then W6 (r.aX[0]+t.jY)else _))=_;rw[bf,cW,bH O];exact I _
def c8(c:ax)(x:aR):Bool:=iO c.aS x&&(decide (lS c.config.ak c.config.bU c.ready x<=1000000)&&decide (lS c.config.ak c.config.bU c.ready x<=c.now))
structure Pk (c:ax):Prop where
 z:cB c
 ok:cy c=true
 rk:kA c.config.ak c.aS=true
 UB:jU c.config.ak c.ready=true
 R:IS c.config.ak c.config.bU c.ready
 bl:(c.aS.aD.length:Int)=aL c.config.ak
def Pk.of{c:ax}(C:cB c)(h:cy c=true):Pk c:=by
 have T:c.box.bS.weights.length <= 1048576:=C.1.1;have I:=h;simp[cy,aJ]at h;have⟨O,U,Y,D,E,Z,h7,h8,h9,Ce,xO,o9,oH,uk,vz,pJ,Ai,Cm,Cn,EK,zR,EL⟩:=h;have hb:c.aS.aD.length=aL c.config.ak:=by
  simp[kA,aJ]at D;simp_all
 exact⟨C,I,D,E,aqR (aeh (by omega) O) E,hb⟩
def xS{c:ax}(h:Pk c){x:aR}(C:cQ c.config.ak x=true):iN c x=some (c8 c x):=by
 have D:=aqV h.R x;unfold iN c8;rw[T9,au,h.rk,C,cP,cP,aqW h.R h.UB C,au]
 grind
def bP(i:Nat):aa Int->aa Int
 |[]=>[]
 |d::l=>bif decide (d >= 4)then (i:Int)::bP (i+1) l else bP (i+1) l
def aqX(i:Nat)(a b:aa Int):bP i (a++b)=bP i a++bP (i+a.length) b:=by
 induction a generalizing i with
 |nil=>rfl
 | cons d a C=>
  rw[List.cons_append,bP,bP,C,show i+1+a.length=i+(a.length+1) by omega]
  grind
def UC(i:Nat)(l:aa Int):(bP i l).length <= l.length:=by
 induction l generalizing i with
 |nil=>exact dz _
 | cons d l C=>
  have:=C (i+1);unfold bP
  grind
def aqY{l:aa Int}{i:Nat}(h:i<l.length):bP 0 (l.take (i+1))=bif decide (l[i] >= 4)then bP 0 (l.take i)++[(i:Int)]else bP 0 (l.take i):=by
 rw[ud h,aqX,kG,Nat.min_eq_left (by omega),ff];show _++(bif decide _ then _::bP _ []else bP _ [])=_;cases decide (l[i] >= 4)with
 |true=>rfl
 |false=>exact List.append_nil _
def aej{l:aa Int}{i:Nat}{b:Int}(h:b∈bP i l):∃ j:Nat,b=((i+j:Nat):Int)/\j<l.length/\l.getD j 0 >= 4:=by
 induction l generalizing i with
 |nil=>cases h
 | cons d l D=>
  unfold bP at h;have tl:b∈bP (i+1) l -> ∃ j:Nat,b=((i+j):Int)/\j<(d :: l).length/\(d :: l).getD j 0 >= 4:=λh=>by
   have⟨j,E,I,O⟩:=D h;exact⟨j+1,by rw[E];omega,by simpa using I,by simpa using O⟩
  cases C:decide (d >= 4)with
  | true=>
   rw[C]at h;rcases gk.1 h with rfl|h
   ·exact⟨0,rfl,by simp,by simpa using C⟩
   ·exact tl h
  |false =>grind
def uw{r:dB}(h:fj r=true):r.aC.length<=8/\1<=r.aC.length:=by
 simp only[fj,aJ]at h;have:=bh.1 h.2.1;omega
def UD{r:dB}(C:fj r=true):DX r=some (bP 0 r.aC):=by
 have hl:=uw C;unfold DX bQ;rw[Ey _ (by omega),au,C,bI,av];have e:=eE (step:=Hv) r.aC.length (λi=>(((),r.aC,(r.aC.length:Int),(i:Int),()),(bP 0 (r.aC.take i),()))) (.inl (((),()),(bP 0 r.aC,()))) br (λi h=>by
  have D:=UC 0 (r.aC.take i);rw[kG]at D;unfold Hv aK xG xI;dsimp only;rw[aZ,aq,aO ⟨by omega,by omega⟩,bT,aqY h];simp only[bA];cases decide (r.aC[i] >= 4)with
  |true=>rw[aq,aq,List.length_singleton,fe,aq]
  |false=>rfl) (by
  unfold Hv aK xG xI;dsimp only;rw[bu,av,List.take_length]) (bZ)
 rw[cZ]at e
 refine(bx (λo=>Option.bind o _) e).trans ?_
 rfl
def vC(c:ax):Bool:=decide ((c.queue.length:Int) > 0) ||(decide ((c.pending.length:Int) > 0) ||decide (((bP 0 c.aE.aC).length:Int) > 0))
def aek{c:ax}(C:fj c.aE=true):zN c=some (vC c):=by
 unfold zN vC;rw[UD C]
 grind
def xT(r:vJ)(p:iG)(b:Bool):Int:=
 bif b then (bif p.state==1 then 7 else bif p.state==2 then 9 else 0)else bif p.state==0&&decide (p.idle >= r.sleep)then 8 else bif p.state==0&&decide (p.idle >= r.down)then 6 else bif p.state==1&&decide (p.idle >= r.sleep)then 7 else 0
def aqZ(r:vJ)(p:iG)(b:Bool)(C:Ew r=true)(D:lN p=true):LP r p b=some (xT r p b):=by
 unfold LP xT;rw[adp,au,C,bI,Nj,au,D,bI]
 grind
def aq0(r:vJ)(p:iG)(b:Bool):xT r p b=0 \/ 6 <= xT r p b/\xT r p b <= 9:=by
 unfold xT
 grind
def Co(D:Nat->Bool)(v:Nat->Int)(C:Int)(i:Nat):Int:=bif D i&&(decide (C<0) ||decide (v i > v C.toNat))then (i:Int)else C
def mF(C:Nat->Bool)(v:Nat->Int)(k:Nat):Int:=(List.range k).foldl (Co C v) (-1)
def IU(C:Nat->Bool)(v:Nat->Int)(k:Nat):mF C v (k+1)=Co C v (mF C v k) k:=by
 unfold mF;rw[List.range_succ,List.foldl_append];rfl
def xU(C:Nat -> Bool)(v:Nat -> Int):∀ k,-1 <= mF C v k/\mF C v k<k
 |0=>⟨eW _,by show (-1)<0;omega⟩
 | k+1=>by
  have D:=xU C v k;rw[IU];unfold Co
  grind
def NJ(C:Nat -> Bool)(v:Nat -> Int):∀ k,mF C v k = -1 \/ C (mF C v k).toNat=true
 |0=>.inl rfl
 | k+1=>by
  have D:=NJ C v k;rw[IU];unfold Co
  grind
def UE{C:Nat -> Bool}(v:Nat -> Int){i:Nat}(h:C i=true):∀ k,i<k -> 0 <= mF C v k
 |0,D=>by omega
 | k+1,D=>by
  have hb:=xU C v k;rw[IU];unfold Co;by_cases E:i=k
  ·grind
  ·have I:=UE v h k (by omega)
   grind
def uy(l:aa di)(w:aa Bool):Int:=mF (λi=>w.getD i false) (λi=>(l.getD i ⟨0,0⟩).gx) (min l.length w.length)
def NK(l:aa di)(w:aa Bool)(hl:l.length<1073741824):Hy l w=some (uy l w):=by
 unfold Hy uy bQ;generalize T:min l.length w.length=n;have e:=eE (step:=Hx) n (λi=>((l,w,mF (λi=>w.getD i false) (λi=>(l.getD i ⟨0,0⟩).gx) i,(i:Int),()),())) (.inl ((mF (λi=>w.getD i false) (λi=>(l.getD i ⟨0,0⟩).gx) n,()),())) br (λi h=>by
  have C:i<l.length:=by omega
  have O:i<w.length:=by omega
  have hb:=xU (λi=>w.getD i false) (λi=>(l.getD i ⟨0,0⟩).gx) i;rw[IU];generalize mF (λi=>w.getD i false) (λi=>(l.getD i ⟨0,0⟩).gx) i=D at hb;unfold Hx Co aK xG xI;dsimp only;rw[aZ,aq,aZ,aq,aO ⟨by omega,by omega⟩,bT];simp only[bA,cW,bH O,bH C,Option.getD_some];cases w[i]with
  |false=>rfl
  | true=>
   rw[aq,cP];by_cases E:D<0
   ·rw[aZ E];rfl
   ·have I:D.toNat<l.length:=by omega
    rw[bu E,aO ⟨by omega,C⟩,aO ⟨by omega,I⟩,bH I,Option.getD_some];cases decide (l[i].gx > l[D.toNat].gx)<;>rfl) (by
  unfold Hx aK xG xI;dsimp only;by_cases C:n<l.length
  ·rw[aZ,aq,bu,av]
  ·rw[bu,av]) (bZ)
 rw[cZ]at e
 refine(bx (λo=>Option.bind o _) e).trans ?_
 rfl
def Cp(s:di):di:=⟨s.weight,s.weight⟩
def jq(l:aa di):aa di:=l.map Cp
def ael(l:aa di)(w:aa Bool)(hl:l.length<1073741824):iter D1 br ((w,(),(l.length:Int),(0:Int),()),(l,()))=some (.inl ((w,(),()),(jq l,()))):=by
 have e:=eE (step:=D1) _ (λi=>((w,(),l.length,i,()),(upto Cp l i,()))) (.inl ((w,(),()),(jq l,()))) br (λi h=>by
  have hlen:=M8 Cp l i;unfold D1 aK xG xL;dsimp only;rw[aZ,aq,aO ⟨by omega,by omega⟩,aO,aO ⟨by omega,by omega⟩,aO,bT];simp only[bA];rw[TP Cp l i h,<- TQ Cp l i h];rfl) (by
  unfold D1 aK xG xL;dsimp only;rw[bu,av,TO];rfl) (bZ hl)
 exact e
def UF{l:aa di}(w:aa Bool)(hl:l.length<1073741823)(D:kz l=true)(U:l.length=w.length):∃ y t,sy l w=some (y,t)/\y.length=l.length:=by
 unfold sy xA xC bQ xL xZ;have hb:=xU (λi=>w.getD i false) (λi=>(l.getD i ⟨0,0⟩).gx) (min l.length w.length);have E:(jq l).length=l.length:=by simp[jq]
 have I:=xU (λi=>w.getD i false) (λi=>((jq l).getD i ⟨0,0⟩).gx) (min (jq l).length w.length);have O:=NJ (λi=>w.getD i false) (λi=>(l.getD i ⟨0,0⟩).gx) (min l.length w.length);rw[List.nil_append,NK l w (by omega),au,Ng _ (by omega),au,D,bI,av,List.length_nil,ff,fe,aq];unfold uy;generalize Y:mF (λi=>w.getD i false) (λi=>(l.getD i ⟨0,0⟩).gx) (min l.length w.length)=b at *
 by_cases T:b<0
 ·simp_all
 ·have C:b.toNat<l.length:=by omega
  rw[bu T,av,aO ⟨by omega,C⟩,aO C];dsimp only;cases l[b.toNat].gx==0 with
  |false =>simp_all
  | true=>
   rw[aq,ael l w (by omega),au];simp only[gw];rw[NK _ w (by omega),au];have Z:0 <= uy (jq l) w:=UE _ (i:=b.toNat) (by rcases O with h|h;exact absurd h (by omega);exact h) _ (by rw[E];omega);have hq:uy (jq l) w<((min (jq l).length w.length:Nat):Int):=I.2;simp_all
def As(m:qp)(n:Int)(a:aN):aN:=bif m.hash then ⟨(a.aA+a.row) % n,a.row,a.bX⟩else a
def Cq(g:aF)(m:qp)(l:Int):aN:=As m (aL g)
 (bif m.order==0 then ⟨l / g.aM % aL g,l / g.aM / aL g,l % g.aM⟩else bif m.order==1 then ⟨l % aL g,l / aL g / g.aM,l / aL g % g.aM⟩else ⟨l / g.aM / g.rows,l / g.aM % g.rows,l % g.aM⟩)
def EM{l a b:Int}(C:0<=l)(hb:0<b)(h:l<a*b):0<=l / b/\l / b<a/\l / b<=l:=by
 refine⟨Int.ediv_nonneg C (by omega),Int.ediv_lt_of_lt_mul hb h,?_⟩;exact Int.ediv_le_self _ C
def At{l b:Int}(hb:0<b):0<=l % b/\l % b<b:=⟨Int.emod_nonneg _ (by omega),Int.emod_lt_of_pos _ hb⟩
def UG{m:qp}{n:Int}{a:aN}(C:0<n)(hb:0 <= a.aA/\a.aA<n):0 <= (As m n a).aA/\(As m n a).aA<n/\(As m n a).row=a.row/\(As m n a).bX=a.bX:=by
 unfold As;cases m.hash with
 |false=>simp_all
 |true=>exact⟨(At C).1,(At C).2,rfl,rfl⟩
def UH{m:qp}{n b r c:Int}(C:0<n)(D:n<=8)(E:0<=b/\b<=100000)(I:0<=r/\r<=100000):(bif m.hash then if n=0 then none else some ((⟨(W6 (b+r)).tmod n,r,c⟩:aN),true)else some ((⟨b,r,c⟩:aN),true))=some (As m n ⟨b,r,c⟩,true):=by
 unfold As;cases m.hash with
 |false=>rfl
 |true=>rw[aq,aW,bf,ru (by omega),aq]
def aq1{g:aF}{m:qp}{l:Int}(T:cg g=true)(hm:aQ m.order 0 2=true)(D:0<=l)(hl:l<eK g):∀ (f:aj (aN×Bool)),f=(bif (m.order==(0:Int))then if g.aM=0 then none else if g.aM=0 then none else if aL g=0 then none else if g.aM=0 then none else if aL g=0 then none else bif m.hash then if aL g=0 then none else some ((⟨((W6 (((W6 (l.tdiv g.aM)).tmod (aL g))+(W6 ((W6 (l.tdiv g.aM)).tdiv (aL g))))).tmod (aL g)),(W6 ((W6 (l.tdiv g.aM)).tdiv (aL g))),(l.tmod g.aM)⟩:aN),true)else some ((⟨((W6 (l.tdiv g.aM)).tmod (aL g)),(W6 ((W6 (l.tdiv g.aM)).tdiv (aL g))),(l.tmod g.aM)⟩:aN),true)else bif (m.order==(1:Int))then if aL g=0 then none else if aL g=0 then none else if g.aM=0 then none else if aL g=0 then none else if g.aM=0 then none else bif m.hash then if aL g=0 then none else some ((⟨((W6 ((l.tmod (aL g))+(W6 ((W6 (l.tdiv (aL g))).tdiv g.aM)))).tmod (aL g)),(W6 ((W6 (l.tdiv (aL g))).tdiv g.aM)),((W6 (l.tdiv (aL g))).tmod g.aM)⟩:aN),true)else some ((⟨(l.tmod (aL g)),(W6 ((W6 (l.tdiv (aL g))).tdiv g.aM)),((W6 (l.tdiv (aL g))).tmod g.aM)⟩:aN),true)else if g.aM=0 then none else if g.aM=0 then none else if g.rows=0 then none else if g.aM=0 then none else if g.rows=0 then none else bif m.hash then if aL g=0 then none else some ((⟨((W6 ((W6 ((W6 (l.tdiv g.aM)).tdiv g.rows))+((W6 (l.tdiv g.aM)).tmod g.rows))).tmod (aL g)),((W6 (l.tdiv g.aM)).tmod g.rows),(l.tmod g.aM)⟩:aN),true)else some ((⟨(W6 ((W6 (l.tdiv g.aM)).tdiv g.rows)),((W6 (l.tdiv g.aM)).tmod g.rows),(l.tmod g.aM)⟩:aN),true))->f=some (Cq g m l,true)/\dU g (Cq g m l)=true:=by
 have hb:=ef g;have hp:=M9 T;have hL:=oF g;have gb:=fW T;have eL:eK g=aL g*g.rows*g.aM:=by simp[eK,T]
 have vY:aQ l 0 (W6 (eK g-1))=true:=by rw[bf];exact bh.2 ⟨D,by omega⟩
 have ho:=bh.1 hm;rw[eL]at hl;have NL:¬ aL g=0:=by omega
 have qH:¬ g.aM=0:=by omega
 have ij:¬ g.rows=0:=by omega
 rintro f rfl;simp only[aW NL,aW qH,aW ij];unfold Cq;by_cases o0:m.order=0
 ·have C:=EM (a:=aL g*g.rows) D (show 0<g.aM by omega) hl;have E:=EM (l:=l / g.aM) (a:=g.rows) (b:=aL g) C.1 (by omega) (by rw[Int.mul_comm];exact C.2.1);have U:=At (l:=l / g.aM) (b:=aL g) (by omega);have a4:=At (l:=l) (b:=g.aM) (by omega);rw[o0,kH,aq,aq,sV D,ru D,bf (n:=l / g.aM),sV C.1,ru C.1,bf (n:=l / g.aM / aL g)];obtain⟨Y,Z,I,O⟩:=UG (m:=m) (n:=aL g) (a:=⟨l / g.aM % aL g,l / g.aM / aL g,l % g.aM⟩) (by omega) U;refine⟨?_,vo T Y Z (by rw[I];exact E.1) (by rw[I];exact E.2.1) (by rw[O];exact a4.1) (by rw[O];exact a4.2)⟩;refine Eq.trans ?_ (UH (by omega) (by omega) (by omega) (by omega));rw[aW NL]
 ·rw[kS o0,av,av];by_cases o1:m.order=1
  ·have C:=EM (a:=g.rows*g.aM) D (show 0<aL g by omega) (by rw[Int.mul_comm,<-Int.mul_assoc];exact hl);have E:=EM (l:=l / aL g) (a:=g.rows) (b:=g.aM) C.1 (by omega) C.2.1;have U:=At (l:=l) (b:=aL g) (by omega);have a4:=At (l:=l / aL g) (b:=g.aM) (by omega);rw[o1,kH,aq,aq,sV D,ru D,bf (n:=l / aL g),sV C.1,ru C.1,bf (n:=l / aL g / g.aM)];obtain⟨Y,Z,I,O⟩:=UG (m:=m) (n:=aL g) (a:=⟨l % aL g,l / aL g / g.aM,l / aL g % g.aM⟩) (by omega) U;refine⟨?_,vo T Y Z (by rw[I];exact E.1) (by rw[I];exact E.2.1) (by rw[O];exact a4.1) (by rw[O];exact a4.2)⟩;refine Eq.trans ?_ (UH (by omega) (by omega) (by omega) (by omega));rw[aW NL]
  ·have C:=EM (a:=aL g*g.rows) D (show 0<g.aM by omega) hl;have E:=EM (l:=l / g.aM) (a:=aL g) (b:=g.rows) C.1 (by omega) C.2.1;have U:=At (l:=l / g.aM) (b:=g.rows) (by omega);have a4:=At (l:=l) (b:=g.aM) (by omega);rw[kS o1,av,av,sV D,ru D,bf (n:=l / g.aM),sV C.1,ru C.1,bf (n:=l / g.aM / g.rows)];obtain⟨Y,Z,I,O⟩:=UG (m:=m) (n:=aL g) (a:=⟨l / g.aM / g.rows,l / g.aM % g.rows,l % g.aM⟩) (by omega) ⟨E.1,E.2.1⟩;refine⟨?_,vo T Y Z (by rw[I];exact U.1) (by rw[I];exact U.2) (by rw[O];exact a4.1) (by rw[O];exact a4.2)⟩;refine Eq.trans ?_ (UH (by omega) (by omega) (by omega) (by omega));rw[aW NL]
def aq2{g:aF}{m:qp}{l:Int}(C:cg g=true)(D:aQ m.order 0 2=true)(E:0<=l)(hl:l<eK g):LQ g m l=some (Cq g m l,true)/\dU g (Cq g m l)=true:=by
 have O:=oF g;have I:aQ l 0 (W6 (eK g-1))=true:=by rw[bf];exact bh.2 ⟨E,by omega⟩
 refine aq1 C D E hl _ ?_;unfold LQ;rw[pU,au,C,bI,av,adm,au,D,bI,av,Ac,au,cI,au,I,bI,av,jo,au]
def iQ(c:ax)(l:Int):aN:=
 let a:=Cq (fP c.config.ak c.spare) c.config.mapping l
 ⟨a.aA,c.spare.map.getD (a.aA*(c.config.ak.rows-c.spare.bR)+a.row).toNat 0,a.bX⟩
def NM{g:aF}{s:fm}(h:mC g s=true):fP g s=⟨g.bD,g.aD,g.rows-s.bR,g.aM⟩/\cg g=true/\cg (fP g s)=true/\aL (fP g s)=aL g/\0 <= s.bR/\s.bR <= 2/\2 <= g.rows-s.bR/\g.rows <= 16:=by
 have D:=h;simp[mC,aJ]at h;have⟨C,E,I,O,T⟩:=adk h.1;have Y:=fW C;have e:fP g s=⟨g.bD,g.aD,g.rows-s.bR,g.aM⟩:=by
  unfold fP;rw[D,aq,bf]
 have U:cg (fP g s)=true:=by
  rw[e];unfold cg;simp[aJ,bh];omega
 refine⟨e,C,U,?_,E,I,O,T⟩;unfold aL;simp_all
def aq3{g:aF}{s:fm}(h:mC g s=true){b r:Int}(hb:0 <= b/\b<aL g)(E:0 <= r/\r<g.rows-s.bR):(b*(g.rows-s.bR)+r).toNat<s.map.length/\0 <= s.map.getD (b*(g.rows-s.bR)+r).toNat 0/\s.map.getD (b*(g.rows-s.bR)+r).toNat 0<g.rows:=by
 have⟨_,Z,_,_,h1,h2,h3,h4⟩:=NM h;have I:=ef g;simp only[mC,aJ,fl,bN,fA]at h;have⟨_,hl,O⟩:=h;obtain⟨b,rfl⟩:=fk hb.1;obtain⟨r,rfl⟩:=fk E.1;have⟨R,hR⟩:=fk (show 0 <= g.rows-s.bR by omega);have⟨C,T⟩:=fk I.1;rw[hR,T,bA,bA]at hl;have hl:s.map.length=C*R:=by exact_mod_cast hl
 have U:b<C:=by omega
 have D:r<R:=by omega
 have e:((b:Int)*(g.rows-s.bR)+(r:Int)).toNat=b*R+r:=by rw[hR,<- Int.natCast_mul,<- Int.natCast_add,bA]
 have c9:=Ae (R:=R) U (show r+1 <= R from D);have hi:b*R+r<s.map.length:=by omega
 have h5:=O b (by omega) r (by omega);rw[e];refine⟨hi,?_⟩;rw[cW,bH hi,Option.getD_some];have Y:(gf s.map R b)[r]?=some s.map[b*R+r]:=by rw[Nq,List.getElem?_take_of_lt D,List.getElem?_drop,bH hi]
 rw[hR,bA]at h5;unfold uh at h5;rw[Y]at h5;simp only[dS,aJ,fl,bh]at h5;rcases h5 with h5|h5
 ·omega
 ·grind
def aq4{c:ax}(h:Pk c)(E:mC c.config.ak c.spare=true)(he:c.spare.bR=c.config.bR)(hm:aQ c.config.mapping.order 0 2=true){l:Int}(h0:0 <= l)(hl:l<eK (fP c.config.ak c.spare)):vm c l=some (iQ c l,true)/\dU c.config.ak (iQ c l)=true:=by
 have⟨Z,hg,uO,eb,s1,s2,s3,s4⟩:=NM E;have⟨m1,m3⟩:=aq2 uO hm h0 hl;have⟨_,C,D,I,O,b5,b6⟩:=sE m3;rw[eb]at D;have gb:=fW hg;have hb:=ef c.config.ak;have er:(fP c.config.ak c.spare).rows=c.config.ak.rows-c.spare.bR:=by rw[Z]
 have ec:(fP c.config.ak c.spare).aM=c.config.ak.aM:=by rw[Z]
 rw[er]at O;rw[ec]at b6;have⟨k1,k2,k3⟩:=aq3 E ⟨C,D⟩ ⟨I,O⟩;have hmul:=B8 C D I O;have hM:=TS (a:=aL c.config.ak) (b:=c.config.ak.rows-c.spare.bR) (A:=8) (B:=16) hb.1 hb.2 (by omega) (by omega);unfold iQ;generalize hA:Cq (fP c.config.ak c.spare) c.config.mapping l=A at *
 dsimp only;refine⟨?_,vo hg C D k2 k3 b5 b6⟩;unfold vm;rw[Cc,au,m1,au];dsimp only;rw[bI,av];unfold BS xI;have hx:zP (fP c.config.ak c.spare) A.aA A.row=some true:=by
  unfold zP;rw[B7,au,vo (a:=⟨A.aA,A.row,0⟩) uO C (by rw[eb];exact D) I (by rw[er];exact O) (eW 0) (by rw[ec];show 0<_;omega)]
 have⟨b,hbN⟩:=fk C;have⟨r,hrN⟩:=fk I;have⟨R,hR⟩:=fk (show 0 <= c.config.ak.rows-c.spare.bR by omega);have⟨bn,hn⟩:=fk hb.1;have U:c.spare.map.length=bn*R:=by
  simp only[mC,aJ,fl]at E;have:=E.2.1
  grind
 have T:b<bn:=by omega
 have Y:r<R:=by omega
 have c9:=Ae (R:=R) T (show r+1 <= R from Y);have aun:=Ae (R:=R) T (dz R);have hi:b*R+r<c.spare.map.length:=by omega
 rw[Cc,au,hx,au,bI,av,hbN,Nr hR (by omega) (by omega) T U,au];have ht:((c.spare.map.take ((b+1)*R)).drop (b*R))=gf c.spare.map R b:=rfl;have ig:(gf c.spare.map R b).length=R:=II (by rw[U];exact iB R T);have hgx:(gf c.spare.map R b)[r]?=some c.spare.map[b*R+r]:=by rw[Nq,List.getElem?_take_of_lt Y,List.getElem?_drop,bH hi]
 have UI:(gf c.spare.map R b)[r]'(by omega)=c.spare.map[b*R+r]:=by
  grind
 dsimp only;rw[iF (by rw[iC];omega),iF (by rw[iC,U];omega),cP,aq,hrN,aO ⟨by omega,by rw[ht,ig,bA];exact Y⟩];simp only[bA,ht,UI,au];rw[hR,<- Int.natCast_mul,<- Int.natCast_add,bA,cW,bH hi,Option.getD_some]
def Au{c:fq}{p:eo}(hl:p.weights.length<1073741823)(h:m8 c p=true):pX c=true/\sG p=true:=by
 have⟨b,e,D⟩:=T1 c p hl;have hb:b=true:=by
  rw[EG c p hl]at e;simp_all
 subst hb;have C:=D rfl;refine⟨C,?_⟩;unfold qX at e;have⟨y,E⟩:=adq p.ey;simp[Nf,Ex _ hl,C]at e
 grind
structure Pq (c:ax):Prop where
 p:Pk c
 sp:mC c.config.ak c.spare=true
 se:c.spare.bR=c.config.bR
 mo:aQ c.config.mapping.order 0 2=true
 q:∀r∈c.queue,(0<=r.line/\r.line<eK (fP c.config.ak c.spare))/\(0<=r.eC/\r.eC<=3)/\(0<=r.at_/\r.at_<=1000000)
 ql:c.queue.length<=12
 pe:∀a∈c.pending,dU c.config.ak a=true
 pl:c.pending.length<=128
 rf:fj c.aE=true
 dl:(c.aE.aC.length:Int)=aL c.config.ak
 sh:kz c.shares=true
 shl:c.shares.length=4
 dr:p6 c.drain=true
 pw:lN c.aU=true
 ps:c.aU.state=c.aS.aU
 nw:0<=c.now/\c.now<=1000000
 cap:0<=c.box.bS.cap/\c.box.bS.cap<=100000
 eY:Ew c.box.bS.eY=true
def Pq.of{c:ax}(D:cB c)(h:cy c=true):Pq c:=by
 have I:=Pk.of D h;have z1:c.box.bS.weights.length <= 1048576:=D.1.1;simp only[cy,aJ]at h;have⟨O,h2,T,h4,h5,h6,U,Y,C,E,Z,o9,oH,uk,vz,pJ,Ai,Cm,Cn,EK,zR,EL⟩:=h;have⟨f1,f2⟩:=Au (by omega) O;simp only[pX,aJ]at f1;simp only[sG,aJ]at f2;have⟨f3,f4,f5,f6,f7,f8,f9⟩:=f2;simp only[sH,aJ,fl,fH,oQ,bN,fA]at C;have⟨C,g1,g2,g3,g4,g5,g6⟩:=C;simp only[gK,aJ,bN,fA,fI]at E;have⟨q1,q2⟩:=E;have D9:c.shares.length=4:=by
  grind
 refine⟨I,U,by simpa using Y,f1.2.2.1,λr hr=>?_,by omega,λa ha=>?_,by omega,C,g1,Z,D9,oH,uk,by simpa using vz,bh.1 T,bh.1 f4,f9⟩
 ·obtain⟨i,hi,rfl⟩:=jf.1 hr;have hb:=q1 i hi;unfold ug at hb;rw[bH hi]at hb;simp[uf,aJ,fI]at hb;have⟨⟨k1,k2,k3,k4,k5,k6,k7⟩,_⟩:=hb;exact⟨⟨k3,k4⟩,bh.1 k2,bh.1 k7⟩
 ·obtain⟨i,hi,rfl⟩:=jf.1 ha;have hb:=g6 i hi;unfold Af at hb;simp_all
def IV(r:bL)(a:aN):Bool:=(eT r a.aA).open_&&((eT r a.aA).row==a.row)
def oI(r:bL)(a:aN)(w:Bool):aR:=
 bif !(eT r a.aA).open_ then ⟨1,a.aA,a.row,0⟩else bif (eT r a.aA).row != a.row then ⟨4,a.aA,0,0⟩else bif w then ⟨3,a.aA,0,a.bX⟩else ⟨2,a.aA,0,a.bX⟩
def IW{r:bL}{b:Int}(h:b.toNat<r.aD.length):eT r b=r.aD[b.toNat]:=by
 unfold eT;rw[cW,bH h];rfl
def NN{b:Int}{n:Nat}(C:0<=b)(h:b.toNat<n)(D:n<=1048576):aQ b 0 (W6 ((n:Int)-1))=true:=by
 rw[bf];exact bh.2 ⟨C,by omega⟩
def aem{r:bL}{a:aN}(w:Bool)(C:0 <= a.aA)(h:a.aA.toNat<r.aD.length)(hl:r.aD.length <= 1048576):BU r a w=some (oI r a w):=by
 unfold BU oI xI;rw[cI,au,NN C h hl,bI,aO ⟨C,h⟩,IW h]
 grind
def aq5{r:bL}{b:Int}(C:0 <= b)(h:b.toNat<r.aD.length)(hl:r.aD.length <= 1048576):LV r b=some (bif (eT r b).open_ then (eT r b).row else -1):=by
 unfold LV xI;rw[cI,au,NN C h hl,bI,aO ⟨C,h⟩,IW h]
 grind
def aq6{r:bL}{a:aN}(D:0 <= a.row)(C:0 <= a.aA)(h:a.aA.toNat<r.aD.length)(hl:r.aD.length <= 1048576):D0 r a=some (IV r a):=by
 unfold D0 IV;rw[gU (by omega:¬ a.row = -1),aq5 C h hl,au];cases (eT r _).open_ with
 |false=>rw[av,kS (by omega:¬ (-1)=a.row)];rfl
 |true=>rfl
def aq7{g:aF}{r:bL}{a:aN}(w:Bool)(h:dU g a=true):cQ g (oI r a w)=true:=by
 have⟨D,E,Y,I,Z,O,b6⟩:=sE h;have T:aQ _ 0 (aL g-1)=true:=bh.2 ⟨E,by omega⟩;have C:aQ a.row 0 (g.rows-1)=true:=bh.2 ⟨I,by omega⟩;have U:aQ a.bX 0 (g.aM-1)=true:=bh.2 ⟨O,by omega⟩;unfold oI cQ uj;cases (eT r _).open_<;>cases (eT r _).row != a.row<;>cases w<;>simp[D,aQ,C]<;>simp[aQ,fI]at T C U<;>omega
def xV{g:aF}{k b:Int}(C:cg g=true)(D:k=4 \/ k=5)(hb:0 <= b/\b<aL g):cQ g ⟨k,b,0,0⟩=true:=by
 have E:aQ b 0 (aL g-1)=true:=bh.2 ⟨hb.1,by omega⟩;unfold cQ uj;rcases D with rfl|rfl<;>simp[C,aQ]<;>simp[aQ,fI]at E<;>omega
def aen{g:aF}{a:aN}(h:dU g a=true):cQ g ⟨1,a.aA,a.row,0⟩=true:=by
 have⟨C,D,E,I,O,T,U⟩:=sE h;unfold cQ uj;simp[C,aQ];omega
def NO{g:aF}{k:Int}(C:cg g=true)(D:6<=k/\k<=9):cQ g ⟨k,0,0,0⟩=true:=by
 obtain⟨n,rfl⟩:=fk (show 0<=k by omega);have:n=6\/n=7\/n=8\/n=9:=by omega
 unfold cQ;rw[C];rcases this with rfl|rfl|rfl|rfl<;>rfl
def UJ(l:aa aN)(b:Int)(hl:l.length<=1048576):BR l b=some (l.any λa=>a.aA==b):=by
 have E:=EJ (λa:aN=>a.aA==b) l;unfold BR Tf Te;rw[Ut];have e:=eE (step:=DY) (eU (λa:aN=>a.aA==b) l) (λi=>((l,b,(l.length:Int),(i:Int),()),())) (if eU (λa:aN=>a.aA==b) l<l.length then .inl ((((eU (λa:aN=>a.aA==b) l:Nat):Int),()),())else .inr (.inl ((),()))) br (λk h=>by
  have D:=uv h (by omega);unfold DY aK bF xG xI;dsimp only;rw[aZ,aq,aO ⟨by omega,by omega⟩];simp only[bA];rw[D,av,bT]) (by
  by_cases C:eU (λa:aN=>a.aA==b) l<l.length
  ·have D:=Ao C;unfold DY aK bF xG xI;dsimp only;rw[aZ,aq,aO ⟨by omega,by omega⟩];simp only[bA];rw[D,aq,aV C]
  ·unfold DY aK bF xG xI;dsimp only;rw[bu,av,aW C]) (bZ)
 rw[cZ]at e;rw[e];by_cases C:eU (λa:aN=>a.aA==b) l<l.length
 ·rw[aV C,aZ C];simp
 ·rw[aW C,bu C];rfl
def qd(t:cK)(row:Int):aj Nat:=match t.rows.findIdx? (λe=>e==row)with
 |some i=>some i
 |none=>t.counts.findIdx? (λe=>e==t.eX)
def jb(t:cK)(row:Int):cK:=match t.rows.findIdx? (λe=>e==row)with
 |some i=>⟨t.rows,t.counts.set i (t.counts.getD i 0+1),t.eX⟩
 | none=>match t.counts.findIdx? (λe=>e==t.eX)with
  |some i=>⟨t.rows.set i row,t.counts.set i (t.eX+1),t.eX⟩
  |none=>⟨t.rows,t.counts,t.eX+1⟩
def nQ(t:cK)(row cD:Int):cK×Bool:=bif lO t&&(aQ row 0 15&&aQ cD 2 1000)then (bif lO (jb t row)then (jb t row,match qd t row with
    |some i=>((jb t row).counts.getD i 0).tmod cD==0
    |none=>false)else (t,false))else (t,false)
structure Tk (t:cK):Prop where
 rl:t.rows.length<=16
 cl:t.counts.length=t.rows.length
 sp:0<=t.eX/\t.eX<=100000
 cs:∀i (h:i<t.counts.length),0<=t.counts[i]/\t.counts[i]<=100000
def Tk.of{t:cK}(h:lO t=true):Tk t:=by
 simp[lO,aJ,fl,bN,fA]at h;have⟨D,I,C,E⟩:=h;have D:=bh.1 D;have C:=bh.1 C
 refine⟨by omega,by omega,C,λi hi=>?_⟩
 have hb:=E i (by omega);rw[Nm (by omega) hi,aJ,aJ]at hb;have:=bh.1 hb.2.1;omega
def Cr{T:Type}{p:T -> Bool}{l:aa T}{i:Nat}(h:l.findIdx? p=some i):∃ hi:i<l.length,p l[i]=true:=by
 have⟨hi,C,_⟩:=qm.1 h;simp_all
def aeo{t:cK}(row:Int):(jb t row).rows.length=t.rows.length/\(jb t row).counts.length=t.counts.length:=by
 unfold jb
 grind
def aq8{t:cK}(h:Tk t){row:Int}{i:Nat}(hi:qd t row=some i):i<t.counts.length:=by
 have:=h.cl;unfold qd at hi;split at hi
 next j C=>cases hi;have⟨D,_⟩:=Cr C;omega
 ·exact(Cr hi).1
def aq9(t:cK)(hz:mE t)(row cD:Int):L6 t row cD=some (nQ t row cD):=by
 have sw:∀x:Int,(λe:Int=>x==e)=λe=>e==x:=λx=>funext λe=>by rw[Bool.eq_iff_iff,fl,fl];exact eq_comm
 unfold L6 nQ xL;rw[aee t hz,au,T6,au];dsimp only;cases ht:lO t with
 |false=>rfl
 | true=>
  have T:=Tk.of ht;have r1:=T.rl;have r2:=T.cl;have uK:=T.sp;rw[bI,av,cI,au,cP];cases h1:aQ row 0 15 with
  |false=>rfl
  | true=>
   rw[bI,av,cI,au,cP];cases h2:aQ cD 2 1000 with
   |false=>rfl
   | true=>
    have hl:=bh.1 h2;rw[bI,av,aq,Nl _ _ (by omega),au,sw row];have UK:∀ (E:Int) (D:cK),D=jb t row->(E=match qd t row with | some i=>(i:Int) | none=>-1)->
      ((zK D).bind λmz=>bif (!mz)then ((some t).bind λua=>some (ua,false))else (bif (decide (E >= (0:Int)))then if h24:0<=E/\E.toNat<D.counts.length then if h25:E.toNat<D.counts.length then (if cD=0 then none else some (D,(D.counts[E.toNat]'h25).tmod cD==(0:Int)))else none else none else some (D,false)))=some (bif lO (jb t row)then (jb t row,match qd t row with
        |some i=>((jb t row).counts.getD i 0).tmod cD==0
        |none=>false)else (t,false)):=by
     intro E D U e2;subst U;rw[T6,au];cases h3:lO (jb t row)with
     |false=>rfl
     | true=>
      rw[bI,av,aq,e2];cases h4:qd t row with
      |none=>rfl
      | some i=>
       have hi:i<(jb t row).counts.length:=by rw[(aeo row).2];exact aq8 T h4
       simp only[bA];rw[aZ,aq,aO ⟨by omega,hi⟩,aO hi,aW,cW,bH hi];rfl
    cases C:t.rows.findIdx? (λe=>e==row)with
    | some i=>
     obtain⟨hi,_⟩:=Cr C;have O:i<t.counts.length:=by omega
     have hc:=T.cs i O;have Y:qd t row=some i:=by unfold qd;rw[C]
     have Z:jb t row=⟨t.rows,t.counts.set i (t.counts[i]+1),t.eX⟩:=by unfold jb;simp only[C];rw[cW,bH O];rfl
     have U:iu (λe=>e==row) t.rows=(i:Int):=by unfold iu;rw[C]
     rw[U,bu,av];simp only[bA];rw[aZ,aq,aO ⟨by omega,O⟩,aO O,aO ⟨by omega,O⟩,aO O];have hw:W6 (t.counts[i]+1)=t.counts[i]+1:=bf;simp only[hw];exact UK (i:Int) ⟨t.rows,t.counts.set i (t.counts[i]+1),t.eX⟩ Z.symm (by rw[Y])
    | none=>
     have U:iu (λe=>e==row) t.rows = -1:=by unfold iu;rw[C]
     rw[U,aZ,aq,Nl _ _ (by omega),au,sw t.eX];cases I:t.counts.findIdx? (λe=>e==t.eX)with
     | some i=>
      obtain⟨hi,hp⟩:=Cr I;have NP:i<t.rows.length:=by omega
      have hp:t.counts[i]=t.eX:=by simpa using hp
      have Y:qd t row=some i:=by unfold qd;rw[C];exact I
      have Z:jb t row=⟨t.rows.set i row,t.counts.set i (t.eX+1),t.eX⟩:=by unfold jb;rw[C];simp only[I]
      have e3:iu (λe=>e==t.eX) t.counts=(i:Int):=by unfold iu;rw[I]
      rw[e3];simp only[bA];rw[aZ,aq,aO ⟨by omega,NP⟩,aO NP,aq,aO ⟨by omega,hi⟩,aO hi,aO ⟨by omega,hi⟩,aO hi];have hw:W6 (t.eX+1)=t.eX+1:=bf;simp only[hp,hw];exact UK (i:Int) ⟨t.rows.set i row,t.counts.set i (t.eX+1),t.eX⟩ Z.symm (by rw[Y])
     | none=>
      have Y:qd t row=none:=by unfold qd;rw[C];exact I
      have Z:jb t row=⟨t.rows,t.counts,t.eX+1⟩:=by unfold jb;rw[C];simp only[I]
      have e3:iu (λe=>e==t.eX) t.counts = -1:=by unfold iu;rw[I]
      have hw:W6 (t.eX+1)=t.eX+1:=bf;rw[e3,bu,av,av];simp only[hw];exact UK (-1) ⟨t.rows,t.counts,t.eX+1⟩ Z.symm (by rw[Y])
def oJ(k:Int):cK:=⟨List.replicate k.toNat (-1),List.replicate k.toNat 0,0⟩
def ara{k:Int}(h:aQ k 1 16=true):Ec k=some (oJ k,true):=by
 have hb:=bh.1 h;unfold Ec;have e:Bv ([(-1:Int)]) k=some (List.replicate k.toNat (-1)):=by
  unfold Bv;simp_all
 rw[cI,au,h,bI,e,au,aV ⟨by omega,eW _,by omega⟩];rfl
def lT(r:dB)(b:Int):dB:=bif decide (r.aC.getD b.toNat 0 = -2)then r else ⟨r.aC.set b.toNat (r.aC.getD b.toNat 0-1),r.wait,r.dL⟩
def IX{r:dB}(h:fj r=true):∀ x∈r.aC,-2 <= x/\x <= 5:=by
 simp[fj,aJ,bN]at h;exact λx C=>bh.1 (h.1 x C)
def arb{α β:Type}{o:aj (α×β)}{a:α}(h:o.map Prod.fst=some a):∃b,o=some (a,b):=by simp_all
def arc{r:dB}(h:fj r=true){b:Int}(D:0 <= b)(C:b.toNat<r.aC.length):∃ y,Md r b=some (lT r b,y):=by
 have hl:=uw h;have O:=IX h _ (dg C);have I:r.aC.getD b.toNat 0=r.aC[b.toNat]:=by rw[cW,bH C];rfl
 unfold Md xm lT xI xL xA xZ;rw[fe (by simp;omega),aq,au,Ey _ (by omega),au,h,bI,av,cI,au,NN D C (by omega),bI,av,aO ⟨D,C⟩,I];dsimp only;by_cases E:r.aC[b.toNat] = -2
 ·simp_all
 ·rw[kS E,bu E,List.nil_append,aO ⟨D,C⟩,aO C,aO ⟨D,C⟩,aO C,bf];simp_all
def Cs(p:iG)(k now:Int):iG:=bif lN p&&aQ now p.since 1000000 then
 (bif (k==6)&&(p.state==0)then ⟨1,now,p.idle⟩else bif (k==8)&&(p.state==0)then ⟨2,now,p.idle⟩else bif (k==7)&&(p.state==1)then ⟨0,now,p.idle⟩else bif (k==9)&&(p.state==2)then ⟨0,now,p.idle⟩else p)else p
def NQ(p:iG){k:Int}(C:6 <= k/\k <= 9)(now:Int):∃ y,Mo p k now=some (Cs p k now,y):=by
 refine arb ?_;unfold Mo Cs;rw[Nj,au];cases lN p with
 |false=>rfl
 | true=>
  rw[bI,av,cI,au];cases aQ now p.since 1000000 with
  |false=>rfl
  | true=>
   have:k=6 \/ k=7 \/ k=8 \/ k=9:=by omega
   grind
def aep{α β T:Type}{step:α -> aj (α⊕β)}(p:T -> Bool)(S:Nat -> Nat -> aa T -> α)(Z:Nat -> aa T -> β)
  (hs:∀i j s (E:j<s.length),i <= j -> j<1073741824 -> step (S i j s)=some (.inl (bif p s[j]then S i (j+1) s else S (i+1) (j+1) (s.set i s[j]))))
  (hz:∀i s,i <= s.length -> step (S i s.length s)=some (.inr (Z i s))):
  ∀(n i j fuel:Nat) (s:aa T),j+n=s.length -> i <= j -> s.length<1073741824 -> n<fuel -> ∃C D,iter step fuel (S i j s)=some (Z D C)/\C.length=s.length/\D <= s.length/\C.take D=s.take i++(s.drop j).filter (λx=>!p x):=by
 intro n
 induction n with
 | zero=>
  intro i j fuel s hn hi hl hf;obtain⟨f,rfl⟩:∃f,fuel=f+1:=⟨fuel-1,by omega⟩
  have ej:j=s.length:=by omega
  subst ej;refine⟨s,i,?_,rfl,hi,by simp⟩;unfold iter;simp_all
 | succ n I=>
  intro i j fuel s hn hi hl hf;obtain⟨f,rfl⟩:∃f,fuel=f+1:=⟨fuel-1,by omega⟩
  have E:j<s.length:=by omega
  unfold iter;rw[hs i j s E hi (by omega)];have hd:=List.drop_eq_getElem_cons E;cases hp:p s[j]with
  | true=>
   have⟨C,D,O,U,Y,h4⟩:=I i (j+1) f s (by omega) (by omega) hl (by omega)
   grind
  | false=>
   have⟨C,D,O,U,Y,h4⟩:=I (i+1) (j+1) f (s.set i s[j]) (by simp;omega) (by omega) (by simp;omega) (by omega);refine⟨C,D,O,by simpa using U,by simpa using Y,?_⟩;rw[h4,hd,List.filter_cons_of_pos (by simp[hp]),List.drop_set_of_lt (by omega),List.take_add_one,List.getElem?_set_self (by omega),List.take_set_of_le (by omega)];simp
def aeq{T:Type}{p:T -> Bool}{l:aa T}{k:Nat}(h:l.findIdx? p=some k):l.filter (λx=>!p x)=l.take k++(l.drop (k+1)).filter (λx=>!p x):=by
 have⟨D,E,I⟩:=qm.1 h;have e:l=l.take k++l[k] :: l.drop (k+1):=by
  simp[*]
 have O:(l.take k).filter (λx=>!p x)=l.take k:=by
  rw[List.filter_eq_self];intro a C;obtain⟨i,hi,rfl⟩:=jf.1 C
  grind
 grind
def UL{T:Type}(s r:aa T)(i:Nat)(h:i <= s.length):(splice s i r).take i=s.take i:=by
 unfold splice;simp_all
def ard(l:aa aN)(a:aN)(hl:l.length<1073741824):L8 l a=some (iu (eF a) l):=by
 unfold L8 iu;have e:=Ez (step:=HI) l (eF a) (λi=>((l,a,(l.length:Int),(i:Int),()),())) (λi=>.inl (((i:Int),()),())) (.inr (.inl ((),()))) br (λk h=>by
  unfold HI eF aK bF xG xI;dsimp only;rw[aZ,aq,aO ⟨by omega,by omega⟩];simp only[bA];rw[bT];cases (l[k].aA==a.aA&&(l[k].row==a.row&&(l[k].bX==a.bX&&true)))<;>rfl) (by
  unfold HI aK bF xG xI;dsimp only;rw[bu,av]) (bZ hl)
 rw[cZ]at e;rw[e];cases l.findIdx? (eF a)<;>rfl
def arf(l:aa aN)(x:aR)(hl:l.length<1073741824):Mp l x=some (iu (λa=>a.aA==x.aA) l):=by
 unfold Mp iu;have e:=Ez (step:=HU) l (λa=>a.aA==x.aA) (λi=>((l,x,(l.length:Int),(i:Int),()),())) (λi=>.inl (((i:Int),()),())) (.inr (.inl ((),()))) br (λk h=>by
  unfold HU aK bF xG xI;dsimp only;rw[aZ,aq,aO ⟨by omega,by omega⟩];simp only[bA];rw[bT];cases (l[k].aA==x.aA)<;>rfl) (by
  unfold HU aK bF xG xI;dsimp only;rw[bu,av]) (bZ hl)
 rw[cZ]at e;rw[e];cases l.findIdx? (λa=>a.aA==x.aA)<;>rfl
def arh(l:aa aN)(a:aN)(hl:l.length<1000000):L9 l a=some (l.filter (λx=>!eF a x),([],())):=by
 unfold L9;rw[ard l a (by omega),au];unfold iu;cases C:l.findIdx? (eF a)with
 | none=>
  have e:l.filter (λx=>!eF a x)=l:=by
   rw[List.filter_eq_self];intro x D;have:=List.findIdx?_eq_none_iff.1 C x D;simp[this]
  rw[e];rfl
 | some k=>
  obtain⟨O,T,U⟩:=qm.1 C;rw[aeq C];simp only;rw[kS (show ¬ (k:Int) = -1 by omega),av,bT];obtain⟨Y,Z,E,h2,h3,I⟩:=aep (step:=HJ) (eF a) (λi j s=>(((),a,(i:Int),(j:Int),()),(s,()))) (λi s=>.inl (((),(i:Int),()),(s,()))) (λi j s hj hi hb=>by
   unfold HJ eF aK xG xL;dsimp only;rw[aZ,aq,aO ⟨by omega,by omega⟩,aO];simp only[bA];rw[bT,bT,aO ⟨by omega,by omega⟩,aO];cases (s[j].aA==a.aA&&(s[j].row==a.row&&(s[j].bX==a.bX&&true)))<;>rfl) (λi s hi=>by
   unfold HJ aK xG xL;dsimp only;rw[bu,av]) (l.length-(k+1)) k (k+1) br l (by omega) (by omega) (by omega) (by unfold br;omega)
  rw[E,au,gw];dsimp only;rw[aV ⟨by omega,by omega,by omega⟩,aV ⟨by omega,by omega⟩,aV ⟨by omega,by omega,by
   rw[s7 _ _ _ (by simp;omega)];omega⟩]
  rw[UL _ _ _ (by omega),bA,I]
def ari(l:aa aN)(c:aR)(hl:l.length<1000000):Mq l c=some (l.filter (λx=>!(x.aA==c.aA)),([],())):=by
 unfold Mq;rw[arf l c (by omega),au];unfold iu;cases C:l.findIdx? (λa=>a.aA==c.aA)with
 | none=>
  have e:l.filter (λx=>!(x.aA==c.aA))=l:=by
   rw[List.filter_eq_self];intro x D;have:=List.findIdx?_eq_none_iff.1 C x D;simp[this]
  rw[e];rfl
 | some k=>
  obtain⟨O,T,U⟩:=qm.1 C;rw[aeq C];simp only;rw[kS (show ¬ (k:Int) = -1 by omega),av,bT];obtain⟨Y,Z,E,h2,h3,I⟩:=aep (step:=HV) (λx=>x.aA==c.aA) (λi j s=>(((),c,(i:Int),(j:Int),()),(s,()))) (λi s=>.inl (((),(i:Int),()),(s,()))) (λi j s hj hi hb=>by
   unfold HV aK xG xL;dsimp only;rw[aZ,aq,aO ⟨by omega,by omega⟩,aO];simp only[bA];rw[bT,bT,aO ⟨by omega,by omega⟩,aO];cases (s[j].aA==c.aA)<;>rfl) (λi s hi=>by
   unfold HV aK xG xL;dsimp only;rw[bu,av]) (l.length-(k+1)) k (k+1) br l (by omega) (by omega) (by omega) (by unfold br;omega)
  rw[E,au,gw];dsimp only;rw[aV ⟨by omega,by omega,by omega⟩,aV ⟨by omega,by omega⟩,aV ⟨by omega,by omega,by
   rw[s7 _ _ _ (by simp;omega)];omega⟩]
  rw[UL _ _ _ (by omega),bA,I]
def jr(b:Int)(pd:aa aN)(n:Int):aa aN:=bif pd.any (eF ⟨b,n,0⟩)then pd else pd++[⟨b,n,0⟩]
def vD(c:ax)(t:aa cK)(C:aa Int)(pd:aa aN):ax:=⟨c.config,c.box,c.now,c.aS,c.ready,c.array,c.spare,c.aE,t,C,pd,c.queue,c.shares,c.drain,c.aU,c.dD,c.errors,c.trace,c.cx⟩
def aer{T:Type}(p:T -> Bool)(l:aa T):decide (iu p l<0) = !l.any p/\decide (iu p l >= 0)=l.any p:=by
 unfold iu
 grind
def UM(b:Int):∀ (ns:aa Int) (pd:aa aN),(ns.foldl (jr b) pd).length <= pd.length+ns.length
 |[],pd=>dz _
 | n :: ns,pd=>by
  have:=UM b ns (jr b pd n);have C:(jr b pd n).length <= pd.length+1:=by
   unfold jr
   grind
  grind
def arj{T U:Type}(f:U->T->U)(l:aa T)(u:U){k:Nat}(h:k<l.length):(l.take (k+1)).foldl f u=f ((l.take k).foldl f u) l[k]:=by
 rw[List.take_add_one,bH h,List.foldl_append];rfl
def ark(c:ax)(x:aR)(ns:aa Int)(C:ns.length <= 1000)(D:c.pending.length <= 1000):iter Eb br (((),(),(),(ns.length:Int),(0:Int),()),(c,(x.kind,x.aA,x.row,x.bX,()),ns,()))=some (.inl ((),(vD c c.bE c.guard (ns.foldl (jr x.aA) c.pending),()))):=by
 have e:=eE (step:=Eb) _ (λi=>(((),(),(),ns.length,i,()),(vD c c.bE c.guard ((ns.take i).foldl _ _),(x.kind,x.aA,x.row,x.bX,()),ns,()))) _ br (λk h=>by
  have hl:=UM x.aA (ns.take k) c.pending;rw[kG]at hl;rw[arj _ _ _ h];generalize (ns.take k).foldl (jr x.aA) c.pending=pd at hl;unfold Eb jr vD Tu aK xG xL;dsimp only;rw[aZ,aq,aO ⟨by omega,by omega⟩,aO];simp only[bA];rw[adB _ _ (by omega),au,au,(aer _ _).2,bT,fe (by simp;omega)];cases pd.any (eF ⟨x.aA,ns[k],0⟩)<;>rfl) (by
  unfold Eb vD aK xG xL;dsimp only;rw[bu,av]) (bZ)
 rw[ List.take_length]at e;exact e
def zT:cK:=⟨[],[],0⟩
def xW(c:ax)(x:aR):cK×Bool:=nQ (c.bE.getD x.aA.toNat zT) x.row (c.guard.getD x.aA.toNat 0)
def sN(c:ax)(x:aR):aa aN:=c.pending.filter (λa=>!eF ⟨x.aA,x.row,0⟩ a)
def xX(c:ax)(x:aR):ax:=
 vD (dO c (Aq c.config.ak c.config.dJ c.array x.aA x.row)) (c.bE.set x.aA.toNat (xW c x).1) c.guard (bif (xW c x).2 then (gW c.config.ak.rows x.row).foldl (jr x.aA) (sN c x)else sN c x)
def iw{T:Type}{l:aa T}{i:Nat}(d:T)(h:i<l.length):l.getD i d=l[i]:=by
 rw[cW,bH h];rfl
def aes(R r:Int):(gW R r).length <= 2:=by
 unfold gW
 grind
def arl{T:Type}(p:T->Bool)(l:aa T):(l.filter p).length<=l.length:=List.length_filter_le p l
def arn{B:Int}(c:ax)(x:aR)(I:cg c.config.ak=true)(Y:eA c.config.ak B c.array)(hp:c.pending.length <= 200)(Z:∀ t∈c.bE,mE t)(D:0 <= x.aA)(h2:x.aA<aL c.config.ak)(O:0 <= x.row)(T:x.row<c.config.ak.rows)(C:x.aA.toNat<c.bE.length)(E:x.aA.toNat<c.guard.length):Ma c x=some ((),(xX c x,())):=by
 have⟨_,_,_,_,g5,g6,g7,g8⟩:=fW I;have U:=aeg I c.config.dJ c Y D h2 O T;have e2:=arh c.pending ⟨x.aA,x.row,0⟩ (by omega);have hf:(sN c x).length <= c.pending.length:=List.length_filter_le _ _;have rQ:=aes c.config.ak.rows x.row;simp only[dO]at U;unfold Ma bQ xL xM
 refine(bx (λo=>Option.bind o _) U).trans ?_
 rw[au];dsimp only
 refine(bx (λo=>Option.bind o _) e2).trans ?_
 rw[au];dsimp only;rw[aO ⟨D,C⟩,aO C,aO ⟨D,E⟩,aO E,aO C,aO C];rw[aq9 _ (Z _ (dg C)),au,aO ⟨D,C⟩,aO C];unfold xX xW;rw[iw _ C,iw _ E];cases (nQ (c.bE[x.aA.toNat]'C) x.row (c.guard[x.aA.toNat]'E)).2 with
 |false=>rfl
 | true=>
  rw[bI,av,adV (by omega) (by omega) O T,au]
  refine(bx (λo=>Option.bind o _) (ark (vD (dO c (Aq _ _ c.array x.aA x.row)) _ c.guard (sN c x)) x _ (by omega) (by unfold vD;dsimp only;omega))).trans ?_
  rfl
def Ct(l:aa aN):Prop:=∀i (h:i<l.length),(l.take i).any (eF l[i])=false
def IY{a b:aN}:eF a b=true ↔ a=b:=by
 have⟨C,D,E⟩:=a;have⟨I,O,T⟩:=b;simp[eF,aJ,fl,and_true,aN.mk.injEq]
 grind
def oK{U:Type}(f:U->Nat->U)(u:U)(k:Nat):(List.range (k+1)).foldl f u=f ((List.range k).foldl f u) k:=by
 rw[List.range_succ,List.foldl_append];rfl
def gM(g:aF)(l:kY)(a:cN)(b:Int)(n:Nat):cN:=(List.range n).foldl (λa (r:Nat)=>Aq g l a b (r:Int)) a
def IZ{g:aF}(C:cg g=true)(l:kY){B:Int}(hB:0<=B){a:cN}(D:eA g B a){b:Int}(E:0<=b)(I:b<aL g):∀ n:Nat,(n:Int)<=g.rows->eA g B (gM g l a b n)
 |0,_=>D
 | n+1,h=>by
  unfold gM;rw[oK];exact Ux C l hB (IZ C l hB D E I n (by omega)) E I (by omega) (by omega)
def aet{B:Int}(hB:0 <= B)(c:ax)(C:cg c.config.ak=true)(O:eA c.config.ak B c.array){b:Int}(D:0 <= b)(E:b<aL c.config.ak):Mb c b=some ((),(dO c (gM c.config.ak c.config.dJ c.array b c.config.ak.rows.toNat),())):=by
 have⟨_,_,_,_,T,U,Y,Z⟩:=fW C;have e:=eE (step:=HK) c.config.ak.rows.toNat (λi=>(((),b,i,()),(dO c (gM _ _ _ b i),()))) _ br (λk h=>by
  have I:=aeg C c.config.dJ (dO c (gM c.config.ak c.config.dJ c.array b k)) (IZ C c.config.dJ hB O D E k (by omega)) D E (show 0 <= (k:Int) by omega) (by omega);simp only[dO]at I;unfold HK dO aK xG;dsimp only;rw[aZ,aq,I,au,bT];dsimp only;unfold gM;rw[oK]) (by
  unfold HK dO aK xG;dsimp only;rw[bu,av]) (bZ)
 refine(bx (λo=>Option.bind o _) e).trans ?_
 rfl
def NR(c:ax)(b:Int)(pd:aa aN):ax:=
 vD (dO c (gM c.config.ak c.config.dJ c.array b c.config.ak.rows.toNat)) (c.bE.set b.toNat (oJ c.config.iU)) (c.guard.set b.toNat c.box.bS.ey) pd
def aeu(c:ax)(I:aQ c.config.iU 1 16=true){b:Int}(C:0<=b)(D:b.toNat<c.bE.length)(E:b.toNat<c.guard.length):HL c b=some ((),(vD c (c.bE.set b.toNat (oJ c.config.iU)) (c.guard.set b.toNat c.box.bS.ey) c.pending,())):=by
 unfold HL xL;rw[ara I,au,aO ⟨C,D⟩,aO D,aO ⟨C,E⟩,aO E];rfl
def iy(c:ax)(k:Nat)(pd:aa aN):ax:=
 ⟨c.config,c.box,c.now,c.aS,c.ready,(List.range k).foldl (λa (b:Nat)=>gM c.config.ak c.config.dJ a (b:Int) c.config.ak.rows.toNat) c.array,c.spare,⟨(List.range k).foldl (λd b=>d.set b 0) c.aE.aC,c.aE.wait,c.aE.dL⟩,(List.range k).foldl (λd b=>d.set b (oJ c.config.iU)) c.bE,(List.range k).foldl (λd b=>d.set b c.box.bS.ey) c.guard,pd,c.queue,c.shares,c.drain,c.aU,c.dD,c.errors,c.trace,c.cx⟩
def vE{T:Type}(x:T)(l:aa T):∀ k:Nat,((List.range k).foldl (λd b=>d.set b x) l).length=l.length
 |0=>rfl
 |k+1=>by rw[oK,iS,vE x l k]
def NS{g:aF}(C:cg g=true)(l:kY){B:Int}(hB:0 <= B){a:cN}(D:eA g B a):∀ k:Nat,(k:Int) <= aL g -> eA g B ((List.range k).foldl (λa (b:Nat)=>gM g l a (b:Int) g.rows.toNat) a)
 |0,_=>D
 | k+1,h=>by
  have⟨_,_,_,_,E,I,O,T⟩:=fW C;rw[oK];exact IZ C l hB (NS C l hB D k (by omega)) (by omega) (by omega) _ (by omega)
structure vF (B:Int) (c:ax):Prop where
 hB:0<=B
 g:cg c.config.ak=true
 a:eA c.config.ak B c.array
 k:aQ c.config.iU 1 16=true
 p:c.pending.length<=200
 t:(c.bE.length:Int)=aL c.config.ak
 d:(c.guard.length:Int)=aL c.config.ak
 r:(c.aE.aC.length:Int)=aL c.config.ak
def vF.UN{B:Int}{c:ax}(h:vF B c)(k:Nat)(C:(k:Int)<=aL c.config.ak)(pd:aa aN)(D:pd.length<=200):vF B (iy c k pd):=
 ⟨h.hB,h.g,NS h.g c.config.dJ h.hB h.a k C,h.k,D,(bx (λn:Nat=>(n:Int)) (vE _ _ k)).trans h.t,(bx (λn:Nat=>(n:Int)) (vE _ _ k)).trans h.d,(bx (λn:Nat=>(n:Int)) (vE _ _ k)).trans h.r⟩
def aro(c:ax)(k:Nat)(pd C:aa aN):iy c (k+1) C=⟨c.config,c.box,c.now,c.aS,c.ready,(NR (iy c k pd) (k:Int) C).array,c.spare,⟨(iy c k pd).aE.aC.set k 0,c.aE.wait,c.aE.dL⟩,(NR (iy c k pd) (k:Int) C).bE,(NR (iy c k pd) (k:Int) C).guard,C,c.queue,c.shares,c.drain,c.aU,c.dD,c.errors,c.trace,c.cx⟩:=by
 unfold iy;simp only[oK];rfl
def arp{B:Int}{c:ax}(h:vF B c):iter xE br (((),(c.bE.length:Int),(0:Int),()),(iy c 0 [],()))=some (.inl ((),(iy c c.bE.length [],()))):=by
 have U:=ef c.config.ak;have Y:=h.t;have e:=eE (step:=xE) c.bE.length (λi=>(((),c.bE.length,i,()),(iy c i [],()))) _ br (λk Z=>by
  have C:=h.UN k (by omega) [] (by simp);have w1:=C.t;have E:=C.d;have I:=C.r;have D:aL (iy c k []).config.ak=aL c.config.ak:=rfl;rw[D]at w1 E I;have O:=aet C.hB _ C.g C.a (b:=(k:Int)) (by omega) (by rw[D];omega);have T:=aeu (dO (iy c k []) (gM (iy c k []).config.ak (iy c k []).config.dJ (iy c k []).array (k:Int) (iy c k []).config.ak.rows.toNat)) C.k (b:=(k:Int)) (by omega) (by show (k:Int).toNat<(iy c k []).bE.length;omega) (by show (k:Int).toNat<(iy c k []).guard.length;omega);rw[aro c k [] []];unfold xE aK xG xL;dsimp only;rw[aZ,aq,O,au,T,au,bT];have w4:k<(iy c k []).aE.aC.length:=by omega
  rw[aO ⟨by omega,by show (k:Int).toNat<(iy c k []).aE.aC.length;omega⟩,aO (by show (k:Int).toNat<(iy c k []).aE.aC.length;omega)];rfl) (by
  unfold xE aK xG xL;dsimp only;rw[bu,av]) (bZ)
 simp_all
def wv(l:aa Int):Nat->Int
 |0=>0
 |i+1=>bits .or .i64 (wv l i) (W6 (l.getD i 0*2 ^ (min (4*(i:Int)).toNat IntKind.i64.bits)))
def arq{l:aa Int}(h:l.length=8)(C:∀ s∈l,0 <= s/\s <= 15):vt l 8=true:=by
 simp[vt,aJ,bN,Ca,bh];simp_all
def ars{l:aa Int}(h:l.length=8)(D:∀ s∈l,0<=s/\s<=15):Mh l=some (wv l 8,true):=by
 unfold Mh bQ;rw[ac9 _ _ (by omega),arq h D,au];have e:=eE (step:=HR) 8 (λi=>((wv l i,l,(l.length:Int),(i:Int),()),())) (.inl ((wv l 8,()),())) br (λi hi=>by
  have C:i<l.length:=by omega
  have E:W6 (4*(i:Int))=4*(i:Int):=bf;have I:¬ 4*(i:Int)<0:=by omega
  have O:l.getD i 0=l[i]:=by rw[cW,bH C];rfl
  have T:wv l (i+1)=bits .or .i64 (wv l i) (W6 (l.getD i 0*2 ^ (min (4*(i:Int)).toNat IntKind.i64.bits))):=rfl;unfold HR aK xG xI;rw[T,O];simp (disch:=omega) [C,E,I,bT]) (by unfold HR aK xG xI;simp[h]) (bZ)
 rw[cZ]at e;simp only[bI,av];have U:wv l 0=0:=rfl;rw[U]at e;rw[e];rfl
def art{w:aa Nat}(D:jT w)(hl:w.length=11):(cA (w.drop 3)).length=8 /\ ∀ s∈cA (w.drop 3),0 <= s/\s <= 15:=by
 refine⟨by rw[vr];simp[hl],λs C=>?_⟩
 simp only[ List.mem_map]at C;obtain⟨x,E,rfl⟩:=C;have:=D x (List.mem_of_mem_drop E);omega
def UO(w:aa Nat):Int:=bif (kT w).2.1==2 then 0 else wv (cA ((kT w).1.drop 3)) 8
def aru{w:aa Nat}(C:jT w)(hl:w.length=11):Mj (cA w)=some (UO w,(kT w).2.1,(kT w).2.2):=by
 have⟨D,E,_⟩:=Nw C hl;have⟨d1,d2⟩:=art E D;unfold Mj UO;rw[ad3 C hl,au];cases h:(kT w).2.1==2 with
 |true=>simp
 | false=>
  rw[ aqk E D,au,ars d1 d2];rfl
def nw(c:cu):aa Nat:=c.symbols.map Int.toNat
def UP{c:cu}(h:Sy c.symbols):cA (nw c)=c.symbols/\jT (nw c)/\(nw c).length=11:=by
 have⟨C,D⟩:=adf _ h.2;exact⟨C,D,by simp[nw,h.1]⟩
def kF(c:cu):Int:=bif c.mL then 2 else (kT (nw c)).2.1
def q7(c:cu):cu:=bif c.mL then c else bif (kT (nw c)).2.1==1 then ⟨cA (kT (nw c)).1,c.mL⟩else bif (kT (nw c)).2.1==2 then ⟨c.symbols,true⟩else c
def arv{l:aa cu}{j:Nat}(h:j<l.length):l.set j l[j]=l:=List.set_getElem_self h
def UQ{c:cu}(h:Sy c.symbols):Sy (q7 c).symbols:=by
 have⟨O,C,D⟩:=UP h;have⟨E,I,_⟩:=Nw C D;unfold q7;cases c.mL with
 |true=>exact h
 | false=>
  cases (kT _).2.1==1 with
  |true=>exact adg I E
  |false=>grind
def sy1(x:Int)(k:Nat):Int:=bits .and .i64 (x.fdiv (2 ^ (min (4*(k:Int)).toNat IntKind.i64.bits))) 15
def sO(x:Int):Nat->aa Int
 |0=>[]
 |k+1=>sO x k++[sy1 x k]
def UR(x:Int):∀ k,(sO x k).length=k
 |0=>rfl
 |k+1=>by simp[sO,UR x k]
def aev(x:Int):∀ k,∀ s∈sO x k,0<=s/\s<=15
 |0,s,h=>by cases h
 | k+1,s,h=>by
  rcases kX.1 h with h|h
  ·exact aev x k s h
  ·rw[gF.1 h];exact aqe _
def arw{x:Int}(U:0<=x)(Y:x<=4294967295):Me x=some (sO x 8):=by
 have C:aQ x 0 4294967295=true:=by rw[bh];omega
 unfold Me BM bQ;rw[cI,au,au,C,bI,av];have e:=eE (step:=HP) 8 (λk=>((x,(),(k:Int),()),(sO x k,()))) (.inl (((),()),(sO x 8,()))) br (λk Z=>by
  have D:(k:Int)<8:=by omega
  have E:cv ((sO x k).length+1)=true:=fe (by rw[UR];omega);have I:W6 (4*(k:Int))=4*(k:Int):=bf;have O:¬ 4*(k:Int)<0:=by omega
  unfold HP aK xG;simp (disch:=omega) [D,I,O,E,bT,sO,sy1]) (by
  unfold HP aK xG;simp) (bZ)
 rw[cZ]at e;have T:sO x 0=[]:=rfl;rw[T]at e;rw[e];rfl
def EN(x:Int):aa Int:=(zZ x).getD []
def US{x:Int}(E:0 <= x)(I:x <= 4294967295):zZ x=some (EN x)/\Sy (EN x) /\ ∃ w,EN x=cA w/\w.length=11/\jT w/\cA (w.drop 3)=sO x 8/\EF w=true:=by
 have O:aQ x 0 4294967295=true:=by rw[bh];omega
 have⟨t1,t2⟩:=adf _ (aev x 8);have tl:((sO x 8).map Int.toNat).length=8:=by rw[eN,UR]
 have⟨w,C,l1,d1,T,U,Y,Z⟩:=ao1 t2 tl;have z1:EF w=true:=by simp[EF,U,Y,Z]
 rw[t1]at C;have D:zZ x=some (cA w):=by
  unfold zZ BM;rw[cI,au,au,O,bI,av,arw E I,au,C,au]
 have ee:EN x=cA w:=by unfold EN;rw[D];rfl
 rw[ee];exact⟨D,adg d1 l1,w,rfl,l1,d1,by rw[T,t1],z1⟩
def UT(d:cu):Int:=bif d.mL then 0 else UO (nw d)
def vG(c:ax)(j:Nat)(d:cu):ax:=dO c ⟨c.array.cells.set j d,c.array.bq,c.array.aY⟩
def arx{c:ax}{j:Nat}(h:j<c.array.cells.length):vG c j c.array.cells[j]=c:=by
 unfold vG dO;rw[arv h]
def aew{c:ax}{j:Nat}(C:j<c.array.cells.length)(T:Sy c.array.cells[j].symbols):xD c (j:Int)=some ((UT c.array.cells[j],kF c.array.cells[j]),(vG c j (q7 c.array.cells[j]),())):=by
 have⟨U,D,E⟩:=UP T;have I:=ad3 D E;have O:=aru D E;rw[U]at I O;have Z:=arx C;unfold xD kF q7 UT xL xM;rw[aO ⟨by omega,by omega⟩,aO];simp only[bA];cases Y:c.array.cells[j].mL with
 |true =>simp_all
 | false=>
  rw[av,av,av,av,aO C,aO C,I,au,aO C,aO C,O,au];dsimp only;rcases(Nw D E).2.2 with q|q|q
  ·grind
  ·rw[q,kH,aO C,Y];rfl
  ·rw[q,kS (by omega),av,kH,aO C];rfl
def Cu(q:aa bg)(i:Nat):Bool:=match q[i]? with
 |some r=>(q.take i).any λx=>x.line==r.line
 |none=>false
def ary{q:aa bg}{i:Nat}(h:i<q.length):Cu q i=(q.take i).any λx=>x.line==q[i].line:=by
 unfold Cu;rw[bH h]
def arz{q:aa bg}{i:Nat}(h:i<q.length)(I:q.length <= 1000):LS q (i:Int)=some (Cu q i):=by
 have O:=EJ (λx:bg=>x.line==q[i].line) (q.take i);have hlen:(q.take i).length=i:=by rw[kG];omega
 unfold LS cH;rw[cI,au,NN (by omega) (by omega) (by omega),bI,av,aV ⟨by omega,by omega,by omega⟩,ary h,Ut];simp only[bA,Int.toNat_zero,List.drop_zero];generalize T:q.take i=t at *
 have e:=eE (step:=DZ) (eU (λx:bg=>x.line==q[i].line) t) (λj=>((q,(i:Int),t,(t.length:Int),(j:Int),()),())) (if eU (λx:bg=>x.line==q[i].line) t<t.length then .inl ((true,()),())else .inr (.inl ((),()))) br (λk E=>by
  have D:=uv E (by omega);unfold DZ aK bF xG xI;dsimp only;rw[aZ,aq,aO ⟨by omega,by omega⟩,aO ⟨by omega,by omega⟩];simp only[bA];rw[D,av,bT]) (by
  by_cases C:eU (λx:bg=>x.line==q[i].line) t<t.length
  ·have D:=Ao C;unfold DZ aK bF xG xI;dsimp only;rw[aZ,aq,aO ⟨by omega,by omega⟩,aO ⟨by omega,by omega⟩]
   grind
  ·unfold DZ aK bF xG xI;dsimp only;rw[bu,av,aW C]) (bZ)
 rw[cZ]at e
 refine(bx (λo=>Option.bind o _) e).trans ?_
 by_cases C:eU (λx:bg=>x.line==q[i].line) t<t.length
 ·rw[aV C,aZ C];rfl
 ·rw[aW C,bu C];rfl
def I0(d:mM)(n:Int)(w:Bool):Bool:=bif w then d.on ||decide (n<1)else !d.on
def arB{d:mM}(n:Int)(w:Bool)(h:p6 d=true):LU d n w=some (I0 d n w):=by
 unfold LU I0;rw[Nh,h]
 grind
def Av(p:Nat->Bool)(k:Nat):Int:=((List.range k).countP p:Nat)
def aex(p:Nat -> Bool)(k:Nat):Av p (k+1)=Av p k+(bif p k then 1 else 0):=by
 unfold Av;rw[List.range_succ,List.countP_append,List.countP_singleton]
 grind
def aey(p:Nat -> Bool)(k:Nat):0 <= Av p k/\Av p k <= k:=by
 unfold Av;have:=List.countP_le_length (p:=p) (l:=List.range k);simp_all
def q8(f:Nat->Bool)(n k:Nat):aa Bool:=(List.range k).map f++List.replicate (n-k) false
def NT{f:Nat->Bool}{n k:Nat}(h:k<=n):(q8 f n k).length=n:=by unfold q8;simp;omega
def NU{f:Nat -> Bool}{n k:Nat}(h:k<n):(q8 f n k).set k (f k)=q8 f n (k+1):=by
 unfold q8;rw[List.set_append_right _ _ (by simp),eN,eB,Nat.sub_self,show n-k=(n-(k+1))+1 by omega,List.replicate_succ,List.range_succ,List.map_append,List.append_assoc];rfl
def UU(f:Nat->Bool)(n:Nat):q8 f n 0=List.replicate n false:=rfl
def NV(f:Nat->Bool)(n:Nat):q8 f n n=(List.range n).map f:=by unfold q8;simp
def I1{f:Nat->Bool}{n k:Nat}(h:k<n)(C:k<((List.range n).map f).length):((List.range n).map f)[k]=f k:=by simp
def q9(q:aa bg)(i:Nat):Bool:=match q[i]? with
 |some r=>r.write
 |none=>false
def NW{q:aa bg}{i:Nat}(h:i<q.length):q9 q i=q[i].write:=by
 unfold q9;rw[bH h]
def nR(q:aa bg)(i:Nat):Bool:=!Cu q i
def xY(q:aa bg)(k:Nat):Int:=Av (λi=>nR q i && !q9 q i) k
def ya(q:aa bg)(k:Nat):Int:=Av (λi=>nR q i&&q9 q i) k
def oL(c:ax)(i:Nat):Bool:=nR c.queue i&&(I0 c.drain (xY c.queue c.queue.length) (q9 c.queue i) ||(!q9 c.queue i&&ya c.queue c.queue.length==0))
def iz(c:ax):aa aN:=c.queue.map λr=>iQ c r.line
def EO(c:ax):(iz c).length=c.queue.length:=by unfold iz;rw[eN]
def aez{c:ax}{i:Nat}(h:i<c.queue.length)(C:i<(iz c).length):(iz c)[i]=iQ c c.queue[i].line:=by simp only[iz,List.getElem_map]
def NX{c:ax}(h:Pq c){r:bg}(C:r∈c.queue):vm c r.line=some (iQ c r.line,true)/\dU c.config.ak (iQ c r.line)=true:=
 aq4 h.p h.sp h.se h.mo (h.q r C).1.1 (h.q r C).1.2
def arC{c:ax}(h:Pq c):LR c=some (iz c):=by
 have D:=h.ql;have e:=eE (step:=Hw) c.queue.length (λi=>(((),(),c.queue,c.queue.length,i,()),(c,(c.queue.take i).map _,()))) (.inl (((),()),(iz c,()))) br (λk C=>by
  have hl:((c.queue.take k).map (λr=>iQ c r.line)).length=k:=by simp;omega
  unfold Hw aK xG xI;dsimp only;rw[aZ,aq,aO ⟨by omega,by omega⟩];simp only[bA];rw[(NX h (dg C)).1,au,bT,hl,List.length_singleton,fe,aq,ud C,List.map_append];rfl) (by
  unfold Hw aK xG xI;dsimp only;rw[bu,av,List.take_length];rfl) (bZ)
 unfold LR bQ;simp_all
def zA:aN:=⟨0,0,0⟩
def zQ:bg:=⟨0,0,0,false,0,0⟩
def gX(c:ax)(i:Nat):aN:=(iz c).getD i zA
def yb(c:ax)(i:Nat):bg:=c.queue.getD i zQ
def NY{c:ax}{i:Nat}(h:i<(iz c).length):(iz c)[i]=gX c i:=by
 unfold gX;rw[cW,bH h];rfl
def EP{c:ax}{i:Nat}(h:i<c.queue.length):c.queue[i]=yb c i:=by
 unfold yb;rw[cW,bH h];rfl
def UW{c:ax}(h:Pq c){i:Nat}(hi:i<c.queue.length):dU c.config.ak (gX c i)=true/\0 <= (gX c i).aA/\(gX c i).aA.toNat<c.aS.aD.length/\(gX c i).aA.toNat<c.aE.aC.length/\(gX c i).aA<aL c.config.ak/\0 <= (gX c i).row:=by
 have e:=aez hi (by rw[EO];exact hi);rw[NY]at e;have C:=(NX h (dg hi)).2;rw[<- e]at C;have⟨_,D,E,I,O,T,U⟩:=sE C;have:=h.p.bl;have:=h.dl;simp_all
def ER{c:ax}(h:Pq c):c.aS.aD.length<=1048576:=by
 have:=h.p.bl;have:=ef c.config.ak;omega
def gi(c:ax)(i:Nat):Bool:=IV c.aS (gX c i)
def arD{c:ax}(h:Pq c)(C:aa Int)(D:aa aN)(Z:Int×Int×Int×Int×ah)(P:Int×Int×Int×Int×Int×(aa Int)×Int×Int×ah):iter D3 br ((C,D,(),(),(),(),(0:Int),(0:Int),c.queue,(c.queue.length:Int),(0:Int),()),(c,Z,P,List.replicate c.queue.length false,()))=some (.inl ((C,D,(),(),(),(),xY c.queue c.queue.length,ya c.queue c.queue.length,()),(c,Z,P,(List.range c.queue.length).map (nR c.queue),()))):=by
 have O:=h.ql;have e:=eE (step:=D3) c.queue.length (λi=>((C,D,(),(),(),(),xY c.queue i,ya c.queue i,c.queue,(c.queue.length:Int),(i:Int),()),(c,Z,P,q8 (nR c.queue) c.queue.length i,()))) (.inl ((C,D,(),(),(),(),xY c.queue c.queue.length,ya c.queue c.queue.length,()),(c,Z,P,(List.range c.queue.length).map (nR c.queue),()))) br (λk E=>by
  have T:=aey (λi=>nR c.queue i && !q9 c.queue i) k;have U:=aey (λi=>nR c.queue i&&q9 c.queue i) k;have I:nR c.queue k = !Cu c.queue k:=rfl;have hl:=NT (f:=nR c.queue) (n:=c.queue.length) (k:=k) (by omega);have Y:((q8 (nR c.queue) c.queue.length k).set k (!Cu c.queue k)).length=c.queue.length:=by rw[iS,hl]
  rw[<- NU E];unfold D3 aK xG xI xL;dsimp only;rw[aZ,aq,aO ⟨by omega,by omega⟩,arz E (by omega),au,aO ⟨by omega,by omega⟩,aO,aO ⟨by omega,by simp only[bA];omega⟩,aO (by simp only[bA];omega),bT];simp only[bA,List.getElem_set_self];unfold xY ya at *
  rw[aex,aex];simp only[I,NW E];cases Cu c.queue k with
  | true=>
   simp[*]
  | false=>
   rw[Bool.not_false,aq];cases c.queue[k].write with
   |true=>rw[ bf];simp
   | false=>
    rw[av,aO ⟨by omega,by rw[iS];omega⟩,aO (by rw[iS];omega),bf];simp) (by
  unfold D3 aK xG xI xL;dsimp only;rw[bu,av,NV]) (bZ)
 rw[cZ,UU]at e;exact e
def sP(c:ax):Nat->aa (Int×Bool)
 |0=>[]
 |k+1=>bif oL c k&&gi c k then mX (sP c k) (gX c k).aA true else sP c k
def I2(c:ax)(k:Nat)(b:Int):Bool:=(List.range k).any λi=>oL c i&&gi c i&&b==(gX c i).aA
def aeA(c:ax)(b:Int):∀ k,l8 (sP c k) b=I2 c k b
 |0=>rfl
 | k+1=>by
  have C:=aeA c b k;have e:I2 c (k+1) b=(I2 c k b || (oL c k&&gi c k&&b==(gX c k).aA)):=by
   unfold I2
   grind
  rw[e,<- C];show l8 (bif oL c k&&gi c k then mX _ (gX c k).aA true else sP c k) b=_;cases oL c k&&gi c k with
  |false=>simp
  |true=>rw[aq,ap8,cP,Bool.or_comm]
def arE{c:ax}(h:Pq c)(D:aa Int)(Z:Int×Int×Int×Int×ah)(P:Int×Int×Int×Int×Int×(aa Int)×Int×Int×ah):iter D4 br ((D,iz c,(),(),(),(),xY c.queue c.queue.length,ya c.queue c.queue.length,(),(),(),c.queue,(c.queue.length:Int),(0:Int),()),(c,Z,P,(List.range c.queue.length).map (nR c.queue),List.replicate c.queue.length false,List.replicate c.queue.length false,([]:aa (Int×Bool)),()))=some (.inl ((D,iz c,(),(),(),(),(),(),()),(c,Z,P,(List.range c.queue.length).map (oL c),(List.range c.queue.length).map (gi c),sP c c.queue.length,()))):=by
 have hq:=h.ql;have E:=ER h;have e:=eE (step:=D4) c.queue.length (λi=>((D,iz c,(),(),(),(),xY c.queue c.queue.length,ya c.queue c.queue.length,(),(),(),c.queue,(c.queue.length:Int),(i:Int),()),(c,Z,P,(List.range c.queue.length).map (nR c.queue),q8 (oL c) c.queue.length i,q8 (gi c) c.queue.length i,sP c i,()))) (.inl ((D,iz c,(),(),(),(),(),(),()),(c,Z,P,(List.range c.queue.length).map (oL c),(List.range c.queue.length).map (gi c),sP c c.queue.length,()))) br (λk C=>by
  have hl:=NT (f:=oL c) (n:=c.queue.length) (k:=k) (by omega);have I:=NT (f:=gi c) (n:=c.queue.length) (k:=k) (by omega);have O:=EO c;have hl4:((List.range c.queue.length).map (nR c.queue)).length=c.queue.length:=by simp
  obtain⟨ho,T,U,o3,o4,Y⟩:=UW h C;have hh:=aq6 (r:=c.aS) (a:=gX c k) Y T U E;have hd:oL c k=(nR c.queue k&&(I0 c.drain (xY c.queue c.queue.length) c.queue[k].write ||(!c.queue[k].write&&ya c.queue c.queue.length==0))):=by unfold oL;rw[NW C]
  have hhb:sP c (k+1)=bif oL c k&&gi c k then mX (sP c k) (gX c k).aA true else sP c k:=rfl;have hit:gi c k=IV c.aS (gX c k):=rfl;rw[<-NU C,<-NU C,hhb];unfold D4 aK xG xI xL;dsimp only;rw[aZ,aq,aO ⟨by omega,by omega⟩,aO ⟨by omega,by omega⟩,aO];simp only[bA,I1 C,arB _ _ h.dr,au,NY,hh,bT (show k<4611686018427387904 by omega),List.getElem_set_self,iS,hl,I,O];rw[hd,hit];cases nR c.queue k<;>cases I0 c.drain (xY c.queue c.queue.length) c.queue[k].write<;>cases c.queue[k].write<;>cases IV c.aS (gX c k)<;>cases ya c.queue c.queue.length==0<;>simp[C]) (by
  unfold D4 aK xG xI xL;dsimp only;rw[bu,av,NV,NV]) (bZ)
 rw[cZ,UU,UU]at e;exact e
def NZ(e:cC):cC:=⟨e.line,e.code,(if (999:Int)<(W6 (e.times+(1:Int)))then (999:Int)else (W6 (e.times+(1:Int))))⟩
def zEE:cC:=⟨0,0,0⟩
def sQ(l:aa cC)(line code:Int):aa cC:=match l.findIdx? (p7 ⟨line,code,1⟩)with
 |some i=>l.set i (NZ (l.getD i zEE))
 |none=>bif ((l.length:Int)==(6:Int))then l.drop 1++[⟨line,code,1⟩]else l++[⟨line,code,1⟩]
def arF{l:aa cC}(h:nL l=true){line code:Int}(D:0<=line/\line<=1023)(E:code=1\/code=2):Mk l line code=some (sQ l line code,true):=by
 have hl:l.length<=6:=by
  simp only[nL,aJ,fI]at h;omega
 have I:aQ line 0 1023=true:=bh.2 D;unfold Mk HS sQ cH xA xZ;rw[fe (by simp;omega),aq,au,adw _ (by omega),au,h,bI,av,cI,au,I,bI,av,List.nil_append];have e:=Ez (step:=HT) l (p7 ⟨line,code,1⟩) (λk=>((line,code,(),(),(l.length:Int),(k:Int),()),(l,()))) (λi=>.inl (((),true,()),(l.set i (NZ (l.getD i zEE)),()))) (.inr (.inl ((line,code,(),()),(l,())))) br (λk O=>by
  unfold HT p7 aK bF xG xL;dsimp only;rw[aZ,aq,aO ⟨by omega,by omega⟩,aO];simp only[bA];rw[aO ⟨by omega,by omega⟩,aO,bT,iw _ O];cases l[k].line==line<;>cases l[k].code==code<;>rfl) (by
  unfold HT aK bF xG xL;dsimp only;rw[bu,av]) (bZ)
 rw[cZ]at e;have T:iter Ty br ((line,code,(),(),(l.length:Int),(0:Int),()),(l,()))=_:=e;rcases E with rfl|rfl
 ·rw[bne_self_eq_false,av,T];cases l.findIdx? (p7 ⟨line,1,1⟩)with
  |some i=>rfl
  | none=>
   rw[au,Sum.elim_inr,gw];dsimp only;cases C:(l.length:Int)==(6:Int)with
   |false=>rw[av,av,fe (by simp;omega)];rfl
   | true=>
    have C:=eq_of_beq C;rw[aq,aq,aV ⟨by omega,by omega,by omega⟩,fe (by simp;omega),aq,au,fe (by simp;omega),aq];simp
 ·rw[gU (by omega),aq,bne_self_eq_false,av,e];cases l.findIdx? (p7 ⟨line,2,1⟩)with
  |some i=>rfl
  | none=>
   rw[au,Sum.elim_inr,gw];dsimp only;cases C:(l.length:Int)==(6:Int)with
   |false=>rw[av,av,fe (by simp;omega)];rfl
   | true=>
    have C:=eq_of_beq C;rw[aq,aq,aV ⟨by omega,by omega,by omega⟩,fe (by simp;omega),aq,au,fe (by simp;omega),aq];simp
def N0(c:ax)(l:aa cC):ax:=⟨c.config,c.box,c.now,c.aS,c.ready,c.array,c.spare,c.aE,c.bE,c.guard,c.pending,c.queue,c.shares,c.drain,c.aU,c.dD,l,c.trace,c.cx⟩
def N1(c:ax)(n code:Int):ax:=bif code != 0 then N0 c (sQ c.errors n code)else c
def aeB{c:ax}(h:nL c.errors=true){n code:Int}(C:0<=n/\n<=1023)(h2:code=0\/code=1\/code=2):xB c n code=some ((),(N1 c n code,())):=by
 unfold xB N1;rcases h2 with rfl|h2
 ·rfl
 ·rw[arF h C h2,gU (by omega)];rfl
def arG(q:aa bg):Prop:=∀i (h:i<q.length),(q.take i).any (λx=>x.id==q[i].id)=false
def arH{q:aa bg}{i:Nat}(h:i<q.length)(hl:q.length<=12):Mm q (i:Int) (W6 ((i:Int)+1))=some (q.take i++q.drop (i+1),([],())):=by
 have C:(splice q i ((q.take ((q.length:Int).toNat)).drop (i+1))).length=q.length:=by
  rw[s7 _ _ _ (by simp;omega)]
 have E:((q.take ((q.length:Int).toNat)).drop (i+1))=q.drop (i+1):=by rw[bA,List.take_length]
 unfold Mm;rw[bT,aV ⟨by omega,by omega,by omega,by omega⟩,kS (by omega),av,aV ⟨by omega,by omega,by omega⟩,aV ⟨by omega,by omega,by omega⟩];simp only[bA]at C ⊢;rw[aV ⟨by omega,by omega,by omega,by omega⟩,aV ⟨by omega,by omega,by omega⟩,aV ⟨by omega,by omega⟩];have D:i+(q.length-(i+1))-0=i+(q.length-(i+1)):=by omega
 rw[D,UL _ _ _ (by omega)];unfold splice;rw[List.take_length,List.take_append_of_le_length (by simp;omega),List.take_of_length_le (by simp;omega)]
def qe:bg:=⟨0,0,0,false,0,0⟩
def Cv(s:aa di)(t:Int):aa di:=match sy s ((List.replicate 4 false).set t.toNat true)with
 |some (l,_)=>l
 |none=>[]
def qf(c:ax)(i:Nat)(a:cN)(e:aa cC)(x:fN):ax:=
 ⟨c.config,c.box,c.now,c.aS,c.ready,a,c.spare,c.aE,c.bE,c.guard,c.pending,c.queue.take i++c.queue.drop (i+1),Cv c.shares (c.queue.getD i qe).eC,c.drain,c.aU,c.dD,e,c.trace,c.cx++[x]⟩
def jW(c:ax)(i:Nat):ax:=
 let r:=c.queue.getD i qe
 let n:=iP c.config.ak (iQ c r.line)
 bif r.write then qf c i ⟨c.array.cells.set n ⟨EN r.data,false⟩,c.array.bq,c.array.aY⟩ c.errors ⟨r.id,c.now,0,0⟩
 else qf c i ⟨c.array.cells.set n (q7 (c.array.cells.getD n Ap)),c.array.bq,c.array.aY⟩ (bif kF (c.array.cells.getD n Ap) != 0 then sQ c.errors (n:Int) (kF (c.array.cells.getD n Ap))else c.errors) ⟨r.id,c.now,UT (c.array.cells.getD n Ap),kF (c.array.cells.getD n Ap)⟩
def UX{d:cu}(h:Sy d.symbols):kF d=0 \/ kF d=1 \/ kF d=2:=by
 have⟨E,C,D⟩:=UP h;unfold kF;cases d.mL with
 |true=>simp_all
 |false=>exact(Nw C D).2.2
structure qg (c:ax) (i:Nat) (B:Int):Prop where
 ad:∀r∈c.queue,vm c r.line=some (iQ c r.line,true)/\dU c.config.ak (iQ c r.line)=true
 tn:∀r∈c.queue,0<=r.eC/\r.eC<=3
 ql:c.queue.length<=12
 sh:kz c.shares=true
 shl:c.shares.length=4
 u:arG c.queue
 i:i<c.queue.length
 d:∀r∈c.queue,0<=r.data/\r.data<=4294967295
 a:eA c.config.ak B c.array
 e:nL c.errors=true
 r:c.cx.length<=1000
def qg.facts{c:ax}{i:Nat}{B:Int}(h:qg c i B){r:bg}(C:r∈c.queue):vm c r.line=some (iQ c r.line,true)/\uc c.config.ak (iQ c r.line)=(iP c.config.ak (iQ c r.line):Int)/\iP c.config.ak (iQ c r.line)<c.array.cells.length/\(iP c.config.ak (iQ c r.line):Int) <= 1023/\sy c.shares ((List.replicate 4 false).set r.eC.toNat true)=some (Cv c.shares r.eC,(sy c.shares ((List.replicate 4 false).set r.eC.toNat true)).get!.2)/\0 <= r.eC/\r.eC.toNat<4:=by
 obtain⟨D,E⟩:=h.ad _ C;have I:=h.tn _ C;obtain⟨O,T⟩:=IK E;have U:=h.a.cells;have hl:=oF c.config.ak;obtain⟨y,t,e,_⟩:=UF ((List.replicate 4 false).set _ true) (by have:=h.shl;omega) h.sh (by simp[h.shl]);refine⟨D,O,by omega,by omega,?_,I.1,by omega⟩;unfold Cv;rw[e];rfl
def aeC{c:ax}{i:Nat}{B:Int}(h:qg c i B):Mn c (i:Int)=some ((),(jW c i,())):=by
 have hi:=h.i;have⟨f1,f3,f4,f5,f6,f7,f8⟩:=h.facts (dg hi);have C:=h.d _ (dg hi);have D:=h.a.syms _ (dg f4);have E:c.queue.getD i qe=c.queue[i]:=iw _ hi;have O:=h.r;unfold Mn xL;rw[aO ⟨by omega,by omega⟩,aO];simp only[bA];rw[f1,au,arH hi h.ql,au,aV (by decide)];have I:(4:Int).toNat=4:=rfl;rw[I,aO ⟨f7,by simpa using f8⟩,aO (by simpa using f8)];dsimp only;rw[f6,au];dsimp only;unfold jW;rw[E];dsimp only;cases hw:c.queue[i].write with
 | true=>
  rw[ Er,au,(US C.1 C.2).1,au,aO ⟨by omega,by omega⟩,aO,fe (by simp;omega)];unfold qf;simp_all
 | false=>
  rw[av,av,Er,au,f3,iw _ f4]
  refine(bx (λo=>Option.bind o _) (aew (c:=⟨c.config,c.box,c.now,c.aS,c.ready,c.array,c.spare,c.aE,c.bE,c.guard,c.pending,c.queue.take i++c.queue.drop (i+1),Cv c.shares c.queue[i].eC,c.drain,c.aU,c.dD,c.errors,c.trace,c.cx⟩) f4 D)).trans ?_
  rw[au];unfold vG dO;dsimp only;rw[fe (by simp;omega),aq,au]
  refine(bx (λo=>Option.bind o _) (aeB (by exact h.e) ⟨by omega,f5⟩ (UX D))).trans ?_
  rw[au];unfold N1 qf N0;rw[E];dsimp only;cases kF c.array.cells[iP c.config.ak (iQ c c.queue[i].line)] != 0<;>rfl
def cR(c:ax)(x:aR):ax:=⟨c.config,c.box,c.now,dx c.aS x,gL c.config.ak c.ready ⟨c.now,x⟩,c.array,c.spare,c.aE,c.bE,c.guard,c.pending,c.queue,c.shares,c.drain,c.aU,c.dD,c.errors,c.trace++[⟨c.now,x⟩],c.cx⟩
def aeD(c:ax)(p:iG):ax:=⟨c.config,c.box,c.now,c.aS,c.ready,c.array,c.spare,c.aE,c.bE,c.guard,c.pending,c.queue,c.shares,c.drain,p,c.dD,c.errors,c.trace,c.cx⟩
def N2(c:ax)(r:dB):ax:=⟨c.config,c.box,c.now,c.aS,c.ready,c.array,c.spare,r,c.bE,c.guard,c.pending,c.queue,c.shares,c.drain,c.aU,c.dD,c.errors,c.trace,c.cx⟩
def Cw(c:ax)(k:Int):ax:=aeD c (Cs c.aU k c.now)
def I3(c:ax)(b:Int):ax:=N2 (NR c b (c.pending.filter (λa=>!(a.aA==b)))) (lT c.aE b)
end Go.Proofs.YtgjfmljpdnnihaaGreat
