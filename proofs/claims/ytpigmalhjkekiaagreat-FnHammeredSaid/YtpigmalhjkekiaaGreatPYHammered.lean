/-
  Plain laws. Nothing here is a claim.
-/
import Derived.Test.YtpigmalhjkekiaaGreatVZ
import Derived.Test.YtpigmalhjkekiaaGreatOpenV
import Derived.Test.YtpigmalhjkekiaaGreatG1
import Derived.Test.YtpigmalhjkekiaaGreatG2
import Derived.Test.YtpigmalhjkekiaaGreatG3
import Derived.Test.YtpigmalhjkekiaaGreatG4
import Derived.Test.YtpigmalhjkekiaaGreatG5
import Derived.Test.YtpigmalhjkekiaaGreatGX
namespace Go.Proofs.YtpigmalhjkekiaaGreat
set_option linter.defProp false
open Go.RowKit
set_option linter.unusedVariables false
set_option linter.unusedSimpArgs false
set_option maxRecDepth 100000
def aZ{n:Int}(C:-9223372036854775808<=n:=by omega)(D:n<9223372036854775808:=by omega):W6 n=n:=by
 exact(IntKind.wrap_i64 n).trans (by omega)
def Un{α β:Type}{step:α -> aj (α⊕β)}(I:α -> Prop)(m:α -> Nat)(Q:β -> Prop)
  (h:∀x,I x -> (∃y,step x=some (.inl y)/\I y/\m y<m x) \/ ∃z,step x=some (.inr z)/\Q z):
  ∀(n:Nat) (x:α),I x -> m x<n -> ∃z,iter step n x=some z/\Q z
 |0,x,_,E=>by omega
 | n+1,x,O,E=>by
  unfold iter;rcases h x O with ⟨y,C,D,T⟩|⟨z,C,D⟩
  ·rw[C];exact Un I m Q h n y D (by omega)
  ·simp_all
def ay{α β:Type}(x:α)(f:α->aj β):(some x).bind f=f x:=rfl
def jy{α β T:Type}{step:α -> aj (α⊕β)}(l:aa T)(q:T -> Bool)(S:Nat -> α)(D z:β)(fuel:Nat)(I:∀ k (h:k<l.length),step (S k)=some (bif q l[k]then .inl (S (k+1))else .inr D))(O:step (S l.length)=some (.inr z))(C:l.length<fuel):
  iter step fuel (S 0)=some (bif l.all q then z else D):=by
 have key:∀ (n i fuel:Nat),i+n=l.length -> n<fuel -> iter step fuel (S i)=some (bif (l.drop i).all q then z else D):=by
  intro n
  induction n with
  | zero=>
   intro i fuel hi C
   match fuel,C with
   | f+1,_=>
    have:i=l.length:=by omega
    subst this;unfold iter;simp_all
  | succ n U=>
   intro i fuel hi C
   match fuel,C with
   | f+1,C=>
    have E:i<l.length:=by omega
    unfold iter;rw[I i E,List.drop_eq_getElem_cons E,List.all_cons];cases q l[i]with
    |true=>grind
    |false=>rfl
 exact key l.length 0 fuel (by omega) C
def eJ{α β:Type}{step:α -> aj (α⊕β)}(n:Nat)(S:Nat -> α)(z:β)(fuel:Nat)(E:∀ k,k<n -> step (S k)=some (.inl (S (k+1))))(D:step (S n)=some (.inr z))(C:n<fuel):iter step fuel (S 0)=some z:=by
 have key:∀ (m i fuel),i+m=n -> m<fuel -> iter step fuel (S i)=some z:=by
  intro m
  induction m with
  | zero=>
   intro i fuel hi C
   match fuel,C with
   | f+1,_=>
    have:i=n:=by omega
    subst this;unfold iter;rw[D]
  | succ m I=>
   intro i fuel hi C
   match fuel,C with
   | f+1,C=>
    unfold iter
    grind
 simp_all
def adC{α β:Type}{step:α -> aj (α⊕β)}(n:Nat)(I:Nat -> α -> Prop)(Q:β -> Prop){x:α}(fuel:Nat)(Y:I 0 x)(E:∀ k,k<n -> ∀ x,I k x -> ∃ y,step x=some (.inl y)/\I (k+1) y)(O:∀ x,I n x -> ∃ z,step x=some (.inr z)/\Q z)(C:n<fuel):∃ z,iter step fuel x=some z/\Q z:=by
 have key:∀ (m i fuel:Nat) (x:α),i+m=n -> m<fuel -> I i x -> ∃ z,iter step fuel x=some z/\Q z:=by
  intro m
  induction m with
  | zero=>
   intro i fuel x hi C D
   match fuel,C with
   | f+1,_=>
    have:i=n:=by omega
    subst this;have⟨z,T,U⟩:=O x D;unfold iter;simp_all
  | succ m Z=>
   intro i fuel x hi C D
   match fuel,C with
   | f+1,C=>
    have⟨y,T,U⟩:=E i (by omega) x D;unfold iter
    grind
 grind
def apn{α β:Type}{step:α -> aj (α⊕β)}(n:Nat)(I:Nat -> α -> Prop)(Q:β -> Prop){x:α}(fuel:Nat)(E:I 0 x)(T:∀ k,k<n -> ∀ x,I k x -> (∃ y,step x=some (.inl y)/\I (k+1) y) \/ ∃ z,step x=some (.inr z)/\Q z)(O:∀ x,I n x -> ∃ z,step x=some (.inr z)/\Q z)(C:n<fuel):∃ z,iter step fuel x=some z/\Q z:=by
 have key:∀ (m i fuel:Nat) (x:α),i+m=n -> m<fuel -> I i x -> ∃ z,iter step fuel x=some z/\Q z:=by
  intro m
  induction m with
  | zero=>
   intro i fuel x hi C D
   match fuel,C with
   | f+1,_=>
    have:i=n:=by omega
    subst this;have⟨z,U,Y⟩:=O x D;unfold iter;simp_all
  | succ m Z=>
   intro i fuel x hi C D
   match fuel,C with
   | f+1,C=>
    unfold iter
    grind
 exact key n 0 fuel x (by omega) C E
def upto{α:Type}(f:α->α)(l:aa α)(i:Nat):aa α:=(l.take i).map f++l.drop i
def NR{α:Type}(f:α->α)(l:aa α)(i:Nat):(upto f l i).length=l.length:=by
 simp[upto];omega
def adD{α:Type}(f:α->α)(l:aa α):upto f l 0=l:=by simp[upto]
def Uo{α:Type}(f:α->α)(l:aa α):upto f l l.length=l.map f:=by simp[upto]
def Up{α:Type}(f:α -> α)(l:aa α)(i:Nat)(h:i<l.length)(C:i<(upto f l i).length):(upto f l i)[i]=l[i]:=by
 simp[upto]
 grind
def Uq{α:Type}(f:α -> α)(l:aa α)(i:Nat)(h:i<l.length):(upto f l i).set i (f l[i])=upto f l (i+1):=by
 have C:min i l.length=i:=by omega
 have e:=List.drop_eq_getElem_cons h;simp only[upto];rw[List.set_append_right _ _ (by simp;omega),e,List.take_succ_eq_append_getElem h];simp only[List.map_append,List.map_cons,List.map_nil,eS,jF,C,Nat.sub_self,List.set_cons_zero,List.append_assoc,List.cons_append,List.nil_append]
def jQ{x y:Int}(h:¬ x=y):(x==y)=false:=by simp[h]
def gR{x y:Int}(h:¬ x=y):(x != y)=true:=by simp[h]
def eM{n:Nat}(h:n<1073741824:=by omega):bV n=true:=aY h
def cc{i:Nat}(h:i<4611686018427387904:=by omega):W6 ((i:Int)+1)=((i+1:Nat):Int):=by
 rw[aZ];simp
def cu{n:Nat}(h:n<1073741824:=by omega):n<bq:=by unfold bq;omega
def aT(x a b:Int):Bool:=decide (a<=x)&&decide (x<=b)
def br{x a b:Int}:aT x a b=true ↔ a<=x/\x<=b:=by simp[aT]
def dh(x a b:Int):bZ x a b=some (aT x a b):=by
 unfold bZ aT;by_cases h:a<=x<;>simp[h]
def Ur(x a b:Int):zW x a b=some (aT x a b):=dh x a b
def cy(g:aH):Bool:=aT g.bI 1 2&&aT g.aE 1 4&&aT g.rows 2 16&&aT g.aR 1 8
def qw(g:aH):nA g=some (cy g):=by
 unfold nA cy;simp[dh]
 grind
def Us(g:aH):D8 g=some (cy g):=by
 unfold D8 cy;simp[Ur]
 grind
def fW{g:aH}(h:cy g=true):1<=g.bI/\g.bI<=2/\1<=g.aE/\g.aE<=4/\2<=g.rows/\g.rows<=16/\1<=g.aR/\g.aR<=8:=by
 simp only[cy,aT,aJ,fC]at h;omega
def aI(g:aH):Int:=bif cy g then g.bI*g.aE else 0
def ey(g:aH):0 <= aI g/\aI g <= 8:=by
 unfold aI;cases h:cy g with
 |false=>simp
 | true=>
  have⟨C,D,E,I,_⟩:=fW h;simp;rcases(by omega:g.bI=1 \/ g.bI=2)with e|e<;>rw[e]<;>omega
def I4{g:aH}(h:cy g=true):1 <= aI g:=by
 have⟨C,D,E,I,_⟩:=fW h;simp[aI,h,au];rcases(by omega:g.bI=1 \/ g.bI=2)with e|e<;>rw[e]<;>omega
def jz(g:aH):jP g=some (aI g):=by
 have hb:=ey g;unfold jP;rw[qw,ay];unfold aI at hb ⊢;cases h:cy g with
 |false=>rfl
 | true=>
  rw[h]at hb;simp at hb;simp;rw[aZ]
def ET(g:aH):zX g=some (aI g):=by
 have hb:=ey g;unfold zX;rw[Us,ay];unfold aI at hb ⊢;cases h:cy g with
 |false=>rfl
 | true=>
  rw[h]at hb;simp at hb;simp;rw[aZ]
def fM(g:aH):Int:=bif cy g then aI g*g.rows else 0
def dV(g:aH):Int:=bif cy g then aI g*g.rows*g.aR else 0
def NS{a b A B:Int}(D:0<=a)(E:a<=A)(C:0<=b)(I:b<=B):0<=a*b/\a*b<=A*B:=
 ⟨Int.mul_nonneg D C,Int.le_trans (Int.mul_le_mul_of_nonneg_right E C) (Int.mul_le_mul_of_nonneg_left I (by omega))⟩
def ta(g:aH):0 <= fM g/\fM g <= 128:=by
 unfold fM;cases h:cy g with
 |false=>simp
 | true=>
  have⟨_,_,_,_,D,C,_⟩:=fW h;have:=ey g;exact NS this.1 this.2 (by omega) C
def oa(g:aH):0 <= dV g/\dV g <= 1024:=by
 have C:=ta g;unfold dV fM at *
 cases h:cy g with
 |false=>simp
 | true=>
  rw[h]at C;have⟨_,_,_,_,E,I,O,D⟩:=fW h;exact NS C.1 C.2 (by omega) D
def Aq(g:aH):sZ g=some (dV g):=by
 have C:=oa g;have D:=ta g;unfold sZ;rw[jz,ay];unfold dV fM at *
 cases h:cy g with
 |false=>simp only[aI,h,ax,Int.zero_mul];rw[show W6 0=0 from rfl,Int.zero_mul];rfl
 | true=>
  rw[h]at C D;simp only[au]at C D;simp only[au];rw[aZ (n:=aI g*g.rows),aZ]
def adE(g:aH):Hq g=some (dV g):=by
 have C:=oa g;have D:=ta g;unfold Hq;rw[Us,ay,ET,ay];unfold dV fM at *
 cases h:cy g with
 |false=>rfl
 | true=>
  rw[h]at C D;simp at C D;simp;rw[aZ (n:=aI g*g.rows),aZ]
def fX(g:aH)(a:aQ):Bool:=cy g&&aT a.aq 0 (aI g-1)&&aT a.row 0 (g.rows-1)&&aT a.bW 0 (g.aR-1)
def vV{g:aH}{a:aQ}(h:fX g a=true):cy g=true/\0 <= a.aq/\a.aq<aI g/\0 <= a.row/\a.row<g.rows/\0 <= a.bW/\a.bW<g.aR:=by
 simp[fX,aT,aJ,fC]at h
 grind
def As{g:aH}{a:aQ}(h:cy g=true)(C:0 <= a.aq)(D:a.aq<aI g)(E:0 <= a.row)(I:a.row<g.rows)(O:0 <= a.bW)(T:a.bW<g.aR):fX g a=true:=by
 simp[fX,aT,aJ,fC]
 grind
def Ut(g:aH)(a:aQ):Ci g a=some (fX g a):=by
 unfold Ci fX;simp[qw,jz,dh,ay];have hb:=ey g;cases h:cy g with
 |false=>rfl
 | true=>
  have⟨_,_,_,_,C,D,E,I⟩:=fW h;rw[aZ,aZ,aZ]
  grind
def CA{b n r R:Int}(C:0 <= b)(D:b<n)(E:0 <= r)(I:r<R):0 <= b*R/\0 <= b*R+r/\b*R+r<n*R:=by
 have O:0 <= b*R:=Int.mul_nonneg C (by omega);have T:(b+1)*R <= n*R:=Int.mul_le_mul_of_nonneg_right (by omega) (by omega)
 grind
def uG(g:aH)(a:aQ):Int:=bif fX g a then (a.aq*g.rows+a.row)*g.aR+a.bW else -1
def adF{g:aH}{a:aQ}(h:fX g a=true):0 <= uG g a/\uG g a<dV g/\0 <= a.aq*g.rows/\0 <= a.aq*g.rows+a.row/\a.aq*g.rows+a.row<fM g/\0 <= (a.aq*g.rows+a.row)*g.aR:=by
 have⟨hg,C,D,E,I,O,T⟩:=vV h;have⟨Z,U,Y⟩:=CA C D E I;have⟨l0,l1,l2⟩:=CA U Y O T;simp[uG,h,dV,fM,hg,au];omega
def Uu(g:aH)(a:aQ):IK g a=some (uG g a):=by
 unfold IK;rw[Ut,ay];cases h:fX g a with
 |false=>simp[uG,h]
 | true=>
  have hb:=adF h;have C:=oa g;have D:=ta g;have⟨hg,E,I,O,T,U,Y⟩:=vV h;have⟨_,_,_,_,Z,g6,g7,g8⟩:=fW hg;simp only[uG,h,au]at hb ⊢;simp only[bL,ax];rw[aZ (n:=a.aq*g.rows),aZ (n:=a.aq*g.rows+a.row),aZ (n:=(a.aq*g.rows+a.row)*g.aR),aZ]
def I5{α β:Type}{step:α -> aj (α⊕β)}(S:Nat -> α){z:β}:∀ (n i fuel:Nat),(∀ k,i <= k -> k<i+n -> step (S k)=some (.inl (S (k+1)))) -> step (S (i+n))=some (.inr z) -> n<fuel -> iter step fuel (S i)=some z
 | 0,i,fuel,_,C,D=>by
  match fuel,D with
  |f+1,_=>unfold iter;rw[Nat.add_zero]at C;rw[C]
 | n+1,i,fuel,E,C,D=>by
  match fuel,D with
  | f+1,D=>
   unfold iter;rw[E i (dB _) (by omega)];exact I5 S n _ f (λk I O=>E k (by omega) (by omega)) (by rw[show i+1+n=i+(n+1) by omega];exact C) (by omega)
def At{i:Nat}(h:i<4611686018427387904:=by omega):W6 ((i:Int)+1)=((i+1:Nat):Int):=by
 rw[aZ];simp
def adG(y:Int):0 <= bits .and .i64 y 255/\bits .and .i64 y 255 <= 255:=by
 have e:bits .and .i64 y 255=IntKind.wrap .i64 ((BitVec.ofInt 64 y &&& BitVec.ofInt 64 255).toNat):=rfl;have h:(BitVec.ofInt 64 y &&& BitVec.ofInt 64 255).toNat <= 255:=by
  exact Nat.le_trans Nat.and_le_right (by decide)
 rw[e,IntKind.wrap_i64];omega
structure ku (b:List Int) (c:bx):Prop where
 eq:c.b=b
 lo:0<=c.i
 hi:c.i<=b.length
 len:b.length<=1073741823
def ku.eta{b:aa Int}{c:bx}(h:ku b c):(⟨b,c.i,c.h⟩:bx)=c:=by
 have⟨C,i,D⟩:=c;have:=h.eq;simp_all
def Dr{α:Type}(b:aa Int)(f:aj (α×(bx×ah)))(P:α->Prop):Prop:=∃x c,f=some (x,(c,()))/\ku b c/\P x
def Dr.bind{α β:Type}{b:aa Int}{f:aj (α×(bx×ah))}{g:α×(bx×ah) -> aj (β×(bx×ah))}{P:α -> Prop}{Q:β -> Prop}(h:Dr b f P)(hg:∀ x c,P x -> ku b c -> Dr b (g (x,(c,()))) Q):Dr b (f.bind g) Q:=by
 have⟨x,c,C,D,E⟩:=h;simp_all
def Dr.pure{α:Type}{b:aa Int}{x:α}{c:bx}{P:α->Prop}(C:ku b c)(hp:P x):Dr b (some (x,(c,()))) P:=⟨x,c,rfl,C,hp⟩
def adH(l:aa Int)(h:l.length<=1073741823):∃ y,B5 l=some y:=by
 unfold B5 bR;obtain⟨z,C,I⟩:=Un (step:=Hj)
  (λx=>∃(i:Nat) (y:Int),x=(((),y,(i:Int),()),(l,()))/\i<=l.length)
  (λx=>l.length-x.1.2.2.1.toNat) (λz=>∃ y,(Sum.elim (λO:((ah×Int×ah)×((aa Int)×ah))=>some O.1.2.1) (λz=>nomatch z)) z=some y) (by
   rintro x ⟨i,y,rfl,hi⟩;unfold Hj aM xG xI;dsimp only;by_cases D:i<l.length
   ·have E:decide ((i:Int)<(l.length:Int))=true:=by simpa using D
    have T:0<=(i:Int)/\(i:Int).toNat<l.length:=⟨by omega,by simpa using D⟩
    rw[E,au];cases U:decide ((i:Int)<4000)with
    | true=>
     rw[au,aO T];left;refine⟨_,rfl,⟨i+1,_,by rw[At],by omega⟩,?_⟩;dsimp only;rw[At];omega
    | false=>
     rw[ax];right;exact⟨_,rfl,_,rfl⟩
   ·have E:decide ((i:Int)<(l.length:Int))=false:=by simpa using D
    rw[E,ax];right;exact⟨_,rfl,_,rfl⟩)
  bq (((),(W6 ((97301:Int)+(l.length:Int))),((0:Nat):Int),()),(l,())) ⟨0,_,rfl,by omega⟩ (by dsimp only;unfold bq;omega)
 have C:iter Hj bq (((),(W6 ((97301:Int)+(l.length:Int))),(0:Int),()),(l,()))=some z:=C;rw[C];exact I
def adJ(l:aa Int)(y:Int)(h:l.length<=1073741823):ku l ⟨l,0,y⟩:=⟨rfl,fN _,by simp,h⟩
def I6{b:aa Int}{c:bx}(C:ku b c):Dr b (zU c) λx=>0<=x/\x<=255:=by
 have hb:=C.eq;have E:=C.lo;have O:=C.hi;have I:=C.len;unfold zU xI;by_cases h:c.i<(c.b.length:Int)
 ·have D:decide (c.i<(c.b.length:Int))=true:=by simpa using h
  rw[D,au,aO ⟨E,by omega⟩];refine Dr.pure ⟨hb,?_,?_,I⟩ (adG _)
  ·show 0<=W6 (c.i+1);rw[hb]at h;rw[aZ];omega
  ·show W6 (c.i+1)<=_;rw[hb]at h;rw[aZ];omega
 ·have D:decide (c.i<(c.b.length:Int))=false:=by simpa using h
  rw[D,ax];exact Dr.pure ⟨hb,E,O,I⟩ (adG _)
def I7{x n:Int}(h:0<=x)(hn:0<n):0<=x.tmod n/\x.tmod n<n:=by
 rw[r4 h];exact⟨Int.emod_nonneg _ (by omega),Int.emod_lt_of_pos _ hn⟩
def ff{b:aa Int}{c:bx}(C:ku b c)(n:Int):Dr b (eR c n) λx=>0 <= x/\(n <= 0 -> x=0)/\(0<n -> x<n):=by
 unfold eR;by_cases U:n <= 0
 ·have O:decide (n <= 0)=true:=by simpa using U
  rw[O];exact Dr.pure C ⟨fN _,λ_=>rfl,λh=>by omega⟩
 ·have O:decide (n <= 0)=false:=by simpa using U
  have hn:¬ n=0:=by omega
  rw[O];by_cases Y:n <= 256
  ·have T:decide (n <= 256)=true:=by simpa using Y
   rw[T,au]
   refine(I6 C).bind λx c' hx Z=>?_
   rw[aW hn];rw[C.eq,Z.eta];have:=I7 hx.1 (show 0<n by omega);exact Dr.pure Z ⟨this.1,λh=>by omega,λ_=>this.2⟩
  ·have T:decide (n <= 256)=false:=by simpa using Y
   rw[T,ax,C.eq]
   refine(I6 C).bind λD k1 Gl ur=>?_
   dsimp only;rw[ur.eta]
   refine(I6 ur).bind λE k2 Kk rK=>?_
   dsimp only;rw[rK.eta]
   refine(I6 rK).bind λI k3 Z7 sV=>?_
   dsimp only;rw[sV.eta]
   refine(I6 sV).bind λx4 k4 hx4 vL=>?_
   rw[aW hn];dsimp only;rw[vL.eta];rw[aZ (n:=D*16777216),aZ (n:=E*65536),aZ (n:=D*16777216+E*65536),aZ (n:=I*256),aZ (n:=D*16777216+E*65536+I*256),aZ (n:=D*16777216+E*65536+I*256+x4)];have:=I7 (x:=D*16777216+E*65536+I*256+x4) (by omega) (show 0<n by omega);exact Dr.pure vL ⟨this.1,λh=>by omega,λ_=>this.2⟩
def apo(l:aa Int)(h:l.length<=1073741823):∃ y,Mr l=some y/\y.length=12/\∀ x∈y,0<=x/\x<10000:=by
 unfold Mr bR;obtain⟨C,U⟩:=adH l h;rw[U];obtain⟨z,D,Y⟩:=Un (step:=Hw)
  (λx=>∃(i:Nat) (c:bx) (y:aa Int),x=(((),(),(i:Int),()),((l,c.i,c.h,()),y,()))/\i<=12/\ku l c/\y.length=i/\∀x∈y,0<=x/\x<10000)
  (λx=>12-x.1.2.2.1.toNat) (λz=>∃ y,(Sum.elim (λZ:((ah×ah)×((aa Int)×ah))=>some Z.2.1) (λz=>nomatch z)) z=some y/\y.length=12/\∀ x∈y,0<=x/\x<10000) (by
   rintro x ⟨i,c,y,rfl,hi,O,hy,T⟩;unfold Hw aM xG;dsimp only;by_cases h':i<12
   ·have E:decide ((i:Int)<(12:Int))=true:=aY;rw[E,au,O.eta];left;obtain⟨x,I,e1,hc',G8,_,Gl⟩:=ff O 10000;rw[e1];have ho:bV (y.length+([x]:aa Int).length)=true:=by
     unfold bV;simp;omega
    refine⟨(((),(),W6 ((i:Int)+1),()),((l,I.i,I.h,()),(y++[x]),())),?_,⟨i+1,I,y++[x],by rw[At],by omega,hc',by simp[hy],λu hu=>?_⟩,?_⟩
    ·show (bif bV (y.length+([x]:aa Int).length)then _ else none)=_;rw[ho];rfl
    ·rcases gJ.1 hu with hu | hu
     ·exact T u hu
     ·rw[gf.1 hu];exact⟨G8,Gl (by omega)⟩
    ·dsimp only;rw[At];omega
   ·have E:decide ((i:Int)<(12:Int))=false:=bh;rw[E,ax];right;exact⟨_,rfl,y,rfl,by omega,T⟩)
  bq (((),(),((0:Nat):Int),()),((l,0,C,()),([]:aa Int),())) ⟨0,⟨l,0,C⟩,[],rfl,by omega,adJ l C h,rfl,by simp⟩ (by dsimp only;unfold bq;omega)
 have D:iter Hw bq (((),(),(0:Int),()),((l,(0:Int),C,()),([]:aa Int),()))=some z:=D;rw[ay,D];exact Y
def apq(x a b:Int):bZ x a b=some (decide (a <= x)&&decide (x <= b)):=by
 unfold bZ
 grind
def apr{x a b:Int}(h:a<=x)(C:x<=b):bZ x a b=some true:=by
 rw[apq,aY h,aY C];rfl
def opens:Nat->aa ep->aa Int
 |_,[]=>[]
 |i,b::bs=>bif b.open_ then (i:Int)::opens (i+1) bs else opens (i+1) bs
def adK(i:Nat)(a b:aa ep):opens i (a++b)=opens i a++opens (i+a.length) b:=by
 induction a generalizing i with
 |nil=>simp[opens]
 | cons x a C=>
  simp[List.cons_append,opens]
  grind
def adL(i:Nat)(l:aa ep):(opens i l).length <= l.length:=by
 induction l generalizing i with
 |nil=>simp[opens]
 | cons x a C=>
  have:=C (i+1);simp[opens]
  grind
def uH{α:Type}{l:aa α}{i:Nat}(h:i<l.length):l.take (i+1)=l.take i++[l[i]]:=by
 rw[List.take_succ_eq_append_getElem h]
def NT(r:bM)(h:r.aE.length<1073741823):Af r=some (opens 0 r.aE):=by
 unfold Af bR;have e:=I5 (step:=Es) (λi=>(((),r.aE,(r.aE.length:Int),(i:Int),()),(opens 0 (r.aE.take i),()))) (z:=.inl (((),()),(opens 0 r.aE,()))) r.aE.length 0 bq (λk _ C=>?_) ?_ (by unfold bq;omega)
 ·have e:iter Es bq (((),r.aE,r.aE.length,0,()),(([]),()))=_:=e;simp_all
 ·have C:k<r.aE.length:=by omega
  unfold Es aM xG xI;dsimp only;have D:decide ((k:Int)<(r.aE.length:Int))=true:=aY;have E:0 <= (k:Int)/\(k:Int).toNat<r.aE.length:=⟨by omega,by simpa using C⟩
  have hl:=adL 0 (r.aE.take k);rw[jF]at hl;have I:bV ((opens 0 (r.aE.take k)).length+([(k:Int)]:aa Int).length)=true:=by
   unfold bV;simp;omega
  rw[D,au,aO E,At,uH C,adK];simp only[bE,opens,jF,eW,Nat.min_eq_left (Nat.le_of_lt C)];cases r.aE[k].open_ with
  |true=>grind
  |false=>grind
 ·rw[eW];unfold Es aM xG xI;simp_all
def gmT:Nat:=116196760129267793630862849262464326346044543732748708940920453221664288556434379745879494961270582141731748813355742142288220638766218855867759359510984593843506004200114943278699875244065120512813025380665946106619127097398772031257643617143689515450995722003729973585221105779229319991106539050771048038400
def gm(a b:Nat):Nat:=(gmT / 2 ^ (4*(16*a+b))) % 16
def pwT:Nat:=44684875893970114885940500792407720993
def pw(n:Nat):Nat:=(pwT / 2 ^ (4*n)) % 16
def qx(f:Nat->Bool):Bool:=(List.range 16).all f
def mJ{f:Nat->Bool}(h:qx f=true){a:Nat}(C:a<16):f a=true:=by
 have:=bT.1 h a (gi.2 C);exact this
def gS(a b:Nat):gm a b<16:=Nat.mod_lt _ (by decide)
def adM(n:Nat):pw n<16:=Nat.mod_lt _ (by decide)
def aps:(qx λa=>qx λb=>jx (Int.ofNat a) (Int.ofNat b)==some (Int.ofNat (gm a b)))=true:=by kernel_rfl
def apt:((List.range 31).all λn=>HH 2 (Int.ofNat n)==some (Int.ofNat (pw n)))=true:=by kernel_rfl
def adN:(qx λa=>qx λb=>decide (bits .xor .i64 (Int.ofNat a) (Int.ofNat b)=Int.ofNat (a ^^^ b))&&Nat.blt (a ^^^ b) 16)=true:=by kernel_rfl
def apu:(qx λa=>Nat.beq (gm a 1) a&&Nat.beq (gm 0 a) 0)=true:=by kernel_rfl
def apv:(qx λC=>qx λs1=>qx λs2=>
  (λy z=>(λx=>Nat.beq (gm x 1 ^^^ (gm y 1 ^^^ (gm z 1 ^^^ C))) 0&&Nat.beq (gm x 1 ^^^ (gm y 2 ^^^ (gm z 4 ^^^ s1))) 0&&Nat.beq (gm x 1 ^^^ (gm y 4 ^^^ (gm z 3 ^^^ s2))) 0) (C ^^^ y ^^^ z))
   (gm (gm 2 (C ^^^ s1) ^^^ gm 5 (C ^^^ s2)) 13) (gm (gm 3 (C ^^^ s2) ^^^ gm 5 (C ^^^ s1)) 13))=true:=by kernel_rfl
def apw:Cd 4=some 13:=by kernel_rfl
def CB{a b:Nat}(C:a<16)(hb:b<16):jx (a:Int) (b:Int)=some (gm a b:Int):=by
 have h:=mJ (mJ aps C) hb;exact eq_of_beq h
def apx{n:Nat}(h:n<31):HH 2 (n:Int)=some (pw n:Int):=eq_of_beq (bT.1 apt n (gi.2 h))
def vW{a b:Nat}(C:a<16)(hb:b<16):bits .xor .i64 (a:Int) (b:Int)=((a ^^^ b:Nat):Int):=by
 have h:=mJ (mJ adN C) hb;simp_all
def mK{a b:Nat}(C:a<16)(hb:b<16):a ^^^ b<16:=by
 have h:=mJ (mJ adN C) hb;simp_all
def apy{a:Nat}(C:a<16):gm 0 a=0:=by
 have h:=mJ apu C;rw[aJ]at h;exact cN h.2
abbrev cH (w:aa Nat):aa Int:=w.map λ(n:Nat)=>(n:Int)
def kz(w:aa Nat):Prop:=∀x∈w,x<16
def vX(w:aa Nat):(cH w).length=w.length:=by simp[cH]
def Uv{w:aa Nat}{k:Nat}(h:k<(cH w).length):(cH w)[k]=((w.getD k 0:Nat):Int):=by grind
def kz.get{w:aa Nat}(h:kz w)(k:Nat):w.getD k 0<16:=by
 by_cases C:k<w.length
 ·simp[cS,bJ C];exact h _ (cR C)
 ·simp_all
def Uw{w:aa Nat}(hw:kz w)(hl:w.length<1000)(n:Int):vQ (cH w) n=some ((w.length:Int)==n):=by
 unfold vQ cY;have e:=I5 (step:=Aa) (λi=>((cH w,n,cH w,((cH w).length),i,()),())) (z:=.inr (.inl ((cH w,n,()),()))) w.length 0 bq (λk _ C=>?_) ?_ (by unfold bq;omega)
 ·simp_all
 ·have C:k<(cH w).length:=by rw[vX];omega
  unfold Aa aM bF xG xI;dsimp only;have E:decide ((k:Int)<((cH w).length:Int))=true:=aY;have D:0 <= (k:Int)/\(k:Int).toNat<(cH w).length:=⟨by omega,by simpa using C⟩
  rw[E,au,aO D];have I:(cH w)[(k:Int).toNat]'D.2=((w.getD k 0:Nat):Int):=Uv C;rw[I];have:=hw.get k;unfold Cb;rw[apr (by omega) (by omega),ay,ay,At];rfl
 ·unfold Aa aM bF xG xI;simp_all
def dX(w:aa Nat)(j:Nat):Nat->Nat
 |0=>0
 |i+1=>dX w j i ^^^ gm (w.getD i 0) (pw (i*j))
def yu(w:aa Nat)(j:Nat):∀ i,dX w j i<16
 |0=>Nat.zero_lt_succ _
 |i+1=>mK (yu w j i) (gS _ _)
def apz{w:aa Nat}(hw:kz w)(hl:w.length=11)(j:Nat)(hj:j<3)(a b:Int)(o:aa Int)(O:j<o.length)(T:o.set j 0=o):
  iter Cc bq ((cH w,(),(j:Int),a,b,cH w,((cH w).length:Int),(0:Int),()),(o,()))=some (.inl ((cH w,(),a,b,()),(o.set j (dX w j 11:Int),()))):=by
 have e:=I5 (step:=Cc) (λi=>((cH w,(),(j:Int),a,b,cH w,((cH w).length:Int),(i:Int),()),(o.set j (dX w j i:Int),()))) (z:=.inl ((cH w,(),a,b,()),(o.set j (dX w j 11:Int),()))) 11 0 bq (λk _ D=>?_) ?_ (by unfold bq;omega)
 ·have e:iter Cc bq ((cH w,(),(j:Int),a,b,cH w,((cH w).length:Int),(0:Int),()),(o.set j 0,()))=_:=e;rw[T]at e;exact e
 ·have D:k<(cH w).length:=by rw[vX];omega
  unfold Cc aM xG xI xL;dsimp only;have E:decide ((k:Int)<((cH w).length:Int))=true:=aY;have I:0<=(k:Int)/\(k:Int).toNat<(cH w).length:=⟨by omega,by simpa using D⟩
  have C:0<=(j:Int)/\(j:Int).toNat<(o.set j (dX w j k:Int)).length:=⟨by omega,by simpa using O⟩
  have U:(cH w)[(k:Int).toNat]'I.2=((w.getD k 0:Nat):Int):=Uv D;have Y:(o.set j (dX w j k:Int))[(j:Int).toNat]'C.2=(dX w j k:Int):=List.getElem_set_self _;rw[E,au,aO I,aO C,aO C.2,U,Y];have WZ:k*j<=20:=Nat.le_trans (Nat.mul_le_mul (show k<=10 by omega) (show j<=2 by omega)) (by decide);have Z:W6 ((k:Int)*(j:Int))=((k*j:Nat):Int):=by
   rw[<-Int.natCast_mul,aZ]
  rw[Z,apx (by omega),ay,CB (hw.get k) (adM _),ay,aO C,aO C.2,vW (yu _ _ _) (gS _ _),At];have c7:(o.set j (dX w j k:Int)).set (j:Int).toNat ((dX w j k ^^^ gm (w.getD k 0) (pw (k*j)):Nat):Int)=o.set j (dX w j (k+1):Int):=List.set_set ..;rw[c7]
 ·unfold Cc aM xG xI xL;dsimp only;have E:decide (((0+11:Nat):Int)<((cH w).length:Int))=false:=bh (by rw[vX];omega);rw[E,ax]
def th(w:aa Nat):Nat->aa Int
 |0=>[0,0,0]
 |1=>[(dX w 0 11:Int),0,0]
 |2=>[(dX w 0 11:Int),(dX w 1 11:Int),0]
 |_=>[(dX w 0 11:Int),(dX w 1 11:Int),(dX w 2 11:Int)]
def Ux{w:aa Nat}(hw:kz w)(hl:w.length=11):Ab (cH w)=some [(dX w 0 11:Int),(dX w 1 11:Int),(dX w 2 11:Int)]:=by
 unfold Ab bR;have c0:((w.length:Int)==(11:Int))=true:=by rw[hl];rfl
 rw[Uw hw (by omega),c0,ay];have e:=I5 (step:=Eg) (λj=>((cH w,(),(3:Int),(j:Int),()),(th w j,()))) (z:=.inl (((),()),(th w 3,()))) 3 0 bq (λk _ E=>?_) ?_ (by unfold bq;omega)
 ·have e:iter Eg bq ((cH w,(),((List.replicate (3:Int).toNat (0:Int)).length:Int),(0:Int),()),(List.replicate (3:Int).toNat (0:Int),()))=_:=e;rw[show (!true)=false from rfl,ax,aV (by decide),e];rfl
 ·unfold Eg aM xG bR;dsimp only;have D:decide ((k:Int)<(3:Int))=true:=aY;have C:th w k=(th w k).set k 0/\k<(th w k).length/\(th w k).set k (dX w k 11:Int)=th w (k+1):=by
   have:k=0\/k=1\/k=2:=by omega
   rcases this with rfl|rfl|rfl
   ·exact⟨rfl,by simp[th],rfl⟩
   ·exact⟨rfl,by simp[th],rfl⟩
   ·exact⟨rfl,by simp[th],rfl⟩
  rw[D,au,apz hw hl k (by omega) (3:Int) (k:Int) (th w k) C.2.1 C.1.symm,C.2.2];show some (Sum.inl ((cH w,(),(3:Int),W6 ((k:Int)+1),()),(th w (k+1),())))=_;rw[At]
 ·unfold Eg aM xG bR;dsimp only;rfl
def apA{w:aa Nat}(hw:kz w)(hl:w.length=11):MX (cH w)=some (Nat.beq (dX w 0 11) 0&&(Nat.beq (dX w 1 11) 0&&Nat.beq (dX w 2 11) 0)):=by
 unfold MX xL;rw[Ux hw hl,ay];generalize dX w 0 11=a;generalize dX w 1 11=b;generalize dX w 2 11=c;have q:∀ n:Nat,((n:Int)==(0:Int))=Nat.beq n 0:=by
  intro n;cases n with
  |zero=>rfl
  |succ n=>rfl
 show (bif ((a:Int)==(0:Int))then (bif ((b:Int)==(0:Int))then some ((c:Int)==(0:Int))else some false)else some false)=_
 grind
def apB(C D E:Nat)(I:C<16)(O:D<16)(T:E<16):
  (λy z=>(λx=>(gm x 1 ^^^ (gm y 1 ^^^ (gm z 1 ^^^ C)))=0/\(gm x 1 ^^^ (gm y 2 ^^^ (gm z 4 ^^^ D)))=0/\(gm x 1 ^^^ (gm y 4 ^^^ (gm z 3 ^^^ E)))=0) (C ^^^ y ^^^ z))
   (gm (gm 2 (C ^^^ D) ^^^ gm 5 (C ^^^ E)) 13) (gm (gm 3 (C ^^^ E) ^^^ gm 5 (C ^^^ D)) 13):=by
 have h:=mJ (mJ (mJ apv I) O) T;simp_all
def apC{d:aa Nat}(hd:kz d)(hl:d.length=8):∃ w,HI (cH d)=some (cH w)/\w.length=11/\kz w/\w.drop 3=d/\dX w 0 11=0/\dX w 1 11=0/\dX w 2 11=0:=by
 have Y:kz (0 :: 0 :: 0 :: d):=by
  intro x hx;simp only[gv]at hx;rcases hx with rfl|rfl|rfl|hx
  ·decide
  ·decide
  ·decide
  ·exact hd x hx
 have key:∀ j x y z,j<3->x<16->y<16->z<16->dX (x :: y :: z :: d) j 11=gm x (pw (0*j)) ^^^ (gm y (pw (1*j)) ^^^ (gm z (pw (2*j)) ^^^ dX (0 :: 0 :: 0 :: d) j 11)):=by
  intro j x y z hj hx hy Y;simp only[dX,List.getD_cons_zero,List.getD_cons_succ,Nat.xor_assoc,Nat.zero_xor,apy (adM _)]
 have e0:∀ C E I:Nat,C<16->E<16->I<16->Ab (cH (0 :: 0 :: 0 :: d))=some [(C:Int),(E:Int),(I:Int)]->
   HI (cH d)=some (cH ((C ^^^ gm (gm 2 (C ^^^ E) ^^^ gm 5 (C ^^^ I)) 13 ^^^ gm (gm 3 (C ^^^ I) ^^^ gm 5 (C ^^^ E)) 13)::gm (gm 2 (C ^^^ E) ^^^ gm 5 (C ^^^ I)) 13::gm (gm 3 (C ^^^ I) ^^^ gm 5 (C ^^^ E)) 13::d)):=by
  intro C E I D O T hs;unfold HI xL;have c0:((d.length:Int)==(8:Int))=true:=by rw[hl];rfl
  have c1:bV ((List.replicate (3:Int).toNat (0:Int)).length+(cH d).length)=true:=by
   rw[vX,hl];rfl
  rw[Uw hd (by omega),ay,c0,show (!true)=false from rfl,ax,aV (by decide),c1,au];have U:Ab (List.replicate (3:Int).toNat (0:Int)++cH d)=some [(C:Int),(E:Int),(I:Int)]:=hs;rw[U,ay];show (Cd (4:Int)).bind (λZ=>(jx (2:Int) (bits .xor .i64 (C:Int) (E:Int))).bind λqq=>(jx (5:Int) (bits .xor .i64 (C:Int) (I:Int))).bind λo6=>(jx (bits .xor .i64 qq o6) Z).bind λAi=>(jx (3:Int) (bits .xor .i64 (C:Int) (I:Int))).bind λmI=>(jx (5:Int) (bits .xor .i64 (C:Int) (E:Int))).bind λuF=>(jx (bits .xor .i64 mI uF) Z).bind λAd=>some (bits .xor .i64 (bits .xor .i64 (C:Int) Ai) Ad::Ai::Ad::cH d))=_;have m2:∀b:Nat,b<16->jx (2:Int) (b:Int)=some (gm 2 b:Int):=λb hb=>CB (a:=2) (by decide) hb
  have m3:∀b:Nat,b<16->jx (3:Int) (b:Int)=some (gm 3 b:Int):=λb hb=>CB (a:=3) (by decide) hb
  have m5:∀b:Nat,b<16->jx (5:Int) (b:Int)=some (gm 5 b:Int):=λb hb=>CB (a:=5) (by decide) hb
  have m13:∀b:Nat,b<16->jx (b:Int) (13:Int)=some (gm b 13:Int):=λb hb=>CB (b:=13) hb (by decide)
  rw[apw,ay,vW D O,vW D T,m2 _ (mK D O),ay,m5 _ (mK D T),ay,vW (gS _ _) (gS _ _),m13 _ (mK (gS _ _) (gS _ _)),ay,m3 _ (mK D T),ay,m5 _ (mK D O),ay,vW (gS _ _) (gS _ _),m13 _ (mK (gS _ _) (gS _ _)),ay,vW D (gS _ _),vW (mK D (gS _ _)) (gS _ _)];rfl
 have D:=yu (0::0::0::d) 0 11;have O:=yu (0::0::0::d) 1 11;have T:=yu (0::0::0::d) 2 11;have U:=e0 _ _ _ D O T (Ux Y (by simp[hl]));have f:=apB _ _ _ D O T;dsimp only at f;refine⟨_,U,by simp[hl],?_,rfl,?_,?_,?_⟩
 ·intro x hx;simp only[gv]at hx;rcases hx with rfl | rfl | rfl | hx
  ·exact mK (mK D (gS _ _)) (gS _ _)
  ·exact gS _ _
  ·exact gS _ _
  ·exact hd x hx
 ·rw[key 0 _ _ _ (by decide) (mK (mK D (gS _ _)) (gS _ _)) (gS _ _) (gS _ _)];exact f.1
 ·rw[key 1 _ _ _ (by decide) (mK (mK D (gS _ _)) (gS _ _)) (gS _ _) (gS _ _)];exact f.2.1
 ·rw[key 2 _ _ _ (by decide) (mK (mK D (gS _ _)) (gS _ _)) (gS _ _) (gS _ _)];exact f.2.2
def kz.set{w:aa Nat}(h:kz w){k v:Nat}(hv:v<16):kz (w.set k v):=by
 intro x C;rcases List.mem_or_eq_of_mem_set C with C|rfl
 ·exact h x C
 ·exact hv
def ivT:Nat:=9460475325918865680
def iv(a:Nat):Nat:=(ivT / 2 ^ (4*a)) % 16
def apD(a:Nat):iv a<16:=Nat.mod_lt _ (by decide)
def apE:(qx λa=>Nat.beq a 0 ||Cd (Int.ofNat a)==some (Int.ofNat (iv a)))=true:=by kernel_rfl
def apF(w:aa Nat)(k v:Nat):(cH w).set k (v:Int)=cH (w.set k v):=(List.map_set ..).symm
def CC(s:Int):Bool:=aT s 0 15
def vY(l:aa Int)(n:Int):Bool:=l.all CC&&decide ((l.length:Int)=n)
def adO(l:aa Int)(n:Int)(hl:l.length<1073741824):vQ l n=some (vY l n):=by
 unfold vQ vY cY;have e:=jy (step:=Aa) l CC (λi=>((l,n,l,l.length,i,()),())) _ (.inr (.inl ((l,n,()),()))) bq (λk h=>by
  unfold Aa Cb aM bF xG xI;simp (disch:=omega) [h,cc,dh,CC];cases aT l[k] 0 15<;>rfl) (by unfold Aa aM bF xG xI;simp) (cu hl)
 rw[dm]at e;rw[e];cases l.all CC<;>simp;rfl
def Sy(l:aa Int):Prop:=l.length=11/\∀s∈l,0<=s/\s<=15
def Sy.ok{l:aa Int}(h:Sy l):vY l 11=true:=by
 simp[vY,aJ,bT,CC,br];exact⟨λx C=>h.2 x C,by rw[h.1];rfl⟩
def Sy.of{l:aa Int}(h:vY l 11=true):Sy l:=by
 simp[vY,aJ,bT,fC,CC,br]at h;exact⟨by omega,h.1⟩
def adP{a b:Int}(E:0 <= a/\a <= 15)(hb:0 <= b/\b <= 15):0 <= bits .xor .i64 a b/\bits .xor .i64 a b <= 15/\bits .xor .i64 (bits .xor .i64 a b) b=a:=by
 obtain⟨x,rfl⟩:=fD E.1;obtain⟨y,rfl⟩:=fD hb.1;have D:x<16:=by omega
 have C:y<16:=by omega
 have:=mK D C;rw[vW D C];rw[vW this C]
 grind
def Sy.set{l:aa Int}(h:Sy l){k:Nat}{v:Int}(hv:0<=v/\v<=15):Sy (l.set k v):=by
 refine⟨by simp[h.1],λs C=>?_⟩
 rcases List.mem_or_eq_of_mem_set C with C|rfl
 ·exact h.2 s C
 ·exact hv
def Sy.get{l:aa Int}(h:Sy l){k:Nat}(C:k<l.length):0<=l[k]/\l[k]<=15:=h.2 _ (cR C)
structure fG (g:aH) (B:Int) (a:dw):Prop where
 cells:(a.cells.length:Int)=dV g
 syms:∀c∈a.cells,Sy c.symbols
 bu:(a.bu.length:Int)=fM g
 bg:(a.bg.length:Int)=fM g
 EU:∀x∈a.bu,0<=x/\x<=B
 hit:∀x∈a.bg,0<=x/\x<=100000
def apG(c:cB)(h:c.symbols.length<1073741824):MG c=some c:=by
 unfold MG xA xZ;simp[bV,h]
def adQ(a:dw)(T:a.cells.length<1073741823)(C:a.bu.length<1073741824)(D:a.bg.length<1073741824)(E:∀ c∈a.cells,c.symbols.length<1073741824):Em a=some a:=by
 unfold Em xA bR xZ;have e:=eJ (step:=HP) a.cells.length (λi=>(((),(),a.cells,(a.cells.length:Int),(i:Int),()),(((),(),(),()),((),(),(),()),([]:aa cB),([]:aa Int),([]:aa Int),a.cells.take i,(([]:aa Int)++a.bu),(([]:aa Int)++a.bg),())))
  (.inl (((),(),()),(((),(),(),()),((),(),(),()),([]:aa cB),([]:aa Int),([]:aa Int),a.cells,(([]:aa Int)++a.bu),(([]:aa Int)++a.bg),()))) bq (λk h=>by
  unfold HP aM xG xI;have I:min k a.cells.length=k:=by omega
  have O:bV (k+1)=true:=eM;simp (disch:=omega) [h,cc,apG _ (E _ (cR h)),I,O]) (by unfold HP aM xG xI;simp) (cu)
 rw[dm,List.take_zero]at e;rw[e];simp[bV,C,D]
def fG.lens{g:aH}{B:Int}{a:dw}(h:fG g B a):a.cells.length<1073741823/\a.bu.length<1073741824/\a.bg.length<1073741824/\∀ c∈a.cells,c.symbols.length<1073741824:=by
 have D:=h.cells;have E:=h.bu;have I:=h.bg;have O:=oa g;have T:=ta g;exact⟨by omega,by omega,by omega,λc C=>by rw[(h.syms c C).1];omega⟩
def fG.copy{g:aH}{B:Int}{a:dw}(h:fG g B a):Em a=some a:=
 let ⟨C,D,E,I⟩:=h.lens;adQ a C D E I
def I8(c:cB):Bool:=vY c.symbols 11
def yw(p:Int×Int):Bool:=aT p.1 0 100000&&aT p.2 0 100000
def nB(g:aH)(a:dw):Bool:=cy g&&(decide ((a.cells.length:Int)=dV g)&&(decide ((a.bu.length:Int)=fM g)&&(decide ((a.bg.length:Int)=fM g)&&(a.cells.all I8&&(a.bu.zip a.bg).all yw))))
def adR(g:aH)(a:dw)(I:∀ c∈a.cells,c.symbols.length<1073741824):Eu g a=some (nB g a):=by
 unfold Eu nB cY;rw[jz,ay,qw,ay,Aq];cases hg:cy g with
 |false=>rfl
 | true=>
  have U:=oa g;have Y:=ta g;have er:aI g*g.rows=fM g:=by simp[fM,hg]
  simp only[bL,ax,ay,cJ,er];rw[aZ];by_cases C:(a.cells.length:Int)=dV g
  ·by_cases D:(a.bu.length:Int)=fM g
   ·by_cases E:(a.bg.length:Int)=fM g
    ·have hl:a.bu.length=a.bg.length:=by omega
     have l1:=jy (step:=HX) a.cells I8 (λi=>(((),a.cells,(a.cells.length:Int),(i:Int),()),((a.cells,a.bu,a.bg,()),()))) (.inl ((false,()),())) (.inr (.inl (((),()),((a.cells,a.bu,a.bg,()),())))) bq (λk h=>by
      unfold HX aM bF xG xI;simp (disch:=omega) [h,cc,adO _ 11 (I _ (cR h)),I8];cases vY a.cells[k].symbols 11<;>rfl) (by unfold HX aM bF xG xI;simp) (cu)
     have l2:=jy (step:=HY) (a.bu.zip a.bg) yw (λi=>(((),(a.bu.length:Int),(i:Int),()),((a.cells,a.bu,a.bg,()),()))) (.inl ((false,()),())) (.inr (.inl ((),()))) bq (λk h=>by
      have O:k<a.bu.length:=by simp at h;omega
      have T:k<a.bg.length:=by omega
      unfold HY aM bF xG xI;simp (disch:=omega) [O,T,cc,dh,yw];cases aT a.bu[k] 0 100000<;>cases aT a.bg[k] 0 100000<;>rfl) (by unfold HY aM bF xG xI;simp[hl]) (cu (by simp;omega))
     rw[dm]at l1 l2;simp only[C,D,E,bne_self_eq_false,ax,decide_true,cJ];rw[<-C,l1];cases Z:a.cells.all I8 with
     |false=>simp
     | true=>
      simp only[au,Option.bind_some,Sum.elim_inr,gD];rw[l2];cases (a.bu.zip a.bg).all yw<;>simp
    ·simp[C,D,gR E,E]
   ·simp[C,gR D,D]
  ·simp[gR C,C]
def fG.ok{g:aH}{B:Int}{a:dw}(h:fG g B a)(hg:cy g=true)(hB:B <= 100000):Eu g a=some true:=by
 rw[adR g a (λc C=>by rw[(h.syms c C).1];omega)];have E:=h.cells;have I:=h.bu;have O:=h.bg;have T:a.cells.all I8=true:=bT.2 λc C=>(h.syms c C).ok
 have U:(a.bu.zip _).all yw=true:=bT.2 λp hp=>by
  obtain⟨x,y⟩:=p;have D:=List.of_mem_zip hp;have Y:=h.EU x D.1;have Z:=h.hit y D.2;simp[yw,aJ,br];omega
 simp[nB,hg,E,I,O,T,U]
def NU{b:aa Int}{c:bx}(C:ku b c)(l:aa Int)(hl:0<l.length):Dr b (zV c l) λx=>x∈l:=by
 unfold zV xI;rw[C.eq]
 refine(ff C _).bind λI O E D=>?_
 rw[aO ⟨E.1,by dsimp only;omega⟩];rw[D.eta];exact Dr.pure D (cR _)
def NV{b:aa Int}{c:bx}(C:ku b c)(n:Int):Dr b (B6 c n) λ_=>True:=by
 unfold B6;rw[C.eq]
 refine(ff C _).bind λE I O D=>?_
 rw[D.eta];exact Dr.pure D trivial
def rO(g:aH):(⟨g.bI,g.aE,g.rows,g.aR⟩:aH)=g:=rfl
def apH{b:aa Int}{c:bx}(C:ku b c){g:aH}(hg:cy g=true):Dr b (Mb c g) λa=>fX g a=true:=by
 have hp:=I4 hg;have⟨_,_,_,_,Y,Z,g7,g8⟩:=fW hg;unfold Mb;rw[ET,ay,C.eq]
 refine(ff C _).bind λx1 k1 D E=>?_
 dsimp only;rw[E.eta]
 refine(ff E _).bind λx2 k2 I O=>?_
 dsimp only;rw[O.eta]
 refine(ff O _).bind λx3 k3 T U=>?_
 dsimp only;rw[U.eta];exact Dr.pure U (As hg D.1 (D.2.2 (by omega)) I.1 (I.2.2 (by omega)) T.1 (T.2.2 (by omega)))
def nD(n x:Int):Int:=if 100000<x+n then 100000 else x+n
def adS(l:aa Int)(h:∀ s∈l,0 <= s/\s <= 15):cH (l.map Int.toNat)=l/\kz (l.map Int.toNat):=by
 constructor
 ·induction l with
  |nil=>rfl
  | cons x l C=>
   have D:=h x (.head _);have:=C λs E=>h s (.tail _ E)
   grind
 ·intro x D
  grind
def adT{w:aa Nat}(hw:kz w)(hl:w.length=11):Sy (cH w):=by
 refine⟨by rw[vX,hl],λs C=>?_⟩
 simp at C;obtain⟨x,D,rfl⟩:=C;have:=hw x D;omega
def Sy.mem{l:aa cB}(h:∀c∈l,Sy c.symbols){k:Nat}(C:k<l.length):Sy l[k].symbols:=h _ (cR C)
def Sy.bG{l:aa cB}(h:∀c∈l,Sy c.symbols){k:Nat}{d:cB}(hd:Sy d.symbols):∀c∈l.set k d,Sy c.symbols:=by grind
def NW{l:aa Int}{B C:Int}(h:∀x∈l,B <= x/\x <= C){k:Nat}{v:Int}(hv:B <= v/\v <= C):∀x∈l.set k v,B <= x/\x <= C:=by grind
def uI(l:lI)(a:dw)(i:Nat):Bool:=decide (a.bu.getD i 0 > l.bu) ||decide (a.bg.getD i 0 > l.bg)
def apI{l:aa Int}{B C:Int}(h:∀ x∈l,B<=x/\x<=C)(k:Nat)(D:B<=0/\0<=C):B<=l.getD k 0/\l.getD k 0<=C:=by
 rw[cS];cases E:l[k]? with
 |none=>exact D
 |some x=>exact h x (gC E)
def adU{x:Int}(h:0<=x/\x<=100000){n:Int}(hn:0<=n):0<=nD n x/\nD n x<=100000:=by
 unfold nD;split<;>omega
def oc(k:Nat)(h:aa Int):aa Int:=h.set k (nD 1 (h.getD k 0))
def Uy(k:Nat)(h:aa Int):(oc k h).length=h.length:=by simp[oc]
def Uz{k:Nat}{h:aa Int}(hb:∀ x∈h,0<=x/\x<=100000):∀ x∈oc k h,0<=x/\x<=100000:=
 NW hb (adU (apI hb k ⟨by omega,by omega⟩) (by omega))
def apJ{k:Nat}{h:aa Int}(C:k<h.length):oc k h=h.set k (nD 1 h[k]):=by
 unfold oc;rw[cS,bJ C];rfl
def vZ(row:Int)(i:Nat)(h:aa Int):aa Int:=bif decide (0<row)then oc (i-1) (h.set i 0)else h.set i 0
def o9(R row:Int)(i:Nat)(h:aa Int):aa Int:=bif decide (row<R-1)then oc (i+1) (vZ row i h)else vZ row i h
def apK(row:Int)(i:Nat)(h:aa Int):(vZ row i h).length=h.length:=by
 unfold vZ;cases decide (0<row)<;>simp[Uy]
def apL(R row:Int)(i:Nat)(h:aa Int):(o9 R row i h).length=h.length:=by
 unfold o9;cases decide (row<R-1)<;>simp[Uy,apK]
def apM{row:Int}{i:Nat}{h:aa Int}(hb:∀ x∈h,0<=x/\x<=100000):∀ x∈vZ row i h,0<=x/\x<=100000:=by
 have C:=NW hb (k:=i) (v:=0) ⟨by omega,by omega⟩;unfold vZ;cases decide (0<row)
 ·exact C
 ·exact Uz C
def apN{R row:Int}{i:Nat}{h:aa Int}(hb:∀ x∈h,0<=x/\x<=100000):∀ x∈o9 R row i h,0<=x/\x<=100000:=by
 have C:=apM (row:=row) (i:=i) hb;unfold o9;cases decide (row<R-1)
 ·exact C
 ·exact Uz C
def rP(t:cg):aa Int:=[t.qR,t.rp,t.jY,t.r5,t.oC,t.jZ,t.r6,t.r7,t.mW,t.wr,t.r8,t.r9,t.vc,t.tM,t.tN,t.xp,t.xs]
def EV(x:Int):Bool:=aT x 1 64
def ja(t:cg):Bool:=(rP t).all EV&&(decide (t.qR<=t.jY)&&(decide (t.r5<=t.oC)&&(decide (t.r6<=t.r7)&&decide (t.r8<=t.r9))))
def I9(t:cg):B7 t=some (ja t):=by
 unfold B7 ja cY;change (iter Ec bq (((),(),((rP t).length:Int),(0:Int),()),(t,rP t,()))).bind _=_;have C:(rP t).length=17:=rfl;generalize rP t=l at *
 have e:=jy (step:=Ec) l EV (λi=>(((),(),(l.length:Int),(i:Int),()),(t,l,()))) _ (.inr (.inl (((),()),(t,())))) bq (λk h=>by
  unfold Ec aM bF xG xL;simp (disch:=omega) [h,cc,dh,EV];cases aT l[k] 1 64<;>rfl) (by unfold Ec aM bF xG xL;simp) (cu)
 rw[dm]at e;rw[e];cases l.all EV<;>simp
 grind
def apO(t:cg):∃ y,B8 t=some y:=by
 unfold B8;rw[I9];cases ja t<;>exact⟨_,rfl⟩
def Jb(R i:Nat):Int:=((i % R:Nat):Int)
def lX(n R:Nat):aa Int:=(List.range n).map (Jb R)
def UA(n R:Nat):(lX n R).length=n:=by simp[lX]
def apP(n R:Nat):lX (n+1) R=lX n R++[Jb R n]:=by simp[lX,List.range_succ]
def kA(g:aH)(n:Int):Bool:=cy g&&(aT n 0 2&&decide (2<=g.rows-n))
def tj(g:aH)(n:Int):dL×Bool:=bif kA g n then (⟨n,lX ((aI g).toNat*(g.rows-n).toNat) (g.rows-n).toNat⟩,true)else (⟨0,[]⟩,false)
def UB{g:aH}{n:Int}(h:kA g n=true):cy g=true/\0 <= n/\n <= 2/\2 <= g.rows-n/\g.rows <= 16:=by
 simp[kA,aJ,br,fC]at h;have⟨C,⟨D,E⟩,I⟩:=h;have:=fW C;simp_all
def apQ(g:aH)(n:Int):MC g n=some (tj g n):=by
 unfold MC tj bR;rw[Us,ay];cases hg:cy g with
 |false=>simp[kA,hg]
 | true=>
  simp only[bL,ax,Ur,ay];cases hn:aT n 0 2 with
  |false=>simp[kA,hn]
  | true=>
   have Y:=br.1 hn;have Z:=fW hg;simp only[bL,ax];rw[aZ];by_cases D:g.rows-n<2
   ·have:decide (2<=g.rows-n)=false:=bh;rw[aY D,au];simp[kA,this]
   ·have I:kA g n=true:=by simp[kA,hg,hn];omega
    rw[bh D,ax,I,au];have O:=ey g;obtain⟨C,hb⟩:=fD O.1;obtain⟨R,E⟩:=fD (show 0<=g.rows-n by omega);have hm:C*R<=8*16:=Nat.mul_le_mul (by omega) (by omega);have hmul:W6 ((C:Int)*(R:Int))=((C*R:Nat):Int):=by
     rw[<-Int.natCast_mul];exact aZ
    have hw:W6 (g.rows-n)=(R:Int):=by rw[E];exact aZ
    have e:=eJ (step:=HL) (C*R) (λi=>((n,(),(),(),(i:Int),()),((g.bI,g.aE,g.rows,g.aR,()),((0:Int),(),()),(n,(),()),([]:aa Int),lX i R,())))
     (.inl (((),(),()),(((0:Int),(),()),(n,(),()),([]:aa Int),lX (C*R) R,()))) bq (λk h=>by
     unfold HL aM xG;have T:bV ((lX k R).length+1)=true:=eM (by rw[UA];omega);have U:(k:Int).tmod (R:Int)=Jb R k:=by unfold Jb;exact(Int.ofNat_tmod k R).symm
     dsimp only;rw[rO,ET,ay,hw,hb,hmul,aY,au,aW,U];simp only[mb,List.length_nil,eW];rw[T,au,cc,apP]) (by
     unfold HL aM xG;dsimp only;rw[rO,ET,ay,hw,hb,hmul,bh,ax]) (cu)
    rw[dm]at e
    refine(bz (λo=>Option.bind o _) e).trans ?_
    rw[hb,E];rfl
def apR(b R:Nat)(C:0<R)(j:Nat)(D:j <= R):lX (b*R+j) R=lX (b*R) R++(List.range j).map (λi:Nat=>(i:Int)):=by
 unfold lX;rw[List.range_add,List.map_append,List.map_map];congr 1
 refine List.map_congr_left λi hi=>?_
 have hi:=gi.1 hi;simp only[Function.comp,Jb];rw[Nat.mul_comm,Nat.mul_add_mod,Nat.mod_eq_of_lt (by omega)]
def UC(g:aH)(n:Int):Eb g n=some (tj g n):=by
 unfold Eb tj bR;rw[qw,ay];cases hg:cy g with
 |false=>simp[kA,hg]
 | true=>
  simp only[bL,ax,dh,ay];cases hn:aT n 0 2 with
  |false=>simp[kA,hn]
  | true=>
   have U:=br.1 hn;have Y:=fW hg;simp only[bL,ax];rw[aZ];by_cases D:g.rows-n<2
   ·have:decide (2<=g.rows-n)=false:=bh;rw[aY D,au];simp[kA,this]
   ·have I:kA g n=true:=by simp[kA,hg,hn];omega
    rw[bh D,ax,I,au];have O:=ey g;obtain⟨C,hb⟩:=fD O.1;obtain⟨R,E⟩:=fD (show 0<=g.rows-n by omega);have hw:W6 (g.rows-n)=(R:Int):=by rw[E];exact aZ
    have inner:∀ b:Nat,b<C->iter Ea bq ((n,(),(),(),(b:Int),(0:Int),()),((g.bI,g.aE,g.rows,g.aR,()),((0:Int),(),()),(n,(),()),([]:aa Int),lX (b*R) R,()))=some (.inl ((n,(),(),(),(b:Int),()),((g.bI,g.aE,g.rows,g.aR,()),((0:Int),(),()),(n,(),()),([]:aa Int),lX ((b+1)*R) R,()))):=by
     intro b Z;have hm:b*R<=8*16:=Nat.mul_le_mul (by omega) (by omega);have e:=eJ (step:=Ea) R (λj=>((n,(),(),(),(b:Int),(j:Int),()),((g.bI,g.aE,g.rows,g.aR,()),((0:Int),(),()),(n,(),()),([]:aa Int),lX (b*R) R++(List.range j).map (λi:Nat=>(i:Int)),())))
      (.inl ((n,(),(),(),(b:Int),()),((g.bI,g.aE,g.rows,g.aR,()),((0:Int),(),()),(n,(),()),([]:aa Int),lX (b*R) R++(List.range R).map (λi:Nat=>(i:Int)),()))) bq (λk h=>by
      unfold Ea aM xG;have T:bV ((lX (b*R) R++(List.range k).map (λi:Nat=>(i:Int))).length+1)=true:=eM (by simp[UA];omega);dsimp only;rw[hw,aY,au];simp only[mb,List.length_nil,eW];rw[T,au,cc,List.range_succ,List.map_append,List.append_assoc];rfl) (by
      unfold Ea aM xG;dsimp only;rw[hw,bh,ax]) (cu)
     rw[dm,List.range_zero,List.map_nil,List.append_nil]at e;rw[e,<-apR b R (by omega) R (dB _),ji]
    have e:=eJ (step:=Hx) C (λi=>((n,(),(),(),(i:Int),()),((g.bI,g.aE,g.rows,g.aR,()),((0:Int),(),()),(n,(),()),([]:aa Int),lX (i*R) R,())))
     (.inl (((),(),()),(((0:Int),(),()),(n,(),()),([]:aa Int),lX (C*R) R,()))) bq (λk h=>by
     unfold Hx aM xG bR;dsimp only;rw[rO,jz,ay,hb,aY,au]
     refine(bz (λo=>Option.bind o _) (inner k h)).trans ?_
     rw[ay];simp only[gD];rw[cc]) (by
     unfold Hx aM xG bR;dsimp only;rw[rO,jz,ay,hb,bh,ax]) (cu)
    rw[dm,Nat.zero_mul]at e
    refine(bz (λo=>Option.bind o _) e).trans ?_
    rw[hb,E];rfl
def EW(t:cg):Int:=(B8 t).getD 0
def adV(t:cg):B8 t=some (EW t):=by
 obtain⟨y,e⟩:=apO t;unfold EW;rw[e];rfl
def adW(m:qQ):Hy m=some (aT m.order 0 2):=by
 unfold Hy;rw[dh];rfl
def qy(c:fo):Bool:=cy c.ak&&(ja c.bQ&&(aT c.mapping.order 0 2&&(kA c.ak c.cF&&(aT c.interval (EW c.bQ) 10000&&(aT c.ij 1 16&&(aT c.dS.bu (W6 ((6:Int)*c.interval)) 100000&&aT c.dS.bg 0 100000))))))
def UD(g:aH)(n:Int):(tj g n).2=kA g n:=by
 unfold tj;cases kA g n<;>rfl
def NX(c:fo):Mt c=some (qy c):=by
 unfold Mt qy;simp only[UC,qw,I9,adW,adV,dh,ay,UD];cases cy c.ak<;>cases ja c.bQ<;>cases aT c.mapping.order 0 2<;>cases kA c.ak c.cF<;>cases aT c.interval (EW c.bQ) 10000<;>cases aT c.ij 1 16<;>cases aT c.dS.bu (W6 ((6:Int)*c.interval)) 100000<;>rfl
def adX{c:fo}(h:qy c=true):cy c.ak=true/\ja c.bQ=true/\kA c.ak c.cF=true/\aT c.ij 1 16=true:=by
 simp[qy,aJ]at h;simp_all
def apS{t:cg}(h:ja t=true):(1 <= t.jY/\t.jY <= 64)/\1 <= t.rp/\t.rp <= 64:=by
 simp[ja,aJ,bT]at h;have C:=h.1 t.jY (by simp[rP]);have D:=h.1 t.rp (by simp[rP]);simp[EV,br]at C D;simp_all
def qz(s:dD):Bool:=aT s.weight 1 9&&aT s.fI 0 s.weight
def kB(l:aa dD):Bool:=l.all qz&&aT (l.length:Int) 1 4
def Jc(l:aa dD)(hl:l.length<1073741824):Ed l=some (kB l):=by
 unfold Ed kB cY;have e:=jy (step:=Hz) l qz (λi=>((l,l,l.length,i,()),())) _ (.inr (.inl ((l,()),()))) bq (λk h=>by
  unfold Hz aM bF xG xI;simp (disch:=omega) [h,cc,dh,qz];cases aT l[k].weight 1 9<;>cases aT l[k].fI 0 l[k].weight<;>rfl) (by unfold Hz aM bF xG xI;simp) (cu hl)
 rw[dm]at e;rw[e];cases l.all qz<;>simp[dh]
def od(w:Int):dD:=⟨w,w⟩
def CD(l:aa Int):aa dD×Bool:=bif kB (l.map od)then (l.map od,true)else ([],false)
def apT{l:aa Int}{k:Nat}(h:k<l.length):(l.take (k+1)).map od=(l.take k).map od++[⟨l[k],l[k]⟩]:=by
 rw[List.take_succ_eq_append_getElem h,List.map_append];rfl
def UE(l:aa Int)(hl:l.length<1073741823):yf l=some (CD l):=by
 unfold yf CD bR;have e:=eJ (step:=HA) l.length (λi=>(((),l,(l.length:Int),(i:Int),()),((l.take i).map od,()))) _ bq (λk h=>by
  unfold HA aM xG xI;have C:bV (((l.take k).map od).length+1)=true:=eM (by simp;omega);dsimp only;rw[aY,au,aO ⟨by omega,by omega⟩];simp only[mb,List.length_nil,eW,bE];rw[C,au,cc,apT h]) (by
  unfold HA aM xG xI;dsimp only;rw[bh,ax,mV]) (cu)
 refine(bz (λo=>Option.bind o _) e).trans ?_
 rw[ay];simp only[gD];rw[Jc _ (by simp;omega),ay]
 grind
def apU(l:aa Int):(CD l).2=kB (l.map od):=by
 unfold CD;cases kB (l.map od)<;>rfl
def qA(d:mX):Bool:=decide (d.low >= 0)&&(decide (d.low<d.high)&&decide (d.high<=12))
def NY(d:mX):B9 d=some (qA d):=by
 unfold B9 qA
 grind
def EX(r:wI):Bool:=aT r.down 1 10000&&(decide (r.sleep > r.down)&&decide (r.sleep<=20000))
def adY(r:wI):HB r=some (EX r):=by
 unfold HB EX;rw[dh]
 grind
def yx(p:cK):Bool:=aT p.eX 0 1&&(aT p.cap 0 100000&&(aT p.di 3 1000&&(qA ⟨false,p.low,p.high⟩&&((p.weights.length:Int)==4&&(kB (p.weights.map od)&&EX p.dj)))))
def apV(x:Int):aT x 0 1=(x==0 || x==1):=by
 rw[Bool.eq_iff_iff];simp[aT];omega
def Jd(p:cK)(hl:p.weights.length<1073741823):HC p=some (yx p):=by
 unfold HC yx;simp[UE _ hl,ay,dh,NY,adY,apU,apV]
 grind
def adZ(x:Int):∃ y,z0 x=some y:=by
 unfold z0;rw[dh];cases aT x 3 1000<;>exact⟨_,rfl⟩
def UF(c:fo)(p:cK)(hl:p.weights.length<1073741823):∃ b,sY c p=some b/\(b=true->qy c=true):=by
 unfold sY;obtain⟨y,e⟩:=adZ p.di;simp only[NX,Jd _ hl,e,ay];cases C:qy c with
 |false=>exact⟨false,rfl,λh=>by cases h⟩
 | true=>
  have D:=apS (adX C).2.1;have hn:¬ W6 (c.bQ.jY+c.bQ.rp)=0:=by
   rw[aZ];omega
  cases yx p with
  |false=>exact⟨false,rfl,λ_=>rfl⟩
  | true=>
   simp only[aW hn,bL,ax,au];cases decide (W6 (y+2)<=c.dS.bg)<;>exact⟨_,rfl,λ_=>by first|rfl|trivial⟩
def ad0(i:Nat)(l:aa ep):((opens i l).length==0)=l.all λb=>!b.open_:=by
 induction l generalizing i with
 |nil=>rfl
 | cons x a C=>
  simp[opens,List.all_cons]
  grind
def yz(g:aH)(b:ep):Bool:=aT b.row 0 (g.rows-1)&&(b.open_ ||b.row==0)
def kN(g:aH)(r:bM):Bool:=cy g&&(((r.aE.length:Int)==aI g)&&(aT r.aN 0 2&&(r.aE.all (yz g)&&(r.aN != 2 ||r.aE.all λb=>!b.open_))))
def ad1(g:aH)(r:bM):HU g r=some (kN g r):=by
 unfold HU kN cY;rw[qw,ay,jz];cases hg:cy g with
 |false=>rfl
 | true=>
  simp only[bL,ax,ay,cJ];by_cases C:(r.aE.length:Int)=aI g
  ·have E:=ey g;have I:=fW hg;simp only[C,bne_self_eq_false,ax,iS,cJ,dh,ay];cases hp:aT r.aN 0 2 with
   |false=>rfl
   | true=>
    have e:=jy (step:=HT) r.aE (yz g) (λi=>(((),(),r.aE,(r.aE.length:Int),(i:Int),()),((g.bI,g.aE,g.rows,g.aR,()),(r.aE,r.aN,()),()))) (.inl ((false,()),())) (.inr (.inl (((),()),((r.aE,r.aN,()),())))) bq (λk h=>by
     unfold HT aM bF xG xI;dsimp only;rw[aY,au,aO ⟨by omega,by omega⟩];simp only[bE,dh,ay];rw[aZ (n:=g.rows-1),cc];unfold yz;cases aT r.aE[k].row 0 (g.rows-1)with
     |false=>rfl
     | true=>
      cases r.aE[k].open_ with
      |true=>rfl
      | false=>
       simp[bne];cases r.aE[k].row==0<;>rfl) (by
     unfold HT aM bF xG xI;dsimp only;rw[bh,ax]) (cu)
    rw[dm,C]at e;simp only[bL,ax,cJ]
    refine(bz (λo=>Option.bind o _) e).trans ?_
    rw[ay];cases r.aE.all (yz g)with
    |false=>rfl
    | true=>
     simp only[au,Sum.elim_inr,gD,cJ];cases hq:r.aN != 2 with
     |true=>rfl
     | false=>
      simp;rw[NT ⟨r.aE,r.aN⟩ (by show r.aE.length<_;omega),ay,<- ad0 0 r.aE];congr 1
      grind
  ·have D:((r.aE.length:Int)==aI g)=false:=by simp[C]
   rw[gR C,D];rfl
def Je(d:Int):Bool:=aT d (-2) 5
def fY(r:eH):Bool:=r.aC.all Je&&(aT (r.aC.length:Int) 1 8&&aT r.wait 1 10000)
def Jf(r:eH)(hl:r.aC.length<1073741824):Ag r=some (fY r):=by
 unfold Ag fY cY;have e:=jy (step:=HZ) _ Je (λi=>(((),r.aC,r.aC.length,i,()),((r.aC,r.wait,r.dY,()),()))) _ (.inr (.inl (((),()),((r.aC,r.wait,r.dY,()),())))) bq (λk h=>by
  unfold HZ aM bF xG xI;simp (disch:=omega) [h,cc,dh,Je];cases aT r.aC[k] _ 5<;>rfl) (by unfold HZ aM bF xG xI;simp) (cu hl)
 rw[dm]at e;rw[e];cases r.aC.all Je<;>simp[dh]
 grind
def jA{T:Type}(p:T->Bool)(l:aa T):Int:=match l.findIdx? p with
 |some i=>(i:Int)
 |none=>-1
def Jg{α β T:Type}{step:α -> aj (α⊕β)}(l:aa T)(p:T -> Bool)(S:Nat -> α)(D:Nat -> β)(z:β)(fuel:Nat)(E:∀ k (h:k<l.length),step (S k)=some (bif p l[k]then .inr (D k)else .inl (S (k+1))))(I:step (S l.length)=some (.inr z))(C:l.length<fuel):
  iter step fuel (S 0)=some (match l.findIdx? p with|some i=>D i|none=>z):=by
 have key:∀ (n i fuel:Nat),i+n=l.length -> n<fuel -> (∀ j (h:j<l.length),j<i -> p l[j]=false) -> iter step fuel (S i)=some (match l.findIdx? p with | some i=>D i | none=>z):=by
  intro n
  induction n with
  | zero=>
   intro i fuel hi C hn
   match fuel,C with
   | f+1,_=>
    have:i=l.length:=by omega
    subst this;have e:l.findIdx? p=none:=by
     rw[List.findIdx?_eq_none_iff];intro x O;obtain⟨j,U,rfl⟩:=iU.1 O
     grind
    unfold iter;rw[I,e]
  | succ n Y=>
   intro i fuel hi C hn
   match fuel,C with
   | f+1,C=>
    have Z:i<l.length:=by omega
    unfold iter;rw[E i Z];cases hp:p l[i]with
    | true=>
     have e:l.findIdx? p=some i:=by
      rw[qP]
      grind
     rw[e];rfl
    | false=>
     simp only[ax]
     refine Y (i+1) f (by omega) (by omega) λj U GW=>?_
     by_cases e:j=i
     ·grind
     ·grind
 exact key l.length 0 fuel (by omega) C λj _ h=>by omega
def ad2{T:Type}{p:T -> Bool}{l:aa T}{i:Nat}(h:i<l.length)(hp:p l[i]=true):(jA p l != (i:Int))=(l.take i).any p:=by
 unfold jA;cases C:(l.take i).any p with
 | false=>
  have e:l.findIdx? p=some i:=by
   rw[qP]
   refine⟨h,hp,λj D=>?_⟩
   have:=kT.1 C l[j] (iU.2 ⟨j,by simp;omega,by simp⟩);exact this
  rw[e];simp
 | true=>
  have⟨x,E,O⟩:=List.any_eq_true.1 C;obtain⟨j,D,rfl⟩:=iU.1 E;rw[jF]at D;cases I:l.findIdx? p with
  |none=>simp
  | some k=>
   have⟨U,Y,Z⟩:=qP.1 I;have:k≠i:=by
    grind
   simp only;simp;omega
def UG(x:Int):Bool:=aT x 0 4294967295
def nE(n:Int)(r:aX):Bool:=aT r.id 1 100000&&(aT r.dn 0 3&&(decide (r.line >= 0)&&(decide (r.line<n)&&(UG r.data&&((r.write ||r.data==0)&&aT r.at_ 0 1000000)))))
def apW(n:Int)(r:aX):MR n r=some (nE n r):=by
 unfold MR nE Ca UG;simp[dh]
 grind
def fm(x y:aX):Bool:=decide (x.at_<y.at_) ||(x.at_==y.at_&&decide (x.id<y.id))
def UH(x y:aX):Ia x y=some (fm x y):=by
 unfold Ia fm
 grind
def rQ(n:Int)(q:aa aX)(i:Nat):Bool:=match q[i]? with
 |some r=>nE n r&&((i==0 ||(match q[i-1]? with|some x=>fm x r|none=>false)) && !((q.take i).any λx=>x.id==r.id))
 |none=>false
def ad3{n:Int}{q:aa aX}(h:0<q.length):rQ n q 0=nE n q[0]:=by
 unfold rQ;rw[bJ h];simp
def NZ{n:Int}{q:aa aX}{i:Nat}(h:i+1<q.length):rQ n q (i+1)=(nE n q[i+1]&&(fm q[i] q[i+1] && !((q.take (i+1)).any λx=>x.id==q[i+1].id))):=by
 unfold rQ
 grind
def gw(n:Int)(q:aa aX):Bool:=(List.range q.length).all (rQ n q)&&decide ((q.length:Int)<=12)
def apX(n:Int)(q:aa aX){i:Nat}(h:i<q.length)(hl:q.length<1073741824):
  iter Ew bq ((n,q,(),q,(q.length:Int),(i:Int),((q.take i).drop 0),(((q.take i).drop 0).length:Int),(0:Int),()),((q[i].id,q[i].dn,q[i].line,q[i].write,q[i].data,q[i].at_,()),()))=some (bif (q.take i).any (λx=>x.id==q[i].id)then .inl ((false,()),())else .inr (.inl ((n,q,q,(q.length:Int),(i:Int),()),()))):=by
 rw[List.drop_zero];have hlen:(q.take i).length=i:=by rw[jF];omega
 generalize C:q[i]=r;generalize D:q.take i=t at *
 have e:=jy (step:=Ew) t (λx=>!(x.id==r.id)) (λj=>((n,q,(),q,(q.length:Int),(i:Int),t,(t.length:Int),(j:Int),()),((r.id,r.dn,r.line,r.write,r.data,r.at_,()),()))) (.inl ((false,()),())) _ bq (λk h=>by
  unfold Ew aM bF xG xI;dsimp only;rw[aY,au,aO ⟨by omega,by omega⟩];simp only[bE];rw[cc];cases t[k].id==r.id<;>rfl) (by
  unfold Ew aM bF xG xI;dsimp only;rw[bh,ax]) (cu)
 grind
def UI(n:Int)(q:aa aX)(hl:q.length<1073741824):Cl n q=some (gw n q):=by
 unfold Cl gw cY;have e:=jy (step:=Ib) (List.range q.length) (rQ n q) (λi=>((n,q,q,(q.length:Int),(i:Int),()),())) (.inl ((false,()),())) (.inr (.inl ((q,()),()))) bq (λk h=>by
   rw[eo]at h;rw[lH];unfold Ib aM bF xG xI cY;dsimp only;rw[aY,au,aO ⟨by omega,by omega⟩];simp only[bE,apW,ay];have hq:=apX n q h hl;cases k with
   | zero=>
    rw[ad3 h];cases nE n q[0]with
    |false=>rfl
    | true=>
     simp only[bL,ax,au];rw[bh,ax,aV ⟨by omega,by omega,by omega⟩]
     refine(bz (λo=>Option.bind o _) hq).trans ?_
     simp;rfl
   | succ k=>
    rw[NZ h];cases nE n q[k+1]with
    |false=>rfl
    | true=>
     simp only[bL,ax,cJ];have hw:W6 (((k+1:Nat):Int)-1)=(k:Int):=by rw[aZ];omega
     simp only[hw,bE];rw[aY,au,aO ⟨by omega,by omega⟩,UH,ay];cases fm q[k] q[k+1]with
     |false=>rfl
     | true=>
      simp only[bL,ax,cJ];rw[aV ⟨by omega,by omega,by omega⟩]
      refine(bz (λo=>Option.bind o _) hq).trans ?_
      rw[ay];cases (q.take (k+1)).any λx=>x.id==q[k+1].id with
      |true=>rfl
      | false=>
       simp only[ax,Sum.elim_inr,gD];rw[cc];rfl) (by
   rw[eo];unfold Ib aM bF xG xI cY;dsimp only;rw[bh,ax]) (by rw[eo];exact cu)
 rw[dm]at e
 refine(bz (λo=>Option.bind o _) e).trans ?_
 rw[ay];cases (List.range q.length).all (rQ n q)<;>rfl
def lD(p:iC):Bool:=aT p.state 0 2&&(aT p.since 0 1000000&&aT p.idle 0 1000000)
def N0(p:iC):Cm p=some (lD p):=by
 unfold Cm lD;simp[dh]
 grind
def Au(e:cP):Bool:=aT e.line 0 1023&&((e.code==1 ||e.code==2)&&aT e.times 1 999)
def qB(e x:cP):Bool:=x.line==e.line&&x.code==e.code
def N1(l:aa cP)(i:Nat):Bool:=match l[i]? with
 |some e=>Au e && !((l.take i).any (qB e))
 |none=>false
def UJ{l:aa cP}{i:Nat}(h:i<l.length):N1 l i=(Au l[i] && !((l.take i).any (qB l[i]))):=by
 unfold N1;rw[bJ h]
def oe(l:aa cP):Bool:=(List.range l.length).all (N1 l)&&decide ((l.length:Int)<=6)
def apY(l:aa cP){i:Nat}(h:i<l.length)(hl:l.length<1073741824):
  iter Ex bq ((l,(),l,(l.length:Int),(i:Int),((l.take i).drop 0),(((l.take i).drop 0).length:Int),(0:Int),()),((l[i].line,l[i].code,l[i].times,()),()))=some (bif (l.take i).any (qB l[i])then .inl ((false,()),())else .inr (.inl ((l,l,(l.length:Int),(i:Int),()),()))):=by
 rw[List.drop_zero];have hlen:(l.take i).length=i:=by rw[jF];omega
 generalize C:l[i]=r;generalize D:l.take i=t at *
 have e:=jy (step:=Ex) t (λx=>!(qB r x)) (λj=>((l,(),l,(l.length:Int),(i:Int),t,(t.length:Int),(j:Int),()),((r.line,r.code,r.times,()),()))) _ _ bq (λk h=>by
  unfold Ex qB aM bF xG xI;dsimp only;rw[aY,au,aO ⟨by omega,by omega⟩];simp only[bE];rw[cc,BEq.comm (a:=r.line),BEq.comm (a:=r.code)];cases t[k].line==r.line<;>cases t[k].code==r.code<;>rfl) (by
  unfold Ex aM bF xG xI;dsimp only;rw[bh,ax]) (cu)
 grind
def ad4(l:aa cP)(hl:l.length<1073741824):Ie l=some (oe l):=by
 unfold Ie oe cY;have e:=jy (step:=Ic) _ (N1 l) (λi=>((l,l,l.length,i,()),())) _ _ bq (λk h=>by
   rw[eo]at h;rw[lH,UJ h];have hq:=apY l h hl;unfold Ic Au aM bF xG xI cY;dsimp only;rw[aY,au,aO ⟨by omega,by omega⟩];simp only[bE,dh,ay,bne];rw[aV ⟨by omega,by omega,by omega⟩];rw[show (0:Int).toNat=0 from rfl,hq];cases aT l[k].line 0 1023<;>cases l[k].code==1<;>cases l[k].code==2<;>cases aT l[k].times 1 999<;>cases (l.take k).any (qB l[k])<;>first|rfl|(simp only[au,ax,bL,Bool.not_false,ay,Sum.elim_inr,gD];rw[cc];rfl)) (by
   rw[eo];unfold Ic aM bF xG xI cY;dsimp only;rw[bh,ax]) (by rw[eo];exact cu)
 refine(bz (λo=>Option.bind o _) e).trans ?_
 cases (List.range _).all _<;>rfl
def N2(l:aa Int)(x:Int)(hl:l.length<1073741824):Cj l x=some (jA (λe=>x==e) l):=by
 unfold Cj jA;have e:=Jg (step:=H7) l (λe=>x==e) (λi=>((l,x,l.length,i,()),())) _ _ bq (λk h=>by
  unfold H7 aM bF xG xI;dsimp only;rw[aY,au,aO ⟨by omega,by omega⟩];simp only[bE];rw[cc];cases x==l[k]<;>rfl) (by
  unfold H7 aM bF xG xI;dsimp only;rw[bh,ax]) (cu hl)
 rw[dm]at e;rw[e];cases l.findIdx? _<;>rfl
def Jh(t:cX)(i:Nat):Bool:=match t.rows[i]?,t.counts[i]? with
 |some r,some c=>aT r (-1) 15&&(aT c t.fj 100000&&((r != -1 ||c==0)&&(r == -1 ||!((t.rows.take i).any λx=>r==x))))
 |_,_=>false
def N3{t:cX}{i:Nat}(h:i<t.rows.length)(C:i<t.counts.length):Jh t i=(aT t.rows[i] (-1) 15&&(aT t.counts[i] t.fj 100000&&((t.rows[i] != -1 || t.counts[i]==0)&&(t.rows[i] == -1 || !((t.rows.take i).any λx=>t.rows[i]==x))))):=by
 unfold Jh;rw[bJ h,bJ C]
def lY(t:cX):Bool:=aT (t.rows.length:Int) 1 16&&((t.rows.length:Int)==(t.counts.length:Int)&&(aT t.fj 0 100000&&(List.range t.rows.length).all (Jh t)))
def UK(t:cX):Ah t=some (lY t):=by
 unfold Ah lY cY;simp only[dh,ay];cases D:aT (t.rows.length:Int) 1 16 with
 |false=>rfl
 | true=>
  have D:=br.1 D;by_cases C:(t.rows.length:Int)=(t.counts.length:Int)
  ·simp only[C,bne_self_eq_false,iS,bL,ax,cJ];cases T:aT t.fj 0 100000 with
   |false=>rfl
   | true=>
    have e:=jy (step:=H8) (List.range t.rows.length) (Jh t) (λi=>(((),t.rows,(t.rows.length:Int),(i:Int),()),((t.rows,t.counts,t.fj,()),()))) (.inl ((false,()),())) (.inr (.inl ((),()))) bq (λk h=>by
     rw[eo]at h;have E:k<t.counts.length:=by omega
     rw[lH,N3 h E];unfold H8 aM bF xG xI;dsimp only;rw[aY,au,aO ⟨by omega,by omega⟩,aO ⟨by omega,by omega⟩,aO ⟨by omega,by omega⟩];simp only[bE,dh,ay,N2 _ _ (show t.rows.length<1073741824 by omega)];rw[ad2 (p:=λe=>t.rows[k]==e) h (by simp),cc];simp only[bne];cases aT t.rows[k] (-1) 15<;>cases aT t.counts[k] t.fj 100000<;>cases t.rows[k] == -1<;>cases t.counts[k]==0<;>cases (t.rows.take k).any (λe=>t.rows[k]==e)<;>rfl) (by
     rw[eo];unfold H8 aM bF xG xI;dsimp only;rw[bh,ax]) (by rw[eo];exact cu)
    rw[dm,C]at e;simp only[bL,ax,cJ]
    refine(bz (λo=>Option.bind o _) e).trans ?_
    rw[ay];cases (List.range t.rows.length).all (Jh t)<;>rfl
  ·have I:((t.rows.length:Int)==(t.counts.length:Int))=false:=by simp[C]
   have O:((t.counts.length:Int) != (t.rows.length:Int))=true:=gR λh=>C h.symm
   rw[I,O];rfl
def w9(g:aH):W6 ((9:Int)*(W6 (aI g+(1:Int))))=9*(aI g+1):=by
 have:=ey g;rw[aZ (n:=aI g+1),aZ]
def Ji(k:Int):yg k=some (aT k 1 5):=by
 unfold yg;rw[dh];rfl
def apZ(n:Int)(u:Bool)(k:Int):Cn n u k=some (bif u then aT n 0 (W6 (k-1))else n==0):=by
 unfold Cn;rw[dh];cases u<;>rfl
def qC(g:aH)(i:Nat):Bool:=decide ((i:Int) / 9<aI g)==decide ((i:Int) % 9+1<=5)
def ap0(g:aH){i:Nat}(hi:i<1000):∃ c,Ch g (i:Int)=some (c,qC g i):=by
 unfold Ch qC;rw[jz,ay,Int.tdiv_eq_ediv_of_nonneg (by omega),r4 (by omega),aZ,aZ,Ji];have:aT (i % 9+1) 1 5=decide ((i:Int) % 9+1 <= 5):=by
  simp[aT];omega
 rw[this];cases decide (i / 9<aI g)<;>exact⟨_,rfl⟩
def Jj(g:aH)(l:aa Int)(i:Nat):Bool:=match l[i]? with
 |some e=>aT e (-1) 1000000&&(qC g i ||e == -1)
 |none=>false
def N4{g:aH}{l:aa Int}{i:Nat}(h:i<l.length):Jj g l i=(aT l[i] (-1) 1000000&&(qC g i || l[i] == -1)):=by
 unfold Jj;rw[bJ h]
def qD(l:aa Int)(i:Nat):Bool:=match l[i]? with
 |some e=>aT e 0 1000000&&(i==0 ||(match l[i-1]? with|some x=>!(decide (x >= e))|none=>false))
 |none=>false
def N5{l:aa Int}(h:0<l.length):qD l 0=aT l[0] 0 1000000:=by
 unfold qD;rw[bJ h];simp
def Jk{l:aa Int}{i:Nat}(h:i+1<l.length):qD l (i+1)=(aT l[i+1] 0 1000000 && !(decide (l[i] >= l[i+1]))):=by
 unfold qD
 grind
def jR(g:aH)(r:dR):Bool:=cy g&&((r.last.length:Int)==9*(aI g+1)&&(!(decide ((r.bf.length:Int) > 4))&&((List.range r.last.length).all (Jj g r.last)&&(List.range r.bf.length).all (qD r.bf))))
def UL(g:aH)(r:dR):Et g r=some (jR g r):=by
 unfold Et jR cY;rw[qw,ay,jz];cases hg:cy g with
 |false=>rfl
 | true=>
  simp only[bL,ax,ay,cJ,w9];by_cases C:(r.last.length:Int)=9*(aI g+1)
  ·have O:=ey g;rw[C,bne_self_eq_false,ax,iS,cJ,<-C];cases D:decide ((r.bf.length:Int) > 4)with
   |true=>rfl
   | false=>
    have D:=of_decide_eq_false D;have l1:=jy (step:=HV) (List.range r.last.length) (Jj g r.last) (λi=>(((),(),r.last,(r.last.length:Int),(i:Int),()),((g.bI,g.aE,g.rows,g.aR,()),(r.last,r.bf,()),()))) (.inl ((false,()),())) (.inr (.inl (((),()),((r.last,r.bf,()),())))) bq (λk h=>by
     rw[eo]at h;obtain⟨c,E⟩:=ap0 g (i:=k) (by omega);rw[lH,N4 h];unfold HV aM bF xG xI;dsimp only;rw[aY,au,aO ⟨by omega,by omega⟩];simp only[bE,dh,ay,rO,E,bne];rw[cc];cases aT r.last[k] (-1) 1000000<;>cases qC g k<;>cases r.last[k] == -1<;>rfl) (by
     rw[eo];unfold HV aM bF xG xI;dsimp only;rw[bh,ax]) (by rw[eo];exact cu)
    have l2:=jy (step:=HW) (List.range r.bf.length) (qD r.bf) (λi=>(((),r.bf,(r.bf.length:Int),(i:Int),()),((r.last,r.bf,()),()))) (.inl ((false,()),())) (.inr (.inl ((),()))) bq (λk h=>by
     rw[eo]at h;rw[lH];unfold HW aM bF xG xI;dsimp only;rw[aY,au,aO ⟨by omega,by omega⟩];simp only[bE,dh,ay];cases k with
     | zero=>
      rw[N5 h];cases aT r.bf[0] 0 1000000 with
      |false=>rfl
      | true=>
       rw[bh];rfl
     | succ k=>
      rw[Jk h];have hw:W6 (((k+1:Nat):Int)-1)=(k:Int):=by rw[aZ];omega
      simp only[hw,bE];rw[aY (show ((k+1:Nat):Int) > 0 by omega),aO ⟨by omega,by omega⟩,cc];cases aT r.bf[k+1] 0 1000000<;>cases decide (r.bf[k] >= r.bf[k+1])<;>rfl) (by
     rw[eo];unfold HW aM bF xG xI;dsimp only;rw[bh,ax]) (by rw[eo];exact cu)
    rw[dm]at l1 l2;simp only[Bool.not_false,ax,cJ]
    refine(bz (λo=>Option.bind o _) l1).trans ?_
    rw[ay];cases (List.range r.last.length).all (Jj g r.last)with
    |false=>rfl
    | true=>
     simp only[au,Sum.elim_inr,gD,cJ]
     refine(bz (λo=>Option.bind o _) l2).trans ?_
     rw[ay];cases (List.range r.bf.length).all (qD r.bf)<;>rfl
  ·have I:((r.last.length:Int)==9*(aI g+1))=false:=by simp[C]
   rw[gR C,I];rfl
def ap1(l:aa Int)(x:Int)(hl:l.length<1073741824):MD l x=some (l.any λe=>e==x):=by
 unfold MD cY;have e:=jy (step:=HM) l (λe=>!(e==x)) (λi=>((l,x,i,()),())) _ _ bq (λk h=>by
  unfold HM aM bF xG xI;dsimp only;rw[aY,au,aO ⟨by omega,by omega⟩];simp only[bE];rw[cc];cases l[k]==x<;>rfl) (by
  unfold HM aM bF xG xI;dsimp only;rw[bh,ax]) (cu hl)
 rw[dm]at e;rw[e];have:l.all (λe=>!(e==x)) = !l.any λe=>e==x:=by rw[List.any_eq_not_all_not,Bool.not_not]
 rw[this];cases l.any λe=>e==x<;>rfl
def ap2(l:aa Int)(x:Int)(hl:l.length<1073741824):MK l x=some (l.count x:Int):=by
 unfold MK bR;have e:=eJ (step:=HQ) _ (λi=>((x,((l.take i).count x),l,l.length,i,()),())) _ bq (λk h=>by
  unfold HQ aM xG xI;have C:(l.take k).count x <= k:=Nat.le_trans List.count_le_length (by rw[jF];omega);dsimp only;rw[aY,au,aO ⟨by omega,by omega⟩];simp only[bE];rw[List.take_succ_eq_append_getElem h,List.count_append,List.count_singleton,cc,cc];cases l[k]==x<;>rfl) (by
  unfold HQ aM xG xI;dsimp only;rw[bh,ax,mV]) (cu hl)
 simp_all
def ad5{x:Int}:∀ (l:aa Int),(∀ j (h:j<l.length),l[j]=x -> x ∉ l.take j) -> l.count x <= 1
 |[],_=>by simp
 | y :: ys,h=>by
  rw[List.count_cons];by_cases e:y=x
  ·have:x ∉ ys:=by
    intro C;have⟨j,E,D⟩:=iU.1 C;refine h (j+1) (by simp;omega) (by simpa using D) ?_;simp_all
   grind
  ·have:=ad5 ys λj E D C=>h (j+1) (by simp;omega) (by simpa using D) (by rw[List.take_succ_cons];exact List.mem_cons_of_mem _ C)
   simp_all
def ap3{x:Int}:∀ (l:aa Int) (j:Nat) (h:j<l.length),l[j]=x -> x∈l.take j -> 2 <= l.count x:=by
 intro l j h e C;have D:=List.count_pos_iff.2 C;have E:1 <= (l.drop j).count x:=List.count_pos_iff.2 (by rw[<- e];exact iU.2 ⟨0,by simp;omega,by simp⟩);have:l.count x=(l.take j).count x+(l.drop j).count x:=by rw[<- List.count_append,List.take_append_drop]
 omega
def rR(R M:Int)(L:aa Int)(j:Nat):Bool:=match L[j]? with
 |some e=>e==(j:Int) ||(aT e R M && !(decide ((L.count e:Int) > 1)))
 |none=>false
def Av(R M:Int)(L:aa Int)(j:Nat):Bool:=match L[j]? with
 |some e=>e==(j:Int) ||(aT e R M && !((L.take j).any λx=>x==e))
 |none=>false
def ap4(R M:Int)(L:aa Int)(Y:(L.length:Int)=R):(List.range L.length).all (rR R M L)=(List.range L.length).all (Av R M L):=by
 rw[Bool.eq_iff_iff,bT,bT];simp only[gi];constructor
 ·intro h j C;have:=h j C;unfold rR at this;unfold Av;rw[bJ C]at *
  simp only[dQ,aJ,fB,oA]at *
  rcases this with D|⟨D,U⟩
  ·simp_all
  ·refine .inr ⟨D,?_⟩;rw[kT];intro x O I;have I:x=L[j]:=by simpa using I
   have:=ap3 L j C rfl (I ▸ O);omega
 ·intro h j C;have:=h j C;unfold Av at this;unfold rR;rw[bJ C]at *
  simp only[dQ,aJ,fB,oA]at *
  rcases this with D|⟨D,U⟩
  ·simp_all
  ·refine .inr ⟨D,?_⟩;have Z:=(br.1 D).1;have:=ad5 (x:=L[j]) L λk T e O=>by
    have E:=h k T;unfold Av at E;rw[bJ T]at E;simp only[dQ,aJ,fB]at E;rcases E with h3|⟨_,h4⟩
    ·grind
    ·grind
   omega
def jS(m:aa Int)(R b:Nat):aa Int:=(m.take ((b+1)*R)).drop (b*R)
def Jl(m:aa Int)(R b:Nat):jS m R b=(m.drop (b*R)).take R:=by
 unfold jS;rw[List.drop_take,ji,Nat.add_sub_cancel_left]
def UM{m:aa Int}{R b:Nat}(h:(b+1)*R<=m.length):(jS m R b).length=R:=by
 rw[Jl,jF,List.length_drop];rw[ji]at h;omega
def yA{C R b j:Nat}(hb:b<C)(D:j <= R):b*R+j <= C*R:=by
 have:=jX R hb
 grind
def Jm(R:Nat)(M:Int)(m:aa Int)(i:Nat):Bool:=match m[i]? with
 |some e=>e==((i % R:Nat):Int) ||(aT e (R:Int) M && !(((m.take i).drop (i / R*R)).any λx=>x==e))
 |none=>false
def ad6{R:Nat}{M:Int}{m:aa Int}{b j:Nat}(C:j<R):Jm R M m (b*R+j)=Av (R:Int) M (jS m R b) j:=by
 unfold Jm Av;have D:(b*R+j) % R=j:=by rw[Nat.mul_comm,Nat.mul_add_mod,Nat.mod_eq_of_lt C]
 have E:(b*R+j) / R=b:=by rw[Nat.mul_comm,Nat.mul_add_div (by omega),Nat.div_eq_of_lt C,Nat.add_zero]
 have I:(jS m R b)[j]?=m[b*R+j]?:=by rw[Jl,List.getElem?_take_of_lt C,List.getElem?_drop]
 have O:(jS m R b).take j=(m.take (b*R+j)).drop (b*R):=by rw[Jl,List.take_take,List.drop_take,Nat.add_sub_cancel_left,Nat.min_eq_left (Nat.le_of_lt C)]
 simp_all
def N6{n:Nat}(h:n<4611686018427387904):W6 (n:Int)=(n:Int):=aZ
def ap5(R D:Nat)(E:0<R)(M:Int)(m:aa Int):(List.range (D*R)).all (Jm R M m)=(List.range D).all λb=>(List.range R).all (Av (R:Int) M (jS m R b)):=by
 rw[Bool.eq_iff_iff,bT];simp;constructor
 ·intro h b hb j C;rw[<- ad6 C];refine h _ ?_;have:=yA hb (show j+1 <= R from C);omega
 ·intro h i hi;have hb:i / R<D:=Nat.div_lt_of_lt_mul (by rw[Nat.mul_comm];exact hi);have C:i % R<R:=Nat.mod_lt _ E;have e:i / R*R+i % R=i:=by rw[Nat.mul_comm];exact Nat.div_add_mod i R
  have:=h _ hb _ C;rw[<- ad6 C,e]at this;exact this
def nG(g:aH)(s:dL):Bool:=kA g s.cF&&((s.map.length:Int)==((aI g).toNat*(g.rows-s.cF).toNat:Nat)&&(List.range (aI g).toNat).all λb=>(List.range (g.rows-s.cF).toNat).all (rR (g.rows-s.cF) (g.rows-1) (jS s.map (g.rows-s.cF).toNat b)))
def ad7{g:aH}{s:dL}{R C b:Nat}(D:g.rows-s.cF=(R:Int))(E:R<=16)(I:C<=8)(hb:b<C)(hl:s.map.length=C*R):Ep g s (b:Int)=some (b*R,(b+1)*R):=by
 have U:C*R<=8*16:=Nat.mul_le_mul I E;have Y:b*R+R<=C*R:=yA hb (dB R);have hw:W6 (g.rows-s.cF)=(R:Int):=by rw[D];exact aZ
 have O:W6 ((b:Int)*(R:Int))=((b*R:Nat):Int):=by rw[<-Int.natCast_mul];exact aZ
 have T:W6 (((b+1:Nat):Int)*(R:Int))=(((b+1)*R:Nat):Int):=by
  rw[<-Int.natCast_mul];exact aZ (by omega) (by rw[ji];omega)
 unfold Ep;rw[hw,cc,O,T,ji,aV ⟨by omega,by omega,by omega⟩];simp only[bE]
def ap6{g:aH}{s:dL}(R b:Int)(L:aa Int)(hg:cy g=true)(C:L.length<1073741824):
  iter Er bq (((),(),R,b,L,L,(L.length:Int),(0:Int),()),((g.bI,g.aE,g.rows,g.aR,()),(s.cF,s.map,()),()))=some (bif (List.range L.length).all (rR R (g.rows-1) L)then .inr (.inl (((),(),R,b,()),((g.bI,g.aE,g.rows,g.aR,()),(s.cF,s.map,()),())))else .inl ((false,()),())):=by
 have D:=fW hg;have e:=jy (step:=Er) (List.range L.length) (rR R _ L) (λi=>(((),(),R,b,L,L,L.length,i,()),((g.bI,g.aE,g.rows,g.aR,()),(s.cF,s.map,()),()))) _ _ bq (λk h=>by
  rw[eo]at h;rw[lH];unfold Er rR aM bF xG xI;dsimp only;rw[aY,au,aO ⟨by omega,by omega⟩,bJ h];simp only[bE,dh,ay,ap2 _ _ C,bne];rw[cc,aZ (n:=g.rows-1)];cases L[k]==(k:Int)<;>cases aT L[k] R (g.rows-1)<;>cases decide ((L.count L[k]:Int) > 1)<;>rfl) (by
  rw[eo];unfold Er aM bF xG xI;dsimp only;rw[bh,ax]) (by rw[eo];exact cu)
 simp_all
def ad8(g:aH)(s:dL):HS g s=some (nG g s):=by
 unfold HS nG cY;rw[UC,ay,UD];cases D:kA g s.cF with
 |false=>rfl
 | true=>
  obtain⟨hg,s0,s2,pX,ap7⟩:=UB D;have O:=ey g;have T:((tj g s.cF).1.map.length:Int)=(((aI g).toNat*(g.rows-s.cF).toNat:Nat):Int):=by
   unfold tj;rw[D,au,UA]
  rw[T];obtain⟨C,hb⟩:=fD O.1;obtain⟨R,E⟩:=fD (show 0<=g.rows-s.cF by omega);rw[hb,E];simp only[bE,bL,ax,cJ];by_cases hl:(s.map.length:Int)=((C*R:Nat):Int)
  ·have I:s.map.length=C*R:=by omega
   rw[hl,bne_self_eq_false,ax,iS,cJ];have hw:W6 (R:Int)=(R:Int):=aZ;have e:=jy (step:=HR) (List.range C) (λb=>(List.range R).all (rR (R:Int) (g.rows-1) (jS s.map R b))) (λi=>(((),(),(R:Int),(i:Int),()),((g.bI,g.aE,g.rows,g.aR,()),(s.cF,s.map,()),()))) (.inl ((false,()),())) (.inr (.inl ((),()))) bq (λk h=>by
    rw[eo]at h;rw[lH];have U:=yA (R:=R) h (dB R);have hlen:(jS s.map R k).length=R:=UM (by rw[ji,I];exact U);have Y:=ap6 (g:=g) (s:=s) (R:Int) (k:Int) (jS s.map R k) hg (by omega);unfold HR aM bF xG cY;dsimp only;rw[rO,jz,ay,hb,aY,au];have Z:Ep g (⟨s.cF,s.map⟩:dL) (k:Int)=some (k*R,(k+1)*R):=ad7 (s:=⟨s.cF,s.map⟩) E (by omega) (by omega) h I;rw[Z,ay];have hc:(Nat.ble (k*R) ((k+1)*R)&&Nat.ble ((k+1)*R) s.map.length)=true:=by
     rw[aJ];exact⟨jj (by rw[ji];omega),jj (by rw[ji];omega)⟩
    rw[hc,au]
    refine(bz (λo=>Option.bind o _) Y).trans ?_
    rw[ay,hlen];cases (List.range R).all (rR (R:Int) (g.rows-1) (jS s.map R k))with
    |false=>rfl
    | true=>
     simp only[au,Sum.elim_inr,gD];rw[cc]) (by
    rw[eo];unfold HR aM bF xG cY;dsimp only;rw[rO,jz,ay,hb,bh,ax]) (by rw[eo];exact cu)
   rw[dm]at e;rw[hw]
   refine(bz (λo=>Option.bind o _) e).trans ?_
   rw[ay];cases (List.range C).all λb=>(List.range R).all (rR (R:Int) (g.rows-1) (jS s.map R b))<;>rfl
  ·have e2:((s.map.length:Int)==((C*R:Nat):Int))=false:=by simp only[beq_eq_false_iff_ne];exact hl
   rw[gR hl,e2];rfl
def ap8(g:aH)(s:dL):ME g s=some (nG g s):=by
 unfold ME nG cY;rw[apQ,ay,UD];cases I:kA g s.cF with
 |false=>rfl
 | true=>
  obtain⟨hg,s0,s2,pX,ap7⟩:=UB I;have O:=ey g;have gb:=fW hg;obtain⟨C,hb⟩:=fD O.1;obtain⟨R,T⟩:=fD (show 0<=g.rows-s.cF by omega);have hm:C*R<=8*16:=Nat.mul_le_mul (by omega) (by omega);have hw:W6 (R:Int)=(R:Int):=aZ;have hmul:W6 ((C:Int)*(R:Int))=((C*R:Nat):Int):=by rw[<-Int.natCast_mul];exact aZ
  rw[ET,ay,hb,T,hw,hmul];simp only[bE,bL,ax,cJ];by_cases hl:(s.map.length:Int)=((C*R:Nat):Int)
  ·have U:s.map.length=C*R:=by omega
   rw[hl,bne_self_eq_false,ax,iS,cJ];have e:=jy (step:=HN) (List.range (C*R)) (Jm R (g.rows-1) s.map) (λi=>(((),(),(R:Int),(i:Int),()),((g.bI,g.aE,g.rows,g.aR,()),(s.cF,s.map,()),()))) (.inl ((false,()),())) (.inr (.inl ((),()))) bq (λk h=>by
    rw[eo]at h;rw[lH];have Y:k<s.map.length:=by omega
    have Z:(k:Int).tmod (R:Int)=((k % R:Nat):Int):=(Int.ofNat_tmod k R).symm;have hd:(k:Int).tdiv (R:Int)=((k / R:Nat):Int):=(Int.ofNat_tdiv k R).symm;have Jn:k / R<=k:=Nat.div_le_self k R;have E:k / R*R<=k:=Nat.div_mul_le_self k R;have w1:W6 (((k / R:Nat):Int))=((k / R:Nat):Int):=N6 (Nat.lt_of_le_of_lt Jn (by omega));have w2:W6 (((k / R:Nat):Int)*(R:Int))=((k / R*R:Nat):Int):=by rw[<-Int.natCast_mul];exact N6 (Nat.lt_of_le_of_lt E (by omega))
    unfold HN Jm aM bF xG xI;rw[bJ Y];dsimp only;rw[aY,au,aO ⟨by omega,by omega⟩,aW,aO ⟨by omega,by omega⟩,aW,Z,hd,w1,w2,aV ⟨Int.natCast_nonneg _,Int.ofNat_le.2 E,by omega⟩,aO ⟨by omega,by omega⟩];simp only[bE,Ur,ay];rw[ap1 _ _ (by rw[List.length_drop,jF];omega),ay,cc,aZ (n:=g.rows-1)];cases s.map[k]==((k % R:Nat):Int)<;>cases aT s.map[k] (R:Int) (g.rows-1)<;>cases ((s.map.take k).drop (k / R*R)).any (λx=>x==s.map[k])<;>rfl) (by
    rw[eo];unfold HN aM bF xG xI;dsimp only;rw[bh,ax]) (by rw[eo];exact cu)
   rw[dm]at e
   refine(bz (λo=>Option.bind o _) e).trans ?_
   rw[ay,ap5 R C (by omega)];have hAB:((List.range C).all λb=>(List.range R).all (Av (R:Int) (g.rows-1) (jS s.map R b)))=(List.range C).all λb=>(List.range R).all (rR (R:Int) (g.rows-1) (jS s.map R b)):=by
    rw[Bool.eq_iff_iff,bT,bT]
    refine forall_congr' λb=>?_
    refine imp_congr_right λD=>?_
    have D:=gi.1 D;have hk:=yA (R:=R) D (dB R);have hlen:(jS s.map R b).length=R:=UM (by rw[ji,U];exact hk);have:=ap4 (R:Int) (g.rows-1) (jS s.map R b) (by rw[hlen]);rw[hlen]at this;rw[this]
   rw[hAB];cases (List.range C).all λb=>(List.range R).all (rR (R:Int) (g.rows-1) (jS s.map R b))<;>rfl
  ·have e2:((s.map.length:Int)==((C*R:Nat):Int))=false:=by simp only[beq_eq_false_iff_ne];exact hl
   rw[gR hl,e2];rfl
def fZ(g:aH)(s:dL):aH:=bif nG g s then ⟨g.bI,g.aE,W6 (g.rows-s.cF),g.aR⟩else ⟨0,0,0,0⟩
def N7(g:aH)(s:dL):Cg g s=some (fZ g s):=by
 unfold Cg fZ;rw[ad8,ay];cases nG g s<;>rfl
def ap9(g:aH)(s:dL):MF g s=some (fZ g s):=by
 unfold MF fZ;rw[ap8,ay];cases nG g s<;>rfl
def jT(c:av):av:=c
def eN(a x:aQ):Bool:=x.aq==a.aq&&(x.row==a.row&&(x.bW==a.bW&&true))
def ad9(l:aa aQ)(a:aQ)(hl:l.length<1073741824):Ev l a=some (jA (eN a) l):=by
 unfold Ev jA;have e:=Jg (step:=H9) l (eN a) (λi=>((l,(),l.length,i,()),((a.aq,a.row,a.bW,()),()))) _ _ bq (λk h=>by
  unfold H9 eN aM bF xG xI;dsimp only;rw[aY,au,aO ⟨by omega,by omega⟩];simp only[bE];rw[cc,BEq.comm (a:=a.aq),BEq.comm (a:=a.row),BEq.comm (a:=a.bW)];cases (l[k].aq==a.aq&&(l[k].row==a.row&&(l[k].bW==a.bW&&true)))<;>rfl) (by
  unfold H9 aM bF xG xI;dsimp only;rw[bh,ax]) (cu hl)
 rw[dm]at e;rw[e];cases l.findIdx? _<;>rfl
def partAt(c:av)(i:Nat):Bool:=match c.bB[i]?,c.guard[i]? with
 |some t,some x=>lY t&&aT x 3 1000
 |_,_=>false
def Aw(c:av)(i:Nat):Bool:=match c.pending[i]? with
 |some a=>fX c.config.ak a&&(a.bW==0 && !((c.pending.take i).any (eN a)))
 |none=>false
def tq(c:av):Bool:=(c.az.aC.length:Int)==aI c.config.ak&&((c.bB.length:Int)==aI c.config.ak&&((c.guard.length:Int)==aI c.config.ak&&(!(decide ((c.pending.length:Int) > 128))&&((List.range c.bB.length).all (partAt c)&&(List.range c.pending.length).all (Aw c)))))
def aea(c:av)(G:(Int×Int×Int×Int×ah))(n i:Int):MO (((),(),n,i,()),(jT c,G,()))=(bif (decide (i<n))then if C:0<=i/\i.toNat<c.bB.length then (Ah (c.bB[i.toNat]'C.2)).bind λD=>bif (!D)then some (.inr (.inl ((false,()),())))else if E:0<=i/\i.toNat<c.guard.length then (bZ (c.guard[i.toNat]'E.2) (3:Int) (1000:Int)).bind λI=>bif (!I)then some (.inr (.inl ((false,()),())))else some (.inl (((),(),n,(W6 (i+(1:Int))),()),(jT c,G,())))else none else none else some (.inr (.inr (.inl (((),(),()),(jT c,G,())))))):=rfl
def aeb(c:av)(g:aH)(l:aa aQ)(n i:Int):MP (((),(),l,n,i,()),(jT c,(g.bI,g.aE,g.rows,g.aR,()),()))=(bif (decide (i<n))then if C:0<=i/\i.toNat<l.length then (Ci g (l[i.toNat]'C.2)).bind λD=>bif (!D)then some (.inr (.inl ((false,()),())))else bif ((l[i.toNat]'C.2).bW != (0:Int))then some (.inr (.inl ((false,()),())))else (Ev c.pending (l[i.toNat]'C.2)).bind λE=>bif (E != i)then some (.inr (.inl ((false,()),())))else some (.inl (((),(),l,n,(W6 (i+(1:Int))),()),(jT c,(g.bI,g.aE,g.rows,g.aR,()),())))else none else some (.inr (.inr (.inl ((),()))))):=rfl
def aqa(c:av)(hd:c.az.aC.length<1073741824):MQ c=some (fY c.az&&tq c):=by
 unfold MQ tq cY;rw[jz,ay,Jf _ hd,ay];cases fY c.az with
 |false=>rfl
 |true=>
 simp only[bL,ax,cJ];have b1:=ey c.config.ak;by_cases C:(c.az.aC.length:Int)=aI c.config.ak
 ·by_cases D:(c.bB.length:Int)=aI c.config.ak
  ·by_cases E:(c.guard.length:Int)=aI c.config.ak
   ·have T:((c.az.aC.length:Int) != aI c.config.ak)=false:=by simp[C]
    have U:((c.bB.length:Int) != aI c.config.ak)=false:=by simp[D]
    have Y:((c.guard.length:Int) != aI c.config.ak)=false:=by simp[E]
    have Z:((c.az.aC.length:Int)==aI c.config.ak)=true:=by simp[C]
    have q2:((c.bB.length:Int)==aI c.config.ak)=true:=by simp[D]
    have q3:((c.guard.length:Int)==aI c.config.ak)=true:=by simp[E]
    rw[T,U,Y,Z,q2,q3];simp only[ax,cJ];cases I:decide ((c.pending.length:Int) > 128)with
    |true=>rfl
    | false=>
     have I:=of_decide_eq_false I;have l1:=jy (step:=MO) (List.range c.bB.length) (partAt c) (λi=>(((),(),(c.bB.length:Int),(i:Int),()),(jT c,(c.config.ak.bI,c.config.ak.aE,c.config.ak.rows,c.config.ak.aR,()),()))) (.inl ((false,()),())) (.inr (.inl (((),(),()),(jT c,(c.config.ak.bI,c.config.ak.aE,c.config.ak.rows,c.config.ak.aR,()),())))) bq (λk h=>by
      rw[eo]at h;rw[lH,aea,aY,au,aO ⟨by omega,by omega⟩,aO ⟨by omega,by omega⟩];simp only[bE,UK,dh,ay];unfold partAt;rw[bJ h,bJ (show k<c.guard.length by omega),cc];simp only;cases lY c.bB[k]<;>cases aT (c.guard[k]'(by omega)) 3 1000<;>rfl) (by
      rw[eo,aea,bh,ax]) (by rw[eo];exact cu)
     have l2:=jy (step:=MP) (List.range c.pending.length) (Aw c) (λi=>(((),(),c.pending,(c.pending.length:Int),(i:Int),()),(jT c,(c.config.ak.bI,c.config.ak.aE,c.config.ak.rows,c.config.ak.aR,()),()))) (.inl ((false,()),())) (.inr (.inl ((),()))) bq (λk h=>by
      rw[eo]at h;rw[lH,aeb,aY,au,aO ⟨by omega,by omega⟩];simp only[bE,Ut,ay,ad9 _ _ (show c.pending.length<1073741824 by omega),bne];have O:=ad2 (p:=eN c.pending[k]) h (by simp[eN]);rw[bne]at O;rw[O];unfold Aw;rw[bJ h,cc];simp only;cases fX c.config.ak c.pending[k]<;>cases c.pending[k].bW==0<;>cases (c.pending.take k).any (eN c.pending[k])<;>rfl) (by
      rw[eo,aeb,bh,ax]) (by rw[eo];exact cu)
     rw[dm]at l1 l2;simp only[Bool.not_false,ax,cJ]
     refine(bz (λo=>Option.bind o _) l1).trans ?_
     rw[ay];cases (List.range c.bB.length).all (partAt c)with
     |false=>rfl
     | true=>
      simp only[au,Sum.elim_inr,gD,cJ]
      refine(bz (λo=>Option.bind o _) l2).trans ?_
      rw[ay];cases (List.range c.pending.length).all (Aw c)<;>rfl
   ·simp[C,D,gR E,E]
  ·simp[C,gR D,D]
 ·simp[gR C,C]
def uJ(n:Int)(u:Bool)(k:Int):Bool:=bif u then aT n 0 (k-1)else n==0
def cC(g:aH)(c:aP):Bool:=cy g&&(aT c.kind 1 9&&(uJ c.aq (aT c.kind 1 5) (aI g)&&(uJ c.row (c.kind==1) g.rows&&uJ c.bW (c.kind==2 ||c.kind==3) g.aR)))
def aqb(k:Int):M5 k=some (k==1):=by
 unfold M5;rfl
def aqc(k:Int):M6 k=some (k==2 || k==3):=by
 unfold M6;cases k==2<;>rfl
def UN{n k:Int}(u:Bool)(h:-1000<k/\k<1000):Cn n u k=some (uJ n u k):=by
 rw[apZ,aZ];rfl
def N8(g:aH)(c:aP):Co g c=some (cC g c):=by
 unfold Co cC;rw[qw];cases hg:cy g with
 |false=>rfl
 | true=>
  have C:=ey g;have D:=fW hg;unfold TV;simp only[au,jz,ay,dh,Ji,aqb,aqc,UN _ (show -1000<aI g/\aI g<1000 by omega),UN _ (show -1000<g.rows/\g.rows<1000 by omega),UN _ (show -1000<g.aR/\g.aR<1000 by omega),cJ]
  grind
def qE{g:aH}{c:aP}(h:cC g c=true):cy g=true/\(1 <= c.kind/\c.kind <= 9)/\(c.kind <= 5 -> 0 <= c.aq/\c.aq<aI g)/\(5<c.kind -> c.aq=0):=by
 simp[cC,aJ,br]at h
 refine⟨h.1,h.2.1,λD=>?_,λD=>?_⟩
 ·have:=h.2.2.1;rw[uJ,show aT _ 1 5=true from br.2 ⟨h.2.1.1,D⟩,au,br]at this;omega
 ·have:=h.2.2.1;have C:aT c.kind 1 5=false:=by
   cases C:aT _ 1 5 with
   |false=>rfl
   |true=>have:=br.1 C;omega
  rwa [uJ,C,ax,eG]at this
def kinds{k:Int}(h:1<=k/\k<=9):k=1\/k=2\/k=3\/k=4\/k=5\/k=6\/k=7\/k=8\/k=9:=by omega
def ck(r:bM)(b:Int):ep:=r.aE.getD b.toNat ⟨false,0⟩
def gG(r:bM)(c:aP):Bool:=
 bif c.kind==1 ||c.kind==5 then r.aN==0 && !(ck r c.aq).open_ else
 bif c.kind==2 ||c.kind==3 ||c.kind==4 then r.aN==0&&(ck r c.aq).open_ else
 bif c.kind==6 then r.aN==0 else
 bif c.kind==8 then r.aN==0&&r.aE.all (λb=>!b.open_)else
 bif c.kind==7 then r.aN==1 else r.aN==2
def bN(r:bM)(c:aP):bM:=
 bif c.kind==1 then ⟨r.aE.set c.aq.toNat ⟨true,c.row⟩,r.aN⟩else
 bif c.kind==4 then ⟨r.aE.set c.aq.toNat ⟨false,0⟩,r.aN⟩else
 bif c.kind==6 then ⟨r.aE,1⟩else
 bif c.kind==8 then ⟨r.aE,2⟩else
 bif c.kind==7 ||c.kind==9 then ⟨r.aE,0⟩else r
def aqd{r:bM}{b:Int}(h:b.toNat<r.aE.length):r.aE[b.toNat]=ck r b:=by
 simp[ck,h]
def aqe(r:bM):(((opens 0 r.aE).length:Int)==0)=r.aE.all λb=>!b.open_:=by
 rw[<-ad0 0 r.aE,Bool.eq_iff_iff];simp only[eG];omega
def UO(g:aH)(r:bM)(c:aP):Iw g r c=some (kN g r&&(cC g c&&gG r c)):=by
 unfold Iw xI;rw[ad1,ay];cases C:kN g r with
 |false=>rfl
 | true=>
  rw[N8,ay];cases D:cC g c with
  |false=>rfl
  | true=>
   have⟨hg,E,hb,_⟩:=qE D;have hlen:(r.aE.length:Int)=aI g:=by
    simp[kN,aJ,eG]at C;simp_all
   have I:=ey g;have hb:c.kind <= 5 -> 0 <= c.aq/\c.aq.toNat<r.aE.length:=λh=>by have:=hb h;omega
   have hl:r.aE.length<1073741823:=by omega
   simp only[bL,ax,cJ];unfold gG;rcases kinds E with h|h|h|h|h|h|h|h|h
   case inr.inr.inr.inr.inr.inr.inr.inl=>simp[h,NT r hl,aqe];cases r.aN==0<;>rfl
   all_goals (try (have hb:=hb (by omega)))<;>simp[h,hb,aqd]<;>(cases r.aN==0<;>rfl)
def kO(g:aH)(r:bM)(c:aP):Bool:=kN g r&&(cC g c&&gG r c)
def EY(g:aH)(r:bM)(c:aP):bM×Bool:=bif kO g r c then (bN r c,true)else (r,false)
def v5{g:aH}{r:bM}{c:aP}(h:kO g r c=true):cy g=true/\(r.aE.length:Int)=aI g/\(1 <= c.kind/\c.kind <= 9)/\(c.kind <= 5 -> 0 <= c.aq/\c.aq.toNat<r.aE.length):=by
 simp[kO,aJ]at h;have⟨hg,D,hb,_⟩:=qE h.2.1;have C:=h.1;simp[kN,aJ,eG]at C;simp_all
def aqf(r:bM):(⟨r.aE,r.aN⟩:bM)=r:=rfl
def aqg(r:bM)(h:r.aE.length<1073741824):Ej r=some r:=by
 unfold Ej xA xZ;rw[show ([]).length+r.aE.length=r.aE.length by simp,eM h];rfl
def UP(g:aH)(r:bM)(c:aP)(h:r.aE.length<1073741824):ym g r c=some (EY g r c):=by
 unfold ym EY xL;rw[aqg r h,UO];change (bif !(kO g r c)then _ else _)=_;cases C:kO g r c with
 |false=>rfl
 | true=>
  have⟨hg,hlen,D,hb⟩:=v5 C;unfold bN
  grind
def kP(g:aH):bM:=⟨List.replicate (aI g).toNat ⟨false,0⟩,0⟩
def UQ(g:aH):Ee g=some (kP g):=by
 have C:=ey g;unfold Ee kP;rw[qw,ay];cases hg:cy g with
 | false=>
  have:aI g=0:=by simp[aI,hg]
  rw[this];rfl
 | true=>
  simp only[bL,ax,jz,ay];rw[aV ⟨by omega,by omega,by omega⟩]
def aec(r:bM)(c:aP):(bN r c).aE.length=r.aE.length:=by
 unfold bN
 grind
def pg(t:cg)(a b:Int):Int:=
 bif a==1 then (bif b==2 ||b==3 then t.qR else bif b==4 then t.jY else bif b==1 ||b==5 then W6 (t.jY+t.rp)else 0)else
 bif a==2 then (bif b==4 then t.mW else bif b==1 ||b==5 then W6 (t.mW+t.rp)else 0)else
 bif a==3 then (bif b==4 then t.wr else bif b==1 ||b==5 then W6 (t.wr+t.rp)else 0)else
 bif a==4 then (bif b==1 ||b==5 then t.rp else 0)else
 bif a==5 then (bif b==1 ||b==5 then t.tM else 0)else 0
def tu(t:cg)(a b:Int)(C:Bool):Int:=
 bif a==7 then t.xp else bif a==9 then t.xs else
 bif (a==6&&b==7) ||(a==8&&b==9)then t.tN else
 bif a==1&&b==1 then (bif C then t.oC else t.r5)else
 bif (a==2&&b==2) ||(a==3&&b==3)then (bif C then t.r7 else t.r6)else
 bif a==3&&b==2 then (bif C then t.r9 else t.r8)else
 bif a==2&&b==3 then t.vc else
 bif a==5&&b==5 then t.oC else
 bif a==2&&b==6 then t.mW else bif a==3&&b==6 then t.wr else
 bif b==8 then pg t a 1 else 0
def aqh(t:cg){a b:Int}(C:1<=a/\a<=9)(hb:1<=b/\b<=9):M8 t a b=some (pg t a b):=by
 rcases kinds C with rfl|rfl|rfl|rfl|rfl|rfl|rfl|rfl|rfl<;>rcases kinds hb with rfl|rfl|rfl|rfl|rfl|rfl|rfl|rfl|rfl<;>kernel_rfl
def UR(t:cg){a b:Int}(C:Bool)(D:1<=a/\a<=9)(hb:1<=b/\b<=9):M9 t a b C=some (tu t a b C):=by
 cases C<;>rcases kinds D with rfl|rfl|rfl|rfl|rfl|rfl|rfl|rfl|rfl<;>rcases kinds hb with rfl|rfl|rfl|rfl|rfl|rfl|rfl|rfl|rfl<;>kernel_rfl
def pn(a b:aP):Bool:=aT a.kind 1 5&&aT b.kind 1 5
def uK(g:aH)(a b:aP):Bool:=pn a b&&(W6 (a.aq.tdiv g.aE)==W6 (b.aq.tdiv g.aE))
def fy(g:aH)(t:cg)(a b:aP):Int:=
 bif pn a b&&a.aq==b.aq then max (max 1 (tu t a.kind b.kind (uK g a b))) (pg t a.kind b.kind)else max 1 (tu t a.kind b.kind (uK g a b))
def US(x y:Int):(if x > y then x else y)=max x y:=by
 rw[Int.max_def];split<;>split<;>omega
def aed{g:aH}{b:Int}(h:0<=b/\b<aI g)(hg:cy g=true):Iy g b=some (W6 (b.tdiv g.aE)):=by
 have C:=ey g;have D:=fW hg;unfold Iy;rw[jz,ay,dh,ay,aZ,br.2 ⟨h.1,by omega⟩,bL,ax,aW]
def aee{k:Int}(h:1<=k/\k<=9):aT k 1 5=decide (k<=5):=by
 unfold aT;rw[aY h.1,cJ]
def aef{g:aH}(t:cg){a b:aP}(hg:cy g=true)(C:1 <= a.kind/\a.kind <= 9)(D:1 <= b.kind/\b.kind <= 9)(E:a.kind <= 5 -> 0 <= a.aq/\a.aq<aI g)(I:b.kind <= 5 -> 0 <= b.aq/\b.aq<aI g):Ak g t a b=some (fy g t a b):=by
 unfold Ak fy uK pn;simp only[Ji,ay];cases O:aT a.kind 1 5 with
 | false=>
  simp;rw[UR t false C D,ay,US,Int.max_comm]
 | true=>
  cases T:aT b.kind 1 5 with
  | false=>
   simp;rw[UR t false C D,ay,US,Int.max_comm]
  | true=>
   have U:=br.1 O;have Y:=br.1 T;simp only[au,cJ];rw[aed (E U.2) hg,ay,aed (I Y.2) hg,ay,UR t _ C D,ay,aqh t C D];cases a.aq==b.aq with
   |false=>grind
   |true =>grind
def aqi(g:aH)(t:cg)(a b:aP):1<=fy g t a b:=by
 unfold fy;cases pn a b&&a.aq==b.aq<;>simp only[au,ax]<;>omega
def UT{t:cg}(h:ja t=true):∀ x∈rP t,1 <= x/\x <= 64:=by
 simp[ja,aJ,bT]at h;exact λx C=>br.1 (h.1 x C)
def aeg{t:cg}(h:ja t=true)(a b:Int):0 <= pg t a b/\pg t a b <= 128:=by
 have hb:=UT h;simp only[rP,gv,List.not_mem_nil,or_false,forall_eq_or_imp,forall_eq]at hb;have⟨C,D,E,I,O,T,U,Y,Z,CE,yB,qh,rS,uL,v7,Ax,Ay⟩:=hb;unfold pg;rw[aZ (n:=t.jY+t.rp),aZ (n:=t.mW+t.rp),aZ (n:=t.wr+t.rp)]
 grind
def qF{c:Bool}{x y a b:Int}(C:a<=x/\x<=b)(D:a<=y/\y<=b):a<=(bif c then x else y)/\(bif c then x else y)<=b:=by
 cases c
 ·exact D
 ·exact C
def aqj{t:cg}(h:ja t=true)(a b:Int)(n:Bool):0 <= tu t a b n/\tu t a b n <= 128:=by
 have hb:=UT h;simp[rP,gv,forall_eq_or_imp,forall_eq]at hb;have C:=aeg h a 1
 repeat' (first|exact C|refine qF ?_ ?_|omega)
def gL(g:aH)(c:aP):Int:=9*(bif aT c.kind 1 5 then c.aq else aI g)+c.kind-1
def EZ{g:aH}{c:aP}(h:cC g c=true):0 <= gL g c/\gL g c<9*(aI g+1):=by
 have⟨hg,C,hb,_⟩:=qE h;have D:=ey g;unfold gL
 grind
def aqk{g:aH}{c:aP}(h:cC g c=true):Ns g c=some (gL g c):=by
 have⟨hg,C,hb,_⟩:=qE h;have D:=ey g;unfold Ns gL;simp[jz,ay,Ji];cases hu:aT _ 1 5 with
 | true=>
  have:=br.1 hu;simp;rw[aZ (n:=9*c.aq),aZ (n:=9*c.aq+c.kind),aZ]
 | false=>
  simp;rw[aZ (n:=9*aI g),aZ (n:=9*aI g+c.kind),aZ]
def aql(r:dR)(C:r.last.length<1073741824)(D:r.bf.length<1073741824):El r=some r:=by
 unfold El xA xZ;rw[show ([]).length+r.last.length=r.last.length by simp,eM C,show ([]).length+r.bf.length=r.bf.length by simp,eM D];rfl
def uM(r:dR)(x:Int):Bool:=match r.bf.getLast? with
 |some y=>decide (x<=y)
 |none=>false
def Az(l:aa Int)(x:Int):aa Int:=(l++[x]).drop (l.length+1-4)
def gx(g:aH)(r:dR)(e:bO):dR:=
 bif jR g r&&(cC g e.cmd&&(aT e.at_ 0 1000000 && !(e.cmd.kind==1&&uM r e.at_)))then ⟨r.last.set (gL g e.cmd).toNat e.at_,bif e.cmd.kind==1 then Az r.bf e.at_ else r.bf⟩else r
def E0{g:aH}{r:dR}(h:jR g r=true):cy g=true/\(r.last.length:Int)=9*(aI g+1)/\r.bf.length <= 4:=by
 simp[jR,aJ,eG,fB,oA]at h
 grind
def aqm{l:aa Int}(h:0<l.length)(C:(W6 ((l.length:Int)-1)).toNat<l.length)(hl:l.length<1073741824):l.getLast?=some (l[(W6 ((l.length:Int)-1)).toNat]'C):=by
 have e:(W6 ((l.length:Int)-1)).toNat=l.length-1:=by rw[aZ];omega
 simp only[e];rw[List.getLast?_eq_getElem?,bJ (by omega)]
def aeh(g:aH)(r:dR)(e:bO)(I:r.last.length<1073741824)(O:r.bf.length<1073741824):EO g r e=some (gx g r e):=by
 unfold EO gx xA xI xL xZ;rw[aql r I O,ay,UL,ay];cases T:jR g r with
 |false=>rfl
 | true=>
  simp only[bL,ax,cJ];rw[N8,ay];cases D:cC g e.cmd with
  |false=>rfl
  | true=>
   simp only[bL,ax,cJ];rw[dh,ay];cases Y:aT e.at_ 0 1000000 with
   |false=>rfl
   | true=>
    obtain⟨hg,hl,Z⟩:=E0 T;have hp:=EZ D;have b1:=ey g;simp only[bL,ax,cJ,aqk D,ay];cases hk:(e.cmd.kind==1)with
    | false=>
     simp only[ax,Bool.false_and,Bool.not_false,au];rw[aO ⟨hp.1,by omega⟩,aO]
    | true=>
     have tl:∀ (A B:aj dR),(if qh:0<=gL g e.cmd/\(gL g e.cmd).toNat<r.last.length then if rS:(gL g e.cmd).toNat<r.last.length then (bif bV (r.bf.length+([e.at_]:aa Int).length)then if 0<=(if W6 (((r.bf++[e.at_]).length:Int)-4) > 0 then W6 (((r.bf++[e.at_]).length:Int)-4)else 0)/\(if W6 (((r.bf++[e.at_]).length:Int)-4) > 0 then W6 (((r.bf++[e.at_]).length:Int)-4)else 0)<=((r.bf++[e.at_]).length:Int)/\((r.bf++[e.at_]).length:Int)<=((r.bf++[e.at_]).length:Int)then bif bV (([]:aa Int).length+(((r.bf++[e.at_]).take (((r.bf++[e.at_]).length:Int).toNat)).drop ((if W6 (((r.bf++[e.at_]).length:Int)-4) > 0 then W6 (((r.bf++[e.at_]).length:Int)-4)else 0).toNat)).length)then some (⟨(r.last.set (gL g e.cmd).toNat e.at_),(([]:aa Int)++(((r.bf++[e.at_]).take (((r.bf++[e.at_]).length:Int).toNat)).drop ((if W6 (((r.bf++[e.at_]).length:Int)-4) > 0 then W6 (((r.bf++[e.at_]).length:Int)-4)else 0).toNat)))⟩:dR)else none else none else none)else A else B)=some ⟨r.last.set (gL g e.cmd).toNat e.at_,Az r.bf e.at_⟩:=by
      intro A B;have E:(r.bf++[e.at_]).length=r.bf.length+1:=by simp
      have U:(if W6 (((r.bf.length+1:Nat):Int)-4) > 0 then W6 (((r.bf.length+1:Nat):Int)-4)else 0)=((r.bf.length+1-4:Nat):Int):=by
       rw[aZ];split<;>omega
      rw[aO ⟨hp.1,by omega⟩,aO,eM (by simp;omega),au,E,U,aV ⟨by omega,by omega,by omega⟩,eM (by simp;omega),au];unfold Az;simp only[bE,List.nil_append];rw[<-E,mV]
     simp only[au,cJ];unfold uM;by_cases C:0<r.bf.length
     ·have hw:(W6 ((r.bf.length:Int)-1))=((r.bf.length-1:Nat):Int):=by rw[aZ];omega
      have hi:(W6 ((r.bf.length:Int)-1)).toNat<r.bf.length:=by rw[hw];omega
      rw[aY (show (r.bf.length:Int) > 0 by omega),au,aO ⟨by rw[hw];omega,hi⟩,aqm C hi (by omega)];dsimp only;cases decide (e.at_<=r.bf[(W6 ((r.bf.length:Int)-1)).toNat])with
      |true=>rfl
      | false=>
       simp only[ax,Bool.not_false,au];exact tl _ _
     ·have C:r.bf=[]:=vb (by omega);rw[bh (by rw[C];simp),ax];rw[show r.bf.getLast?=none by rw[C];rfl];simp only[Bool.not_false,au];exact tl _ _
def mL{A T:Type}(f:Nat->A->T->aj A):Nat->aa T->A->aj A
 |_,[],a=>some a
 | k,x :: l,a=>match f k a x with
  |some C=>mL f (k+1) l C
  |none=>none
def UU{α β T A:Type}{step:α->aj (α⊕β)}(f:Nat->A->T->aj A)(S:Nat->A->α)(Z:Nat->A->T->β)(z:A->β)(I:Nat->A->Prop):∀ (l:aa T) (k:Nat) (a:A) (fuel:Nat),I k a->l.length<fuel->
  (∀i (h:i<l.length) a,I (k+i) a->step (S (k+i) a)=some (match f (k+i) a l[i]with|some C=>.inl (S (k+i+1) C)|none=>.inr (Z (k+i) a l[i])))->
  (∀i (h:i<l.length) a C,I (k+i) a->f (k+i) a l[i]=some C->I (k+i+1) C)->
  (∀a,I (k+l.length) a->step (S (k+l.length) a)=some (.inr (z a)))->
  (∃C,mL f k l a=some C/\I (k+l.length) C/\iter step fuel (S k a)=some (z C))\/(mL f k l a=none/\∃i C,∃(h:i<l.length),I (k+i) C/\f (k+i) C l[i]=none/\iter step fuel (S k a)=some (Z (k+i) C l[i]))
 | [],k,a,fuel,E,U,hs,hI,hz=>by
  obtain⟨n,rfl⟩:∃n,fuel=n+1:=⟨fuel-1,by simp at U;omega⟩
  refine .inl ⟨a,rfl,by simpa using E,?_⟩;have:=hz a (by simpa using E);rw[List.length_nil,Nat.add_zero]at this;simp only[iter,this]
 | x :: l,k,a,fuel,E,U,hs,hI,hz=>by
  obtain⟨n,rfl⟩:∃n,fuel=n+1:=⟨fuel-1,by simp at U;omega⟩
  have O:=hs 0 (by simp) a (by simpa using E);simp only[Nat.add_zero,List.getElem_cons_zero]at O;cases D:f k a x with
  | none=>
   rw[D]at O;refine .inr ⟨by simp only[mL,D],0,a,by simp,by simpa using E,by simpa using D,?_⟩;simp only[iter,O,Nat.add_zero,List.getElem_cons_zero]
  | some Y=>
   rw[D]at O;have h1:I (k+1) Y:=by
    have:=hI 0 (by simp) a Y (by simpa using E) (by simpa using D)
    simpa using this
   have ih:=UU f S Z z I l (k+1) Y n h1 (by simp at U;omega) (λi h a hh=>by
     have e:=hs (i+1) (by simp;omega) a (by rw[show k+(i+1)=k+1+i by omega];exact hh);rw[show k+(i+1)=k+1+i by omega]at e
     simpa using e) (λi h a C hh hff=>by
     have e:=hI (i+1) (by simp;omega) a C (by rw[show k+(i+1)=k+1+i by omega];exact hh) (by rw[show k+(i+1)=k+1+i by omega];simpa using hff);rw[show k+(i+1)=k+1+i by omega]at e;exact e) (λa hh=>by
     have e:=hz a (by simp only[mb];rw[show k+(l.length+1)=k+1+l.length by omega];exact hh);simp only[mb]at e;rw[show k+(l.length+1)=k+1+l.length by omega]at e;exact e)
   have hit:iter step (n+1) (S k a)=iter step n (S (k+1) Y):=by simp only[iter,O]
   rcases ih with ⟨C,e1,e2,e3⟩|⟨e1,i,C,h,e2,e3,e4⟩
   ·refine .inl ⟨C,by simp only[mL,D];exact e1,?_,by rw[hit];exact e3⟩;simp only[mb];rw[show k+(l.length+1)=k+1+l.length by omega];exact e2
   ·refine .inr ⟨by simp only[mL,D];exact e1,i+1,C,by simp;omega,?_,?_,?_⟩
    ·rw[show k+(i+1)=k+1+i by omega];exact e2
    ·rw[show k+(i+1)=k+1+i by omega];simpa using e3
    ·rw[hit,show k+(i+1)=k+1+i by omega];simpa using e4
def gH(l:aa bO):aa Int:=(l.filter λe=>e.cmd.kind==1).map (·.at_)
def aqn{l:aa bO}{i:Nat}(h:i<l.length):gH (l.take (i+1))=bif l[i].cmd.kind==1 then gH (l.take i)++[l[i].at_]else gH (l.take i):=by
 unfold gH;rw[uH h,List.filter_append,List.map_append];cases C:(l[i].cmd.kind==1)<;>simp[List.filter,C]
def aei(l:aa bO):(gH l).length<=l.length:=by
 unfold gH;rw[eS];exact List.length_filter_le _ _
def aqo(l:aa bO)(hl:l.length<1073741823):NL l=some (gH l):=by
 have e:=eJ (step:=IY) l.length (λi=>(((),l,(l.length:Int),(i:Int),()),(gH (l.take i),()))) (.inl (((),()),(gH l,()))) bq (λk h=>by
  have hlen:=aei (l.take k);rw[jF]at hlen;unfold IY aM xG xI;dsimp only;rw[aY,au,aO ⟨by omega,by omega⟩,cc,aqn h];simp only[bE];cases l[k].cmd.kind==1 with
  |true=>rw[au,eM (by simp;omega)];rfl
  |false=>rfl) (by
  unfold IY aM xG xI;dsimp only;rw[bh,ax,mV]) (cu)
 unfold NL bR;rw[dm,List.take_zero]at e;exact(bz (λo=>Option.bind o _) e).trans rfl
def yC(g:aH)(e:bO):Bool:=cC g e.cmd&&aT e.at_ 0 1000000
def UW{g:aH}{e:bO}(h:yC g e=true):cC g e.cmd=true/\0<=e.at_/\e.at_<=1000000:=by
 simp only[yC,aJ,br]at h;exact h
def UX{t:cg}(C:ja t=true)(g:aH)(a b:aP):1 <= fy g t a b/\fy g t a b <= 128:=by
 have D:=aqj C a.kind b.kind (uK g a b);have E:=aeg C a.kind b.kind;unfold fy
 grind
def aqp{g:aH}{t:cg}{a b:aP}(C:cC g a=true)(hb:cC g b=true):Ak g t a b=some (fy g t a b):=by
 obtain⟨hg,D,E,_⟩:=qE C;obtain⟨_,I,O,_⟩:=qE hb;exact aef t hg D I E O
def uN(g:aH)(t:cg)(l:aa bO)(e:bO):Bool:=l.any λx=>decide (e.at_-x.at_<fy g t x.cmd e.cmd)
def AA(g:aH)(t:cg)(l:aa bO)(c:aP):Int:=l.foldl (λm x=>max m (x.at_+fy g t x.cmd c)) 0
def aqq{g:aH}{t:cg}{l:aa bO}{c:aP}{i:Nat}(h:i<l.length):AA g t (l.take (i+1)) c=max (AA g t (l.take i) c) (l[i].at_+fy g t l[i].cmd c):=by
 unfold AA;rw[uH h,List.foldl_append];rfl
def aej(g:aH)(t:cg)(l:aa bO)(c:aP)(m i n:Int):NK (((),(),(),m,l,n,i,()),((g.bI,g.aE,g.rows,g.aR,()),t,(c.kind,c.aq,c.row,c.bW,()),())) =
  bif decide (i<n)then if C:0<=i/\i.toNat<l.length then ((Ak g t (l[i.toNat]'C.2).cmd c).bind λD=>some (.inl (((),(),(),(if (W6 ((l[i.toNat]'C.2).at_+D)) > m then (W6 ((l[i.toNat]'C.2).at_+D))else m),l,n,(W6 (i+(1:Int))),()),((g.bI,g.aE,g.rows,g.aR,()),t,(c.kind,c.aq,c.row,c.bW,()),()))))else none else some (.inr (.inl ((m,()),()))):=rfl
def aqr{g:aH}{t:cg}(C:ja t=true){l:aa bO}{c:aP}(hl:l.length<1073741823)(D:∀ x∈l,yC g x=true)(E:cC g c=true):IX g t l c=some (AA g t l c):=by
 have e:=eJ (step:=NK) l.length (λi=>(((),(),(),AA g t (l.take i) c,l,(l.length:Int),(i:Int),()),((g.bI,g.aE,g.rows,g.aR,()),t,(c.kind,c.aq,c.row,c.bW,()),()))) (.inl ((AA g t l c,()),())) bq (λk h=>by
  obtain⟨I,O,T⟩:=UW (D l[k] (cR h));have U:=UX C g l[k].cmd c;rw[aej,aY,au,aO ⟨by omega,by omega⟩];simp only[bE];rw[aqp I E,ay,aZ,cc,US,Int.max_comm,aqq h]) (by
  rw[aej,bh,ax,mV]) (cu)
 unfold IX bR;rw[dm,List.take_zero]at e;exact(bz (λo=>Option.bind o _) e).trans rfl
def aek{T:Type}(f:T->Int)(y:Int):∀ (l:aa T) (m:Int),(y<l.foldl (λm x=>max m (f x)) m) ↔ (y<m\/∃ x∈l,y<f x)
 |[],m=>by simp
 | x :: l,m=>by
  rw[List.foldl_cons,aek f y l];simp only[gv,exists_eq_or_imp];constructor
  ·rintro(h | h)
   ·rcases(show y<m\/m<=y by omega)with h1 | h1
    ·exact .inl h1
    ·exact .inr (.inl (by omega))
   ·exact .inr (.inr h)
  ·rintro(h | h | h)
   ·exact .inl (by omega)
   ·exact .inl (by omega)
   ·exact .inr h
def aqs{g:aH}{t:cg}{l:aa bO}{e:bO}(E:0<=e.at_):decide (e.at_<AA g t l e.cmd)=uN g t l e:=by
 rw[Bool.eq_iff_iff,fC];unfold AA uN;rw[aek,List.any_eq_true];simp only[fC];constructor
 ·rintro(h | ⟨x,C,D⟩)
  ·omega
  ·exact⟨x,C,by omega⟩
 ·rintro⟨x,C,D⟩;exact .inr ⟨x,C,by omega⟩
def N9(t:cg)(A:aa Int):Int:=if A.length<4 then 0 else A.getD (A.length-4) 0+t.jZ
def AB(t:cg)(A:aa Int)(x:Int):Bool:=decide (4<=A.length)&&decide (x-A.getD (A.length-4) 0<t.jZ)
def aqt{g:aH}{l:aa bO}(h:∀ x∈l,yC g x=true):∀ y∈gH l,0<=y/\y<=1000000:=by
 intro y C;unfold gH at C;obtain⟨e,D,rfl⟩:=List.mem_map.1 C;exact(UW (h e (List.mem_filter.1 D).1)).2
def aqu{A:aa Int}(h:∀ y∈A,0<=y/\y<=1000000)(i:Nat):0<=A.getD i 0/\A.getD i 0<=1000000:=by
 rw[cS];cases hi:A[i]? with
 |none=>exact⟨by simp,by simp⟩
 |some y=>exact h y (gC hi)
def ael{t:cg}(C:ja t=true):1<=t.jZ/\t.jZ<=64:=UT C _ (by simp[rP])
def aqv{g:aH}{t:cg}(D:ja t=true){l:aa bO}(hl:l.length<1073741823)(E:∀ x∈l,yC g x=true):IZ t l=some (N9 t (gH l)):=by
 have I:=aqt E;have hlen:=aei l;have O:=ael D;unfold IZ N9 xL;rw[aqo l hl,ay];generalize gH l=A at *
 by_cases C:A.length<4
 ·rw[aY,au,aV C]
 ·have hw:W6 ((A.length:Int)-4)=((A.length-4:Nat):Int):=by rw[aZ];omega
  have hg:=aqu I (A.length-4);rw[bh,ax,aW C];have hi:(W6 ((A.length:Int)-4)).toNat<A.length:=by rw[hw];omega
  rw[aO ⟨by rw[hw];omega,hi⟩,aO hi];have e:A[(W6 ((A.length:Int)-4)).toNat]=A.getD (A.length-4) 0:=by
   rw[cS];have:(W6 ((A.length:Int)-4)).toNat=A.length-4:=by rw[hw];omega
   simp only[this];rw[bJ (by omega)];rfl
  dsimp only;rw[e,aZ]
def aqw{t:cg}{A:aa Int}{x:Int}(D:0<=x):decide (x<N9 t A)=AB t A x:=by
 unfold N9 AB;by_cases C:A.length<4
 ·rw[aV C,bh,bh (show ¬ 4<=A.length by omega),Bool.false_and]
 ·rw[aW C,aY (show 4<=A.length by omega),cJ,Bool.eq_iff_iff];simp only[fC];omega
def UY{T:Type}{p:T -> Bool}{l:aa T}{i:Nat}{x:T}(h:l.all p=true)(C:p x=true):(l.set i x).all p=true:=by grind
def v8{g:aH}{r:bM}(h:kN g r=true):cy g=true/\(r.aE.length:Int)=aI g/\(0 <= r.aN/\r.aN <= 2)/\r.aE.all (yz g)=true/\(r.aN=2 -> (r.aE.all λb=>!b.open_)=true):=by
 simp only[kN,aJ,eG,br,dQ,bne_iff_ne]at h
 grind
def CF{g:aH}{r:bM}(C:cy g=true)(D:(r.aE.length:Int)=aI g)(E:0 <= r.aN/\r.aN <= 2)(I:r.aE.all (yz g)=true)(O:r.aN=2 -> (r.aE.all λb=>!b.open_)=true):kN g r=true:=by
 simp only[kN,aJ,eG,br,dQ,bne_iff_ne]
 grind
def UZ{g:aH}{r:bM}{c:aP}(I:kN g r=true)(E:cC g c=true)(C:gG r c=true):kN g (bN r c)=true:=by
 have⟨hg,hlen,hp,D,Y⟩:=v8 I;have⟨_,O,hb,_⟩:=qE E;have Z:=fW hg;have T:c.kind=1 -> 0 <= c.row/\c.row <= g.rows-1:=by
  intro h;simp[cC,aJ]at E;have:=E.2.2.2.1;rw[uJ,h]at this
  simpa [br]using this
 rcases kinds O with h|h|h|h|h|h|h|h|h
 ·have e:bN r c=⟨r.aE.set c.aq.toNat ⟨true,c.row⟩,r.aN⟩:=by simp[bN,h]
  have U:r.aN=0:=by simp[gG,h]at C;exact C.1
  rw[e];exact CF hg (by simpa using hlen) (by omega) (UY D (by simp only[yz,aJ,br];exact⟨T h,by simp⟩)) (λe=>by simp only at e;omega)
 ·have e:bN r c=r:=by simp[bN,h]
  simp_all
 ·have e:bN r c=r:=by simp[bN,h]
  simp_all
 ·have e:bN r c=⟨r.aE.set c.aq.toNat ⟨false,0⟩,r.aN⟩:=by simp[bN,h]
  have U:r.aN=0:=by simp[gG,h]at C;exact C.1
  rw[e];exact CF hg (by simpa using hlen) (by omega) (UY D (by simp only[yz,aJ,br];exact⟨by omega,by simp⟩)) (λe=>by simp only at e;omega)
 ·have e:bN r c=r:=by simp[bN,h]
  simp_all
 ·have e:bN r c=⟨r.aE,1⟩:=by simp[bN,h]
  rw[e];exact CF hg hlen (by simp) D (λe=>by simp at e)
 ·have e:bN r c=⟨r.aE,0⟩:=by simp[bN,h]
  rw[e];exact CF hg hlen (by simp) D (λe=>by simp at e)
 ·have e:bN r c=⟨r.aE,2⟩:=by simp[bN,h]
  rw[e];exact CF hg hlen (by simp) D (λ_=>by simp[gG,h]at C;simpa using C.2)
 ·have e:bN r c=⟨r.aE,0⟩:=by simp[bN,h]
  rw[e];exact CF hg hlen (by simp) D (λe=>by simp at e)
def aqx{g:aH}(hg:cy g=true):kN g (kP g)=true:=by
 have D:=ey g;have E:=fW hg
 refine CF hg (by simp[kP];omega) (by simp[kP]) ?_ (λe=>by simp[kP]at e)
 unfold kP;rw[bT];intro x C;obtain⟨_,rfl⟩:=List.mem_replicate.1 C;simp only[yz,aJ,br];exact⟨by omega,by simp⟩
def tv(l:aa bO)(k:Nat)(e:bO):Bool:=match k with
 |0=>true
 | k+1=>match l[k]? with
  |some x=>decide (x.at_<e.at_)
  |none=>true
def fT(g:aH)(t:cg)(l:aa bO)(k:Nat)(r:bM)(e:bO):aj bM:=
 bif !cC g e.cmd then none else bif !aT e.at_ 0 1000000 then none else bif !tv l k e then none else bif !gG r e.cmd then none else
 bif uN g t (l.take k) e then none else bif e.cmd.kind==1&&AB t (gH (l.take k)) e.at_ then none else some (bN r e.cmd)
def cT(g:aH)(t:cg)(l:aa bO)(k:Nat)(r:bM)(e:bO):Int:=
 bif !cC g e.cmd then 1 else bif !aT e.at_ 0 1000000 then 1 else bif !tv l k e then 1 else bif !gG r e.cmd then 2 else
 bif uN g t (l.take k) e then 3 else 4
def aqy(g:aH)(t:cg)(l:aa bO)(k:Nat)(r:bM)(e:bO):(cT g t l k r e != 0)=true:=by
 unfold cT;cases cC g e.cmd<;>cases aT e.at_ 0 1000000<;>cases tv l k e<;>cases gG r e.cmd<;>cases uN g t (l.take k) e<;>rfl
def IT(g:aH)(l:aa bO)(k:Nat)(r:bM):Prop:=kN g r=true/\∀x∈l.take k,yC g x=true
def aqz{g:aH}{t:cg}{l:aa bO}{k:Nat}{r T:bM}(Z:k<l.length)(h:IT g l k r)(C:fT g t l k r l[k]=some T):IT g l (k+1) T:=by
 unfold fT at C;cases D:cC g l[k].cmd with
 |false=>rw[D]at C;cases C
 | true=>
  cases E:aT l[k].at_ 0 1000000 with
  |false=>rw[D,E]at C;cases C
  | true=>
   cases I:tv l k l[k]with
   |false=>rw[D,E,I]at C;cases C
   | true=>
    cases O:gG r l[k].cmd with
    |false=>rw[D,E,I,O]at C;cases C
    | true=>
     rw[D,E,I,O]at C;simp only[bL,ax]at C;cases U:uN g t (l.take k) l[k]with
     |true=>rw[U]at C;cases C
     | false=>
      rw[U,ax]at C;cases Y:(l[k].cmd.kind==1&&AB t (gH (l.take k)) l[k].at_)with
      |true=>rw[Y]at C;cases C
      | false=>
       rw[Y,ax]at C;injection C with C;subst C
       refine⟨UZ h.1 D O,λx hx=>?_⟩
       rw[uH Z]at hx;rcases gJ.1 hx with hx|hx
       ·exact h.2 x hx
       ·obtain rfl:=gf.1 hx;simp only[yC,D,E,Bool.and_self]
def aqA(g:aH):(⟨g.bI,g.aE,g.rows,g.aR⟩:aH)=g:=rfl
def aqB(t:cg):(⟨t.qR,t.rp,t.jY,t.r5,t.oC,t.jZ,t.r6,t.r7,t.mW,t.wr,t.r8,t.r9,t.vc,t.tM,t.tN,t.xp,t.xs⟩:cg)=t:=rfl
def aqC(l:aa bO)(e:bO):tv l 0 e=true:=rfl
def aqD{l:aa bO}{k:Nat}(e:bO)(h:0<k)(E:k<l.length)(C:(W6 ((k:Int)-1)).toNat<l.length)(hl:l.length<1073741824):tv l k e = !decide (e.at_<=(l[(W6 ((k:Int)-1)).toNat]'C).at_):=by
 obtain⟨n,rfl⟩:∃n,k=n+1:=⟨k-1,by omega⟩
 have D:(W6 (((n+1:Nat):Int)-1)).toNat=n:=by rw[aZ];omega
 unfold tv;simp only[D];rw[bJ (by omega)];simp only;rw[Bool.eq_iff_iff];simp
def tS(t:cg):cg:=t
def aqE{g:aH}{t:cg}(I:ja t=true){l:aa bO}(hl:l.length<1073741823){k:Nat}(Z:k<l.length){r:bM}(hI:IT g l k r):
  Cy ((l,(),(),(),l,(l.length:Int),(k:Int),()),((g.bI,g.aE,g.rows,g.aR,()),tS t,((),r.aN,()),r.aE,())) =
   some (match fT g t l k r l[k]with|some C=>.inl ((l,(),(),(),l,(l.length:Int),((k+1:Nat):Int),()),((g.bI,g.aE,g.rows,g.aR,()),tS t,((),C.aN,()),C.aE,()))|none=>.inr (.inl ((cT g t l k r l[k],(k:Int),()),()))):=by
 obtain⟨O,T⟩:=hI;obtain⟨hg,hlen,_⟩:=v8 O;have b1:=ey g;unfold Cy fT cT tS aM bF xG xI;dsimp only;simp only[aqA,aqB,aqf,aY (show (k:Int)<(l.length:Int) by omega),au];rw[aO ⟨by omega,by omega⟩];simp only[bE];rw[N8,ay];cases U:cC g l[k].cmd with
 |false=>rfl
 | true=>
  simp only[bL,ax];rw[dh,ay];cases h2:aT l[k].at_ 0 1000000 with
  |false=>rfl
  | true=>
   obtain⟨Y,hm⟩:=br.1 h2;have tl:((ym g r l[k].cmd).bind λD=>bif (!D.2)then (some (.inr (.inl (((2:Int),(k:Int),()),()))):aj ((((aa bO)×ah×ah×ah×(aa bO)×Int×Int×ah)×((Int×Int×Int×Int×ah)×cg×(ah×Int×ah)×(aa ep)×ah))⊕(((Int×Int×ah)×(ah))⊕(((ah)×(ah))⊕Empty))))else if 0<=(0:Int)/\(0:Int)<=(k:Int)/\(k:Int)<=(l.length:Int)then (IX g t ((l.take k).drop (0:Int).toNat) l[k].cmd).bind λn8=>bif (decide (l[k].at_<n8))then some (.inr (.inl (((3:Int),(k:Int),()),())))else bif (l[k].cmd.kind==(1:Int))then if 0<=(0:Int)/\(0:Int)<=(k:Int)/\(k:Int)<=(l.length:Int)then (IZ t ((l.take k).drop (0:Int).toNat)).bind λo8=>bif (decide (l[k].at_<o8))then some (.inr (.inl (((4:Int),(k:Int),()),())))else some (.inl ((l,(),(),(),l,(l.length:Int),(W6 ((k:Int)+(1:Int))),()),((g.bI,g.aE,g.rows,g.aR,()),t,((),D.1.aN,()),D.1.aE,())))else none else some (.inl ((l,(),(),(),l,(l.length:Int),(W6 ((k:Int)+(1:Int))),()),((g.bI,g.aE,g.rows,g.aR,()),t,((),D.1.aN,()),D.1.aE,())))else none) =
     some (match (bif !gG r l[k].cmd then none else bif uN g t (l.take k) l[k]then none else bif l[k].cmd.kind==1&&AB t (gH (l.take k)) l[k].at_ then none else some (bN r l[k].cmd))with|some C=>.inl ((l,(),(),(),l,(l.length:Int),((k+1:Nat):Int),()),((g.bI,g.aE,g.rows,g.aR,()),t,((),C.aN,()),C.aE,()))|none=>.inr (.inl ((bif !gG r l[k].cmd then 2 else bif uN g t (l.take k) l[k]then 3 else 4,(k:Int),()),()))):=by
    rw[UP g r _ (by omega),ay];unfold EY kO;rw[O,U];cases h4:gG r l[k].cmd with
    |false=>rfl
    | true=>
     simp only[cJ,au,bL,ax,Int.toNat_zero,List.drop_zero];rw[aV ⟨by omega,by omega,by omega⟩,aqr I (by simp;omega) T U,ay,aqs Y];cases h5:uN g t (l.take k) l[k]with
     |true=>rfl
     | false=>
      simp only[ax];cases h6:(l[k].cmd.kind==1)with
      |false=>simp only[ax,Bool.false_and,cc (show k<4611686018427387904 by omega)]
      | true=>
       simp only[au,cJ];rw[aV ⟨by omega,by omega,by omega⟩,aqv I (by simp;omega) T,ay,aqw Y];cases AB t (gH (l.take k)) l[k].at_ with
       |true=>rfl
       |false=>simp only[ax,cc (show k<4611686018427387904 by omega)]
   simp only[bL,ax];by_cases E:0<k
   ·have hw:(W6 ((k:Int)-1)).toNat<l.length:=by rw[aZ];omega
    rw[aY (show (k:Int) > 0 by omega),au,aO ⟨by rw[aZ];omega,hw⟩,aqD _ E Z hw (by omega)];cases decide (l[k].at_<=(l[(W6 ((k:Int)-1)).toNat]'hw).at_)with
    |true=>rfl
    | false=>
     simp only[ax,Bool.not_false,bL];exact tl
   ·have E:k=0:=by omega
    subst E;rw[bh,ax,aqC];simp only[bL,ax];exact tl
def runT(g:aH)(t:cg)(l:aa bO):aj bM:=mL (fT g t l) 0 l (kP g)
def aqF{g:aH}{t:cg}(hg:cy g=true)(I:ja t=true){l:aa bO}(hl:l.length<=2000):∃ c i,NM g t l=some (c,i)/\(c != 0)=(runT g t l).isNone:=by
 have h:=UU (step:=Cy) (fT g t l) (λk r=>((l,(),(),(),l,(l.length:Int),(k:Int),()),((g.bI,g.aE,g.rows,g.aR,()),tS t,((),r.aN,()),r.aE,()))) (λk r e=>.inl ((cT g t l k r e,(k:Int),()),())) (λr=>.inr (.inl ((),()))) (IT g l) l 0 (kP g) bq ⟨aqx hg,λx U=>by simp at U⟩ (cu)
  (λi h r C=>by rw[eW]at C ⊢;exact(aqE I (by omega) h C).trans (by cases fT g t l i r l[i]<;>rfl))
  (λi h r O C T=>by rw[eW]at C T ⊢;exact aqz h C T)
  (λr C=>by rw[eW];unfold Cy aM bF xG xI;dsimp only;rw[bh,ax])
 unfold NM cY;rw[qw,ay,hg,bL,ax,I9,ay,I,bL,ax,bh,ax,UQ,ay];change ∃c i,((iter Cy bq ((l,(),(),(),l,(l.length:Int),((0:Nat):Int),()),((g.bI,g.aE,g.rows,g.aR,()),tS t,((),(kP g).aN,()),(kP g).aE,()))).bind _)=some (c,i)/\_;rcases h with ⟨O,D,_,E⟩|⟨D,i,O,hi,_,_,E⟩
 ·refine⟨0,-1,(bz (λo=>Option.bind o _) E).trans rfl,?_⟩
  unfold runT;rw[D];rfl
 ·refine⟨_,_,(bz (λo=>Option.bind o _) E).trans rfl,?_⟩
  unfold runT;rw[D];exact aqy _ _ _ _ _ _
def uO(n k:Nat):aa Int:=List.replicate k (-1)++List.replicate (n-k) 0
def aqG{n k:Nat}(h:k<=n):(uO n k).length=n:=by
 unfold uO;simp;omega
def aqH{n k:Nat}(h:k<n):(uO n k).set k (-1)=uO n (k+1):=by
 obtain⟨m,rfl⟩:∃m,n=k+1+m:=⟨n-k-1,by omega⟩
 unfold uO;rw[show k+1+m-k=m+1 by omega,show k+1+m-(k+1)=m by omega,List.set_append_right _ _ (by simp),kF,Nat.sub_self,List.replicate_succ,List.replicate_succ',List.append_assoc];rfl
def aqI(n:Nat):uO n 0=List.replicate n 0:=by simp[uO]
def aqJ(n:Nat):uO n n=List.replicate n (-1):=by simp[uO]
def uP(g:aH):dR:=⟨List.replicate (9*(aI g+1)).toNat (-1),[]⟩
def aem{g:aH}(hg:cy g=true):HE g=some (uP g):=by
 have hb:=ey g;obtain⟨n,hn⟩:∃n:Nat,9*(aI g+1)=(n:Int):=⟨(9*(aI g+1)).toNat,by omega⟩
 have C:n<1073741824:=by omega
 have e:=eJ (step:=HD) n (λi=>(((),(),(n:Int),(i:Int),()),(((),(),()),((),(),()),([]:aa Int),([]:aa Int),uO n i,([]:aa Int),()))) (.inl (((),(),()),(((),(),()),((),(),()),([]:aa Int),([]:aa Int),uO n n,([]:aa Int),()))) bq (λk h=>by
  have hl:=aqG (show k<=n by omega);unfold HD aM xG xL;dsimp only;rw[aY,au,aO ⟨by omega,by omega⟩,aO,cc,bE,aqH h]) (by
  unfold HD aM xG xL;dsimp only;rw[bh,ax]) (cu)
 rw[aqI,aqJ,dm]at e;unfold HE uP bR;rw[qw,ay,hg,bL,ax,jz,ay,w9,hn,aV ⟨by omega,by omega,by omega⟩,bE,kF];exact(bz (λo=>Option.bind o _) e).trans rfl
def U0(g:aH)(r:dR)(e:bO):(gx g r e).last.length=r.last.length/\(r.bf.length <= 4 -> (gx g r e).bf.length <= 4):=by
 unfold gx;cases (jR g r&&(cC g e.cmd&&(aT e.at_ 0 1000000 && !(e.cmd.kind==1&&uM r e.at_))))with
 |false=>simp_all
 | true=>
  refine⟨by simp,λh=>?_⟩
  cases e.cmd.kind==1 with
  |false=>exact h
  | true=>
   simp[au,Az,List.length_drop,nM,List.length_singleton];omega
def og(g:aH)(l:aa bO):dR:=l.foldl (gx g) (uP g)
def aqK{g:aH}{l:aa bO}{k:Nat}(h:k<l.length):og g (l.take (k+1))=gx g (og g (l.take k)) l[k]:=by
 unfold og;rw[uH h,List.foldl_append];rfl
def aen(g:aH)(l:aa bO):(og g l).last.length<=1000/\(og g l).bf.length<=4:=by
 have hb:=ey g;have C:(uP g).last.length<=1000/\(uP g).bf.length<=4:=⟨by simp only[uP,kF];omega,by simp[uP]⟩
 unfold og;generalize uP g=r at C
 induction l generalizing r with
 |nil=>exact C
 |cons x l D=>exact D (gx g r x) ⟨by rw[(U0 g r x).1];exact C.1,(U0 g r x).2 C.2⟩
def aeo(g:aH)(l:aa bO)(n i:Int)(r:dR):NO (((),(),(),l,n,i,()),((g.bI,g.aE,g.rows,g.aR,()),((),(),()),((),(),()),([]:aa Int),([]:aa Int),r.last,r.bf,()))=bif (decide (i<n))then if D:0<=i/\i.toNat<l.length then ((EO g r (l[i.toNat]'D.2)).bind λC=>some (.inl (((),(),(),l,n,(W6 (i+(1:Int))),()),((g.bI,g.aE,g.rows,g.aR,()),((),(),()),((),(),()),([]:aa Int),([]:aa Int),C.last,C.bf,()))))else none else some (.inr (.inl (((),(),()),(((),(),()),((),(),()),([]:aa Int),([]:aa Int),r.last,r.bf,())))):=rfl
def aqL{g:aH}(hg:cy g=true){l:aa bO}(hl:l.length<1073741823):I1 g l=some (og g l):=by
 have e:=eJ (step:=NO) l.length (λi=>(((),(),(),l,(l.length:Int),(i:Int),()),((g.bI,g.aE,g.rows,g.aR,()),((),(),()),((),(),()),([]:aa Int),([]:aa Int),(og g (l.take i)).last,(og g (l.take i)).bf,()))) (.inl (((),(),()),(((),(),()),((),(),()),([]:aa Int),([]:aa Int),(og g l).last,(og g l).bf,()))) bq (λk h=>by
  have hlen:=aen g (l.take k);rw[aeo,aY,au,aO ⟨by omega,by omega⟩];simp only[bE];rw[aeh _ _ _ (by omega) (by omega),ay,cc,aqK h]) (by
  rw[aeo,bh,ax,mV]) (cu)
 rw[dm,List.take_zero]at e;unfold I1 bR;rw[aem hg,ay];exact(bz (λo=>Option.bind o _) e).trans rfl
def fE(g:aH)(_:Nat)(r:bM)(e:bO):aj bM:=bif kO g r e.cmd then some (bN r e.cmd)else none
def CG(g:aH)(l:aa bO):aj bM:=mL (fE g) 0 l (kP g)
def U1(g:aH)(l:aa bO):bM×Bool:=match CG g l with
 |some r=>(r,true)
 |none=>(⟨[],0⟩,false)
def aqM(g:aH)(r:bM)(e:bO)(k:Nat):(EY g r e.cmd)=match fE g k r e with | some C=>(C,true) | none=>(r,false):=by
 unfold EY fE;cases kO g r e.cmd<;>rfl
def aep{g:aH}{r C:bM}{e:bO}{k:Nat}(h:fE g k r e=some C):C.aE.length=r.aE.length:=by
 unfold fE at h;cases D:kO g r e.cmd with
 |false=>rw[D]at h;cases h
 | true=>
  rw[D]at h;injection h with h;rw[<-h,aec]
def aqN{g:aH}{l:aa bO}{r:bM}(h:CG g l=some r):(r.aE.length:Int)=aI g:=by
 have hb:=ey g;have key:∀ (l:aa bO) (k:Nat) (a:bM),mL (fE g) k l a=some r->r.aE.length=a.aE.length:=by
  intro l
  induction l with
  | nil=>
   intro k a h;injection h with h;rw[h]
  | cons x l D=>
   intro k a h;unfold mL at h;cases C:fE g k a x with
   |none=>rw[C]at h;cases h
   | some E=>
    rw[C]at h;rw[D (k+1) E h,aep C]
 rw[key l 0 _ h];simp only[kP,kF];omega
def aeq(g:aH)(l:aa bO)(n i:Int)(r:bM):I0 (((),(),(),l,n,i,()),((g.bI,g.aE,g.rows,g.aR,()),((),(0:Int),()),((),r.aN,()),([]:aa ep),r.aE,()))=bif (decide (i<n))then if D:0<=i/\i.toNat<l.length then ((ym g r (l[i.toNat]'D.2).cmd).bind λC=>bif (!C.2)then some (.inr (.inl (((),false,()),(((),(0:Int),()),([]:aa ep),()))))else some (.inl (((),(),(),l,n,(W6 (i+(1:Int))),()),((g.bI,g.aE,g.rows,g.aR,()),((),(0:Int),()),((),C.1.aN,()),([]:aa ep),C.1.aE,()))))else none else some (.inr (.inr (.inl (((),(),()),(((),(0:Int),()),((),r.aN,()),([]:aa ep),r.aE,()))))):=rfl
def aqO{g:aH}(hg:cy g=true){l:aa bO}(hl:l.length<1073741823):NN g l=some (U1 g l):=by
 have hb:=ey g;have h:=UU (step:=I0) (fE g) (λk r=>(((),(),(),l,(l.length:Int),(k:Int),()),((g.bI,g.aE,g.rows,g.aR,()),((),(0:Int),()),((),r.aN,()),([]:aa ep),r.aE,()))) (λk r e=>.inl (((),false,()),(((),(0:Int),()),([]:aa ep),()))) (λr=>.inr (.inl (((),(),()),(((),(0:Int),()),((),r.aN,()),([]:aa ep),r.aE,())))) (λ_ r=>r.aE.length<1073741824) l 0 (kP g) bq (by simp only[kP,kF];omega) (cu)
  (λi h r C=>by
   rw[eW,aeq,aY,au,aO ⟨by omega,by omega⟩];simp only[bE];rw[UP g r _ C,ay,aqM g r l[i] i,cc];cases fE g i r l[i]<;>rfl)
  (λi h r I C O=>by rw[aep O];exact C)
  (λr C=>by rw[eW,aeq,bh,ax])
 unfold NN cY;rw[qw,ay,hg,bL,ax,UQ,ay];change ((iter I0 bq (((),(),(),l,(l.length:Int),((0:Nat):Int),()),((g.bI,g.aE,g.rows,g.aR,()),((),(0:Int),()),((),(kP g).aN,()),([]:aa ep),(kP g).aE,()))).bind _)=_;unfold U1 CG;rcases h with ⟨I,D,_,E⟩|⟨D,i,I,hi,_,_,E⟩
 ·rw[D];exact(bz (λo=>Option.bind o _) E).trans rfl
 ·rw[D];exact(bz (λo=>Option.bind o _) E).trans rfl
def AD(a b:aa Int):Bool:=((a.length:Int)==(b.length:Int))&&(a.zip b).all λp=>p.1==p.2
def Oa{A B:Type}{a:aa A}{b:aa B}(h:a.length=b.length):(a.zip b).length=a.length:=by
 rw[List.length_zip];omega
def aer{A B:Type}{a:aa A}{b:aa B}(h:a.length=b.length){k:Nat}(C:k<(a.zip b).length):(a.zip b)[k]=(a[k]'(by rw[Oa h]at C;exact C),b[k]'(by rw[Oa h]at C;omega)):=by
 rw[List.getElem_zip]
def aes{a b:aa Int}(D:a.length<1073741824):Cz a b=some (AD a b):=by
 unfold Cz AD cY;by_cases h:a.length=b.length
 ·have E:=Oa h;have e:=jy (step:=I2) (a.zip b) (λp=>p.1==p.2) (λi=>((a,b,(a.length:Int),(i:Int),()),())) (.inl ((false,()),())) (.inr (.inl ((),()))) bq (λk C=>by
   unfold I2 aM bF xG xI;dsimp only;rw[aY,au,aO ⟨by omega,by omega⟩,aO ⟨by omega,by omega⟩,cc,aer h C];simp only[bE];rw[bne];cases a[k]==b[k]<;>rfl) (by
   unfold I2 aM bF xG xI;dsimp only;rw[bh,ax]) (cu)
  rw[dm]at e;rw[show ((a.length:Int) != (b.length:Int))=false by simp[h],ax,show ((a.length:Int)==(b.length:Int))=true by simp[h],cJ]
  refine(bz (λo=>Option.bind o _) e).trans ?_
  cases (a.zip b).all λp=>p.1==p.2<;>rfl
 ·rw[show ((a.length:Int) != (b.length:Int))=true by simp;omega,au,show ((a.length:Int)==(b.length:Int))=false by simp;omega,Bool.false_and]
def Jp(x:cK):Prop:=(x.weights.length<=1048576)
def pE(x y:cK):Bool:=(x.eX==y.eX)&&((x.cap==y.cap)&&((x.di==y.di)&&((x.low==y.low)&&((x.high==y.high)&&(AD x.weights y.weights&&((x.dj.down==y.dj.down)&&((x.dj.sleep==y.dj.sleep)&&true)))))))
def iE(u a:jk):Bool:=((u.request.id==a.request.id)&&((u.request.dn==a.request.dn)&&((u.request.line==a.request.line)&&((u.request.write==a.request.write)&&((u.request.data==a.request.data)&&((u.request.at_==a.request.at_)&&true))))))&&((u.n==a.n)&&((u.J6==a.J6)&&(((u.addr.aq==a.addr.aq)&&((u.addr.row==a.addr.row)&&((u.addr.bW==a.addr.bW)&&true)))&&pE u.eO a.eO)))
def place(l:aa aX)(id:Int):Int:=match l.findIdx? (λr=>r.id==id)with
 |some i=>(i:Int)
 |none=>-1
def aqP(l:aa (Int×Bool))(k j:Int):mq (nv l k true) j=(j==k || mq l j):=by
 induction l with
 |nil =>rfl
 | cons p ps D=>
  simp only[nv];cases C:(k==p.1)with
  | true=>
   have e:k=p.1:=by simpa using C
   rw[au];simp[mq]
   grind
  | false=>
   rw[ax];simp only[mq]
   grind
def aqQ(x y:Int):(x==y)=(y==x):=Bool.eq_iff_iff.2 ⟨λh=>by simpa using (by simpa using h:x=y).symm,λh=>by simpa using (by simpa using h:y=x).symm⟩
def tw(g:aH)(a:aQ):Nat:=(uG g a).toNat
def aqR{g:aH}{a:aQ}(h:fX g a=true):uG g a=(tw g a:Int)/\(tw g a:Int)<dV g:=by
 have:=adF h;unfold tw;omega
def fG.Jq{g:aH}{B:Int}{a:dw}(C:fG g B a)(k:Nat){c:cB}(D:Sy c.symbols):fG g B ⟨a.cells.set k c,a.bu,a.bg⟩:=
 ⟨by simp[C.cells],Sy.bG C.syms D,C.bu,C.bg,C.EU,C.hit⟩
def ia(R row:Int):aa Int:=(bif decide (0<row)then [row-1]else [])++(bif decide (row<R-1)then [row+1]else [])
def aet{R row:Int}(O:2<=R)(T:R<=16)(U:0<=row)(Y:row<R):EP R row=some (ia R row):=by
 unfold EP ia xA xZ;have C:aT R 2 16=true:=by rw[br];omega
 have D:aT row 0 (R-1)=true:=by rw[br];omega
 rw[dh,ay,C,aZ (n:=R-1),dh,aZ (n:=row-1),aZ (n:=row+1)];by_cases E:0<row<;>by_cases I:row<R-1<;>simp[D,E,I,bV]
def aeu{R row:Int}(C:0 <= row)(D:row<R):∀ n∈ia R row,0 <= n/\n<R:=by
 intro n hn;unfold ia at hn
 grind
def aqS(R row:Int):(ia R row).length <= 2:=by
 unfold ia
 grind
def aqT{R row k:Int}{i:Nat}(hi:k+row=(i:Int))(C:0 <= k)(D:0 <= row)(H:aa Int):(ia R row).foldl (λh n=>oc (k+n).toNat h) (H.set i 0)=o9 R row i H:=by
 unfold ia o9 vZ
 grind
def aev(k:Int):∀ (l:aa Int) (H:aa Int),(l.foldl (λh n=>oc (k+n).toNat h) H).length=H.length
 |[],H=>rfl
 |x::l,H=>by rw[List.foldl_cons,aev k l,Uy]
def aew(k:Int):∀ (l:aa Int) (H:aa Int),(∀ x∈H,0<=x/\x<=100000)->∀ x∈l.foldl (λh n=>oc (k+n).toNat h) H,0<=x/\x<=100000
 |[],H,h=>h
 |x::l,H,h=>by rw[List.foldl_cons];exact aew k l _ (Uz h)
def aqU{g:aH}(hg:cy g=true){B:Int}{a:dw}(C:fG g B a)(hB:B <= 100000){n:Int}(I:0 <= n)(O:n <= 100000):Im g a n=some ⟨a.cells,a.bu.map (nD n),a.bg⟩:=by
 have T:=ta g;have U:=C.bu;have D:aT n 0 100000=true:=by rw[br];omega
 unfold Im bR;rw[C.copy,ay,C.ok hg hB,ay,dh,ay,D];have e:=eJ (step:=Il) _ (λi=>((n,(),(),(a.bu.length:Int),(i:Int),()),(((),(),(),()),((),(),(),()),([]:aa cB),([]:aa Int),([]:aa Int),a.cells,upto (nD n) a.bu i,a.bg,()))) (.inl (((),(),()),(((),(),(),()),((),(),(),()),([]:aa cB),([]:aa Int),([]),a.cells,a.bu.map (nD n),a.bg,()))) bq (λk h=>by
  unfold Il aM xG xL;have Y:=C.EU _ (cR h);have E:=Uq (nD n) a.bu k h;have hg:=Up (nD n) a.bu k h (by rw[NR];exact h);simp (disch:=omega) [NR,h,hg,aZ];rw[<- E];rfl) (by unfold Il aM xG xL;simp[Uo]) (cu)
 rw[dm,adD]at e;simp_all
def aqV(y:Int):0 <= bits .and .i64 y 15/\bits .and .i64 y 15 <= 15:=by
 have e:bits .and .i64 y 15=IntKind.wrap .i64 ((BitVec.ofInt 64 y &&& BitVec.ofInt 64 15).toNat):=rfl;have h:(BitVec.ofInt 64 y &&& BitVec.ofInt 64 15).toNat <= 15:=by
  exact Nat.le_trans Nat.and_le_right (by decide)
 rw[e,IntKind.wrap_i64];omega
def i0:akL 0:=⟨by decide,by decide⟩
def lg(a:Nat):Nat:=(14688061253356765440 / 2 ^ (4*a)) % 16
def okB(C s1 s2 i:Nat):Bool:=!Nat.beq C 0&&(Nat.beq (gm C (pw i)) s1&&Nat.beq (gm s1 (pw i)) s2)
def loc(C s1 s2:Nat):aj Nat:=(List.range 11).find? (okB C s1 s2)
def E1:aj Nat->Nat
 |some n=>n
 |none=>99
def aqW:(qx λa=>Nat.beq a 0 ||MY (Int.ofNat a)==some (Int.ofNat (lg a)))=true:=by kernel_rfl
def aex:(qx λC=>qx λs1=>qx λs2=>bif Nat.beq C 0 || Nat.beq s1 0 then Nat.beq (E1 (loc C s1 s2)) 99 else
  (λx=>!Nat.beq x 0&&Nat.beq (E1 (loc C s1 s2)) (bif Nat.blt (lg x) 11&&Nat.beq (gm s1 x) s2 then lg x else 99)) (gm s1 (iv C)))=true:=by kernel_rfl
def E2(w:aa Nat):Bool:=Nat.beq (dX w 0 11) 0&&(Nat.beq (dX w 1 11) 0&&Nat.beq (dX w 2 11) 0)
def lE(w:aa Nat):aa Nat×Int×Int:=bif E2 w then (w,0,-1)else match loc (dX w 0 11) (dX w 1 11) (dX w 2 11)with
 |some k=>(w.set k (w.getD k 0 ^^^ dX w 0 11),1,(k:Int))
 |none=>(w,2,-1)
def aey(n m:Nat):((n:Int)==(m:Int))=Nat.beq n m:=by
 cases h:Nat.beq n m with
 |true=>simp_all
 | false=>
  have:n≠m:=by rintro rfl;simp at h
  grind
def aez{D s1 s2 k:Nat}(h:loc D s1 s2=some k):k<11/\okB D s1 s2 k=true /\ ∀ i,i<k -> okB D s1 s2 i=false:=by
 refine⟨gi.1 (List.mem_of_find?_eq_some h),List.find?_some h,λi hi=>?_⟩
 have⟨O,l1,l2,E,T⟩:=List.find?_eq_some_iff_append.1 h;have U:l1.length=k/\l1=List.range k:=by
  have C:(List.range 11)[l1.length]?=some k:=by rw[E];simp
  have I:l1.length<11:=by have:=bz List.length E;simp at this;omega
  rw[List.getElem?_range I]at C;injection C with C;refine⟨C,?_⟩;have Y:(List.range 11).take l1.length=l1:=by rw[E];simp
  grind
 simp_all
def aeA{C s1 s2:Nat}(D:C<16)(E:s1<16)(I:s2<16)(h:C=0 \/ s1=0):loc C s1 s2=none:=by
 have t:=mJ (mJ (mJ aex D) E) I;have O:(Nat.beq C 0 ||Nat.beq s1 0)=true:=by rcases h with rfl|rfl<;>simp
 rw[O]at t;have t:=cN t;cases hl:loc C s1 s2 with
 |none=>rfl
 | some k=>
  rw[hl]at t;have:=(aez hl).1;simp[E1]at t;omega
def aqX{C s1 s2:Nat}(E:C<16)(I:s1<16)(O:s2<16)(T:C≠0)(U:s1≠0):gm s1 (iv C)≠0/\loc C s1 s2=bif Nat.blt (lg (gm s1 (iv C))) 11&&Nat.beq (gm s1 (gm s1 (iv C))) s2 then some (lg (gm s1 (iv C)))else none:=by
 have t:=mJ (mJ (mJ aex E) I) O;have c0:Nat.beq C 0=false:=by cases h:Nat.beq C 0 with|false=>rfl|true=>exact absurd (cN h) T
 have Y:Nat.beq s1 0=false:=by cases h:Nat.beq s1 0 with|false=>rfl|true=>exact absurd (cN h) U
 dsimp only at t;rw[c0,Y,Bool.or_false,ax,aJ]at t;have⟨t1,D⟩:=t;have D:=cN D;refine⟨(by rintro e;rw[e]at t1;cases t1),?_⟩;cases hb:(Nat.blt (lg (gm s1 (iv C))) 11&&Nat.beq (gm s1 (gm s1 (iv C))) s2)with
 | true=>
  rw[hb,au]at D;rw[aJ]at hb;have Z:lg (gm s1 (iv C))<11:=cz hb.1;cases hl:loc C s1 s2 with
  |none=>rw[hl]at D;simp[E1]at D;omega
  |some k=>rw[hl]at D;simp[E1]at D;rw[D];rfl
 | false=>
  rw[hb,ax]at D;cases hl:loc C s1 s2 with
  |none=>rfl
  | some k=>
   have:=(aez hl).1;rw[hl]at D;simp[E1]at D;omega
def aqY{a:Nat}(h:a<16)(C:a≠0):Cd (a:Int)=some (iv a:Int):=by
 have t:=mJ apE h;simp_all
def aqZ{a:Nat}(h:a<16)(C:a≠0):MY (a:Int)=some (lg a:Int):=by
 have t:=mJ aqW h;simp_all
def aeB{w:aa Nat}(hw:kz w)(hl:w.length=11):Ir (cH w)=some (cH (lE w).1,(lE w).2.1,(lE w).2.2):=by
 have ho:bV (([]:aa Int).length+(cH w).length)=true:=eM (by simp[vX,hl]);have h0:∀n:Nat,((n:Int)==(0:Int))=Nat.beq n 0:=λn=>aey n 0
 have C:=yu w 0 11;have D:=yu w 1 11;have U:=yu w 2 11;have O:∀i (h:i<(cH w).length),(cH w)[i]=((w.getD i 0:Nat):Int):=λi h=>Uv h
 have T:∀ k,(cH w).set k (bits .xor .i64 ((w.getD k 0:Nat):Int) ((dX w 0 11:Nat):Int))=cH (w.set k (w.getD k 0 ^^^ dX w 0 11)):=λk=>by
  rw[vW (hw.get k) C,apF]
 have hlen:(cH w).length=11:=by rw[vX,hl]
 unfold Ir xA xC xL xZ;rw[Ux hw hl,ay,apA hw hl,ho];have aq0:jH [((dX w 0 11:Nat):Int),((dX w 1 11:Nat):Int),((dX w 2 11:Nat):Int)]=false:=rfl;rw[aq0,ax,au,ay];unfold lE E2;cases hz:(Nat.beq (dX w 0 11) 0&&(Nat.beq (dX w 1 11) 0&&Nat.beq (dX w 2 11) 0))with
 |true=>simp
 | false=>
  simp only[ax,List.nil_append];generalize Y:cH w=W at O T hlen ⊢;generalize hg0:dX w 0 11=E at *
  generalize hg1:dX w 1 11=s1 at *
  generalize Bf:dX w 2 11=s2 at *
  have bY:∀n:Nat,((n:Int) != (0:Int)) = !Nat.beq n 0:=λn=>by rw[bne,h0]
  by_cases I:E=0
  ·rw[aeA C D U (.inl I)];subst I;simp[Y]
  ·have c0:Nat.beq E 0=false:=by cases h:Nat.beq E 0 with | false=>rfl | true=>exact absurd (cN h) I
   by_cases Z:s1=0
   ·rw[aeA C D U (.inr Z)];simp_all
   ·have c1:Nat.beq s1 0=false:=by cases h:Nat.beq s1 0 with | false=>rfl | true=>exact absurd (cN h) Z
    have⟨nx,Qo⟩:=aqX C D U I Z;have e1:=aqY C I;have e2:=CB D (apD E);rw[Qo];generalize hx:gm s1 (iv E)=x at *
    have aeC:x<16:=by rw[<- hx];exact gS _ _
    have e3:=aqZ aeC nx;have e4:=CB D aeC;generalize hn:lg x=n at *
    by_cases q1:n<11
    ·have d1:Nat.blt n 11=true:=jj q1;have d2:(n:Int)<11:=by omega
     have dI:n<W.length:=by omega
     have O:=O n dI;have T:=T n;cases q2:Nat.beq (gm s1 x) s2 with
     | true=>
      simp only[d1,cJ,au];generalize w.getD n 0=c at O T ⊢;simp_all
     | false=>
      simp[ e1,e2,e3,e4,aey,q2,Y]
    ·have d1:Nat.blt n 11=false:=by
      cases h:Nat.blt n 11 with
      |false=>rfl
      |true=>exact absurd (cz h) (by omega)
     have d2:¬ (n:Int)<11:=by omega
     simp only[d1,Bool.false_and,ax];simp[bY,c0,c1,e1,e2,e3,d2,Y]
def Ob{w:aa Nat}(hw:kz w)(hl:w.length=11):(lE w).1.length=11/\kz (lE w).1/\((lE w).2.1=0 \/ (lE w).2.1=1 \/ (lE w).2.1=2):=by
 have C:=yu w 0 11;unfold lE;cases E2 w with
 |true=>simp_all
 | false=>
  cases loc _ _ _ with
  |none=>simp_all
  |some k=>exact⟨by simp[hl],hw.set (mK (hw.get k) C),.inr (.inl rfl)⟩
def aq1{w:aa Nat}(hw:kz w)(hl:w.length=11):M0 (cH w)=some (cH (w.drop 3)):=by
 unfold M0 xA xZ;have c0:((w.length:Int)==(11:Int))=true:=by rw[hl];rfl
 have C:(cH w).length=11:=by rw[vX,hl]
 rw[Uw hw (by omega),ay,c0,show (!true)=false from rfl,ax,C];have e:((cH w).take ((11:Nat):Int).toNat).drop (3:Int).toNat=cH (w.drop 3):=by
  rw[List.take_of_length_le (by omega)];simp_all
 have D:bV (([]:aa Int).length+(cH (w.drop 3)).length)=true:=by
  rw[vX,List.length_drop,hl];rfl
 simp_all
def Oc(x:mY):Prop:=Jp x.bX/\Jp x.next
def aeD(x:bM):Prop:=(x.aE.length<=1048576)
def aq2(x:dR):Prop:=(x.last.length<=1048576)/\(x.bf.length<=1048576)
def U2(x:cB):Prop:=(x.symbols.length<=1048576)
def Od(x:dw):Prop:=(x.cells.length<=1048576/\∀y∈x.cells,U2 y)/\(x.bu.length<=1048576)/\(x.bg.length<=1048576)
def aq3(x:dL):Prop:=(x.map.length<=1048576)
def E3(x:eH):Prop:=(x.aC.length<=1048576)
def mM(x:cX):Prop:=(x.rows.length<=1048576)/\(x.counts.length<=1048576)
def cZ(x:av):Prop:=Oc x.box/\aeD x.aF/\aq2 x.ready/\Od x.array/\aq3 x.spare/\E3 x.az/\(x.bB.length<=1048576/\∀y∈x.bB,mM y)/\(x.guard.length<=1048576)/\(x.pending.length<=1048576)/\(x.queue.length<=1048576)/\(x.shares.length<=1048576)/\(x.errors.length<=1048576)/\(x.trace.length<=1048576)/\(x.bA.length<=1048576)
def oh(c:fo)(p:cK):Bool:=(sY c p).getD false
def Jr(c:fo)(p:cK)(hl:p.weights.length<1073741823):sY c p=some (oh c p):=by
 obtain⟨b,e,_⟩:=UF c p hl;unfold oh;rw[e];rfl
def ba1(a x:Bool):(bif a then some x else some false)=some (a&&x):=by cases a<;>rfl
def ba2(a x:Bool):(bif !a then some false else some x)=some (a&&x):=by cases a<;>rfl
def ba3(a b:Int)(x:Bool):(bif a != b then some false else some x)=some (a==b&&x):=by
 rw[bne];cases a==b<;>rfl
theorem ba4(p:Prop)[Decidable p](x:Bool):(bif decide p then some false else some x)=some (!decide p&&x):=by cases decide p<;>rfl
def cD(c:av):Bool:=
 oh c.config c.box.bX&&(oh c.config c.box.next&&(aT c.now 0 1000000&&(kN c.config.ak c.aF&&(jR c.config.ak c.ready&&(nB c.config.ak c.array&&(nG c.config.ak c.spare&&(c.spare.cF==c.config.cF&&((fY c.az&&tq c)&&(gw (dV (fZ c.config.ak c.spare)) c.queue&&(kB c.shares&&((c.shares.length:Int)==4&&(qA c.drain&&(lD c.aN&&(c.aN.state==c.aF.aN&&(!decide (c.aN.since > c.now)&&(aT c.eA.every 1 100000&&(aT c.eA.wait 1 c.eA.every&&(aT c.eA.next 0 (W6 (dV c.config.ak-1))&&(oe c.errors&&(decide ((c.trace.length:Int)<=2000)&&decide ((c.bA.length:Int)<=400)))))))))))))))))))))
def aq4(c:av)(h:cD c=true):nB c.config.ak c.array=true:=by
 simp only[cD,aJ]at h;exact h.2.2.2.2.2.1
def E4(c:av)(C:cZ c):yh c=some (cD c):=by
 have⟨⟨D,E⟩,Y,⟨Z,z5⟩,⟨⟨z6,I⟩,z7,z8⟩,z9,O,⟨qG,au8⟩,rT,o7,rU,v9,z16,z17,z18⟩:=C;unfold Jp at D E;have T:∀ x∈c.array.cells,x.symbols.length<1073741824:=λx U=>by
  have:=I x U;unfold U2 at this;omega
 unfold E3 at O;unfold yh cD;simp only[Jr _ _ (show c.box.bX.weights.length<1073741823 by omega),Jr _ _ (show c.box.next.weights.length<1073741823 by omega),dh,ad1,UL,adR _ _ T,ad8,aqa _ (show c.az.aC.length<1073741824 by omega),N7,Aq,UI _ _ (show c.queue.length<1073741824 by omega),Jc _ (show c.shares.length<1073741824 by omega),NY,N0,ad4 _ (show c.errors.length<1073741824 by omega),ay,ba1,ba2,ba3,ba4]
def yD(c:av)(i:Nat):Bool:=!(uI c.config.dS c.array i)
def aq5(R C:Nat)(E:0<R)(p:Nat->Bool):(List.range (C*R)).all p=(List.range C).all λb=>(List.range R).all λj=>p (b*R+j):=by
 rw[Bool.eq_iff_iff,bT,bT];simp only[gi,bT];constructor
 ·intro h b hb j D;refine h _ ?_;have:=yA (R:=R) hb (show j+1<=R from D);omega
 ·intro h i hi;have hb:i / R<C:=Nat.div_lt_of_lt_mul (by rw[Nat.mul_comm];exact hi);have D:i % R<R:=Nat.mod_lt _ E;have e:i / R*R+i % R=i:=by rw[Nat.mul_comm];exact Nat.div_add_mod i R
  have:=h _ hb _ D;rw[e]at this;exact this
def aeE(c:av)(g:aH)(b r:Int):ES (((),(),b,r,()),(jT c,(g.bI,g.aE,g.rows,g.aR,()),()))=(bif (decide (r<g.rows))then (Ao g c.config.dS c.array b r).bind λC=>bif C then some (.inr (.inl ((false,()),())))else some (.inl (((),(),b,(W6 (r+(1:Int))),()),(jT c,(g.bI,g.aE,g.rows,g.aR,()),())))else some (.inr (.inr (.inl (((),(),b,()),(jT c,(g.bI,g.aE,g.rows,g.aR,()),())))))):=rfl
def aeF(c:av)(g:aH)(b:Int):NI (((),(),b,()),(jT c,(g.bI,g.aE,g.rows,g.aR,()),()))=((jP g).bind λD=>bif (decide (b<D))then (iter ES bq (((),(),b,(0:Int),()),(jT c,(g.bI,g.aE,g.rows,g.aR,()),()))).bind (Sum.elim (λE=>some (.inr (.inl ((E.1.1,()),())))) (Sum.elim (λC=>some (.inl (((),(),(W6 (C.1.2.2.1+(1:Int))),()),C.2))) (λz=>nomatch z)))else some (.inr (.inr (.inl ((),()))))):=rfl
def U3{g:aH}{a:dw}(h:nB g a=true):cy g=true/\(a.bu.length:Int)=fM g/\(a.bg.length:Int)=fM g:=by
 simp[nB,aJ,fC]at h;simp_all
def aq6{g:aH}(l:lI)(a:dw){R b j:Nat}(E:g.rows=(R:Int))(C:b*R+j<a.bu.length)(D:b*R+j<a.bg.length)(T:a.bu.length<100000):Ao g l a (b:Int) (j:Int)=some (uI l a (b*R+j)):=by
 have I:W6 ((b:Int)*(R:Int))=((b*R:Nat):Int):=by rw[<-Int.natCast_mul];exact N6 (by omega)
 have O:W6 (((b*R:Nat):Int)+(j:Int))=((b*R+j:Nat):Int):=by rw[<-Int.natCast_add];exact N6 (by omega)
 have hw:W6 (W6 ((b:Int)*g.rows)+(j:Int))=((b*R+j:Nat):Int):=by rw[E,I,O]
 unfold Ao uI xI;generalize b*R+j=i at *
 simp only[hw,cS,bJ C,bJ D,Option.getD_some];by_cases h:a.bu[i] > l.bu<;>simp[C,D,h]
def aq7(c:av)(E:cZ c):NJ c=some (cD c&&(List.range c.array.bu.length).all (yD c)):=by
 unfold NJ cY;rw[E4 c E,ay];cases I:cD c with
 |false=>rfl
 | true=>
  obtain⟨hg,Y,Z⟩:=U3 (aq4 c I);have O:=ey c.config.ak;have b2:=ta c.config.ak;have gb:=fW hg;have er:aI c.config.ak*c.config.ak.rows=fM c.config.ak:=by simp[fM,hg]
  generalize T:c.config.ak=g at *
  obtain⟨C,hb⟩:=fD O.1;obtain⟨R,D⟩:=fD (show 0<=g.rows by omega);have hlen:c.array.bu.length=C*R:=by
   rw[hb,D,<-Int.natCast_mul]at er;omega
  have inner:∀ b:Nat,b<C->iter ES bq (((),(),(b:Int),(0:Int),()),(jT c,(g.bI,g.aE,g.rows,g.aR,()),()))=some (bif (List.range R).all (λj=>yD c (b*R+j))then .inr (.inl (((),(),(b:Int),()),(jT c,(g.bI,g.aE,g.rows,g.aR,()),())))else .inl ((false,()),())):=by
   intro b U;have e:=jy (step:=ES) (List.range R) (λj=>yD c (b*R+j)) (λi=>(((),(),(b:Int),(i:Int),()),(jT c,(g.bI,g.aE,g.rows,g.aR,()),()))) (.inl ((false,()),())) (.inr (.inl (((),(),(b:Int),()),(jT c,(g.bI,g.aE,g.rows,g.aR,()),())))) bq (λk h=>by
    rw[eo]at h;have hk:=yA (R:=R) U (show k+1<=R from h);rw[lH,aeE,aY,au,aq6 c.config.dS c.array D (by omega) (by omega) (by omega),ay,cc];unfold yD;cases uI c.config.dS c.array (b*R+k)<;>rfl) (by
    rw[eo,aeE,bh,ax]) (by rw[eo];exact cu)
   rw[dm]at e;exact e
  have e:=jy (step:=NI) (List.range C) (λb=>(List.range R).all λj=>yD c (b*R+j)) (λi=>(((),(),(i:Int),()),(jT c,(g.bI,g.aE,g.rows,g.aR,()),()))) (.inl ((false,()),())) (.inr (.inl ((),()))) bq (λk h=>by
   rw[eo]at h;rw[lH,aeF,jz,ay,hb,aY,au,inner k h,ay];cases (List.range R).all λj=>yD c (k*R+j)with
   |false=>rfl
   | true=>
    simp only[au,Sum.elim_inr,gD];rw[cc]) (by
   rw[eo,aeF,jz,ay,hb,bh,ax]) (by rw[eo];exact cu)
  rw[dm]at e;simp only[bL,ax,cJ];subst T
  refine(bz (λo=>Option.bind o _) e).trans ?_
  rw[ay,hlen,aq5 R C (by omega)];cases (List.range C).all λb=>(List.range R).all λj=>yD c (b*R+j)<;>rfl
def aeG(p:cK):Prop:=(0<=p.eX/\p.eX<=1)/\(0<=p.cap/\p.cap<=200)/\(0<=p.low/\p.low<=2)/\(p.low<p.high/\p.high<=6)/\(∃(i:Nat) (w:Int),i<4/\1<=w/\w<=4/\p.weights=[1,1,1,1].set i w)/\(5<=p.dj.down/\p.dj.down<=24)/\(60<=p.dj.sleep/\p.dj.sleep<=119)
def we(p:cK):Prop:=aeG p/\8<=p.di/\p.di<=17
def aq8{b:aa Int}{c:bx}(T:ku b c):Dr b (Ma c) aeG:=by
 unfold Ma xL;rw[T.eq];show Dr b (Option.bind (some _) _) _;rw[ay]
 refine(ff T 2).bind λx1 k1 U Y=>?_
 dsimp only;rw[Y.eta]
 refine(NU Y _ (by decide)).bind λZ k2 h2 rK=>?_
 dsimp only;rw[rK.eta]
 refine(ff rK 6).bind λx3 k3 h3 sV=>?_
 dsimp only;rw[sV.eta]
 refine(ff sV 3).bind λC k4 D vL=>?_
 dsimp only;rw[vL.eta]
 refine(ff vL 4).bind λE k5 h5 xT=>?_
 dsimp only;rw[xT.eta]
 refine(ff xT 4).bind λx6 k6 h6 Jt=>?_
 dsimp only;rw[Jt.eta]
 refine(ff Jt 4).bind λx7 k7 h7 AE=>?_
 have a1:=U.2.2 (by omega);have a3:=h3.2.2 (by omega);have a4:=D.2.2 (by omega);have a5:=h5.2.2 (by omega);have a6:=h6.2.2 (by omega);have a7:=h7.2.2 (by omega);have b3:=h3.1;have b4:=D.1;have b5:=h5.1;have b6:=h6.1;have b7:=h7.1;have hl:x6.toNat<([1,1,1,1]:aa Int).length:=by simp only[mb,List.length_nil];omega
 dsimp only;rw[aO ⟨b6,hl⟩,aO hl,AE.eta]
 refine(ff AE 20).bind λI k8 h8 Ju=>?_
 dsimp only;rw[Ju.eta]
 refine(ff Ju 60).bind λO k9 h9 Jv=>?_
 dsimp only;rw[Jv.eta];have a8:=h8.2.2 (by omega);have a9:=h9.2.2 (by omega);have b8:=h8.1;have b9:=h9.1;rw[aZ (n:=3+x3),aZ (n:=C+1),aZ (n:=C+1+E),aZ (n:=1+x7),aZ (n:=5+I),aZ (n:=60+O)];simp only[gv,List.not_mem_nil,or_false]at h2;refine Dr.pure Jv ⟨⟨U.1,by show x1<=_;omega⟩,⟨by show 0<=Z;omega,by show Z<=_;omega⟩,⟨D.1,by show C<=_;omega⟩,⟨by show C<C+1+E;omega,by show C+1+E<=_;omega⟩,⟨x6.toNat,1+x7,by omega,by omega,by omega,rfl⟩,⟨by show 5<=5+I;omega,by show 5+I<=_;omega⟩,⟨by show 60<=60+O;omega,by show 60+O<=_;omega⟩⟩
def aeH{b:aa Int}{c:bx}(C:ku b c):Dr b (Ho c) we:=by
 unfold Ho;rw[C.eq]
 refine(aq8 C).bind λT U O D=>?_
 dsimp only;rw[D.eta]
 refine(ff D 10).bind λE Y Z I=>?_
 dsimp only;rw[I.eta];rw[aZ];exact Dr.pure I ⟨O,by show 8 <= 8+E;omega,by show 8+E <= _;omega⟩
def aq9{b:aa Int}{c:bx}(C:ku b c):Dr b (L7 c) λg=>g.bI=1/\1<=g.aE/\g.aE<=2/\1<=g.aR/\g.aR<=2:=by
 unfold L7;rw[C.eq]
 refine(ff C 2).bind λD k1 E I=>?_
 dsimp only;rw[I.eta]
 refine(ff I 3).bind λx2 k2 O T=>?_
 dsimp only;rw[T.eta]
 refine(ff T 2).bind λU k3 Y Z=>?_
 dsimp only;rw[Z.eta];have a1:=E.2.2 (by omega);have a2:=O.2.2 (by omega);have a3:=Y.2.2 (by omega);have b1:=E.1;have b2:=O.1;have b3:=Y.1;rw[aZ,aZ,aZ];exact Dr.pure Z ⟨rfl,by show 1<=1+D;omega,by show 1+D<=_;omega,by show 1<=1+U;omega,by show 1+U<=_;omega⟩
def ara{b:aa Int}{c:bx}(C:ku b c):Dr b (L9 c) λm=>0 <= m.order/\m.order <= 2:=by
 unfold L9;rw[C.eq]
 refine(ff C 3).bind λI T O D=>?_
 rw[D.eta]
 refine(NV D 2).bind λU Y Z E=>?_
 rw[E.eta];exact Dr.pure E ⟨O.1,by show I <= 2;omega⟩
def jb(mW wr:Int):cg:=⟨3,3,7,2,3,10,2,3,mW,wr,4,5,4,12,3,4,16⟩
def Jw(g:aH):Prop:=(1<=g.bI/\g.bI<=2)/\(1<=g.aE/\g.aE<=2)/\(4<=g.rows/\g.rows<=6)/\(1<=g.aR/\g.aR<=2)
def jB(x:fo):Prop:=Jw x.ak/\(∃r w:Int,1<=r/\r<=4/\4<=w/\w<=8/\x.bQ=jb r w)/\(0<=x.mapping.order/\x.mapping.order<=2)/\(0<=x.cF/\x.cF<=2)/\(200<=x.interval/\x.interval<=259)/\x.ij=16/\x.dS=⟨6*x.interval,40⟩
def aeI{b:aa Int}{c:bx}(O:ku b c):Dr b (Hl c) jB:=by
 unfold Hl;rw[O.eq]
 refine(aq9 O).bind λg kg hg T=>?_
 dsimp only;rw[T.eta];obtain⟨g1,g2,g3,g4,g5⟩:=hg;show Dr b (Option.bind (some _) _) _;rw[ay]
 refine(ara T).bind λm km U Y=>?_
 dsimp only;rw[Y.eta]
 refine(ff Y 60).bind λC k1 Z ur=>?_
 dsimp only;rw[ur.eta]
 refine(ff ur 3).bind λD k2 h2 rK=>?_
 dsimp only;rw[rK.eta]
 refine(ff rK 2).bind λE k3 h3 sV=>?_
 dsimp only;rw[sV.eta]
 refine(ff sV 3).bind λx4 k4 h4 vL=>?_
 dsimp only;rw[vL.eta]
 refine(NV vL 3).bind λx5 k5 h5 I=>?_
 dsimp only;rw[I.eta];have a1:=Z.2.2 (by omega);have a2:=h2.2.2 (by omega);have a3:=h3.2.2 (by omega);have a4:=h4.2.2 (by omega);have b1:=Z.1;have b2:=h2.1;have b3:=h3.1;have b4:=h4.1;have e1:W6 (200+C)=200+C:=aZ;have e2:W6 (6*(200+C))=6*(200+C):=aZ;have e3:W6 (4+D)=4+D:=aZ;have e4:W6 (1+E)=1+E:=aZ;rw[e1,e2,e3,e4];have hG:Jw ⟨1+E,g.aE,4+D,g.aR⟩:=⟨⟨by show 1<=1+E;omega,by show 1+E<=2;omega⟩,⟨g2,g3⟩,⟨by show 4<=4+D;omega,by show 4+D<=6;omega⟩,⟨g4,g5⟩⟩
 cases x5 with
 | true=>
  rw[au]
  refine(ff I 5).bind λx6 k6 h6 Jt=>?_
  dsimp only;rw[Jt.eta]
  refine(ff Jt 4).bind λx7 k7 h7 AE=>?_
  dsimp only;rw[AE.eta];have a6:=h6.2.2 (by omega);have a7:=h7.2.2 (by omega);have b6:=h6.1;have b7:=h7.1;rw[aZ (n:=1+x7),aZ (n:=4+x6)];exact Dr.pure AE ⟨hG,⟨1+x7,4+x6,by omega,by omega,by omega,by omega,rfl⟩,U,⟨b4,by show x4<=2;omega⟩,⟨by show 200<=200+C;omega,by show 200+C<=259;omega⟩,rfl,rfl⟩
 |false=>exact Dr.pure I ⟨hG,⟨3,6,by omega,by omega,by omega,by omega,rfl⟩,U,⟨b4,by show x4<=2;omega⟩,⟨by show 200<=200+C;omega,by show 200+C<=259;omega⟩,rfl,rfl⟩
def jU(p:aX->Bool)(q:aa aX):Nat:=(q.findIdx? p).getD q.length
def U4(p:aX -> Bool)(q:aa aX):jU p q <= q.length:=by
 unfold jU;cases h:q.findIdx? p with
 |none=>simp_all
 | some k=>
  have⟨C,_⟩:=qP.1 h
  grind
def jc(p:aX->Bool)(q:aa aX)(r:aX):aa aX:=(q.take (jU p q)++[r])++q.drop (jU p q)
def Oe(p:aX->Bool)(q:aa aX)(r:aX):(jc p q r).length=q.length+1:=by
 have:=U4 p q;simp[jc];omega
def arb{p:aX -> Bool}{q:aa aX}{i:Nat}(h:i<jU p q)(hi:i<q.length):p q[i]=false:=by
 unfold jU at h;cases C:q.findIdx? p with
 |none =>simp_all
 | some k=>
  rw[C]at h;have⟨_,_,D⟩:=qP.1 C;simp_all
def arc{p:aX -> Bool}{q:aa aX}(h:jU p q<q.length):p q[jU p q]=true:=by
 unfold jU at h;cases C:q.findIdx? p with
 |none=>grind
 | some k=>
  have⟨D,E,_⟩:=qP.1 C;have e:jU p q=k:=by unfold jU;rw[C];rfl
  simp_all
def U5{n:Int}{l:aa aX}(h:gw n l=true){i j:Nat}(E:i<j)(D:j<l.length):(l[i].id==l[j].id)=false:=by
 unfold gw at h;rw[aJ,bT]at h;have C:=h.1 j (gi.2 D);unfold rQ at C;rw[bJ D]at C;simp at C;have:=C.2.2 l[i] (iU.2 ⟨i,by simp;omega,by simp⟩);simp_all
def aeJ{n:Int}{p:aX->Bool}{q:aa aX}{r:aX}(h:gw n (jc p q r)=true):∀ x∈q,(x.id==r.id)=false:=by
 intro x D;have E:=U4 p q;have hl:=Oe p q r;obtain⟨i,hi,rfl⟩:=iU.1 D;have C:(jc p q r)[jU p q]'(by omega)=r:=by
  unfold jc;rw[List.getElem_append_left (by simp;omega),List.getElem_append_right (by simp;omega)];simp
 by_cases c:i<jU p q
 ·have e:(jc p q r)[i]'(by omega)=q[i]:=by
   unfold jc;rw[List.getElem_append_left (by simp;omega),List.getElem_append_left (by simp;omega),List.getElem_take]
  have:=U5 h c (by omega);rw[e,C]at this;exact this
 ·have e:(jc p q r)[i+1]'(by omega)=q[i]:=by
   unfold jc;rw[List.getElem_append_right (by simp;omega),List.getElem_drop];congr 1;simp;omega
  have:=U5 h (show jU p q<i+1 by omega) (by omega);rw[e,C]at this;rw[aqQ];exact this
def aeK{p C:aX->Bool}:∀ {q:aa aX},(∀ x∈q,p x=C x)->q.findIdx? p=q.findIdx? C
 |[],_=>rfl
 | y :: q,h=>by
  rw[List.findIdx?_cons,List.findIdx?_cons,h y (.head _),aeK λx D=>h x (.tail _ D)]
def aeL{n:Int}{q:aa aX}{r:aX}(h:gw n (jc (λx=>!fm x r) q r)=true\/gw n (jc (λx=>fm r x) q r)=true):jc (λx=>!fm x r) q r=jc (λx=>fm r x) q r:=by
 have E:∀ x∈q,(x.id==r.id)=false:=by
  rcases h with h|h
  ·exact aeJ h
  ·exact aeJ h
 have C:∀ x∈q,(!fm x r)=fm r x:=by
  intro x C;have D:=E x C;have D:¬ x.id=r.id:=by simpa using D
  unfold fm;rw[Bool.eq_iff_iff];simp only[fB,mU,Bool.and_eq_false_iff,oA,beq_eq_false_iff_ne,dQ,aJ,fC,eG];omega
 have e:jU (λx=>!fm x r) q=jU (λx=>fm r x) q:=by
  unfold jU;rw[aeK C]
 unfold jc;rw[e]
def AF(n:Int)(q:aa aX)(r:aX):aa aX×Bool:=bif gw n q&&gw n (jc (λx=>fm r x) q r)then (jc (λx=>fm r x) q r,true)else (q,false)
def U6(q:aa aX)(h:q.length<1073741824):Ih q=some q:=by
 unfold Ih xA xZ;rw[eM (by simpa using h)];rfl
def U7(r:aX):(⟨r.id,r.dn,r.line,r.write,r.data,r.at_⟩:aX)=r:=rfl
def ard(n:Int)(q:aa aX)(r:aX)(hl:q.length<1000000000):MT n q r=some (AF n q r):=by
 have E:=U4 (λx=>!fm x r) q;unfold MT bR;have e:=eJ (step:=Ii) (jU (λx=>!fm x r) q) (λi=>((n,q,(),(i:Int),()),((r.id,r.dn,r.line,r.write,r.data,r.at_,()),()))) (.inl ((n,q,(),((jU (λx=>!fm x r) q:Nat):Int),()),((r.id,r.dn,r.line,r.write,r.data,r.at_,()),()))) bq (λk h=>by
  have C:=arb h (by omega);have C:fm q[k] r=true:=by simpa using C
  unfold Ii aM xG xI;dsimp only;rw[aY,au,aO ⟨by omega,by omega⟩];simp only[bE];rw[U7,UH,ay,C,au,cc]) (by
  unfold Ii aM xG xI;dsimp only;by_cases c:jU (λx=>!fm x r) q<q.length
  ·have C:=arc c;have C:fm q[jU (λx=>!fm x r) q] r=false:=by simpa using C
   rw[aY,au,aO ⟨by omega,by omega⟩];simp only[bE];rw[U7,UH,ay,C,ax]
  ·rw[bh,ax]) (cu)
 rw[dm]at e;rw[e,ay];simp only[gD];rw[aV ⟨by omega,by omega,by omega⟩,aV ⟨by omega,by omega,by omega⟩];simp only[bE,Int.toNat_zero,List.drop_zero,mV];rw[U7,U6 _ (by simp;omega),ay,eM (by simp;omega),au,eM (by simp;omega),au,UI n q (by omega),ay];unfold AF;have I:=Oe (λx=>!fm x r) q r;cases O:gw n q with
 | false=>
  rw[Bool.not_false,au,U6 _ (by omega),ay];rfl
 | true=>
  rw[bL,ax];show (Cl n (jc (λx=>!fm x r) q r)).bind _=_;rw[UI n _ (by omega),ay,cJ];cases C:gw n (jc (λx=>!fm x r) q r)with
  | false=>
   have D:gw n (jc (λx=>fm r x) q r)=false:=by
    cases D:gw n (jc (λx=>fm r x) q r)with
    |false=>rfl
    |true=>rw[aeL (.inr D),D]at C;cases C
   rw[D,Bool.not_false,au,U6 _ (by omega),ay];rfl
  | true=>
   have D:=aeL (.inl C);rw[<-D,C,bL,ax,au];rfl
abbrev arf:=((ah×ah×ah×(aa cX)×Int×Int×ah)×(av×av×(Int×Int×Int×Int×Int×Int×Int×Int×Int×Int×Int×Int×Int×Int×Int×Int×Int×Int×Int×Int×Int×Int×Bool×Int×Int×Int×Int×Int×Int×Int×Int×Int×Int×ah×Int×Int×Int×Int×Int×Int×Int×ah×Int×Int×Bool×Int×ah×Int×ah×ah×ah×ah×ah×Int×ah×ah×Int×Bool×ah×(aa Int)×(aa aQ)×(aa aX)×(aa dD)×Bool×Int×Int×Int×Int×Int×Int×Int×Int×(aa cP)×(aa bO)×(aa gj)×ah)×(aa Int)×(aa Int)×(aa ep)×(aa Int)×(aa Int)×(aa cB)×(aa Int)×(aa Int)×(aa Int)×(aa Int)×(aa cX)×ah))
def om{α:Type}(l:aa α)(h:l.length<=1048577:=by omega):bV (([]:aa α).length+l.length)=true:=eM (by simp;omega)
def aeM(t:cX)(h:mM t):En t=some t:=by
 unfold En xA xZ;have C:=h.1;have D:=h.2;rw[om _,om _];rfl
def arh(s:arf)(D:s.1.2.2.2.2.2.1=0)(hn:s.1.2.2.2.2.1=(s.1.2.2.2.1.length:Int))(E:s.2.2.2.2.2.2.2.2.2.2.2.2.2.2.1=[])(C:s.1.2.2.2.1.length <= 1048576 /\ ∀ y∈s.1.2.2.2.1,mM y):iter Eo bq s=some (.inl (((),(),(),()),(s.2.1,s.2.2.1,s.2.2.2.1,s.2.2.2.2.1,s.2.2.2.2.2.1,s.2.2.2.2.2.2.1,s.2.2.2.2.2.2.2.1,s.2.2.2.2.2.2.2.2.1,s.2.2.2.2.2.2.2.2.2.1,s.2.2.2.2.2.2.2.2.2.2.1,s.2.2.2.2.2.2.2.2.2.2.2.1,s.2.2.2.2.2.2.2.2.2.2.2.2.1,s.2.2.2.2.2.2.2.2.2.2.2.2.2.1,s.1.2.2.2.1,s.2.2.2.2.2.2.2.2.2.2.2.2.2.2.2))):=by
 have e:=eJ (step:=Eo) s.1.2.2.2.1.length (λi=>(((),(),(),s.1.2.2.2.1,s.1.2.2.2.1.length,i,()),(s.2.1,s.2.2.1,s.2.2.2.1,s.2.2.2.2.1,s.2.2.2.2.2.1,s.2.2.2.2.2.2.1,s.2.2.2.2.2.2.2.1,s.2.2.2.2.2.2.2.2.1,s.2.2.2.2.2.2.2.2.2.1,s.2.2.2.2.2.2.2.2.2.2.1,s.2.2.2.2.2.2.2.2.2.2.2.1,s.2.2.2.2.2.2.2.2.2.2.2.2.1,s.2.2.2.2.2.2.2.2.2.2.2.2.2.1,s.1.2.2.2.1.take i,s.2.2.2.2.2.2.2.2.2.2.2.2.2.2.2))) _ bq (λk h=>by
  unfold Eo aM xG xI;dsimp only;rw[aY,au,aO ⟨by omega,by omega⟩];simp only[bE];rw[aeM _ (C.2 _ (cR _)),ay,eM (by simp;omega),au,cc,uH h]) (by
  unfold Eo aM xG xI;dsimp only;rw[bh,ax,mV]) (cu)
 grind
def aeN(l:aa Int)(h:l.length <= 1048577):MH l=some l:=by
 cases l with
 |nil=>rfl
 | cons a l=>
  show (bif bV _ then some _ else none)=_;rw[om _ h];rfl
def ari(l:aa aQ)(h:l.length <= 1048577):TH l=some l:=by
 cases l with
 |nil=>rfl
 | cons a l=>
  show (bif bV _ then some _ else none)=_;rw[om _ h];rfl
def arj(l:aa aX)(h:l.length <= 1048577):TI l=some l:=by
 cases l with
 |nil=>rfl
 | cons a l=>
  show (bif bV _ then some _ else none)=_;rw[om _ h];rfl
def ark(l:aa dD)(h:l.length <= 1048577):TJ l=some l:=by
 cases l with
 |nil=>rfl
 | cons a l=>
  show (bif bV _ then some _ else none)=_;rw[om _ h];rfl
def arl(l:aa cP)(h:l.length <= 1048577):TK l=some l:=by
 cases l with
 |nil=>rfl
 | cons a l=>
  show (bif bV _ then some _ else none)=_;rw[om _ h];rfl
def arn(l:aa bO)(h:l.length <= 1048577):TL l=some l:=by
 cases l with
 |nil=>rfl
 | cons a l=>
  show (bif bV _ then some _ else none)=_;rw[om _ h];rfl
def aro(l:aa gj)(h:l.length <= 1048577):TM l=some l:=by
 cases l with
 |nil=>rfl
 | cons a l=>
  show (bif bV _ then some _ else none)=_;rw[om _ h];rfl
def aeO(b:mY)(h:Oc b):HO b=some b:=by
 have C:b.bX.weights.length <= 1048576:=h.1;have D:b.next.weights.length <= 1048576:=h.2
 unfold HO vR xA xZ;rw[om _,au,om _];rfl
def Of(c:av)(D:cZ c):Cf c=some c:=by
 obtain⟨E,I,O,C,T,U,Y,z8,z9,n9,qG,rT,o7,rU⟩:=D;have y2:c.aF.aE.length<=1048576:=I;obtain⟨y3,y3'⟩:=O;have y5:c.spare.map.length<=1048576:=T;have y6:c.az.aC.length<=1048576:=U;unfold Cf bR;rw[aeO _ E,ay];unfold Ej El Ce xA xZ;rw[om _,au,ay,om _,au,om _,au,ay,adQ _ (by have:=C.1.1;omega) (by have:=C.2.1;omega) (by have:=C.2.2;omega) (λx Z=>by have:x.symbols.length<=1048576:=C.1.2 x Z;omega),ay,aeN _ (by omega),ay,om _,au,ay]
 refine(bz (λo=>Option.bind o _) (arh _ rfl rfl rfl Y)).trans ?_
 rw[ay];simp only[gD];rw[aeN c.guard (by omega),ay,ari c.pending (by omega),ay,arj c.queue (by omega),ay,ark c.shares (by omega),ay,arl c.errors (by omega),ay,arn c.trace (by omega),ay,aro c.bA (by omega),ay];rfl
def fh{α:Type}(p:α->Bool)(q:aa α):Nat:=(q.findIdx? p).getD q.length
def E5{α:Type}(p:α -> Bool)(q:aa α):fh p q <= q.length:=by
 unfold fh;cases h:q.findIdx? p with
 |none=>simp_all
 | some k=>
  have⟨C,_⟩:=qP.1 h
  grind
def uQ{α:Type}{p:α -> Bool}{q:aa α}{i:Nat}(h:i<fh p q)(hi:i<q.length):p q[i]=false:=by
 unfold fh at h;cases C:q.findIdx? p with
 |none =>simp_all
 | some k=>
  rw[C]at h;have⟨_,_,D⟩:=qP.1 C;simp_all
def AG{α:Type}{p:α -> Bool}{q:aa α}(h:fh p q<q.length):p q[fh p q]=true:=by
 unfold fh at h;cases C:q.findIdx? p with
 |none=>grind
 | some k=>
  have⟨D,E,_⟩:=qP.1 C;have e:fh p q=k:=by unfold fh;rw[C];rfl
  simp_all
def U8{α:Type}(p:α -> Bool)(q:aa α):q.any p=decide (fh p q<q.length):=by
 by_cases c:fh p q<q.length
 ·rw[aY c,List.any_eq_true];exact⟨_,cR c,AG c⟩
 ·rw[bh c,kT];intro x C;obtain⟨i,hi,rfl⟩:=iU.1 C;rw[uQ (p:=p) (by omega) hi];simp
def arp(l:aa gj)(r:aX)(hl:l.length<=1048576):MU l r=some (l.any λx=>x.id==r.id):=by
 have D:=E5 (λx:gj=>x.id==r.id) l;unfold MU TS;rw[U8];have e:=eJ (step:=Ij) (fh (λx:gj=>x.id==r.id) l) (λi=>((l,r,(l.length:Int),(i:Int),()),())) (if fh (λx:gj=>x.id==r.id) l<l.length then .inl ((((fh (λx:gj=>x.id==r.id) l:Nat):Int),()),())else .inr (.inl ((),()))) bq (λk h=>by
  have C:=uQ h (by omega);unfold Ij aM bF xG xI;dsimp only;rw[aY,au,aO ⟨by omega,by omega⟩];simp only[bE];rw[C,ax,cc]) (by
  unfold Ij aM bF xG xI;dsimp only;by_cases c:fh (λx:gj=>x.id==r.id) l<l.length
  ·rw[aY,au,aO ⟨by omega,by omega⟩,aV c];simp only[bE];rw[AG c,au]
  ·rw[bh,ax,aW c]) (cu)
 rw[dm]at e;rw[e,ay];by_cases c:fh (λx:gj=>x.id==r.id) l<l.length
 ·rw[aV c,aY c,gD,ay];dsimp only;rw[aY]
 ·rw[aW c,bh c,Sum.elim_inr,gD,ay];rfl
def lF(c:av)(r:aX):aX:=⟨r.id,r.dn,r.line,r.write,r.data,c.now⟩
def mN(c:av)(r:aX):aa aX×Bool:=AF (dV (fZ c.config.ak c.spare)) c.queue (lF c r)
def jV(c:av)(r:aX):av×Bool:=bif (!cD c) ||((!(mN c r).2) ||(c.bA.any λx=>x.id==r.id))then (c,false)else ({ c with queue:=(mN c r).1 },true)
def arq(c:av)(r:aX)(C:cZ c):MV c r=some (jV c r):=by
 unfold MV jV;rw[Of c C,ay,E4 c C,ay];obtain⟨E,I,O,T,U,Y,Z,z8,z9,n9,qG,rT,o7,D⟩:=C;cases h:cD c with
 |false=>rfl
 | true=>
  rw[bL,ax,Bool.false_or,N7,ay,Aq,ay,ard _ _ _ (by omega),ay,arp _ _ D,ay];show (bif !(mN c r).2 then some (c,false)else bif (c.bA.any λx=>x.id==r.id)then some (c,false)else some ({ c with queue:=(mN c r).1 },true))=_;cases (mN c r).2<;>cases (c.bA.any λx=>x.id==r.id)<;>rfl
def ars(c:av)(r:aX)(h:c.queue.length <= 1048576):(mN c r).1.length <= 1048576:=by
 unfold mN AF;cases hq:(gw _ _&&gw _ _)with
 |false=>exact h
 | true=>
  rw[au];rw[aJ]at hq;have:=hq.2;unfold gw at this
  grind
def art(c:av)(r:aX)(C:cZ c):cZ (jV c r).1:=by
 unfold jV;cases hb:((!cD c) ||((!(mN c r).2) ||(c.bA.any λx=>x.id==r.id)))with
 |true=>exact C
 | false=>
  have⟨D,E,I,O,T,U,Y,Z,z9,n9,qG,rT,o7,rU⟩:=C;exact⟨D,E,I,O,T,U,Y,Z,z9,ars c r n9,qG,rT,o7,rU⟩
def nb(l:aa UInt8):aa Int:=l.map λb=>(b.toNat:Int)
def gy(c:av)(a:dw):av:=⟨c.config,c.box,c.now,c.aF,c.ready,a,c.spare,c.az,c.bB,c.guard,c.pending,c.queue,c.shares,c.drain,c.aN,c.eA,c.errors,c.trace,c.bA⟩
def AH:cB:=⟨[],false⟩
def Jx(d:cB):cB:=⟨(d.symbols.set 0 (bits .xor .i64 (d.symbols.getD 0 0) 5)).set 1 (bits .xor .i64 (d.symbols.getD 1 0) 10),d.pU⟩
def qH(base:Nat):Nat->aa cB->aa cB
 |0,cs=>cs
 |n+1,cs=>(qH base n cs).set (base+n) (Jx ((qH base n cs).getD (base+n) AH))
def Og(base:Nat):∀ (n:Nat) (cs:aa cB),(qH base n cs).length=cs.length
 |0,_=>rfl
 | n+1,cs=>by
  show ((qH base n cs).set _ _).length=_;rw[jh,Og]
def aru{d:cB}(h:Sy d.symbols):Sy (Jx d).symbols:=by
 have C:0<d.symbols.length:=by rw[h.1];omega
 have l1:1<d.symbols.length:=by rw[h.1];omega
 have I:d.symbols.getD 0 0=d.symbols[0]:=by rw[cS,bJ C];rfl
 have O:d.symbols.getD 1 0=d.symbols[1]:=by rw[cS,bJ l1];rfl
 have D:=adP (h.get (k:=0) C) (b:=5) ⟨by omega,by omega⟩;have E:=adP (h.get l1) (b:=10) ⟨by omega,by omega⟩;unfold Jx;rw[I,O];exact(h.set ⟨D.1,D.2.1⟩).set ⟨E.1,E.2.1⟩
def U9{base:Nat}:∀ (n:Nat) {cs:aa cB},base+n <= cs.length -> (∀ c∈cs,Sy c.symbols) -> ∀ c∈qH base n cs,Sy c.symbols
 |0,cs,_,h=>h
 | n+1,cs,hl,h=>by
  have C:=U9 (base:=base) n (by omega) h;have hlen:=Og base n cs;refine Sy.bG C (aru ?_)
  grind
def AI(g:aH)(l:lI)(a:dw)(b r:Int):dw:=
 ⟨bif uI l a (b*g.rows+r).toNat then qH ((b*g.rows+r)*g.aR).toNat g.aR.toNat a.cells else a.cells,a.bu.set (b*g.rows+r).toNat 0,o9 g.rows r (b*g.rows+r).toNat a.bg⟩
def Va{g:aH}(hg:cy g=true){b r k:Int}(D:0 <= b)(E:b<aI g)(I:0 <= r)(O:r<g.rows)(T:0 <= k)(U:k<g.aR):0 <= (b*g.rows+r)*g.aR/\(b*g.rows+r)*g.aR+k<dV g/\0 <= b*g.rows+r/\b*g.rows+r<fM g:=by
 have er:aI g*g.rows=fM g:=by simp[fM,hg]
 have⟨Z,Y,C⟩:=CA D E I O;rw[er]at C;have⟨q0,q1,q2⟩:=CA Y C T U;have el:fM g*g.aR=dV g:=by simp[fM,dV,hg]
 simp_all
def arv{g:aH}(hg:cy g=true)(c:av){b r:Int}(hc:(c.array.cells.length:Int)=dV g)(U:∀ x∈c.array.cells,Sy x.symbols)(D:0<=b)(E:b<aI g)(I:0<=r)(O:r<g.rows):
  iter Cx bq (((),b,r,(),(0:Int),()),(c,(g.bI,g.aE,g.rows,g.aR,()),()))=some (.inl (((),b,r,(),()),(gy c ⟨qH ((b*g.rows+r)*g.aR).toNat g.aR.toNat c.array.cells,c.array.bu,c.array.bg⟩,(g.bI,g.aE,g.rows,g.aR,()),()))):=by
 obtain⟨_,_,_,_,g5,g6,g7,g8⟩:=fW hg;have b1:=oa g;obtain⟨n,hn⟩:=fD (show 0<=g.aR by omega);obtain⟨B,hB⟩:∃B,B=((b*g.rows+r)*g.aR).toNat:=⟨_,rfl⟩
 have Y:g.aR.toNat=n:=by omega
 rw[<-hB,Y];have me:B+n<=c.array.cells.length:=by
  have:=Va hg D E I O (show 0<=g.aR-1 by omega) (by omega);omega
 have e:=eJ (step:=Cx) n (λk=>(((),b,r,(),(k:Int),()),(gy c ⟨qH B k c.array.cells,c.array.bu,c.array.bg⟩,(g.bI,g.aE,g.rows,g.aR,()),()))) (.inl (((),b,r,(),()),(gy c ⟨qH B n c.array.cells,c.array.bu,c.array.bg⟩,(g.bI,g.aE,g.rows,g.aR,()),()))) bq (λk hk=>by
  have Z:fX g ⟨b,r,(k:Int)⟩=true:=As hg D E I O (by dsimp only;omega) (by dsimp only;omega);have hix:uG g ⟨b,r,(k:Int)⟩=((B+k:Nat):Int):=by
   have:=Va hg D E I O (show 0<=(k:Int) by omega) (by omega);unfold uG;rw[Z,au];dsimp only;omega
  have hlen:=Og B k c.array.cells;have T:=U9 k (by omega:B+k<=c.array.cells.length) U;show Cx (((),b,r,(),(k:Int),()),(gy c ⟨qH B k c.array.cells,c.array.bu,c.array.bg⟩,(g.bI,g.aE,g.rows,g.aR,()),()))=some (.inl (((),b,r,(),((k+1:Nat):Int),()),(gy c ⟨(qH B k c.array.cells).set (B+k) (Jx ((qH B k c.array.cells).getD (B+k) AH)),c.array.bu,c.array.bg⟩,(g.bI,g.aE,g.rows,g.aR,()),())));generalize qH B k c.array.cells=cs at hlen T;have C:B+k<cs.length:=by omega
  have s1:=Sy.mem T C;have l1:(0:Nat)<cs[B+k].symbols.length:=by rw[s1.1];omega
  have l2:(1:Nat)<cs[B+k].symbols.length:=by rw[s1.1];omega
  have c2:decide ((k:Int)<g.aR)=true:=aY;have zK:cs.getD (B+k) AH=cs[B+k]:=by rw[cS,bJ C];rfl
  have f0:cs[B+k].symbols.getD 0 0=cs[B+k].symbols[0]:=by rw[cS,bJ l1];rfl
  have f1:cs[B+k].symbols.getD 1 0=cs[B+k].symbols[1]:=by rw[cS,bJ l2];rfl
  rw[zK];unfold Jx;rw[f0,f1];unfold Cx gy xC aM xG xL xM;dsimp only;rw[c2,au,rO g,Uu,ay,hix];generalize B+k=j at C s1 l1 l2;simp (disch:=omega) [C,cc,l1,l2]) (by unfold Cx xC aM xG xL xM;simp[hn]) (cu)
 exact e
def arw(c:av){R k:Int}{nb:aa Int}(hl:nb.length<1000)(hn:∀ n∈nb,0<=n/\n<R)(O:0<=k)(T:k+R<=(c.array.bg.length:Int))(U:c.array.bg.length<1000000)(hb:∀ x∈c.array.bg,0<=x/\x<=100000):
  iter Ap bq (((),k,(),(nb.length:Int),(0:Int),()),(c,nb,()))=some (.inl ((),(gy c ⟨c.array.cells,c.array.bu,nb.foldl (λh n=>oc (k+n).toNat h) c.array.bg⟩,()))):=by
 have e:=eJ (step:=Ap) nb.length (λi=>(((),k,(),(nb.length:Int),(i:Int),()),(gy c ⟨c.array.cells,c.array.bu,(nb.take i).foldl (λh n=>oc (k+n).toNat h) c.array.bg⟩,nb,()))) (.inl ((),(gy c ⟨c.array.cells,c.array.bu,nb.foldl (λh n=>oc (k+n).toNat h) c.array.bg⟩,()))) bq (λj h=>by
  have Y:=hn _ (cR h);have D:=aev k (nb.take j) c.array.bg;have hB:=aew k (nb.take j) c.array.bg hb;rw[List.take_succ_eq_append_getElem h,List.foldl_append];simp only[List.foldl_cons,List.foldl_nil];generalize (nb.take j).foldl (λh n=>oc (k+n).toNat h) c.array.bg=G at D hB;obtain⟨q,hq⟩:=fD (show 0<=k+nb[j] by omega);have C:q<G.length:=by omega
  have hg:=hB _ (cR C);have E:W6 (k+nb[j])=(q:Int):=by rw[hq];exact aZ
  have I:W6 (G[q]+1)=G[q]+1:=aZ;rw[hq,bE,apJ C];unfold Ap gy aM xG xL;simp (disch:=omega) [h,E,C,I,cc,nD]) (by unfold Ap aM xG xL;simp) (cu)
 rw[dm,List.take_zero,List.foldl_nil]at e;exact e
def Vb{g:aH}(hg:cy g=true)(l:lI){B:Int}(hB:0 <= B){a:dw}(C:fG g B a){b r:Int}(D:0 <= b)(E:b<aI g)(I:0 <= r)(O:r<g.rows):fG g B (AI g l a b r):=by
 have⟨_,_,_,_,U,Y,Z,g8⟩:=fW hg;have T:((b*g.rows+r)*g.aR).toNat+g.aR.toNat <= a.cells.length:=by
  have:=Va hg D E I O (show 0 <= g.aR-1 by omega) (by omega);have:=C.cells;omega
 unfold AI;refine⟨?_,?_,by simp[C.bu],by simp[apL,C.bg],NW C.EU ⟨by omega,by omega⟩,apN C.hit⟩
 ·dsimp only;cases uI l a (b*g.rows+r).toNat with
  |false=>exact C.cells
  |true=>rw[au,Og];exact C.cells
 ·dsimp only;cases uI l a (b*g.rows+r).toNat with
  |false=>exact C.syms
  |true=>rw[au];exact U9 _ T C.syms
def aeP{g:aH}(hg:cy g=true)(l:lI){B:Int}(c:av)(C:fG g B c.array){b r:Int}(Y:0<=b)(Z:b<aI g)(D:0<=r)(E:r<g.rows):IL g l c b r=some ((),(gy c (AI g l c.array b r),())):=by
 obtain⟨_,_,_,_,g5,g6,g7,g8⟩:=fW hg;have b2:=ta g;have er:aI g*g.rows=fM g:=by simp[fM,hg]
 obtain⟨r0,r1,r2⟩:=CA Y Z D E;rw[er]at r2;have hk:b*g.rows+g.rows<=fM g:=by
  have:=(CA Y Z (show 0<=g.rows-1 by omega) (show g.rows-1<g.rows by omega)).2.2;omega
 have a1:=C.bu;have a2:=C.bg;have I:W6 (b*g.rows)=b*g.rows:=aZ;have e2:W6 (b*g.rows+r)=b*g.rows+r:=aZ;have eL:=arv hg c C.cells C.syms Y Z D E;unfold AI;generalize qH ((b*g.rows+r)*g.aR).toNat g.aR.toNat c.array.cells=cs at eL;obtain⟨i,hi⟩:=fD r1;obtain⟨k,O⟩:∃k,k=b*g.rows:=⟨_,rfl⟩
 rw[<-O]at hi hk I e2 r0 r1 r2;unfold IL bR xL;rw[<-O,I,e2];rw[hi]at r2;rw[hi,bE];have T:i<c.array.bu.length:=by omega
 have U:i<c.array.bg.length:=by omega
 have Q3:Ao g l c.array b r=some (uI l c.array i):=by
  unfold Ao xI;have Vc:W6 (i:Int)=i:=aZ;simp only[<-O,I,hi,Vc];unfold uI;simp only[cS,bJ T,bJ U,Option.getD_some];by_cases h:c.array.bu[i] > l.bu<;>simp[T,U,h]
 rw[Q3,ay];have b1:=NW C.hit (k:=i) (v:=0) ⟨by omega,by omega⟩;have rA:=aet g5 g6 D E;have sF:=aqS g.rows r;have Vd:∀ cells:aa cB,iter Ap bq (((),k,(),((ia g.rows r).length:Int),(0:Int),()),(gy c ⟨cells,c.array.bu.set i 0,c.array.bg.set i 0⟩,ia g.rows r,()))=some (.inl ((),(gy c ⟨cells,c.array.bu.set i 0,o9 g.rows r i c.array.bg⟩,()))):=λcells=>by
  have:=arw (gy c ⟨cells,c.array.bu.set i 0,c.array.bg.set i 0⟩) (R:=g.rows) (k:=k) (nb:=ia g.rows r) (by omega) (aeu D E) r0 (by simp[gy];omega) (by simp[gy];omega) b1;simp only[gy]at this ⊢;rw[aqT hi r0 D]at this;exact this
 have h2x:Ue=Ap:=rfl;unfold gy at Vd eL ⊢;cases uI l c.array i with
 | false=>
  simp[T,U,rA,h2x,Vd]
 | true=>
  rw[au,eL];have Vc:W6 (i:Int)=i:=aZ;simp[<-O,I,Vc,hi,T,U,rA,Vd]
def CH(p:ep×ep):Bool:=(p.1.open_==p.2.open_)&&((p.1.row==p.2.row)&&true)
def Oh(c:av):Bool:=(runT c.config.ak c.config.bQ c.trace).isSome&&match CG c.config.ak c.trace with
 |some r=>(r.aN==c.aF.aN)&&((r.aE.zip c.aF.aE).all CH&&(AD (og c.config.ak c.trace).last c.ready.last&&AD (og c.config.ak c.trace).bf c.ready.bf))
 |none=>false
def aeQ{c:fo}{p:cK}(hl:p.weights.length<1073741823)(h:oh c p=true):ja c.bQ=true:=by
 have⟨b,e,C⟩:=UF c p hl;have hb:b=true:=by
  rw[Jr c p hl]at e;simp_all
 have:=C hb;simp[qy,aJ]at this;simp_all
def aeR(c:av)(l:aa ep)(n i p:Int):NP (((),(),(),n,i,()),(jT c,(c.config.ak.bI,c.config.ak.aE,c.config.ak.rows,c.config.ak.aR,()),((),p,()),l,()))=bif (decide (i<n))then if E:0<=i/\i.toNat<l.length then if C:i.toNat<l.length then (if D:0<=i/\i.toNat<c.aF.aE.length then (bif (!CH (l[i.toNat]'C,c.aF.aE[i.toNat]'D.2))then some (.inr (.inl ((false,()),())))else some (.inl (((),(),(),n,(W6 (i+(1:Int))),()),(jT c,(c.config.ak.bI,c.config.ak.aE,c.config.ak.rows,c.config.ak.aR,()),((),p,()),l,()))))else none)else none else none else some (.inr (.inr (.inl (((),(),()),(jT c,(c.config.ak.bI,c.config.ak.aE,c.config.ak.rows,c.config.ak.aR,()),()))))):=rfl
def arx{c:av}(C:cZ c)(h:cD c=true):cy c.config.ak=true/\ja c.config.bQ=true/\(c.aF.aE.length:Int)=aI c.config.ak/\c.trace.length<=2000:=by
 have I:c.box.bX.weights.length<=1048576:=C.1.1;simp only[cD,aJ,fC]at h;obtain⟨D,O,T,E,U,Y,Z,h8,h9,CE,yB,qh,rS,uL,v7,Ax,Ay,CI,CJ,E6,Am,E7⟩:=h;obtain⟨hg,hl,_⟩:=v8 E;exact⟨hg,aeQ (by omega) D,hl,by omega⟩
def ary(c:av)(D:cZ c):NQ c=some (cD c&&Oh c):=by
 unfold NQ cY;rw[E4 c D,ay];cases C:cD c with
 |false=>rfl
 | true=>
  obtain⟨hg,I,hb,hl⟩:=arx D C;have Z:=ey c.config.ak;obtain⟨k,i,O,T⟩:=aqF hg I hl;rw[bL,ax,O,ay,aqO hg (by omega),ay,cJ];dsimp only;rw[T];unfold Oh U1;cases runT c.config.ak c.config.bQ c.trace with
  |none=>rfl
  | some r0=>
   cases he:CG c.config.ak c.trace with
   |none=>rfl
   | some r=>
    have Oi:=aqN he;have hq:r.aE.length=c.aF.aE.length:=by omega
    have hzl:=Oa hq;simp only[Option.isNone_some,Option.isSome_some,bL,ax,cJ];rw[bne];cases hp:(r.aN==c.aF.aN)with
    |false=>rfl
    | true=>
     have e:=jy (step:=NP) (r.aE.zip c.aF.aE) CH (λi=>(((),(),(),(r.aE.length:Int),(i:Int),()),(jT c,(c.config.ak.bI,c.config.ak.aE,c.config.ak.rows,c.config.ak.aR,()),((),r.aN,()),r.aE,()))) (.inl ((false,()),())) (.inr (.inl (((),(),()),(jT c,(c.config.ak.bI,c.config.ak.aE,c.config.ak.rows,c.config.ak.aR,()),())))) bq (λk C=>by
      rw[aeR,aY,au,aO ⟨by omega,by omega⟩,aO,aO ⟨by omega,by omega⟩,cc,aer hq C];simp only[bE];cases CH (r.aE[k],c.aF.aE[k])<;>rfl) (by
      rw[aeR,bh,ax]) (cu)
     rw[dm]at e;simp only[bL,ax,cJ]
     refine(bz (λo=>Option.bind o _) e).trans ?_
     rw[ay];cases (r.aE.zip c.aF.aE).all CH with
     |false=>rfl
     | true=>
      have hlen:=aen c.config.ak c.trace;change ((I1 c.config.ak c.trace).bind λE=>(Cz E.last c.ready.last).bind λU=>bif U then (Cz E.bf c.ready.bf).bind λY=>some Y else some false)=_;rw[aqL hg (by omega),ay,aes (by omega),ay,aes (by omega)];cases AD (og c.config.ak c.trace).last c.ready.last<;>rfl
def jC(i:Nat):aP:=⟨(i:Int) % 9+1,if (i:Int) % 9+1<=5 then (i:Int) / 9 else 0,0,0⟩
def rV(n m:Int):Int:=if n > m then n else m
def Oj(g:aH)(t:cg)(l:aa Int)(c:aP)(m:Int)(i:Nat):Int:=match l[i]? with
 |some n=>bif decide (n<0)then m else rV (n+fy g t (jC i) c) m
 |none=>m
def rW(g:aH)(t:cg)(l:aa Int)(c:aP)(k:Nat):Int:=(List.range k).foldl (Oj g t l c) 0
def kC(g:aH)(t:cg)(r:dR)(c:aP):Int:=
 bif c.kind==1&&(r.bf.length:Int)==4 then rV (r.bf.getD 0 0+t.jZ) (rW g t r.last c r.last.length)else rW g t r.last c r.last.length
def Ok(g:aH)(t:cg)(l:aa Int)(c:aP)(k:Nat):rW g t l c (k+1)=Oj g t l c (rW g t l c k) k:=by
 unfold rW;rw[List.range_succ,List.foldl_append];rfl
def Ol{g:aH}{t:cg}{l:aa Int}{c:aP}{m:Int}{i:Nat}(h:i<l.length):Oj g t l c m i=bif decide (l[i]<0)then m else rV (l[i]+fy g t (jC i) c) m:=by
 unfold Oj;rw[bJ h]
def arz{a b C:Int}(D:a<=C)(hb:0<=b/\b<=C):0<=rV a b/\rV a b<=C:=by
 unfold rV;split<;>omega
structure Jy (g:aH) (t:cg) (r:dR):Prop where
 tA:cy g=true
 Om:ja t=true
 len:r.last.length<1000
 last:∀(i:Nat) (h:i<r.last.length),(-1<=r.last[i]/\r.last[i]<=1000000)/\(r.last[i] = -1\/qC g i=true)
 a4:r.bf.length<=4
 act:∀x∈r.bf,0<=x/\x<=1000000
def arB{g:aH}{t:cg}{r:dR}(E:ja t=true)(h:jR g r=true):Jy g t r:=by
 have hb:=ey g;simp only[jR,aJ,bT,gi]at h;have⟨I,C,D,O,T⟩:=h;have C:(r.last.length:Int)=9*(aI g+1):=by simpa using C
 have D:¬ (r.bf.length:Int) > 4:=by simpa using D
 refine⟨I,E,by omega,λi hi=>?_,by omega,λx U=>?_⟩
 ·have e:=O i hi;rw[N4 hi]at e;simp only[aJ,dQ]at e;refine⟨br.1 e.1,?_⟩
  grind
 ·obtain⟨i,hi,rfl⟩:=iU.1 U;have e:=T i hi;cases i with
  |zero=>rw[N5 hi]at e;exact br.1 e
  |succ i=>rw[Jk hi]at e;simp at e;exact br.1 e.1
def arC(i:Nat):1<=(jC i).kind/\(jC i).kind<=9:=by
 unfold jC;dsimp only;omega
def arD{g:aH}{i:Nat}(C:qC g i=true):(jC i).kind <= 5 -> 0 <= (jC i).aq/\(jC i).aq<aI g:=by
 unfold qC at C;unfold jC
 grind
def arE{g:aH}{i:Nat}(hi:i<1000)(C:qC g i=true):∃ b,Ch g (i:Int)=some (jC i,b):=by
 have D:=C;unfold qC at C;unfold Ch jC;rw[jz,ay,Int.tdiv_eq_ediv_of_nonneg (by omega),r4 (by omega),aZ,aZ,Ji,ay];cases hd:decide ((i:Int) / 9<aI g)with
 |true =>simp_all
 | false=>
  rw[hd]at C;have E:¬ (i:Int) % 9+1 <= 5:=by
   simp_all
  simp[*]
def Ve{g:aH}{t:cg}{r:dR}(h:Jy g t r)(c:aP):∀ k,k <= r.last.length -> 0 <= rW g t r.last c k/\rW g t r.last c k <= 1000128
 |0,_=>⟨fN _,by show 0 <= _;omega⟩
 | k+1,D=>by
  have C:=Ve h c k (by omega);rw[Ok,Ol (by omega)];have hg:=UX h.Om g (jC k) c;have hl:=(h.last k (by omega)).1;cases decide (r.last[k]<0)with
  |true=>exact C
  |false=>exact arz (by omega) C
def arF{g:aH}{t:cg}{r:dR}(h:Jy g t r)(c:aP):0 <= kC g t r c:=by
 have C:=Ve h c _ (dB _);unfold kC rV
 grind
def arG{g:aH}{t:cg}{r:dR}{c:aP}(h:Jy g t r)(Z:jR g r=true)(C:cC g c=true):Na g t r c=some (bif decide (kC g t r c > 1000000)then -1 else kC g t r c):=by
 have hb:=λk D=>Ve h c k D
 have T:(1<=c.kind/\c.kind<=9)/\(c.kind<=5->0<=c.aq/\c.aq<aI g):=by
  simp only[cC,aJ]at C
  refine⟨br.1 C.2.1,λh5=>?_⟩
  have E:=C.2.2.1;rw[aee (br.1 C.2.1),aY h5]at E;have:=br.1 E;omega
 have e:=eJ (step:=Iz) r.last.length (λi=>(((),(),(),(),rW g t r.last c i,r.last,(r.last.length:Int),(i:Int),()),((g.bI,g.aE,g.rows,g.aR,()),t,(r.last,r.bf,()),(c.kind,c.aq,c.row,c.bW,()),()))) (.inl (((),(),(),rW g t r.last c r.last.length,()),(t,(r.last,r.bf,()),(c.kind,c.aq,c.row,c.bW,()),()))) bq (λk D=>by
  have E:=h.len;have h2:=(h.last k D).1;have h3:=hb k (by omega);have hg:=UX h.Om g (jC k) c;unfold Iz aM xG xI;dsimp only;rw[aY,au,aO ⟨by omega,by omega⟩,cc];simp only[bE];rw[Ok,Ol D];cases hd:decide (r.last[k]<0)with
  |true=>rfl
  | false=>
   have au9:¬ r.last[k]<0:=by simpa using hd
   have U:qC g k=true:=by
    rcases(h.last k D).2 with h9|h9
    ·omega
    ·exact h9
   obtain⟨b,eb⟩:=arE (g:=g) (i:=k) (by omega) U;rw[ax,ax,rO,eb,ay];show Option.bind (Ak g t (jC k) c) _=_;rw[aef t h.tA (arC k) T.1 (arD U) T.2,ay,aZ (n:=r.last[k]+_)];rfl) (by
  unfold Iz aM xG xI;dsimp only;rw[bh,ax]) (cu (by have:=h.len;omega))
 rw[dm]at e;unfold Na kC xI bR;rw[I9,ay,h.Om,bL,ax,UL,ay,Z,bL,ax,N8,ay,C,bL,ax]
 refine(bz (λo=>Option.bind o _) e).trans ?_
 rw[ay];simp only[gD];have hL:=hb r.last.length (dB _);have hf:=ael h.Om;have I:∀m:Int,(bif decide (m > 1000000)then some (-1:Int)else some m)=some (bif decide (m > 1000000)then -1 else m):=λm=>by cases decide (m > 1000000)<;>rfl
 cases c.kind==(1:Int)with
 |false=>exact I _
 | true=>
  cases Y:(r.bf.length:Int)==(4:Int)with
  |false=>exact I _
  | true=>
   have Y:(r.bf.length:Int)=4:=by simpa using Y
   have O:0<r.bf.length:=by omega
   have ha:=h.act _ (cR O);rw[au,au,aO ⟨by omega,O⟩];show (bif decide ((if W6 (r.bf[0]+t.jZ) > _ then W6 (r.bf[0]+t.jZ)else _) > 1000000)then _ else some (if W6 (r.bf[0]+t.jZ) > _ then W6 (r.bf[0]+t.jZ)else _))=_;rw[aZ,cS,bJ O];exact I _
def cI(c:av)(x:aP):Bool:=gG c.aF x&&(decide (kC c.config.ak c.config.bQ c.ready x<=1000000)&&decide (kC c.config.ak c.config.bQ c.ready x<=c.now))
structure Pk (c:av):Prop where
 z:cZ c
 ok:cD c=true
 rk:kN c.config.ak c.aF=true
 CK:jR c.config.ak c.ready=true
 R:Jy c.config.ak c.config.bQ c.ready
 bl:(c.aF.aE.length:Int)=aI c.config.ak
def Pk.of{c:av}(C:cZ c)(h:cD c=true):Pk c:=by
 have T:c.box.bX.weights.length <= 1048576:=C.1.1;have I:=h;simp[cD,aJ]at h;have⟨O,U,Y,D,E,Z,h7,h8,h9,CE,yB,qh,rS,uL,v7,Ax,Ay,CI,CJ,E6,Am,E7⟩:=h;have hb:c.aF.aE.length=aI c.config.ak:=by
  simp[kN,aJ]at D;simp_all
 exact⟨C,I,D,E,arB (aeQ (by omega) O) E,hb⟩
def On{g:aH}{x:aP}(C:cC g x=true):(1 <= x.kind/\x.kind <= 9)/\(x.kind <= 5 -> 0 <= x.aq/\x.aq<aI g):=by
 simp[cC,aJ]at C
 refine⟨br.1 C.2.1,λE=>?_⟩
 have D:=C.2.2.1;rw[aee (br.1 C.2.1),aY E]at D;have:=br.1 D;omega
def yE{c:av}(h:Pk c){x:aP}(C:cC c.config.ak x=true):iR c x=some (cI c x):=by
 have D:=arF h.R x;unfold iR cI;rw[UO,ay,h.rk,C,cJ,cJ,arG h.R h.CK C,ay]
 grind
def bP(i:Nat):aa Int->aa Int
 |[]=>[]
 |d::l=>bif decide (d >= 4)then (i:Int)::bP (i+1) l else bP (i+1) l
def arH(i:Nat)(a b:aa Int):bP i (a++b)=bP i a++bP (i+a.length) b:=by
 induction a generalizing i with
 |nil=>rfl
 | cons d a C=>
  rw[List.cons_append,bP,bP,C,show i+1+a.length=i+(a.length+1) by omega]
  grind
def Vf(i:Nat)(l:aa Int):(bP i l).length <= l.length:=by
 induction l generalizing i with
 |nil=>exact dB _
 | cons d l C=>
  have:=C (i+1);unfold bP
  grind
def arI{l:aa Int}{i:Nat}(h:i<l.length):bP 0 (l.take (i+1))=bif decide (l[i] >= 4)then bP 0 (l.take i)++[(i:Int)]else bP 0 (l.take i):=by
 rw[uH h,arH,jF,Nat.min_eq_left (by omega),eW];show _++(bif decide _ then _::bP _ []else bP _ [])=_;cases decide (l[i] >= 4)with
 |true=>rfl
 |false=>exact List.append_nil _
def aeS{l:aa Int}{i:Nat}{b:Int}(h:b∈bP i l):∃ j:Nat,b=((i+j:Nat):Int)/\j<l.length/\l.getD j 0 >= 4:=by
 induction l generalizing i with
 |nil=>cases h
 | cons d l C=>
  unfold bP at h;have tl:b∈bP (i+1) l -> ∃ j:Nat,b=((i+j):Int)/\j<(d :: l).length/\(d :: l).getD j 0 >= 4:=λh=>by
   have⟨j,D,E,I⟩:=C h;exact⟨j+1,by rw[D];omega,by simpa using E,by simpa using I⟩
  cases hd:decide (d >= 4)with
  | true=>
   rw[hd]at h;rcases gv.1 h with rfl|h
   ·exact⟨0,rfl,by simp,by simpa using hd⟩
   ·exact tl h
  |false =>grind
def wg{r:eH}(h:fY r=true):r.aC.length<=8/\1<=r.aC.length:=by
 simp only[fY,aJ]at h;have:=br.1 h.2.1;omega
def Vg{r:eH}(C:fY r=true):EC r=some (bP 0 r.aC):=by
 have hl:=wg C;unfold EC bR;rw[Jf _ (by omega),ay,C,bL,ax];have e:=eJ (step:=Ip) r.aC.length (λi=>(((),r.aC,(r.aC.length:Int),(i:Int),()),(bP 0 (r.aC.take i),()))) (.inl (((),()),(bP 0 r.aC,()))) bq (λi h=>by
  have D:=Vf 0 (r.aC.take i);rw[jF]at D;unfold Ip aM xG xI;dsimp only;rw[aY,au,aO ⟨by omega,by omega⟩,cc,arI h];simp only[bE];cases decide (r.aC[i] >= 4)with
  |true=>rw[au,au,List.length_singleton,eM,au]
  |false=>rfl) (by
  unfold Ip aM xG xI;dsimp only;rw[bh,ax,mV]) (cu)
 rw[dm]at e
 refine(bz (λo=>Option.bind o _) e).trans ?_
 rfl
def oq(c:av):Bool:=decide ((c.queue.length:Int) > 0) ||(decide ((c.pending.length:Int) > 0) ||decide (((bP 0 c.az.aC).length:Int) > 0))
def aeT{c:av}(C:fY c.az=true):Aj c=some (oq c):=by
 unfold Aj oq;rw[Vg C]
 grind
def wh(r:wI)(p:iC)(b:Bool):Int:=
 bif b then (bif p.state==1 then 7 else bif p.state==2 then 9 else 0)else bif p.state==0&&decide (p.idle >= r.sleep)then 8 else bif p.state==0&&decide (p.idle >= r.down)then 6 else bif p.state==1&&decide (p.idle >= r.sleep)then 7 else 0
def arJ(r:wI)(p:iC)(b:Bool)(C:EX r=true)(D:lD p=true):Nc r p b=some (wh r p b):=by
 unfold Nc wh;rw[adY,ay,C,bL,N0,ay,D,bL]
 grind
def arK(r:wI)(p:iC)(b:Bool):wh r p b=0 \/ 6 <= wh r p b/\wh r p b <= 9:=by
 unfold wh
 grind
def CL(may:Nat->Bool)(v:Nat->Int)(C:Int)(i:Nat):Int:=bif may i&&(decide (C<0) ||decide (v i > v C.toNat))then (i:Int)else C
def lZ(may:Nat->Bool)(v:Nat->Int)(k:Nat):Int:=(List.range k).foldl (CL may v) (-1)
def Jz(may:Nat->Bool)(v:Nat->Int)(k:Nat):lZ may v (k+1)=CL may v (lZ may v k) k:=by
 unfold lZ;rw[List.range_succ,List.foldl_append];rfl
def uR(may:Nat -> Bool)(v:Nat -> Int):∀ k,-1 <= lZ may v k/\lZ may v k<k
 |0=>⟨fN _,by show (-1)<0;omega⟩
 | k+1=>by
  have C:=uR may v k;rw[Jz];unfold CL
  grind
def CM(may:Nat -> Bool)(v:Nat -> Int):∀ k,lZ may v k = -1 \/ may (lZ may v k).toNat=true
 |0=>.inl rfl
 | k+1=>by
  have C:=CM may v k;rw[Jz];unfold CL
  grind
def JA{may:Nat -> Bool}(v:Nat -> Int){i:Nat}(h:may i=true):∀ k,i<k -> 0 <= lZ may v k
 |0,C=>by omega
 | k+1,C=>by
  have hb:=uR may v k;rw[Jz];unfold CL;by_cases D:i=k
  ·grind
  ·have E:=JA v h k (by omega)
   grind
def ot(l:aa dD)(w:aa Bool):Int:=lZ (λi=>w.getD i false) (λi=>(l.getD i ⟨0,0⟩).fI) (min l.length w.length)
def E8(l:aa dD)(w:aa Bool)(hl:l.length<1073741824):IC l w=some (ot l w):=by
 unfold IC ot bR;generalize O:min l.length w.length=n;have e:=eJ (step:=IB) n (λi=>((l,w,lZ (λi=>w.getD i false) (λi=>(l.getD i ⟨0,0⟩).fI) i,(i:Int),()),())) (.inl ((lZ (λi=>w.getD i false) (λi=>(l.getD i ⟨0,0⟩).fI) n,()),())) bq (λi h=>by
  have C:i<l.length:=by omega
  have I:i<w.length:=by omega
  have hb:=uR (λi=>w.getD i false) (λi=>(l.getD i ⟨0,0⟩).fI) i;rw[Jz];generalize lZ (λi=>w.getD i false) (λi=>(l.getD i ⟨0,0⟩).fI) i=D at hb;unfold IB CL aM xG xI;dsimp only;rw[aY,au,aY,au,aO ⟨by omega,by omega⟩,cc];simp only[bE,cS,bJ I,bJ C,Option.getD_some];cases w[i]with
  |false=>rfl
  | true=>
   rw[au,cJ];by_cases hn:D<0
   ·rw[aY hn];rfl
   ·have E:D.toNat<l.length:=by omega
    rw[bh hn,aO ⟨by omega,C⟩,aO ⟨by omega,E⟩,bJ E,Option.getD_some];cases decide (l[i].fI > l[D.toNat].fI)<;>rfl) (by
  unfold IB aM xG xI;dsimp only;by_cases C:n<l.length
  ·rw[aY,au,bh,ax]
  ·rw[bh,ax]) (cu)
 rw[dm]at e
 refine(bz (λo=>Option.bind o _) e).trans ?_
 rfl
def CN(s:dD):dD:=⟨s.weight,s.weight⟩
def ga(l:aa dD):aa dD:=l.map CN
def Vh(l:aa dD)(w:aa Bool)(hl:l.length<1073741824):iter EI bq ((w,(),(l.length:Int),(0:Int),()),(l,()))=some (.inl ((w,(),()),(ga l,()))):=by
 have e:=eJ (step:=EI) _ (λi=>((w,(),l.length,i,()),(upto CN l i,()))) (.inl ((w,(),()),(ga l,()))) bq (λi h=>by
  have hlen:=NR CN l i;unfold EI aM xG xL;dsimp only;rw[aY,au,aO ⟨by omega,by omega⟩,aO,aO ⟨by omega,by omega⟩,aO,cc];simp only[bE];rw[Up CN l i h,<- Uq CN l i h];rfl) (by
  unfold EI aM xG xL;dsimp only;rw[bh,ax,Uo];rfl) (cu hl)
 exact e
def Vi{l:aa dD}(w:aa Bool)(hl:l.length<1073741823)(D:kB l=true)(hw:l.length=w.length):∃ y t,qv l w=some (y,t)/\y.length=l.length:=by
 unfold qv xA xC bR xL xZ;have hb:=uR (λi=>w.getD i false) (λi=>(l.getD i ⟨0,0⟩).fI) (min l.length w.length);have E:(ga l).length=l.length:=by simp[ga]
 have I:=uR (λi=>w.getD i false) (λi=>((ga l).getD i ⟨0,0⟩).fI) (min (ga l).length w.length);have O:=CM (λi=>w.getD i false) (λi=>(l.getD i ⟨0,0⟩).fI) (min l.length w.length);rw[List.nil_append,E8 l w (by omega),ay,Jc _ (by omega),ay,D,bL,ax,List.length_nil,eW,eM,au];unfold ot;generalize U:lZ (λi=>w.getD i false) (λi=>(l.getD i ⟨0,0⟩).fI) (min l.length w.length)=b at *
 by_cases T:b<0
 ·simp_all
 ·have C:b.toNat<l.length:=by omega
  rw[bh T,ax,aO ⟨by omega,C⟩,aO C];dsimp only;cases l[b.toNat].fI==0 with
  |false =>simp_all
  | true=>
   rw[au,Vh l w (by omega),ay];simp only[gD];rw[E8 _ w (by omega),ay];have hp:0 <= ot (ga l) w:=JA _ (i:=b.toNat) (by rcases O with h|h;exact absurd h (by omega);exact h) _ (by rw[E];omega);have hq:ot (ga l) w<((min (ga l).length w.length:Nat):Int):=I.2;simp_all
def AJ(m:qQ)(n:Int)(a:aQ):aQ:=bif m.hash then ⟨(a.aq+a.row) % n,a.row,a.bW⟩else a
def CO(g:aH)(m:qQ)(l:Int):aQ:=AJ m (aI g)
 (bif m.order==0 then ⟨l / g.aR % aI g,l / g.aR / aI g,l % g.aR⟩else bif m.order==1 then ⟨l % aI g,l / aI g / g.aR,l / aI g % g.aR⟩else ⟨l / g.aR / g.rows,l / g.aR % g.rows,l % g.aR⟩)
def E9{l a b:Int}(C:0<=l)(hb:0<b)(h:l<a*b):0<=l / b/\l / b<a/\l / b<=l:=by
 refine⟨Int.ediv_nonneg C (by omega),Int.ediv_lt_of_lt_mul hb h,?_⟩;exact Int.ediv_le_self _ C
def AK{l b:Int}(hb:0<b):0<=l % b/\l % b<b:=⟨Int.emod_nonneg _ (by omega),Int.emod_lt_of_pos _ hb⟩
def Vj{m:qQ}{n:Int}{a:aQ}(hn:0<n)(hb:0 <= a.aq/\a.aq<n):0 <= (AJ m n a).aq/\(AJ m n a).aq<n/\(AJ m n a).row=a.row/\(AJ m n a).bW=a.bW:=by
 unfold AJ;cases m.hash with
 |false=>simp_all
 |true=>exact⟨(AK hn).1,(AK hn).2,rfl,rfl⟩
def Vk{m:qQ}{n b r c:Int}(hn:0<n)(C:n<=8)(D:0<=b/\b<=100000)(E:0<=r/\r<=100000):(bif m.hash then if n=0 then none else some ((⟨(W6 (b+r)).tmod n,r,c⟩:aQ),true)else some ((⟨b,r,c⟩:aQ),true))=some (AJ m n ⟨b,r,c⟩,true):=by
 unfold AJ;cases m.hash with
 |false=>rfl
 |true=>rw[au,aW,aZ,r4 (by omega),au]
def arL{g:aH}{m:qQ}{l:Int}(hg:cy g=true)(hm:aT m.order 0 2=true)(D:0<=l)(hl:l<dV g):∀ (f:aj (aQ×Bool)),f=(bif (m.order==(0:Int))then if g.aR=0 then none else if g.aR=0 then none else if aI g=0 then none else if g.aR=0 then none else if aI g=0 then none else bif m.hash then if aI g=0 then none else some ((⟨((W6 (((W6 (l.tdiv g.aR)).tmod (aI g))+(W6 ((W6 (l.tdiv g.aR)).tdiv (aI g))))).tmod (aI g)),(W6 ((W6 (l.tdiv g.aR)).tdiv (aI g))),(l.tmod g.aR)⟩:aQ),true)else some ((⟨((W6 (l.tdiv g.aR)).tmod (aI g)),(W6 ((W6 (l.tdiv g.aR)).tdiv (aI g))),(l.tmod g.aR)⟩:aQ),true)else bif (m.order==(1:Int))then if aI g=0 then none else if aI g=0 then none else if g.aR=0 then none else if aI g=0 then none else if g.aR=0 then none else bif m.hash then if aI g=0 then none else some ((⟨((W6 ((l.tmod (aI g))+(W6 ((W6 (l.tdiv (aI g))).tdiv g.aR)))).tmod (aI g)),(W6 ((W6 (l.tdiv (aI g))).tdiv g.aR)),((W6 (l.tdiv (aI g))).tmod g.aR)⟩:aQ),true)else some ((⟨(l.tmod (aI g)),(W6 ((W6 (l.tdiv (aI g))).tdiv g.aR)),((W6 (l.tdiv (aI g))).tmod g.aR)⟩:aQ),true)else if g.aR=0 then none else if g.aR=0 then none else if g.rows=0 then none else if g.aR=0 then none else if g.rows=0 then none else bif m.hash then if aI g=0 then none else some ((⟨((W6 ((W6 ((W6 (l.tdiv g.aR)).tdiv g.rows))+((W6 (l.tdiv g.aR)).tmod g.rows))).tmod (aI g)),((W6 (l.tdiv g.aR)).tmod g.rows),(l.tmod g.aR)⟩:aQ),true)else some ((⟨(W6 ((W6 (l.tdiv g.aR)).tdiv g.rows)),((W6 (l.tdiv g.aR)).tmod g.rows),(l.tmod g.aR)⟩:aQ),true))->f=some (CO g m l,true)/\fX g (CO g m l)=true:=by
 have hb:=ey g;have hp:=I4 hg;have hL:=oa g;have gb:=fW hg;have eL:dV g=aI g*g.rows*g.aR:=by simp[dV,hg]
 have wY:aT l 0 (W6 (dV g-1))=true:=by rw[aZ];exact br.2 ⟨D,by omega⟩
 have ho:=br.1 hm;rw[eL]at hl;have Z:¬ aI g=0:=by omega
 have rq:¬ g.aR=0:=by omega
 have iG:¬ g.rows=0:=by omega
 rintro f rfl;simp only[aW Z,aW rq,aW iG];unfold CO;by_cases o0:m.order=0
 ·have C:=E9 (a:=aI g*g.rows) D (show 0<g.aR by omega) hl;have E:=E9 (l:=l / g.aR) (a:=g.rows) (b:=aI g) C.1 (by omega) (by rw[Int.mul_comm];exact C.2.1);have T:=AK (l:=l / g.aR) (b:=aI g) (by omega);have a4:=AK (l:=l) (b:=g.aR) (by omega);rw[o0,iS,au,au,Int.tdiv_eq_ediv_of_nonneg D,r4 D,aZ (n:=l / g.aR),Int.tdiv_eq_ediv_of_nonneg C.1,r4 C.1,aZ (n:=l / g.aR / aI g)];obtain⟨U,Y,I,O⟩:=Vj (m:=m) (n:=aI g) (a:=⟨l / g.aR % aI g,l / g.aR / aI g,l % g.aR⟩) (by omega) T;refine⟨?_,As hg U Y (by rw[I];exact E.1) (by rw[I];exact E.2.1) (by rw[O];exact a4.1) (by rw[O];exact a4.2)⟩;refine Eq.trans ?_ (Vk (by omega) (by omega) (by omega) (by omega));rw[aW Z]
 ·rw[jQ o0,ax,ax];by_cases o1:m.order=1
  ·have C:=E9 (a:=g.rows*g.aR) D (show 0<aI g by omega) (by rw[Int.mul_comm,<-Int.mul_assoc];exact hl);have E:=E9 (l:=l / aI g) (a:=g.rows) (b:=g.aR) C.1 (by omega) C.2.1;have T:=AK (l:=l) (b:=aI g) (by omega);have a4:=AK (l:=l / aI g) (b:=g.aR) (by omega);rw[o1,iS,au,au,Int.tdiv_eq_ediv_of_nonneg D,r4 D,aZ (n:=l / aI g),Int.tdiv_eq_ediv_of_nonneg C.1,r4 C.1,aZ (n:=l / aI g / g.aR)];obtain⟨U,Y,I,O⟩:=Vj (m:=m) (n:=aI g) (a:=⟨l % aI g,l / aI g / g.aR,l / aI g % g.aR⟩) (by omega) T;refine⟨?_,As hg U Y (by rw[I];exact E.1) (by rw[I];exact E.2.1) (by rw[O];exact a4.1) (by rw[O];exact a4.2)⟩;refine Eq.trans ?_ (Vk (by omega) (by omega) (by omega) (by omega));rw[aW Z]
  ·have C:=E9 (a:=aI g*g.rows) D (show 0<g.aR by omega) hl;have E:=E9 (l:=l / g.aR) (a:=aI g) (b:=g.rows) C.1 (by omega) C.2.1;have T:=AK (l:=l / g.aR) (b:=g.rows) (by omega);have a4:=AK (l:=l) (b:=g.aR) (by omega);rw[jQ o1,ax,ax,Int.tdiv_eq_ediv_of_nonneg D,r4 D,aZ (n:=l / g.aR),Int.tdiv_eq_ediv_of_nonneg C.1,r4 C.1,aZ (n:=l / g.aR / g.rows)];obtain⟨U,Y,I,O⟩:=Vj (m:=m) (n:=aI g) (a:=⟨l / g.aR / g.rows,l / g.aR % g.rows,l % g.aR⟩) (by omega) ⟨E.1,E.2.1⟩;refine⟨?_,As hg U Y (by rw[I];exact T.1) (by rw[I];exact T.2) (by rw[O];exact a4.1) (by rw[O];exact a4.2)⟩;refine Eq.trans ?_ (Vk (by omega) (by omega) (by omega) (by omega));rw[aW Z]
def arM{g:aH}{m:qQ}{l:Int}(hg:cy g=true)(C:aT m.order 0 2=true)(D:0<=l)(hl:l<dV g):Nf g m l=some (CO g m l,true)/\fX g (CO g m l)=true:=by
 have I:=oa g;have E:aT l 0 (W6 (dV g-1))=true:=by rw[aZ];exact br.2 ⟨D,by omega⟩
 refine arL hg C D hl _ ?_;unfold Nf;rw[qw,ay,hg,bL,ax,adW,ay,C,bL,ax,Aq,ay,dh,ay,E,bL,ax,jz,ay]
def cv(c:av)(l:Int):aQ:=
 let a:=CO (fZ c.config.ak c.spare) c.config.mapping l
 ⟨a.aq,c.spare.map.getD (a.aq*(c.config.ak.rows-c.spare.cF)+a.row).toNat 0,a.bW⟩
def Vl{g:aH}{s:dL}(h:nG g s=true):fZ g s=⟨g.bI,g.aE,g.rows-s.cF,g.aR⟩/\cy g=true/\cy (fZ g s)=true/\aI (fZ g s)=aI g/\0 <= s.cF/\s.cF <= 2/\2 <= g.rows-s.cF/\g.rows <= 16:=by
 have C:=h;simp[nG,aJ]at h;have⟨hg,D,E,I,O⟩:=UB h.1;have U:=fW hg;have e:fZ g s=⟨g.bI,g.aE,g.rows-s.cF,g.aR⟩:=by
  unfold fZ;rw[C,au,aZ]
 have T:cy (fZ g s)=true:=by
  rw[e];unfold cy;simp[aJ,br];omega
 refine⟨e,hg,T,?_,D,E,I,O⟩;unfold aI;simp_all
def arN{g:aH}{s:dL}(h:nG g s=true){b r:Int}(hb:0 <= b/\b<aI g)(I:0 <= r/\r<g.rows-s.cF):(b*(g.rows-s.cF)+r).toNat<s.map.length/\0 <= s.map.getD (b*(g.rows-s.cF)+r).toNat 0/\s.map.getD (b*(g.rows-s.cF)+r).toNat 0<g.rows:=by
 have⟨_,hg,_,_,Z,h2,h3,h4⟩:=Vl h;have O:=ey g;simp only[nG,aJ,eG,bT,gi]at h;have⟨_,hl,T⟩:=h;obtain⟨b,rfl⟩:=fD hb.1;obtain⟨r,rfl⟩:=fD I.1;have⟨R,C⟩:=fD (show 0 <= g.rows-s.cF by omega);have⟨D,hn⟩:=fD O.1;rw[C,hn,bE,bE]at hl;have hl:s.map.length=D*R:=by exact_mod_cast hl
 have U:b<D:=by omega
 have E:r<R:=by omega
 have e:((b:Int)*(g.rows-s.cF)+(r:Int)).toNat=b*R+r:=by rw[C,<- Int.natCast_mul,<- Int.natCast_add,bE]
 have dI:=yA (R:=R) U (show r+1 <= R from E);have hi:b*R+r<s.map.length:=by omega
 have h5:=T b (by omega) r (by omega);rw[e];refine⟨hi,?_⟩;rw[cS,bJ hi,Option.getD_some];have Y:(jS s.map R b)[r]?=some s.map[b*R+r]:=by rw[Jl,List.getElem?_take_of_lt E,List.getElem?_drop,bJ hi]
 rw[C,bE]at h5;unfold rR at h5;rw[Y]at h5;simp only[dQ,aJ,eG,br]at h5;rcases h5 with h5|h5
 ·omega
 ·grind
def arO{c:av}(h:Pk c)(E:nG c.config.ak c.spare=true)(he:c.spare.cF=c.config.cF)(hm:aT c.config.mapping.order 0 2=true){l:Int}(h0:0 <= l)(hl:l<dV (fZ c.config.ak c.spare)):vT c l=some (cv c l,true)/\fX c.config.ak (cv c l)=true:=by
 have⟨Z,hg,Bf,eb,s1,s2,s3,s4⟩:=Vl E;have⟨m1,m3⟩:=arM Bf hm h0 hl;have⟨_,C,D,I,O,b5,b6⟩:=vV m3;rw[eb]at D;have gb:=fW hg;have hb:=ey c.config.ak;have er:(fZ c.config.ak c.spare).rows=c.config.ak.rows-c.spare.cF:=by rw[Z]
 have ec:(fZ c.config.ak c.spare).aR=c.config.ak.aR:=by rw[Z]
 rw[er]at O;rw[ec]at b6;have⟨k1,k2,k3⟩:=arN E ⟨C,D⟩ ⟨I,O⟩;have hmul:=CA C D I O;have hM:=NS (a:=aI c.config.ak) (b:=c.config.ak.rows-c.spare.cF) (A:=8) (B:=16) hb.1 hb.2 (by omega) (by omega);unfold cv;generalize hA:CO (fZ c.config.ak c.spare) c.config.mapping l=A at *
 dsimp only;refine⟨?_,As hg C D k2 k3 b5 b6⟩;unfold vT;rw[N7,ay,m1,ay];dsimp only;rw[bL,ax];unfold T5 xI;have hx:Nd (fZ c.config.ak c.spare) A.aq A.row=some true:=by
  unfold Nd;rw[Ut,ay,As (a:=⟨A.aq,A.row,0⟩) Bf C (by rw[eb];exact D) I (by rw[er];exact O) (fN 0) (by rw[ec];show 0<_;omega)]
 have⟨b,hbN⟩:=fD C;have⟨r,hrN⟩:=fD I;have⟨R,hR⟩:=fD (show 0 <= c.config.ak.rows-c.spare.cF by omega);have⟨bn,hn⟩:=fD hb.1;have U:c.spare.map.length=bn*R:=by
  simp only[nG,aJ,eG]at E;have:=E.2.1
  grind
 have T:b<bn:=by omega
 have Y:r<R:=by omega
 have dI:=yA (R:=R) T (show r+1 <= R from Y);have ava:=yA (R:=R) T (dB R);have hi:b*R+r<c.spare.map.length:=by omega
 rw[N7,ay,hx,ay,bL,ax,hbN,ad7 hR (by omega) (by omega) T U,ay];have ht:((c.spare.map.take ((b+1)*R)).drop (b*R))=jS c.spare.map R b:=rfl;have gZ:(jS c.spare.map R b).length=R:=UM (by rw[U];exact jX R T);have hgx:(jS c.spare.map R b)[r]?=some c.spare.map[b*R+r]:=by rw[Jl,List.getElem?_take_of_lt Y,List.getElem?_drop,bJ hi]
 have hgy:(jS c.spare.map R b)[r]'(by omega)=c.spare.map[b*R+r]:=by
  grind
 dsimp only;rw[jj (by rw[ji];omega),jj (by rw[ji,U];omega),cJ,au,hrN,aO ⟨by omega,by rw[ht,gZ,bE];exact Y⟩];simp only[bE,ht,hgy,ay];rw[hR,<- Int.natCast_mul,<- Int.natCast_add,bE,cS,bJ hi,Option.getD_some]
def CP{c:fo}{p:cK}(hl:p.weights.length<1073741823)(h:oh c p=true):qy c=true/\yx p=true:=by
 have⟨b,e,D⟩:=UF c p hl;have hb:b=true:=by
  rw[Jr c p hl]at e;simp_all
 subst hb;have C:=D rfl;refine⟨C,?_⟩;unfold sY at e;have⟨y,E⟩:=adZ p.di;simp[NX,Jd _ hl,C]at e
 grind
structure Pq (c:av):Prop where
 p:Pk c
 sp:nG c.config.ak c.spare=true
 se:c.spare.cF=c.config.cF
 mo:aT c.config.mapping.order 0 2=true
 q:∀r∈c.queue,(0<=r.line/\r.line<dV (fZ c.config.ak c.spare))/\(0<=r.dn/\r.dn<=3)/\(0<=r.at_/\r.at_<=1000000)
 ql:c.queue.length<=12
 pe:∀a∈c.pending,fX c.config.ak a=true
 pl:c.pending.length<=128
 rf:fY c.az=true
 dl:(c.az.aC.length:Int)=aI c.config.ak
 sh:kB c.shares=true
 shl:c.shares.length=4
 dr:qA c.drain=true
 pw:lD c.aN=true
 ps:c.aN.state=c.aF.aN
 nw:0<=c.now/\c.now<=1000000
 cap:0<=c.box.bX.cap/\c.box.bX.cap<=100000
 dj:EX c.box.bX.dj=true
def Pq.of{c:av}(D:cZ c)(h:cD c=true):Pq c:=by
 have hp:=Pk.of D h;have z1:c.box.bX.weights.length <= 1048576:=D.1.1;simp only[cD,aJ]at h;have⟨I,h2,O,h4,h5,h6,T,U,C,E,Y,qh,Z,uL,v7,Ax,Ay,CI,CJ,E6,Am,E7⟩:=h;have⟨f1,f2⟩:=CP (by omega) I;simp only[qy,aJ]at f1;simp only[yx,aJ]at f2;have⟨f3,f4,f5,f6,f7,f8,f9⟩:=f2;simp only[tq,aJ,eG,fB,oA,bT,gi]at C;have⟨C,g1,g2,g3,g4,g5,g6⟩:=C;simp only[gw,aJ,bT,gi,fC]at E;have⟨q1,q2⟩:=E;have Nt:c.shares.length=4:=by
  grind
 refine⟨hp,T,by simpa using U,f1.2.2.1,λr hr=>?_,by omega,λa ha=>?_,by omega,C,g1,Y,Nt,Z,uL,by simpa using v7,br.1 O,br.1 f4,f9⟩
 ·obtain⟨i,hi,rfl⟩:=iU.1 hr;have hb:=q1 i hi;unfold rQ at hb;rw[bJ hi]at hb;simp[nE,aJ,fC]at hb;have⟨⟨k1,k2,k3,k4,k5,k6,k7⟩,_⟩:=hb;exact⟨⟨k3,k4⟩,br.1 k2,br.1 k7⟩
 ·obtain⟨i,hi,rfl⟩:=iU.1 ha;have hb:=g6 i hi;unfold Aw at hb;simp_all
def CQ(r:bM)(a:aQ):Bool:=(ck r a.aq).open_&&((ck r a.aq).row==a.row)
def ou(r:bM)(a:aQ)(w:Bool):aP:=
 bif !(ck r a.aq).open_ then ⟨1,a.aq,a.row,0⟩else bif (ck r a.aq).row != a.row then ⟨4,a.aq,0,0⟩else bif w then ⟨3,a.aq,0,a.bW⟩else ⟨2,a.aq,0,a.bW⟩
def JB{r:bM}{b:Int}(h:b.toNat<r.aE.length):ck r b=r.aE[b.toNat]:=by
 unfold ck;rw[cS,bJ h];rfl
def Oo{b:Int}{n:Nat}(C:0<=b)(h:b.toNat<n)(hn:n<=1048576):aT b 0 (W6 ((n:Int)-1))=true:=by
 rw[aZ];exact br.2 ⟨C,by omega⟩
def aeU{r:bM}{a:aQ}(w:Bool)(C:0 <= a.aq)(h:a.aq.toNat<r.aE.length)(hl:r.aE.length <= 1048576):Cq r a w=some (ou r a w):=by
 unfold Cq ou xI;rw[dh,ay,Oo C h hl,bL,aO ⟨C,h⟩,JB h]
 grind
def arP{r:bM}{b:Int}(C:0 <= b)(h:b.toNat<r.aE.length)(hl:r.aE.length <= 1048576):Nj r b=some (bif (ck r b).open_ then (ck r b).row else -1):=by
 unfold Nj xI;rw[dh,ay,Oo C h hl,bL,aO ⟨C,h⟩,JB h]
 grind
def arQ{r:bM}{a:aQ}(D:0 <= a.row)(C:0 <= a.aq)(h:a.aq.toNat<r.aE.length)(hl:r.aE.length <= 1048576):EH r a=some (CQ r a):=by
 unfold EH CQ;rw[gR (by omega:¬ a.row = -1),arP C h hl,ay];cases (ck r _).open_ with
 |false=>rw[ax,jQ (by omega:¬ (-1)=a.row)];rfl
 |true=>rfl
def arR{g:aH}{r:bM}{a:aQ}(w:Bool)(h:fX g a=true):cC g (ou r a w)=true:=by
 have⟨hg,D,U,E,Y,I,Z⟩:=vV h;have O:aT _ 0 (aI g-1)=true:=br.2 ⟨D,by omega⟩;have C:aT a.row 0 (g.rows-1)=true:=br.2 ⟨E,by omega⟩;have T:aT a.bW 0 (g.aR-1)=true:=br.2 ⟨I,by omega⟩;unfold ou cC uJ;cases (ck r _).open_<;>cases (ck r _).row != a.row<;>cases w<;>simp[hg,aT,C]<;>simp[aT,fC]at O C T<;>omega
def yF{g:aH}{k b:Int}(hg:cy g=true)(C:k=4 \/ k=5)(hb:0 <= b/\b<aI g):cC g ⟨k,b,0,0⟩=true:=by
 have D:aT b 0 (aI g-1)=true:=br.2 ⟨hb.1,by omega⟩;unfold cC uJ;rcases C with rfl|rfl<;>simp[hg,aT]<;>simp[aT,fC]at D<;>omega
def aeV{g:aH}{a:aQ}(h:fX g a=true):cC g ⟨1,a.aq,a.row,0⟩=true:=by
 have⟨hg,C,D,E,I,O,T⟩:=vV h;unfold cC uJ;simp[hg,aT];omega
def Oq{g:aH}{k:Int}(hg:cy g=true)(C:6<=k/\k<=9):cC g ⟨k,0,0,0⟩=true:=by
 obtain⟨n,rfl⟩:=fD (show 0<=k by omega);have:n=6\/n=7\/n=8\/n=9:=by omega
 unfold cC;rw[hg];rcases this with rfl|rfl|rfl|rfl<;>rfl
def Vm(l:aa aQ)(b:Int)(hl:l.length<=1048576):Cp l b=some (l.any λa=>a.aq==b):=by
 have E:=E5 (λa:aQ=>a.aq==b) l;unfold Cp T3 T2;rw[U8];have e:=eJ (step:=EF) (fh (λa:aQ=>a.aq==b) l) (λi=>((l,b,(l.length:Int),(i:Int),()),())) (if fh (λa:aQ=>a.aq==b) l<l.length then .inl ((((fh (λa:aQ=>a.aq==b) l:Nat):Int),()),())else .inr (.inl ((),()))) bq (λk h=>by
  have D:=uQ h (by omega);unfold EF aM bF xG xI;dsimp only;rw[aY,au,aO ⟨by omega,by omega⟩];simp only[bE];rw[D,ax,cc]) (by
  by_cases C:fh (λa:aQ=>a.aq==b) l<l.length
  ·have D:=AG C;unfold EF aM bF xG xI;dsimp only;rw[aY,au,aO ⟨by omega,by omega⟩];simp only[bE];rw[D,au,aV C]
  ·unfold EF aM bF xG xI;dsimp only;rw[bh,ax,aW C]) (cu)
 rw[dm]at e;rw[e];by_cases C:fh (λa:aQ=>a.aq==b) l<l.length
 ·rw[aV C,aY C];simp
 ·rw[aW C,bh C];rfl
def qI(t:cX)(row:Int):aj Nat:=match t.rows.findIdx? (λe=>e==row)with
 |some i=>some i
 |none=>t.counts.findIdx? (λe=>e==t.fj)
def jd(t:cX)(row:Int):cX:=match t.rows.findIdx? (λe=>e==row)with
 |some i=>⟨t.rows,t.counts.set i (t.counts.getD i 0+1),t.fj⟩
 | none=>match t.counts.findIdx? (λe=>e==t.fj)with
  |some i=>⟨t.rows.set i row,t.counts.set i (t.fj+1),t.fj⟩
  |none=>⟨t.rows,t.counts,t.fj+1⟩
def mO(t:cX)(row cL:Int):cX×Bool:=bif lY t&&(aT row 0 15&&aT cL 2 1000)then (bif lY (jd t row)then (jd t row,match qI t row with
    |some i=>((jd t row).counts.getD i 0).tmod cL==0
    |none=>false)else (t,false))else (t,false)
structure Tk (t:cX):Prop where
 rl:t.rows.length<=16
 cl:t.counts.length=t.rows.length
 sp:0<=t.fj/\t.fj<=100000
 cs:∀i (h:i<t.counts.length),0<=t.counts[i]/\t.counts[i]<=100000
def Tk.of{t:cX}(h:lY t=true):Tk t:=by
 simp[lY,aJ,eG,bT,gi]at h;have⟨D,I,C,E⟩:=h;have D:=br.1 D;have C:=br.1 C
 refine⟨by omega,by omega,C,λi hi=>?_⟩
 have hb:=E i (by omega);rw[N3 (by omega) hi,aJ,aJ]at hb;have:=br.1 hb.2.1;omega
def CR{T:Type}{p:T -> Bool}{l:aa T}{i:Nat}(h:l.findIdx? p=some i):∃ hi:i<l.length,p l[i]=true:=by
 have⟨hi,hp,_⟩:=qP.1 h;simp_all
def aeW{t:cX}(row:Int):(jd t row).rows.length=t.rows.length/\(jd t row).counts.length=t.counts.length:=by
 unfold jd
 grind
def arS{t:cX}(h:Tk t){row:Int}{i:Nat}(hi:qI t row=some i):i<t.counts.length:=by
 have:=h.cl;unfold qI at hi;split at hi
 next j C=>cases hi;have⟨D,_⟩:=CR C;omega
 ·exact(CR hi).1
def arT(t:cX)(hz:mM t)(row cL:Int):Nu t row cL=some (mO t row cL):=by
 have sw:∀x:Int,(λe:Int=>x==e)=λe=>e==x:=λx=>funext λe=>by rw[Bool.eq_iff_iff,eG,eG];exact eq_comm
 unfold Nu mO xL;rw[aeM t hz,ay,UK,ay];dsimp only;cases ht:lY t with
 |false=>rfl
 | true=>
  have T:=Tk.of ht;have r1:=T.rl;have r2:=T.cl;have vi:=T.sp;rw[bL,ax,dh,ay,cJ];cases h1:aT row 0 15 with
  |false=>rfl
  | true=>
   rw[bL,ax,dh,ay,cJ];cases h2:aT cL 2 1000 with
   |false=>rfl
   | true=>
    have hl:=br.1 h2;rw[bL,ax,au,N2 _ _ (by omega),ay,sw row];have Vn:∀ (E:Int) (D:cX),D=jd t row->(E=match qI t row with | some i=>(i:Int) | none=>-1)->
      ((Ah D).bind λmI=>bif (!mI)then ((some t).bind λuF=>some (uF,false))else (bif (decide (E >= (0:Int)))then if h24:0<=E/\E.toNat<D.counts.length then if h25:E.toNat<D.counts.length then (if cL=0 then none else some (D,(D.counts[E.toNat]'h25).tmod cL==(0:Int)))else none else none else some (D,false)))=some (bif lY (jd t row)then (jd t row,match qI t row with
        |some i=>((jd t row).counts.getD i 0).tmod cL==0
        |none=>false)else (t,false)):=by
     intro E D U e2;subst U;rw[UK,ay];cases h3:lY (jd t row)with
     |false=>rfl
     | true=>
      rw[bL,ax,au,e2];cases h4:qI t row with
      |none=>rfl
      | some i=>
       have hi:i<(jd t row).counts.length:=by rw[(aeW row).2];exact arS T h4
       simp only[bE];rw[aY,au,aO ⟨by omega,hi⟩,aO hi,aW,cS,bJ hi];rfl
    cases C:t.rows.findIdx? (λe=>e==row)with
    | some i=>
     obtain⟨hi,_⟩:=CR C;have O:i<t.counts.length:=by omega
     have hc:=T.cs i O;have Y:qI t row=some i:=by unfold qI;rw[C]
     have Z:jd t row=⟨t.rows,t.counts.set i (t.counts[i]+1),t.fj⟩:=by unfold jd;simp only[C];rw[cS,bJ O];rfl
     have U:jA (λe=>e==row) t.rows=(i:Int):=by unfold jA;rw[C]
     rw[U,bh,ax];simp only[bE];rw[aY,au,aO ⟨by omega,O⟩,aO O,aO ⟨by omega,O⟩,aO O];have hw:W6 (t.counts[i]+1)=t.counts[i]+1:=aZ;simp only[hw];exact Vn (i:Int) ⟨t.rows,t.counts.set i (t.counts[i]+1),t.fj⟩ Z.symm (by rw[Y])
    | none=>
     have U:jA (λe=>e==row) t.rows = -1:=by unfold jA;rw[C]
     rw[U,aY,au,N2 _ _ (by omega),ay,sw t.fj];cases I:t.counts.findIdx? (λe=>e==t.fj)with
     | some i=>
      obtain⟨hi,hp⟩:=CR I;have Ot:i<t.rows.length:=by omega
      have hp:t.counts[i]=t.fj:=by simpa using hp
      have Y:qI t row=some i:=by unfold qI;rw[C];exact I
      have Z:jd t row=⟨t.rows.set i row,t.counts.set i (t.fj+1),t.fj⟩:=by unfold jd;rw[C];simp only[I]
      have e3:jA (λe=>e==t.fj) t.counts=(i:Int):=by unfold jA;rw[I]
      rw[e3];simp only[bE];rw[aY,au,aO ⟨by omega,Ot⟩,aO Ot,au,aO ⟨by omega,hi⟩,aO hi,aO ⟨by omega,hi⟩,aO hi];have hw:W6 (t.fj+1)=t.fj+1:=aZ;simp only[hp,hw];exact Vn (i:Int) ⟨t.rows.set i row,t.counts.set i (t.fj+1),t.fj⟩ Z.symm (by rw[Y])
     | none=>
      have Y:qI t row=none:=by unfold qI;rw[C];exact I
      have Z:jd t row=⟨t.rows,t.counts,t.fj+1⟩:=by unfold jd;rw[C];simp only[I]
      have e3:jA (λe=>e==t.fj) t.counts = -1:=by unfold jA;rw[I]
      have hw:W6 (t.fj+1)=t.fj+1:=aZ;rw[e3,bh,ax,ax];simp only[hw];exact Vn (-1) ⟨t.rows,t.counts,t.fj+1⟩ Z.symm (by rw[Y])
def nH(k:Int):cX:=⟨List.replicate k.toNat (-1),List.replicate k.toNat 0,0⟩
def arU{k:Int}(h:aT k 1 16=true):Eh k=some (nH k,true):=by
 have hb:=br.1 h;unfold Eh;have e:B2 ([(-1:Int)]) k=some (List.replicate k.toNat (-1)):=by
  unfold B2;simp_all
 rw[dh,ay,h,bL,e,ay,aV ⟨by omega,fN _,by omega⟩];rfl
def l6(r:eH)(b:Int):eH:=bif decide (r.aC.getD b.toNat 0 = -2)then r else ⟨r.aC.set b.toNat (r.aC.getD b.toNat 0-1),r.wait,r.dY⟩
def JC{r:eH}(h:fY r=true):∀ x∈r.aC,-2 <= x/\x <= 5:=by
 simp[fY,aJ,bT]at h;exact λx C=>br.1 (h.1 x C)
def arV{α β:Type}{o:aj (α×β)}{a:α}(h:o.map Prod.fst=some a):∃b,o=some (a,b):=by simp_all
def arW{r:eH}(h:fY r=true){b:Int}(D:0 <= b)(C:b.toNat<r.aC.length):∃ y,NA r b=some (l6 r b,y):=by
 have hl:=wg h;have I:=JC h _ (cR C);have hg:r.aC.getD b.toNat 0=r.aC[b.toNat]:=by rw[cS,bJ C];rfl
 unfold NA Ce l6 xI xL xA xZ;rw[eM (by simp;omega),au,ay,Jf _ (by omega),ay,h,bL,ax,dh,ay,Oo D C (by omega),bL,ax,aO ⟨D,C⟩,hg];dsimp only;by_cases E:r.aC[b.toNat] = -2
 ·simp_all
 ·rw[jQ E,bh E,List.nil_append,aO ⟨D,C⟩,aO C,aO ⟨D,C⟩,aO C,aZ];simp_all
def wj(p:iC)(k now:Int):iC:=bif lD p&&aT now p.since 1000000 then
 (bif (k==6)&&(p.state==0)then ⟨1,now,p.idle⟩else bif (k==8)&&(p.state==0)then ⟨2,now,p.idle⟩else bif (k==7)&&(p.state==1)then ⟨0,now,p.idle⟩else bif (k==9)&&(p.state==2)then ⟨0,now,p.idle⟩else p)else p
def Ou(p:iC){k:Int}(C:6 <= k/\k <= 9)(now:Int):∃ y,ND p k now=some (wj p k now,y):=by
 refine arV ?_;unfold ND wj;rw[N0,ay];cases lD p with
 |false=>rfl
 | true=>
  rw[bL,ax,dh,ay];cases aT now p.since 1000000 with
  |false=>rfl
  | true=>
   have:k=6 \/ k=7 \/ k=8 \/ k=9:=by omega
   grind
def aeX{α β T:Type}{step:α -> aj (α⊕β)}(p:T -> Bool)(S:Nat -> Nat -> aa T -> α)(Z:Nat -> aa T -> β)
  (hs:∀i j s (E:j<s.length),i <= j -> j<1073741824 -> step (S i j s)=some (.inl (bif p s[j]then S i (j+1) s else S (i+1) (j+1) (s.set i s[j]))))
  (hz:∀i s,i <= s.length -> step (S i s.length s)=some (.inr (Z i s))):
  ∀(n i j fuel:Nat) (s:aa T),j+n=s.length -> i <= j -> s.length<1073741824 -> n<fuel -> ∃C D,iter step fuel (S i j s)=some (Z D C)/\C.length=s.length/\D <= s.length/\C.take D=s.take i++(s.drop j).filter (λx=>!p x):=by
 intro n
 induction n with
 | zero=>
  intro i j fuel s hn hi hl hf;obtain⟨f,rfl⟩:∃f,fuel=f+1:=⟨fuel-1,by omega⟩
  have ej:j=s.length:=by omega
  subst ej;refine⟨s,i,?_,rfl,hi,by simp⟩;unfold iter;simp_all
 | succ n I=>
  intro i j fuel s hn hi hl hf;obtain⟨f,rfl⟩:∃f,fuel=f+1:=⟨fuel-1,by omega⟩
  have E:j<s.length:=by omega
  unfold iter;rw[hs i j s E hi (by omega)];have hd:=List.drop_eq_getElem_cons E;cases hp:p s[j]with
  | true=>
   have⟨C,D,O,U,Y,h4⟩:=I i (j+1) f s (by omega) (by omega) hl (by omega)
   grind
  | false=>
   have⟨C,D,O,U,Y,h4⟩:=I (i+1) (j+1) f (s.set i s[j]) (by simp;omega) (by omega) (by simp;omega) (by omega);refine⟨C,D,O,by simpa using U,by simpa using Y,?_⟩;rw[h4,hd,List.filter_cons_of_pos (by simp[hp]),List.drop_set_of_lt (by omega),List.take_add_one,List.getElem?_set_self (by omega),List.take_set_of_le (by omega)];simp
def aeY{T:Type}{p:T -> Bool}{l:aa T}{k:Nat}(h:l.findIdx? p=some k):l.filter (λx=>!p x)=l.take k++(l.drop (k+1)).filter (λx=>!p x):=by
 have⟨D,hp,hq⟩:=qP.1 h;have e:l=l.take k++l[k] :: l.drop (k+1):=by
  simp[*]
 have E:(l.take k).filter (λx=>!p x)=l.take k:=by
  rw[List.filter_eq_self];intro a C;obtain⟨i,hi,rfl⟩:=iU.1 C
  grind
 grind
def Vo{T:Type}(s r:aa T)(i:Nat)(h:i <= s.length):(splice s i r).take i=s.take i:=by
 unfold splice;simp_all
def arX(l:aa aQ)(a:aQ)(hl:l.length<1073741824):Nv l a=some (jA (eN a) l):=by
 unfold Nv jA;have e:=Jg (step:=IM) l (eN a) (λi=>((l,a,(l.length:Int),(i:Int),()),())) (λi=>.inl (((i:Int),()),())) (.inr (.inl ((),()))) bq (λk h=>by
  unfold IM eN aM bF xG xI;dsimp only;rw[aY,au,aO ⟨by omega,by omega⟩];simp only[bE];rw[cc];cases (l[k].aq==a.aq&&(l[k].row==a.row&&(l[k].bW==a.bW&&true)))<;>rfl) (by
  unfold IM aM bF xG xI;dsimp only;rw[bh,ax]) (cu hl)
 rw[dm]at e;rw[e];cases l.findIdx? (eN a)<;>rfl
def arY(l:aa aQ)(x:aP)(hl:l.length<1073741824):NF l x=some (jA (λa=>a.aq==x.aq) l):=by
 unfold NF jA;have e:=Jg (step:=IS) l (λa=>a.aq==x.aq) (λi=>((l,x,(l.length:Int),(i:Int),()),())) (λi=>.inl (((i:Int),()),())) (.inr (.inl ((),()))) bq (λk h=>by
  unfold IS aM bF xG xI;dsimp only;rw[aY,au,aO ⟨by omega,by omega⟩];simp only[bE];rw[cc];cases (l[k].aq==x.aq)<;>rfl) (by
  unfold IS aM bF xG xI;dsimp only;rw[bh,ax]) (cu hl)
 rw[dm]at e;rw[e];cases l.findIdx? (λa=>a.aq==x.aq)<;>rfl
def arZ(l:aa aQ)(a:aQ)(hl:l.length<1000000):Nw l a=some (l.filter (λx=>!eN a x),([],())):=by
 unfold Nw;rw[arX l a (by omega),ay];unfold jA;cases C:l.findIdx? (eN a)with
 | none=>
  have e:l.filter (λx=>!eN a x)=l:=by
   rw[List.filter_eq_self];intro x D;have:=List.findIdx?_eq_none_iff.1 C x D;simp[this]
  rw[e];rfl
 | some k=>
  obtain⟨O,hp,hq⟩:=qP.1 C;rw[aeY C];simp only;rw[jQ (show ¬ (k:Int) = -1 by omega),ax,cc];obtain⟨T,U,E,Y,Z,I⟩:=aeX (step:=IN) (eN a) (λi j s=>(((),a,(i:Int),(j:Int),()),(s,()))) (λi s=>.inl (((),(i:Int),()),(s,()))) (λi j s hj hi hb=>by
   unfold IN eN aM xG xL;dsimp only;rw[aY,au,aO ⟨by omega,by omega⟩,aO];simp only[bE];rw[cc,cc,aO ⟨by omega,by omega⟩,aO];cases (s[j].aq==a.aq&&(s[j].row==a.row&&(s[j].bW==a.bW&&true)))<;>rfl) (λi s hi=>by
   unfold IN aM xG xL;dsimp only;rw[bh,ax]) (l.length-(k+1)) k (k+1) bq l (by omega) (by omega) (by omega) (by unfold bq;omega)
  rw[E,ay,gD];dsimp only;rw[aV ⟨by omega,by omega,by omega⟩,aV ⟨by omega,by omega⟩,aV ⟨by omega,by omega,by
   rw[tQ _ _ _ (by simp;omega)];omega⟩]
  rw[Vo _ _ _ (by omega),bE,I]
def ar0(l:aa aQ)(c:aP)(hl:l.length<1000000):NG l c=some (l.filter (λx=>!(x.aq==c.aq)),([],())):=by
 unfold NG;rw[arY l c (by omega),ay];unfold jA;cases C:l.findIdx? (λa=>a.aq==c.aq)with
 | none=>
  have e:l.filter (λx=>!(x.aq==c.aq))=l:=by
   rw[List.filter_eq_self];intro x D;have:=List.findIdx?_eq_none_iff.1 C x D;simp[this]
  rw[e];rfl
 | some k=>
  obtain⟨O,hp,hq⟩:=qP.1 C;rw[aeY C];simp only;rw[jQ (show ¬ (k:Int) = -1 by omega),ax,cc];obtain⟨T,U,E,Y,Z,I⟩:=aeX (step:=IU) (λx=>x.aq==c.aq) (λi j s=>(((),c,(i:Int),(j:Int),()),(s,()))) (λi s=>.inl (((),(i:Int),()),(s,()))) (λi j s hj hi hb=>by
   unfold IU aM xG xL;dsimp only;rw[aY,au,aO ⟨by omega,by omega⟩,aO];simp only[bE];rw[cc,cc,aO ⟨by omega,by omega⟩,aO];cases (s[j].aq==c.aq)<;>rfl) (λi s hi=>by
   unfold IU aM xG xL;dsimp only;rw[bh,ax]) (l.length-(k+1)) k (k+1) bq l (by omega) (by omega) (by omega) (by unfold bq;omega)
  rw[E,ay,gD];dsimp only;rw[aV ⟨by omega,by omega,by omega⟩,aV ⟨by omega,by omega⟩,aV ⟨by omega,by omega,by
   rw[tQ _ _ _ (by simp;omega)];omega⟩]
  rw[Vo _ _ _ (by omega),bE,I]
def je(b:Int)(pd:aa aQ)(n:Int):aa aQ:=bif pd.any (eN ⟨b,n,0⟩)then pd else pd++[⟨b,n,0⟩]
def wm(c:av)(t:aa cX)(C:aa Int)(pd:aa aQ):av:=⟨c.config,c.box,c.now,c.aF,c.ready,c.array,c.spare,c.az,t,C,pd,c.queue,c.shares,c.drain,c.aN,c.eA,c.errors,c.trace,c.bA⟩
def ar1{T:Type}(p:T -> Bool)(l:aa T):decide (jA p l<0) = !l.any p/\decide (jA p l >= 0)=l.any p:=by
 unfold jA
 grind
def Vp(b:Int):∀ (ns:aa Int) (pd:aa aQ),(ns.foldl (je b) pd).length <= pd.length+ns.length
 |[],pd=>dB _
 | n :: ns,pd=>by
  have:=Vp b ns (je b pd n);have C:(je b pd n).length <= pd.length+1:=by
   unfold je
   grind
  grind
def ar2{T U:Type}(f:U->T->U)(l:aa T)(u:U){k:Nat}(h:k<l.length):(l.take (k+1)).foldl f u=f ((l.take k).foldl f u) l[k]:=by
 rw[List.take_add_one,bJ h,List.foldl_append];rfl
def ar3(c:av)(x:aP)(ns:aa Int)(hn:ns.length <= 1000)(hp:c.pending.length <= 1000):iter ER bq (((),(),(),(ns.length:Int),(0:Int),()),(c,(x.kind,x.aq,x.row,x.bW,()),ns,()))=some (.inl ((),(wm c c.bB c.guard (ns.foldl (je x.aq) c.pending),()))):=by
 have e:=eJ (step:=ER) _ (λi=>(((),(),(),ns.length,i,()),(wm c c.bB c.guard ((ns.take i).foldl _ _),(x.kind,x.aq,x.row,x.bW,()),ns,()))) _ bq (λk h=>by
  have hl:=Vp x.aq (ns.take k) c.pending;rw[jF]at hl;rw[ar2 _ _ _ h];generalize (ns.take k).foldl (je x.aq) c.pending=pd at hl;unfold ER je wm Ud aM xG xL;dsimp only;rw[aY,au,aO ⟨by omega,by omega⟩,aO];simp only[bE];rw[ad9 _ _ (by omega),ay,ay,(ar1 _ _).2,cc,eM (by simp;omega)];cases pd.any (eN ⟨x.aq,ns[k],0⟩)<;>rfl) (by
  unfold ER wm aM xG xL;dsimp only;rw[bh,ax]) (cu)
 rw[ mV]at e;exact e
def zT:cX:=⟨[],[],0⟩
def rX(c:av)(x:aP):cX×Bool:=mO (c.bB.getD x.aq.toNat zT) x.row (c.guard.getD x.aq.toNat 0)
def qJ(c:av)(x:aP):aa aQ:=c.pending.filter (λa=>!eN ⟨x.aq,x.row,0⟩ a)
def yG(c:av)(x:aP):av:=
 wm (gy c (AI c.config.ak c.config.dS c.array x.aq x.row)) (c.bB.set x.aq.toNat (rX c x).1) c.guard (bif (rX c x).2 then (ia c.config.ak.rows x.row).foldl (je x.aq) (qJ c x)else qJ c x)
def gM{T:Type}{l:aa T}{i:Nat}(d:T)(h:i<l.length):l.getD i d=l[i]:=by
 rw[cS,bJ h];rfl
def aeZ(R r:Int):(ia R r).length <= 2:=by
 unfold ia
 grind
def ar4{T:Type}(p:T->Bool)(l:aa T):(l.filter p).length<=l.length:=List.length_filter_le p l
def ar5{B:Int}(c:av)(x:aP)(hg:cy c.config.ak=true)(T:fG c.config.ak B c.array)(hp:c.pending.length <= 200)(U:∀ t∈c.bB,mM t)(D:0 <= x.aq)(Y:x.aq<aI c.config.ak)(E:0 <= x.row)(I:x.row<c.config.ak.rows)(C:x.aq.toNat<c.bB.length)(hd:x.aq.toNat<c.guard.length):Ny c x=some ((),(yG c x,())):=by
 have⟨_,_,_,_,g5,g6,g7,g8⟩:=fW hg;have O:=aeP hg c.config.dS c T D Y E I;have Z:=arZ c.pending ⟨x.aq,x.row,0⟩ (by omega);have hf:(qJ c x).length <= c.pending.length:=List.length_filter_le _ _;have sF:=aeZ c.config.ak.rows x.row;simp only[gy]at O;unfold Ny bR xL xM
 refine(bz (λo=>Option.bind o _) O).trans ?_
 rw[ay];dsimp only
 refine(bz (λo=>Option.bind o _) Z).trans ?_
 rw[ay];dsimp only;rw[aO ⟨D,C⟩,aO C,aO ⟨D,hd⟩,aO hd,aO C,aO C];rw[arT _ (U _ (cR C)),ay,aO ⟨D,C⟩,aO C];unfold yG rX;rw[gM _ C,gM _ hd];cases (mO (c.bB[x.aq.toNat]'C) x.row (c.guard[x.aq.toNat]'hd)).2 with
 |false=>rfl
 | true=>
  rw[bL,ax,aet (by omega) (by omega) E I,ay]
  refine(bz (λo=>Option.bind o _) (ar3 (wm (gy c (AI _ _ c.array x.aq x.row)) _ c.guard (qJ c x)) x _ (by omega) (by unfold wm;dsimp only;omega))).trans ?_
  rfl
def CS(l:aa aQ):Prop:=∀i (h:i<l.length),(l.take i).any (eN l[i])=false
def JD{a b:aQ}:eN a b=true ↔ a=b:=by
 have⟨C,D,E⟩:=a;have⟨I,O,T⟩:=b;simp[eN,aJ,eG,and_true,aQ.mk.injEq]
 grind
def pq{U:Type}(f:U->Nat->U)(u:U)(k:Nat):(List.range (k+1)).foldl f u=f ((List.range k).foldl f u) k:=by
 rw[List.range_succ,List.foldl_append];rfl
def ic(g:aH)(l:lI)(a:dw)(b:Int)(n:Nat):dw:=(List.range n).foldl (λa (r:Nat)=>AI g l a b (r:Int)) a
def JE{g:aH}(hg:cy g=true)(l:lI){B:Int}(hB:0<=B){a:dw}(C:fG g B a){b:Int}(D:0<=b)(E:b<aI g):∀ n:Nat,(n:Int)<=g.rows->fG g B (ic g l a b n)
 |0,_=>C
 | n+1,h=>by
  unfold ic;rw[pq];exact Vb hg l hB (JE hg l hB C D E n (by omega)) D E (by omega) (by omega)
def ae0{B:Int}(hB:0 <= B)(c:av)(hg:cy c.config.ak=true)(I:fG c.config.ak B c.array){b:Int}(C:0 <= b)(D:b<aI c.config.ak):Nz c b=some ((),(gy c (ic c.config.ak c.config.dS c.array b c.config.ak.rows.toNat),())):=by
 have⟨_,_,_,_,O,T,U,Y⟩:=fW hg;have e:=eJ (step:=IP) c.config.ak.rows.toNat (λi=>(((),b,i,()),(gy c (ic _ _ _ b i),()))) _ bq (λk h=>by
  have E:=aeP hg c.config.dS (gy c (ic c.config.ak c.config.dS c.array b k)) (JE hg c.config.dS hB I C D k (by omega)) C D (show 0 <= (k:Int) by omega) (by omega);simp only[gy]at E;unfold IP gy aM xG;dsimp only;rw[aY,au,E,ay,cc];dsimp only;unfold ic;rw[pq]) (by
  unfold IP gy aM xG;dsimp only;rw[bh,ax]) (cu)
 refine(bz (λo=>Option.bind o _) e).trans ?_
 rfl
def Ov(c:av)(b:Int)(pd:aa aQ):av:=
 wm (gy c (ic c.config.ak c.config.dS c.array b c.config.ak.rows.toNat)) (c.bB.set b.toNat (nH c.config.ij)) (c.guard.set b.toNat c.box.bX.di) pd
def ae1(c:av)(E:aT c.config.ij 1 16=true){b:Int}(C:0<=b)(D:b.toNat<c.bB.length)(hd:b.toNat<c.guard.length):IQ c b=some ((),(wm c (c.bB.set b.toNat (nH c.config.ij)) (c.guard.set b.toNat c.box.bX.di) c.pending,())):=by
 unfold IQ xL;rw[arU E,ay,aO ⟨C,D⟩,aO D,aO ⟨C,hd⟩,aO hd];rfl
def iK(c:av)(k:Nat)(pd:aa aQ):av:=
 ⟨c.config,c.box,c.now,c.aF,c.ready,(List.range k).foldl (λa (b:Nat)=>ic c.config.ak c.config.dS a (b:Int) c.config.ak.rows.toNat) c.array,c.spare,⟨(List.range k).foldl (λd b=>d.set b 0) c.az.aC,c.az.wait,c.az.dY⟩,(List.range k).foldl (λd b=>d.set b (nH c.config.ij)) c.bB,(List.range k).foldl (λd b=>d.set b c.box.bX.di) c.guard,pd,c.queue,c.shares,c.drain,c.aN,c.eA,c.errors,c.trace,c.bA⟩
def wo{T:Type}(x:T)(l:aa T):∀ k:Nat,((List.range k).foldl (λd b=>d.set b x) l).length=l.length
 |0=>rfl
 |k+1=>by rw[pq,jh,wo x l k]
def Ow{g:aH}(hg:cy g=true)(l:lI){B:Int}(hB:0 <= B){a:dw}(C:fG g B a):∀ k:Nat,(k:Int) <= aI g -> fG g B ((List.range k).foldl (λa (b:Nat)=>ic g l a (b:Int) g.rows.toNat) a)
 |0,_=>C
 | k+1,h=>by
  have⟨_,_,_,_,D,E,I,O⟩:=fW hg;rw[pq];exact JE hg l hB (Ow hg l hB C k (by omega)) (by omega) (by omega) _ (by omega)
structure wq (B:Int) (c:av):Prop where
 hB:0<=B
 g:cy c.config.ak=true
 a:fG c.config.ak B c.array
 k:aT c.config.ij 1 16=true
 p:c.pending.length<=200
 t:(c.bB.length:Int)=aI c.config.ak
 d:(c.guard.length:Int)=aI c.config.ak
 r:(c.az.aC.length:Int)=aI c.config.ak
def wq.Vq{B:Int}{c:av}(h:wq B c)(k:Nat)(C:(k:Int)<=aI c.config.ak)(pd:aa aQ)(hp:pd.length<=200):wq B (iK c k pd):=
 ⟨h.hB,h.g,Ow h.g c.config.dS h.hB h.a k C,h.k,hp,(bz (λn:Nat=>(n:Int)) (wo _ _ k)).trans h.t,(bz (λn:Nat=>(n:Int)) (wo _ _ k)).trans h.d,(bz (λn:Nat=>(n:Int)) (wo _ _ k)).trans h.r⟩
def ar6(c:av)(k:Nat)(pd C:aa aQ):iK c (k+1) C=⟨c.config,c.box,c.now,c.aF,c.ready,(Ov (iK c k pd) (k:Int) C).array,c.spare,⟨(iK c k pd).az.aC.set k 0,c.az.wait,c.az.dY⟩,(Ov (iK c k pd) (k:Int) C).bB,(Ov (iK c k pd) (k:Int) C).guard,C,c.queue,c.shares,c.drain,c.aN,c.eA,c.errors,c.trace,c.bA⟩:=by
 unfold iK;simp only[pq];rfl
def ar7{B:Int}{c:av}(h:wq B c):iter yp bq (((),(c.bB.length:Int),(0:Int),()),(iK c 0 [],()))=some (.inl ((),(iK c c.bB.length [],()))):=by
 have T:=ey c.config.ak;have U:=h.t;have e:=eJ (step:=yp) c.bB.length (λi=>(((),c.bB.length,i,()),(iK c i [],()))) _ bq (λk Y=>by
  have hw:=h.Vq k (by omega) [] (by simp);have w1:=hw.t;have D:=hw.d;have E:=hw.r;have C:aI (iK c k []).config.ak=aI c.config.ak:=rfl;rw[C]at w1 D E;have I:=ae0 hw.hB _ hw.g hw.a (b:=(k:Int)) (by omega) (by rw[C];omega);have O:=ae1 (gy (iK c k []) (ic (iK c k []).config.ak (iK c k []).config.dS (iK c k []).array (k:Int) (iK c k []).config.ak.rows.toNat)) hw.k (b:=(k:Int)) (by omega) (by show (k:Int).toNat<(iK c k []).bB.length;omega) (by show (k:Int).toNat<(iK c k []).guard.length;omega);rw[ar6 c k [] []];unfold yp aM xG xL;dsimp only;rw[aY,au,I,ay,O,ay,cc];have Z:k<(iK c k []).az.aC.length:=by omega
  rw[aO ⟨by omega,by show (k:Int).toNat<(iK c k []).az.aC.length;omega⟩,aO (by show (k:Int).toNat<(iK c k []).az.aC.length;omega)];rfl) (by
  unfold yp aM xG xL;dsimp only;rw[bh,ax]) (cu)
 simp_all
def wv(l:aa Int):Nat->Int
 |0=>0
 |i+1=>bits .or .i64 (wv l i) (W6 (l.getD i 0*2 ^ (min (4*(i:Int)).toNat IntKind.i64.bits)))
def ar8{l:aa Int}(h:l.length=8)(hd:∀ s∈l,0 <= s/\s <= 15):vY l 8=true:=by
 simp[vY,aJ,bT,CC,br];simp_all
def ar9{l:aa Int}(h:l.length=8)(hd:∀ s∈l,0<=s/\s<=15):MZ l=some (wv l 8,true):=by
 unfold MZ bR;rw[adO _ _ (by omega),ar8 h hd,ay];have e:=eJ (step:=Is) 8 (λi=>((wv l i,l,(l.length:Int),(i:Int),()),())) (.inl ((wv l 8,()),())) bq (λi hi=>by
  have C:i<l.length:=by omega
  have D:W6 (4*(i:Int))=4*(i:Int):=aZ;have E:¬ 4*(i:Int)<0:=by omega
  have I:l.getD i 0=l[i]:=by rw[cS,bJ C];rfl
  have O:wv l (i+1)=bits .or .i64 (wv l i) (W6 (l.getD i 0*2 ^ (min (4*(i:Int)).toNat IntKind.i64.bits))):=rfl;unfold Is aM xG xI;rw[O,I];simp (disch:=omega) [C,D,E,cc]) (by unfold Is aM xG xI;simp[h]) (cu)
 rw[dm]at e;simp only[bL,ax];have T:wv l 0=0:=rfl;rw[T]at e;rw[e];rfl
def asa{w:aa Nat}(hw:kz w)(hl:w.length=11):(cH (w.drop 3)).length=8 /\ ∀ s∈cH (w.drop 3),0 <= s/\s <= 15:=by
 refine⟨by rw[vX];simp[hl],λs C=>?_⟩
 simp only[ List.mem_map]at C;obtain⟨x,D,rfl⟩:=C;have:=hw x (List.mem_of_mem_drop D);omega
def Vr(w:aa Nat):Int:=bif (lE w).2.1==2 then 0 else wv (cH ((lE w).1.drop 3)) 8
def asb{w:aa Nat}(hw:kz w)(hl:w.length=11):M1 (cH w)=some (Vr w,(lE w).2.1,(lE w).2.2):=by
 have⟨C,D,_⟩:=Ob hw hl;have⟨d1,d2⟩:=asa D C;unfold M1 Vr;rw[aeB hw hl,ay];cases h:(lE w).2.1==2 with
 |true=>simp
 | false=>
  rw[ aq1 D C,ay,ar9 d1 d2];rfl
def nw(c:cB):aa Nat:=c.symbols.map Int.toNat
def Vs{c:cB}(h:Sy c.symbols):cH (nw c)=c.symbols/\kz (nw c)/\(nw c).length=11:=by
 have⟨C,D⟩:=adS _ h.2;exact⟨C,D,by simp[nw,h.1]⟩
def kQ(c:cB):Int:=bif c.pU then 2 else (lE (nw c)).2.1
def rY(c:cB):cB:=bif c.pU then c else bif (lE (nw c)).2.1==1 then ⟨cH (lE (nw c)).1,c.pU⟩else bif (lE (nw c)).2.1==2 then ⟨c.symbols,true⟩else c
def asc{l:aa cB}{j:Nat}(h:j<l.length):l.set j l[j]=l:=List.set_getElem_self h
def Vt{c:cB}(h:Sy c.symbols):Sy (rY c).symbols:=by
 have⟨O,C,D⟩:=Vs h;have⟨E,I,_⟩:=Ob C D;unfold rY;cases c.pU with
 |true=>exact h
 | false=>
  cases (lE _).2.1==1 with
  |true=>exact adT I E
  |false=>grind
def sy1(x:Int)(k:Nat):Int:=bits .and .i64 (x.fdiv (2 ^ (min (4*(k:Int)).toNat IntKind.i64.bits))) 15
def tC(x:Int):Nat->aa Int
 |0=>[]
 |k+1=>tC x k++[sy1 x k]
def Vu(x:Int):∀ k,(tC x k).length=k
 |0=>rfl
 |k+1=>by simp[tC,Vu x k]
def ae2(x:Int):∀ k,∀ s∈tC x k,0<=s/\s<=15
 |0,s,h=>by cases h
 | k+1,s,h=>by
  rcases gJ.1 h with h|h
  ·exact ae2 x k s h
  ·rw[gf.1 h];exact aqV _
def asd{x:Int}(U:0<=x)(Y:x<=4294967295):Mx x=some (tC x 8):=by
 have C:aT x 0 4294967295=true:=by rw[br];omega
 unfold Mx Ca bR;rw[dh,ay,ay,C,bL,ax];have e:=eJ (step:=HJ) 8 (λk=>((x,(),(k:Int),()),(tC x k,()))) (.inl (((),()),(tC x 8,()))) bq (λk Z=>by
  have D:(k:Int)<8:=by omega
  have E:bV ((tC x k).length+1)=true:=eM (by rw[Vu];omega);have I:W6 (4*(k:Int))=4*(k:Int):=aZ;have O:¬ 4*(k:Int)<0:=by omega
  unfold HJ aM xG;simp (disch:=omega) [D,I,O,E,cc,tC,sy1]) (by
  unfold HJ aM xG;simp) (cu)
 rw[dm]at e;have T:tC x 0=[]:=rfl;rw[T]at e;rw[e];rfl
def Fa(x:Int):aa Int:=(Ae x).getD []
def Vv{x:Int}(E:0 <= x)(I:x <= 4294967295):Ae x=some (Fa x)/\Sy (Fa x) /\ ∃ w,Fa x=cH w/\w.length=11/\kz w/\cH (w.drop 3)=tC x 8/\E2 w=true:=by
 have O:aT x 0 4294967295=true:=by rw[br];omega
 have⟨t1,t2⟩:=adS _ (ae2 x 8);have tl:((tC x 8).map Int.toNat).length=8:=by rw[eS,Vu]
 have⟨w,C,l1,d1,T,U,Y,Z⟩:=apC t2 tl;have z1:E2 w=true:=by simp[E2,U,Y,Z]
 rw[t1]at C;have D:Ae x=some (cH w):=by
  unfold Ae Ca;rw[dh,ay,ay,O,bL,ax,asd E I,ay,C,ay]
 have ee:Fa x=cH w:=by unfold Fa;rw[D];rfl
 rw[ee];exact⟨D,adT d1 l1,w,rfl,l1,d1,by rw[T,t1],z1⟩
def Vw(d:cB):Int:=bif d.pU then 0 else Vr (nw d)
def wu(c:av)(j:Nat)(d:cB):av:=gy c ⟨c.array.cells.set j d,c.array.bu,c.array.bg⟩
def ase{c:av}{j:Nat}(h:j<c.array.cells.length):wu c j c.array.cells[j]=c:=by
 unfold wu gy;rw[asc h]
def ae3{c:av}{j:Nat}(C:j<c.array.cells.length)(T:Sy c.array.cells[j].symbols):yo c (j:Int)=some ((Vw c.array.cells[j],kQ c.array.cells[j]),(wu c j (rY c.array.cells[j]),())):=by
 have⟨U,D,E⟩:=Vs T;have I:=aeB D E;have O:=asb D E;rw[U]at I O;have Y:=ase C;unfold yo kQ rY Vw xL xM;rw[aO ⟨by omega,by omega⟩,aO];simp only[bE];cases hp:c.array.cells[j].pU with
 |true =>simp_all
 | false=>
  rw[ax,ax,ax,ax,aO C,aO C,I,ay,aO C,aO C,O,ay];dsimp only;rcases(Ob D E).2.2 with q|q|q
  ·grind
  ·rw[q,iS,aO C,hp];rfl
  ·rw[q,jQ (by omega),ax,iS,aO C];rfl
def AL(q:aa aX)(i:Nat):Bool:=match q[i]? with
 |some r=>(q.take i).any λx=>x.line==r.line
 |none=>false
def ae4{q:aa aX}{i:Nat}(h:i<q.length):AL q i=(q.take i).any λx=>x.line==q[i].line:=by
 unfold AL;rw[bJ h]
def asf{q:aa aX}{i:Nat}(h:i<q.length)(hq:q.length <= 1000):Nh q (i:Int)=some (AL q i):=by
 have I:=E5 (λx:aX=>x.line==q[i].line) (q.take i);have hlen:(q.take i).length=i:=by rw[jF];omega
 unfold Nh cY;rw[dh,ay,Oo (by omega) (by omega) (by omega),bL,ax,aV ⟨by omega,by omega,by omega⟩,ae4 h,U8];simp only[bE,Int.toNat_zero,List.drop_zero];generalize O:q.take i=t at *
 have e:=eJ (step:=EG) (fh (λx:aX=>x.line==q[i].line) t) (λj=>((q,(i:Int),t,(t.length:Int),(j:Int),()),())) (if fh (λx:aX=>x.line==q[i].line) t<t.length then .inl ((true,()),())else .inr (.inl ((),()))) bq (λk E=>by
  have D:=uQ E (by omega);unfold EG aM bF xG xI;dsimp only;rw[aY,au,aO ⟨by omega,by omega⟩,aO ⟨by omega,by omega⟩];simp only[bE];rw[D,ax,cc]) (by
  by_cases C:fh (λx:aX=>x.line==q[i].line) t<t.length
  ·have D:=AG C;unfold EG aM bF xG xI;dsimp only;rw[aY,au,aO ⟨by omega,by omega⟩,aO ⟨by omega,by omega⟩]
   grind
  ·unfold EG aM bF xG xI;dsimp only;rw[bh,ax,aW C]) (cu)
 rw[dm]at e
 refine(bz (λo=>Option.bind o _) e).trans ?_
 by_cases C:fh (λx:aX=>x.line==q[i].line) t<t.length
 ·rw[aV C,aY C];rfl
 ·rw[aW C,bh C];rfl
def JF(d:mX)(n:Int)(w:Bool):Bool:=bif w then d.on ||decide (n<1)else !d.on
def asg{d:mX}(n:Int)(w:Bool)(h:qA d=true):Ni d n w=some (JF d n w):=by
 unfold Ni JF;rw[NY,h]
 grind
def yH(p:Nat->Bool)(k:Nat):Int:=((List.range k).countP p:Nat)
def ae5(p:Nat -> Bool)(k:Nat):yH p (k+1)=yH p k+(bif p k then 1 else 0):=by
 unfold yH;rw[List.range_succ,List.countP_append,List.countP_singleton]
 grind
def ae6(p:Nat -> Bool)(k:Nat):0 <= yH p k/\yH p k <= k:=by
 unfold yH;have:=List.countP_le_length (p:=p) (l:=List.range k);simp_all
def rZ(f:Nat->Bool)(n k:Nat):aa Bool:=(List.range k).map f++List.replicate (n-k) false
def Ox{f:Nat->Bool}{n k:Nat}(h:k<=n):(rZ f n k).length=n:=by unfold rZ;simp;omega
def Oy{f:Nat -> Bool}{n k:Nat}(h:k<n):(rZ f n k).set k (f k)=rZ f n (k+1):=by
 unfold rZ;rw[List.set_append_right _ _ (by simp),eS,eo,Nat.sub_self,show n-k=(n-(k+1))+1 by omega,List.replicate_succ,List.range_succ,List.map_append,List.append_assoc];rfl
def Vx(f:Nat->Bool)(n:Nat):rZ f n 0=List.replicate n false:=rfl
def Oz(f:Nat->Bool)(n:Nat):rZ f n n=(List.range n).map f:=by unfold rZ;simp
def JG{f:Nat->Bool}{n k:Nat}(h:k<n)(C:k<((List.range n).map f).length):((List.range n).map f)[k]=f k:=by simp
def ov(q:aa aX)(i:Nat):Bool:=match q[i]? with
 |some r=>r.write
 |none=>false
def JH{q:aa aX}{i:Nat}(h:i<q.length):ov q i=q[i].write:=by
 unfold ov;rw[bJ h]
def kR(q:aa aX)(i:Nat):Bool:=!AL q i
def yI(q:aa aX)(k:Nat):Int:=yH (λi=>kR q i && !ov q i) k
def uS(q:aa aX)(k:Nat):Int:=yH (λi=>kR q i&&ov q i) k
def jD(c:av)(i:Nat):Bool:=kR c.queue i&&(JF c.drain (yI c.queue c.queue.length) (ov c.queue i) ||(!ov c.queue i&&uS c.queue c.queue.length==0))
def gT(c:av):aa aQ:=c.queue.map λr=>cv c r.line
def AM(c:av):(gT c).length=c.queue.length:=by unfold gT;rw[eS]
def Vy{c:av}{i:Nat}(h:i<c.queue.length)(C:i<(gT c).length):(gT c)[i]=cv c c.queue[i].line:=by simp only[gT,List.getElem_map]
def OA{c:av}(h:Pq c){r:aX}(C:r∈c.queue):vT c r.line=some (cv c r.line,true)/\fX c.config.ak (cv c r.line)=true:=
 arO h.p h.sp h.se h.mo (h.q r C).1.1 (h.q r C).1.2
def ash{c:av}(h:Pq c):Ng c=some (gT c):=by
 have hq:=h.ql;have e:=eJ (step:=IA) c.queue.length (λi=>(((),(),c.queue,c.queue.length,i,()),(c,(c.queue.take i).map _,()))) (.inl (((),()),(gT c,()))) bq (λk C=>by
  have hl:((c.queue.take k).map (λr=>cv c r.line)).length=k:=by simp;omega
  unfold IA aM xG xI;dsimp only;rw[aY,au,aO ⟨by omega,by omega⟩];simp only[bE];rw[(OA h (cR C)).1,ay,cc,hl,List.length_singleton,eM,au,uH C,List.map_append];rfl) (by
  unfold IA aM xG xI;dsimp only;rw[bh,ax,mV];rfl) (cu)
 unfold Ng bR;simp_all
def zA:aQ:=⟨0,0,0⟩
def zQ:aX:=⟨0,0,0,false,0,0⟩
def dy(c:av)(i:Nat):aQ:=(gT c).getD i zA
def kD(c:av)(i:Nat):aX:=c.queue.getD i zQ
def JI{c:av}{i:Nat}(h:i<(gT c).length):(gT c)[i]=dy c i:=by
 unfold dy;rw[cS,bJ h];rfl
def Fb{c:av}{i:Nat}(h:i<c.queue.length):c.queue[i]=kD c i:=by
 unfold kD;rw[cS,bJ h];rfl
def OB{c:av}(h:Pq c){i:Nat}(hi:i<c.queue.length):fX c.config.ak (dy c i)=true/\0 <= (dy c i).aq/\(dy c i).aq.toNat<c.aF.aE.length/\(dy c i).aq.toNat<c.az.aC.length/\(dy c i).aq<aI c.config.ak/\0 <= (dy c i).row:=by
 have e:=Vy hi (by rw[AM];exact hi);rw[JI]at e;have C:=(OA h (cR hi)).2;rw[<- e]at C;have⟨_,D,E,I,O,T,U⟩:=vV C;have:=h.p.bl;have:=h.dl;simp_all
def Fc{c:av}(h:Pq c):c.aF.aE.length<=1048576:=by
 have:=h.p.bl;have:=ey c.config.ak;omega
def fH(c:av)(i:Nat):Bool:=CQ c.aF (dy c i)
def asi{c:av}(h:Pq c)(C:aa Int)(D:aa aQ)(Z:Int×Int×Int×Int×ah)(P:Int×Int×Int×Int×Int×(aa Int)×Int×Int×ah):iter EJ bq ((C,D,(),(),(),(),(0:Int),(0:Int),c.queue,(c.queue.length:Int),(0:Int),()),(c,Z,P,List.replicate c.queue.length false,()))=some (.inl ((C,D,(),(),(),(),yI c.queue c.queue.length,uS c.queue c.queue.length,()),(c,Z,P,(List.range c.queue.length).map (kR c.queue),()))):=by
 have hq:=h.ql;have e:=eJ (step:=EJ) c.queue.length (λi=>((C,D,(),(),(),(),yI c.queue i,uS c.queue i,c.queue,(c.queue.length:Int),(i:Int),()),(c,Z,P,rZ (kR c.queue) c.queue.length i,()))) (.inl ((C,D,(),(),(),(),yI c.queue c.queue.length,uS c.queue c.queue.length,()),(c,Z,P,(List.range c.queue.length).map (kR c.queue),()))) bq (λk E=>by
  have O:=ae6 (λi=>kR c.queue i && !ov c.queue i) k;have T:=ae6 (λi=>kR c.queue i&&ov c.queue i) k;have I:kR c.queue k = !AL c.queue k:=rfl;have hl:=Ox (f:=kR c.queue) (n:=c.queue.length) (k:=k) (by omega);have U:((rZ (kR c.queue) c.queue.length k).set k (!AL c.queue k)).length=c.queue.length:=by rw[jh,hl]
  rw[<- Oy E];unfold EJ aM xG xI xL;dsimp only;rw[aY,au,aO ⟨by omega,by omega⟩,asf E (by omega),ay,aO ⟨by omega,by omega⟩,aO,aO ⟨by omega,by simp only[bE];omega⟩,aO (by simp only[bE];omega),cc];simp only[bE,List.getElem_set_self];unfold yI uS at *
  rw[ae5,ae5];simp only[I,JH E];cases AL c.queue k with
  | true=>
   simp[*]
  | false=>
   rw[Bool.not_false,au];cases c.queue[k].write with
   |true=>rw[ aZ];simp
   | false=>
    rw[ax,aO ⟨by omega,by rw[jh];omega⟩,aO (by rw[jh];omega),aZ];simp) (by
  unfold EJ aM xG xI xL;dsimp only;rw[bh,ax,Oz]) (cu)
 rw[dm,Vx]at e;exact e
def tD(c:av):Nat->aa (Int×Bool)
 |0=>[]
 |k+1=>bif jD c k&&fH c k then nv (tD c k) (dy c k).aq true else tD c k
def wz(c:av)(k:Nat)(b:Int):Bool:=(List.range k).any λi=>jD c i&&fH c i&&b==(dy c i).aq
def ae7(c:av)(b:Int):∀ k,mq (tD c k) b=wz c k b
 |0=>rfl
 | k+1=>by
  have C:=ae7 c b k;have e:wz c (k+1) b=(wz c k b || (jD c k&&fH c k&&b==(dy c k).aq)):=by
   unfold wz
   grind
  rw[e,<- C];show mq (bif jD c k&&fH c k then nv _ (dy c k).aq true else tD c k) b=_;cases jD c k&&fH c k with
  |false=>simp
  |true=>rw[au,aqP,cJ,Bool.or_comm]
def asj{c:av}(h:Pq c)(D:aa Int)(Z:Int×Int×Int×Int×ah)(P:Int×Int×Int×Int×Int×(aa Int)×Int×Int×ah):iter EK bq ((D,gT c,(),(),(),(),yI c.queue c.queue.length,uS c.queue c.queue.length,(),(),(),c.queue,(c.queue.length:Int),(0:Int),()),(c,Z,P,(List.range c.queue.length).map (kR c.queue),List.replicate c.queue.length false,List.replicate c.queue.length false,([]:aa (Int×Bool)),()))=some (.inl ((D,gT c,(),(),(),(),(),(),()),(c,Z,P,(List.range c.queue.length).map (jD c),(List.range c.queue.length).map (fH c),tD c c.queue.length,()))):=by
 have hq:=h.ql;have E:=Fc h;have e:=eJ (step:=EK) c.queue.length (λi=>((D,gT c,(),(),(),(),yI c.queue c.queue.length,uS c.queue c.queue.length,(),(),(),c.queue,(c.queue.length:Int),(i:Int),()),(c,Z,P,(List.range c.queue.length).map (kR c.queue),rZ (jD c) c.queue.length i,rZ (fH c) c.queue.length i,tD c i,()))) (.inl ((D,gT c,(),(),(),(),(),(),()),(c,Z,P,(List.range c.queue.length).map (jD c),(List.range c.queue.length).map (fH c),tD c c.queue.length,()))) bq (λk C=>by
  have hl:=Ox (f:=jD c) (n:=c.queue.length) (k:=k) (by omega);have I:=Ox (f:=fH c) (n:=c.queue.length) (k:=k) (by omega);have O:=AM c;have hl4:((List.range c.queue.length).map (kR c.queue)).length=c.queue.length:=by simp
  obtain⟨ho,T,U,o3,o4,Y⟩:=OB h C;have hh:=arQ (r:=c.aF) (a:=dy c k) Y T U E;have hd:jD c k=(kR c.queue k&&(JF c.drain (yI c.queue c.queue.length) c.queue[k].write ||(!c.queue[k].write&&uS c.queue c.queue.length==0))):=by unfold jD;rw[JH C]
  have Vz:tD c (k+1)=bif jD c k&&fH c k then nv (tD c k) (dy c k).aq true else tD c k:=rfl;have hit:fH c k=CQ c.aF (dy c k):=rfl;rw[<-Oy C,<-Oy C,Vz];unfold EK aM xG xI xL;dsimp only;rw[aY,au,aO ⟨by omega,by omega⟩,aO ⟨by omega,by omega⟩,aO];simp only[bE,JG C,asg _ _ h.dr,ay,JI,hh,cc (show k<4611686018427387904 by omega),List.getElem_set_self,jh,hl,I,O];rw[hd,hit];cases kR c.queue k<;>cases JF c.drain (yI c.queue c.queue.length) c.queue[k].write<;>cases c.queue[k].write<;>cases CQ c.aF (dy c k)<;>cases uS c.queue c.queue.length==0<;>simp[C]) (by
  unfold EK aM xG xI xL;dsimp only;rw[bh,ax,Oz,Oz]) (cu)
 rw[dm,Vx,Vx]at e;exact e
def OC(e:cP):cP:=⟨e.line,e.code,(if (999:Int)<(W6 (e.times+(1:Int)))then (999:Int)else (W6 (e.times+(1:Int))))⟩
def zEE:cP:=⟨0,0,0⟩
def tE(l:aa cP)(line code:Int):aa cP:=match l.findIdx? (qB ⟨line,code,1⟩)with
 |some i=>l.set i (OC (l.getD i zEE))
 |none=>bif ((l.length:Int)==(6:Int))then l.drop 1++[⟨line,code,1⟩]else l++[⟨line,code,1⟩]
def asl{l:aa cP}(h:oe l=true){line code:Int}(D:0<=line/\line<=1023)(E:code=1\/code=2):M3 l line code=some (tE l line code,true):=by
 have hl:l.length<=6:=by
  simp only[oe,aJ,fC]at h;omega
 have I:aT line 0 1023=true:=br.2 D;unfold M3 It tE cY xA xZ;rw[eM (by simp;omega),au,ay,ad4 _ (by omega),ay,h,bL,ax,dh,ay,I,bL,ax,List.nil_append];have e:=Jg (step:=Iu) l (qB ⟨line,code,1⟩) (λk=>((line,code,(),(),(l.length:Int),(k:Int),()),(l,()))) (λi=>.inl (((),true,()),(l.set i (OC (l.getD i zEE)),()))) (.inr (.inl ((line,code,(),()),(l,())))) bq (λk O=>by
  unfold Iu qB aM bF xG xL;dsimp only;rw[aY,au,aO ⟨by omega,by omega⟩,aO];simp only[bE];rw[aO ⟨by omega,by omega⟩,aO,cc,gM _ O];cases l[k].line==line<;>cases l[k].code==code<;>rfl) (by
  unfold Iu aM bF xG xL;dsimp only;rw[bh,ax]) (cu)
 rw[dm]at e;have T:iter TU bq ((line,code,(),(),(l.length:Int),(0:Int),()),(l,()))=_:=e;rcases E with rfl|rfl
 ·rw[bne_self_eq_false,ax,T];cases l.findIdx? (qB ⟨line,1,1⟩)with
  |some i=>rfl
  | none=>
   rw[ay,Sum.elim_inr,gD];dsimp only;cases C:(l.length:Int)==(6:Int)with
   |false=>rw[ax,ax,eM (by simp;omega)];rfl
   | true=>
    have C:=eq_of_beq C;rw[au,au,aV ⟨by omega,by omega,by omega⟩,eM (by simp;omega),au,ay,eM (by simp;omega),au];simp
 ·rw[gR (by omega),au,bne_self_eq_false,ax,e];cases l.findIdx? (qB ⟨line,2,1⟩)with
  |some i=>rfl
  | none=>
   rw[ay,Sum.elim_inr,gD];dsimp only;cases C:(l.length:Int)==(6:Int)with
   |false=>rw[ax,ax,eM (by simp;omega)];rfl
   | true=>
    have C:=eq_of_beq C;rw[au,au,aV ⟨by omega,by omega,by omega⟩,eM (by simp;omega),au,ay,eM (by simp;omega),au];simp
def OD(c:av)(l:aa cP):av:=⟨c.config,c.box,c.now,c.aF,c.ready,c.array,c.spare,c.az,c.bB,c.guard,c.pending,c.queue,c.shares,c.drain,c.aN,c.eA,l,c.trace,c.bA⟩
def OE(c:av)(n code:Int):av:=bif code != 0 then OD c (tE c.errors n code)else c
def ae8{c:av}(h:oe c.errors=true){n code:Int}(C:0<=n/\n<=1023)(h2:code=0\/code=1\/code=2):yl c n code=some ((),(OE c n code,())):=by
 unfold yl OE;rcases h2 with rfl|h2
 ·rfl
 ·rw[asl h C h2,gR (by omega)];rfl
def asm(q:aa aX):Prop:=∀i (h:i<q.length),(q.take i).any (λx=>x.id==q[i].id)=false
def asn{q:aa aX}{i:Nat}(h:i<q.length)(hl:q.length<=12):NB q (i:Int) (W6 ((i:Int)+1))=some (q.take i++q.drop (i+1),([],())):=by
 have C:(splice q i ((q.take ((q.length:Int).toNat)).drop (i+1))).length=q.length:=by
  rw[tQ _ _ _ (by simp;omega)]
 have E:((q.take ((q.length:Int).toNat)).drop (i+1))=q.drop (i+1):=by rw[bE,mV]
 unfold NB;rw[cc,aV ⟨by omega,by omega,by omega,by omega⟩,jQ (by omega),ax,aV ⟨by omega,by omega,by omega⟩,aV ⟨by omega,by omega,by omega⟩];simp only[bE]at C ⊢;rw[aV ⟨by omega,by omega,by omega,by omega⟩,aV ⟨by omega,by omega,by omega⟩,aV ⟨by omega,by omega⟩];have D:i+(q.length-(i+1))-0=i+(q.length-(i+1)):=by omega
 rw[D,Vo _ _ _ (by omega)];unfold splice;rw[mV,List.take_append_of_le_length (by simp;omega),List.take_of_length_le (by simp;omega)]
def nI:aX:=⟨0,0,0,false,0,0⟩
def CT(s:aa dD)(t:Int):aa dD:=match qv s ((List.replicate 4 false).set t.toNat true)with
 |some (l,_)=>l
 |none=>[]
def pz(c:av)(i:Nat)(a:dw)(e:aa cP)(x:gj):av:=
 ⟨c.config,c.box,c.now,c.aF,c.ready,a,c.spare,c.az,c.bB,c.guard,c.pending,c.queue.take i++c.queue.drop (i+1),CT c.shares (c.queue.getD i nI).dn,c.drain,c.aN,c.eA,e,c.trace,c.bA++[x]⟩
def gz(c:av)(i:Nat):av:=
 let r:=c.queue.getD i nI
 let n:=tw c.config.ak (cv c r.line)
 bif r.write then pz c i ⟨c.array.cells.set n ⟨Fa r.data,false⟩,c.array.bu,c.array.bg⟩ c.errors ⟨r.id,c.now,0,0⟩
 else pz c i ⟨c.array.cells.set n (rY (c.array.cells.getD n AH)),c.array.bu,c.array.bg⟩ (bif kQ (c.array.cells.getD n AH) != 0 then tE c.errors (n:Int) (kQ (c.array.cells.getD n AH))else c.errors) ⟨r.id,c.now,Vw (c.array.cells.getD n AH),kQ (c.array.cells.getD n AH)⟩
def VA{d:cB}(h:Sy d.symbols):kQ d=0 \/ kQ d=1 \/ kQ d=2:=by
 have⟨E,C,D⟩:=Vs h;unfold kQ;cases d.pU with
 |true=>simp_all
 |false=>exact(Ob C D).2.2
structure qK (c:av) (i:Nat) (B:Int):Prop where
 ad:∀r∈c.queue,vT c r.line=some (cv c r.line,true)/\fX c.config.ak (cv c r.line)=true
 tn:∀r∈c.queue,0<=r.dn/\r.dn<=3
 ql:c.queue.length<=12
 sh:kB c.shares=true
 shl:c.shares.length=4
 u:asm c.queue
 i:i<c.queue.length
 d:∀r∈c.queue,0<=r.data/\r.data<=4294967295
 a:fG c.config.ak B c.array
 e:oe c.errors=true
 r:c.bA.length<=1000
def qK.facts{c:av}{i:Nat}{B:Int}(h:qK c i B){r:aX}(C:r∈c.queue):vT c r.line=some (cv c r.line,true)/\uG c.config.ak (cv c r.line)=(tw c.config.ak (cv c r.line):Int)/\tw c.config.ak (cv c r.line)<c.array.cells.length/\(tw c.config.ak (cv c r.line):Int) <= 1023/\qv c.shares ((List.replicate 4 false).set r.dn.toNat true)=some (CT c.shares r.dn,(qv c.shares ((List.replicate 4 false).set r.dn.toNat true)).get!.2)/\0 <= r.dn/\r.dn.toNat<4:=by
 obtain⟨D,E⟩:=h.ad _ C;have I:=h.tn _ C;obtain⟨O,T⟩:=aqR E;have U:=h.a.cells;have hl:=oa c.config.ak;obtain⟨y,t,e,_⟩:=Vi ((List.replicate 4 false).set _ true) (by have:=h.shl;omega) h.sh (by simp[h.shl]);refine⟨D,O,by omega,by omega,?_,I.1,by omega⟩;unfold CT;rw[e];rfl
def ae9{c:av}{i:Nat}{B:Int}(h:qK c i B):NC c (i:Int)=some ((),(gz c i,())):=by
 have hi:=h.i;have⟨f1,f3,f4,f5,f6,f7,f8⟩:=h.facts (cR hi);have hd:=h.d _ (cR hi);have C:=h.a.syms _ (cR f4);have hq:c.queue.getD i nI=c.queue[i]:=gM _ hi;have E:=h.r;unfold NC xL;rw[aO ⟨by omega,by omega⟩,aO];simp only[bE];rw[f1,ay,asn hi h.ql,ay,aV (by decide)];have D:(4:Int).toNat=4:=rfl;rw[D,aO ⟨f7,by simpa using f8⟩,aO (by simpa using f8)];dsimp only;rw[f6,ay];dsimp only;unfold gz;rw[hq];dsimp only;cases hw:c.queue[i].write with
 | true=>
  rw[ Uu,ay,(Vv hd.1 hd.2).1,ay,aO ⟨by omega,by omega⟩,aO,eM (by simp;omega)];unfold pz;simp_all
 | false=>
  rw[ax,ax,Uu,ay,f3,gM _ f4]
  refine(bz (λo=>Option.bind o _) (ae3 (c:=⟨c.config,c.box,c.now,c.aF,c.ready,c.array,c.spare,c.az,c.bB,c.guard,c.pending,c.queue.take i++c.queue.drop (i+1),CT c.shares c.queue[i].dn,c.drain,c.aN,c.eA,c.errors,c.trace,c.bA⟩) f4 C)).trans ?_
  rw[ay];unfold wu gy;dsimp only;rw[eM (by simp;omega),au,ay]
  refine(bz (λo=>Option.bind o _) (ae8 (by exact h.e) ⟨by omega,f5⟩ (VA C))).trans ?_
  rw[ay];unfold OE pz OD;rw[hq];dsimp only;cases kQ c.array.cells[tw c.config.ak (cv c c.queue[i].line)] != 0<;>rfl
def bU(c:av)(x:aP):av:=⟨c.config,c.box,c.now,bN c.aF x,gx c.config.ak c.ready ⟨c.now,x⟩,c.array,c.spare,c.az,c.bB,c.guard,c.pending,c.queue,c.shares,c.drain,c.aN,c.eA,c.errors,c.trace++[⟨c.now,x⟩],c.bA⟩
def afa(c:av)(p:iC):av:=⟨c.config,c.box,c.now,c.aF,c.ready,c.array,c.spare,c.az,c.bB,c.guard,c.pending,c.queue,c.shares,c.drain,p,c.eA,c.errors,c.trace,c.bA⟩
def aso(c:av)(r:eH):av:=⟨c.config,c.box,c.now,c.aF,c.ready,c.array,c.spare,r,c.bB,c.guard,c.pending,c.queue,c.shares,c.drain,c.aN,c.eA,c.errors,c.trace,c.bA⟩
def AN(c:av)(k:Int):av:=afa c (wj c.aN k c.now)
def JJ(c:av)(b:Int):av:=aso (Ov c b (c.pending.filter (λa=>!(a.aq==b)))) (l6 c.az b)
def bH(c:av)(x:aP)(i:Int):av:=
 bif x.kind==1 then yG (bU c x) x else
 bif x.kind==5 then JJ (bU c x) x.aq else
 bif x.kind==2 ||x.kind==3 then gz (bU c x) i.toNat else
 bif x.kind==4 then bU c x else
 bif x.kind==9 then iK (AN (bU c x) 9) c.bB.length []else AN (bU c x) x.kind
structure Bs (c:av):Prop where
 w:wq 100000 c
 u:CS c.pending
 pk:∀a∈c.pending,0<=a.aq/\a.aq<aI c.config.ak
 zt:∀t∈c.bB,mM t
 rf:fY c.az=true
 bl:(c.aF.aE.length:Int)=aI c.config.ak
 l1:c.ready.last.length<1073741824
 l2:c.ready.bf.length<1073741824
 tl:c.trace.length<10000
def Bs.bU{c:av}(h:Bs c)(x:aP):wq 100000 (bU c x):=⟨h.w.hB,h.w.g,h.w.a,h.w.k,h.w.p,h.w.t,h.w.d,h.w.r⟩
def qK.bU{c:av}{n:Nat}{B:Int}(h:qK c n B)(x:aP):qK (bU c x) n B:=⟨h.ad,h.tn,h.ql,h.sh,h.shl,h.u,h.i,h.d,h.a,h.e,h.r⟩
def asp{c:av}(h:wq 100000 c):iter yp bq (((),(c.bB.length:Int),(0:Int),()),((⟨c.config,c.box,c.now,c.aF,c.ready,c.array,c.spare,c.az,c.bB,c.guard,([]:aa aQ),c.queue,c.shares,c.drain,c.aN,c.eA,c.errors,c.trace,c.bA⟩:av),()))=some (.inl ((),(iK c c.bB.length [],()))):=ar7 h
def JK{g:aH}{x:aP}(h:cC g x=true)(C:x.kind=1):0 <= x.row/\x.row<g.rows:=by
 simp[cC,aJ]at h;have D:=h.2.2.2.1;rw[uJ,C,show ((1:Int)==1)=true from rfl,au,br]at D;omega
def asq{c:av}(h:Bs c){x:aP}(E:kO c.config.ak c.aF x=true){i:Int}(I:x.kind=2 \/ x.kind=3 -> qK c i.toNat 100000/\0 <= i):IV c x i=some ((),(bH c x i,())):=by
 have⟨hg,hlen,O,hb⟩:=v5 E;have T:cC c.config.ak x=true:=by
  simp only[kO,aJ]at E
  grind
 have b1:=ey c.config.ak;have w:=h.bU x;have ht:=h.w.t;have hd:=h.w.d;have hr:=h.w.r;have AO:=h.tl;have er:ym c.config.ak c.aF x=some (bN c.aF x,true):=by
  rw[UP _ _ _ (by omega)];unfold EY;simp_all
 unfold IV bH bR;rw[eM (by simp;omega),au,aeh _ _ _ h.l1 h.l2,ay,er,ay];rcases kinds O with q|q|q|q|q|q|q|q|q<;>rw[q]<;>simp only[Int.reduceBEq,Int.reduceBNe,au,ax,Bool.or_true,Bool.or_false,Bool.true_or,Bool.false_or,Bool.or_self]
 ·have⟨C,U⟩:=hb (by omega);have⟨Y,Z⟩:=JK T q
  refine(bz (λo=>Option.bind o _) (ar5 (c:=bU c x) x w.g w.a w.p h.zt C (by show x.aq<aI c.config.ak;omega) Y Z (by show x.aq.toNat<c.bB.length;omega) (by show x.aq.toNat<c.guard.length;omega))).trans ?_
  rfl
 ·have⟨s,D⟩:=I (.inl q);have e:=ae9 (s.bU x);rw[Int.toNat_of_nonneg D]at e
  refine(bz (λo=>Option.bind o _) e).trans ?_
  rfl
 ·have⟨s,D⟩:=I (.inr q);have e:=ae9 (s.bU x);rw[Int.toNat_of_nonneg D]at e
  refine(bz (λo=>Option.bind o _) e).trans ?_
  rfl
 ·rfl
 ·have⟨C,U⟩:=hb (by omega);have⟨y,e4⟩:=arW h.rf (b:=x.aq) C (by omega)
  refine(bz (λo=>Option.bind o _) (ae0 w.hB (bU c x) w.g w.a C (by show x.aq<aI c.config.ak;omega))).trans ?_
  rw[ay];unfold gy;dsimp only;rw[ar0 _ _ (by show c.pending.length<1000000;have:=h.w.p;omega),ay];dsimp only
  refine(bz (λo=>Option.bind o _) (ae1 _ (by exact w.k) C (by show x.aq.toNat<c.bB.length;omega) (by show x.aq.toNat<c.guard.length;omega))).trans ?_
  rw[ay];unfold wm;dsimp only
  refine(bz (λo=>Option.bind o _) e4).trans ?_
  rfl
 ·have⟨y,e⟩:=Ou c.aN (k:=6) (by omega) c.now;rw[e,ay];rfl
 ·have⟨y,e⟩:=Ou c.aN (k:=7) (by omega) c.now;rw[e,ay];rfl
 ·have⟨y,e⟩:=Ou c.aN (k:=8) (by omega) c.now;rw[e,ay];rfl
 ·have⟨y,e⟩:=Ou c.aN (k:=9) (by omega) c.now;rw[e,ay]
  refine(bz (λo=>Option.bind o _) (asp (c:=AN (bU c x) 9) ⟨w.hB,w.g,w.a,w.k,w.p,w.t,w.d,w.r⟩)).trans ?_
  rfl
def asr{l m:aa Int}(h:l.length=m.length)(D:(l.zip m).all yw=true):(∀ x∈l,0 <= x/\x <= 100000) /\ ∀ x∈m,0 <= x/\x <= 100000:=by
 rw[bT]at D;have key:∀ i _ (E:i<m.length),(0 <= l[i]/\l[i] <= 100000)/\(0 <= m[i]/\m[i] <= 100000):=λi O E=>by
  have I:i<(l.zip m).length:=by rw[List.length_zip];omega
  have:=D _ (cR I);rw[List.getElem_zip]at this;simp[yw,aJ,br]at this;exact this
 constructor
 ·intro x C;obtain⟨i,hi,rfl⟩:=iU.1 C
  grind
 ·intro x C;obtain⟨i,hi,rfl⟩:=iU.1 C;simp_all
def fG.wA{g:aH}{a:dw}(h:nB g a=true):fG g 100000 a:=by
 simp only[nB,aJ,fC]at h;have⟨Z,C,D,E,I,O⟩:=h;have⟨T,U⟩:=asr (by omega) O
 refine⟨C,λc Y=>?_,D,E,T,U⟩
 exact Sy.of (bT.1 I c Y)
def Bs.of{c:av}(D:cZ c)(h:cD c=true)(E:c.trace.length<10000):Bs c:=by
 have hq:=Pq.of D h;have z1:c.box.bX.weights.length <= 1048576:=D.1.1;have h0:=h;simp only[cD,aJ]at h;have⟨I,h2,h3,h4,O,T,h7,h8,C,CE,yB,qh,rS,uL,v7,Ax,Ay,CI,CJ,E6,Am,E7⟩:=h;have⟨f1,f2⟩:=CP (by omega) I;simp only[qy,aJ]at f1;simp only[tq,aJ,eG,fB,oA,bT,gi]at C;have⟨C,U,Y,Z,g4,g5,g6⟩:=C;have yR:=hq.pl;have⟨hg,rl,ra⟩:=E0 O;have b1:=ey c.config.ak
 refine⟨⟨by decide,hg,fG.wA T,f1.2.2.2.2.2.1,by omega,Y,Z,U⟩,λi hi=>?_,λa ha=>?_,D.2.2.2.2.2.2.1.2,C,hq.p.bl,by omega,by omega,E⟩
 ·have hb:=g6 i hi;unfold Aw at hb
  grind
 ·have⟨_,k1,k2,_⟩:=vV (hq.pe a ha);simp_all
def qK.of{c:av}(I:cZ c)(h:cD c=true){n:Nat}(hn:n<c.queue.length)(C:c.bA.length <= 1000):qK c n 100000:=by
 have hq:=Pq.of I h;simp[cD,aJ]at h;have⟨U,Y,Z,h4,h5,O,h7,h8,h9,D,yB,qh,rS,uL,v7,Ax,Ay,CI,CJ,T,Am,E7⟩:=h;simp[gw,aJ,bT,gi]at D;have⟨E,q2⟩:=D
 refine⟨λr C=>OA hq C,λr C=>(hq.q r C).2.1,hq.ql,hq.sh,hq.shl,λi hi=>?_,hn,λr C=>?_,fG.wA O,T,C⟩
 ·cases i with
  |zero=>simp
  | succ i=>
   have hb:=E _ hi;rw[NZ hi]at hb;simp_all
 ·obtain⟨i,hi,rfl⟩:=iU.1 C;have hb:=E i hi;unfold rQ at hb;rw[bJ hi]at hb;simp[nE,UG,aJ,br]at hb;simp_all
def AP{g:aH}{B:Int}{a:dw}(h:fG g B a):Od a:=by
 have D:=h.cells;have E:=h.bu;have I:=h.bg;have O:=oa g;have T:=ta g;exact⟨⟨by omega,λc C=>by unfold U2;rw[(h.syms c C).1];omega⟩,by omega,by omega⟩
def VB{l:aa cX}(h:l.length <= 1048576 /\ ∀y∈l,mM y){t:cX}(C:mM t)(i:Nat):(l.set i t).length <= 1048576 /\ ∀y∈l.set i t,mM y:=by grind
def afb{k:Int}(h:aT k 1 16=true):mM (nH k):=by
 have:=br.1 h;unfold nH mM
 grind
def ass{t:cX}(h:mM t)(row cL:Int):mM (mO t row cL).1:=by
 have hl:=aeW (t:=t) row;unfold mM at h ⊢;unfold mO
 grind
def ast{c:av}(E:cZ c)(I:c.ready.bf.length <= 4)(ht:c.trace.length <= 10000)(x:aP):cZ (bU c x):=by
 have⟨O,C,⟨T,z4⟩,U,Y,Z,z8,z9,n9,qG,rT,o7,rU,v9⟩:=E;have D:=U0 c.config.ak c.ready ⟨c.now,x⟩;refine⟨O,by unfold aeD at C ⊢;show (bN _ x).aE.length <= _;rw[aec];exact C,⟨by show (gx _ _ _).last.length <= _;rw[D.1];exact T,Nat.le_trans (D.2 I) (by decide)⟩,U,Y,Z,z8,z9,n9,qG,rT,o7,by simp[bU];omega,v9⟩
def OF{c:av}(D:cZ c){a:dw}(E:Od a){r:eH}(I:E3 r){t:aa cX}(O:t.length <= 1048576 /\ ∀ y∈t,mM y){C:aa Int}(hg:C.length <= 1048576){pd:aa aQ}(hp:pd.length <= 1048576)(pw:iC):cZ ⟨c.config,c.box,c.now,c.aF,c.ready,a,c.spare,r,t,C,pd,c.queue,c.shares,c.drain,pw,c.eA,c.errors,c.trace,c.bA⟩:=by
 have⟨T,U,Y,z5,Z,z7,z8,z9,n9,qG,rT,o7,rU,v9⟩:=D;exact⟨T,U,Y,E,Z,I,O,hg,hp,qG,rT,o7,rU,v9⟩
def asu{c:av}(C:cZ c)(h:wq 100000 c)(x:aP)(D:0 <= x.aq)(E:x.aq<aI c.config.ak)(I:0 <= x.row)(O:x.row<c.config.ak.rows):cZ (yG c x):=by
 have zt:=C.2.2.2.2.2.2.1;have hb:x.aq.toNat<c.bB.length:=by have:=h.t;omega
 have hp:=h.p;refine OF C (AP (Vb h.g _ h.hB h.a D E I O)) C.2.2.2.2.2.1 (VB zt ?_ _) C.2.2.2.2.2.2.2.1 ?_ _
 ·unfold rX;rw[gM];exact ass (zt.2 _ (cR hb)) _ _
 ·have T:(qJ c x).length <= c.pending.length:=List.length_filter_le _ _;have hn:=aeZ c.config.ak.rows x.row;have U:=Vp x.aq (ia c.config.ak.rows x.row) (qJ c x)
  grind
def afc(r:eH)(b:Int):(l6 r b).aC.length=r.aC.length:=by
 unfold l6;cases decide (r.aC.getD b.toNat 0 = -2)<;>simp
def asv{c:av}(C:cZ c)(h:wq 100000 c){b:Int}(D:0 <= b)(E:b<aI c.config.ak):cZ (JJ c b):=by
 have⟨_,_,_,_,I,O,T,U⟩:=fW h.g;have zt:=C.2.2.2.2.2.2.1;have hp:=h.p;have Y:=ar4 (λa:aQ=>!(a.aq==b)) c.pending;exact OF C (AP (JE h.g _ h.hB h.a D E _ (by omega))) (by unfold E3;rw[afc];exact C.2.2.2.2.2.1) (VB zt (afb h.k) _) (by show (c.guard.set _ _).length <= _;rw[jh];exact C.2.2.2.2.2.2.2.1) (by show (c.pending.filter _).length <= _;omega) _
def afd{l:aa cX}(h:l.length<=1048576/\∀ y∈l,mM y){t:cX}(C:mM t):∀ k:Nat,((List.range k).foldl (λd b=>d.set b t) l).length<=1048576/\∀ y∈(List.range k).foldl (λd b=>d.set b t) l,mM y
 |0=>h
 |k+1=>by rw[pq];exact VB (afd h C k) C k
def asw{c:av}(C:cZ c)(h:wq 100000 c)(k:Nat)(D:(k:Int)<=aI c.config.ak):cZ (iK c k []):=
 OF C (AP (Ow h.g c.config.dS h.hB h.a k D)) (by unfold E3;rw[wo];exact C.2.2.2.2.2.1) (afd C.2.2.2.2.2.2.1 (afb h.k) k) (by rw[wo];exact C.2.2.2.2.2.2.2.1) (by simp) c.aN
def afe{l:aa cP}(n code:Int):(tE l n code).length <= l.length+1:=by
 unfold tE
 grind
def aff{c:av}(D:cZ c){i:Nat}(h:qK c i 100000):cZ (gz c i):=by
 have⟨E,I,O,z5,T,U,Y,Z,n9,qG,rT,o7,rU,v9⟩:=D;have hi:=h.i;have hql:=h.ql;have hr:=h.r;have⟨f1,f3,f4,f5,f6,f7,f8⟩:=h.facts (cR hi);have hq:c.queue.getD i nI=c.queue[i]:=gM _ hi;have hd:=h.d _ (cR hi);have SO:(CT c.shares c.queue[i].dn).length <= 1048576:=by
  have⟨y,t,e,hl⟩:=Vi ((List.replicate 4 false).set c.queue[i].dn.toNat true) (by have:=h.shl;omega) h.sh (by simp[h.shl])
  grind
 have iF:c.errors.length <= 6:=by
  have C:=h.e;simp only[oe,aJ,fC]at C;omega
 have key:∀ (a:dw) (e:aa cP) (x:gj),Od a -> e.length <= 100 -> cZ (pz c i a e x):=λa e x ha C=>
  ⟨E,I,O,ha,T,U,Y,Z,n9,by simp[pz];omega,by unfold pz;rw[hq];exact SO,by show e.length <= _;omega,rU,by simp[pz];omega⟩
 unfold gz;rw[hq];dsimp only;cases c.queue[i].write with
 |true=>exact key _ _ _ (AP (h.a.Jq _ (c:=⟨_,false⟩) (Vv hd.1 hd.2).2.1)) (by omega)
 | false=>
  rw[ax,gM _ f4];refine key _ _ _ (AP (h.a.Jq _ (Vt (h.a.syms _ (cR f4))))) ?_;have:=afe (l:=c.errors) (tw c.config.ak (cv c c.queue[i].line):Int) (kQ c.array.cells[tw c.config.ak (cv c c.queue[i].line)]);cases kQ c.array.cells[tw c.config.ak (cv c c.queue[i].line)] != 0 with
  |true=>grind
  |false=>grind
def asx{c:av}(O:cZ c)(h:Bs c)(T:c.ready.bf.length <= 4){x:aP}(E:kO c.config.ak c.aF x=true){i:Int}(I:x.kind=2 \/ x.kind=3 -> qK c i.toNat 100000/\0 <= i):cZ (bH c x i):=by
 have⟨hg,hlen,U,hb⟩:=v5 E;have Y:cC c.config.ak x=true:=by
  simp[kO,aJ]at E;simp_all
 have w:=h.bU x;have ht:=h.w.t;have AO:=h.tl;have z:=ast O T (by omega) x;have C:∀k,cZ (AN (bU c x) k):=λk=>OF z z.2.2.2.1 z.2.2.2.2.2.1 z.2.2.2.2.2.2.1 z.2.2.2.2.2.2.2.1 z.2.2.2.2.2.2.2.2.1 _
 unfold bH;rcases kinds U with q|q|q|q|q|q|q|q|q<;>rw[q]<;>simp
 ·have⟨D,Z⟩:=hb (by omega);have⟨r0,r1⟩:=JK Y q;exact asu z w x D (by show _<aI c.config.ak;omega) r0 r1
 ·exact aff z ((I (.inl q)).1.bU x)
 ·exact aff z ((I (.inr q)).1.bU x)
 ·exact z
 ·have⟨D,Z⟩:=hb (by omega);exact asv z w D (by show x.aq<aI c.config.ak;omega)
 ·exact C 6
 ·exact C 7
 ·exact C 8
 ·exact asw (C 9) ⟨w.hB,w.g,w.a,w.k,w.p,w.t,w.d,w.r⟩ _ (by show (c.bB.length:Int) <= aI c.config.ak;omega)
def ow(c:av)(b:Int):Bool:=decide (c.az.aC.getD b.toNat 0 >= 4)
def JL(c:av)(b:Int):Bool:=c.pending.any λa=>a.aq==b
def gI(c:av)(i:Nat):aP:=ou c.aF (dy c i) (ov c.queue i)
def asy(c:av)(i:Nat):Bool:=decide (c.now-(kD c i).at_<c.box.bX.cap)
def gA(c:av)(i:Nat):Bool:=
 jD c i&&(!ow c (dy c i).aq&&(cI c (gI c i)&&(!(((gI c i).kind==1 ||(gI c i).kind==4)&&JL c (dy c i).aq) && !((gI c i).kind==4&&(wz c c.queue.length (dy c i).aq&&asy c i)))))
def VC{l:aa Int}{b:Int}(C:0 <= b)(h:b.toNat<l.length):∀ i:Nat,(((i:Int)+b)∈bP i l) ↔ l.getD b.toNat 0 >= 4:=by
 obtain⟨n,rfl⟩:=fD C;rw[bE]at *
 clear C
 induction l generalizing n with
 |nil=>simp at h
 | cons d l E=>
  intro i;have I:∀ x∈bP (i+1) l,(i:Int)+1 <= x:=λx D=>by
   have⟨j,O,_,_⟩:=aeS D;omega
  have e:bP i (d::l)=bif decide (d >= 4)then (i:Int)::bP (i+1) l else bP (i+1) l:=rfl
  grind
def VD{c:av}{b:Int}(hl:c.az.aC.length <= 8)(C:0 <= b)(h:b.toNat<c.az.aC.length):vS (bP 0 c.az.aC) b=some (ow c b):=by
 have E:=Vf 0 c.az.aC;have D:=VC C h 0;rw[dm,Int.zero_add]at D;unfold vS;rw[N2 _ _ (by omega),ay];congr 1;unfold ow jA
 grind
def afg{c:av}(h:Pq c){i:Nat}(hi:i<c.queue.length):cC c.config.ak (gI c i)=true:=arR _ (OB h hi).1
def mP(c:av):Nat->aa Bool
 |0=>List.replicate 4 false
 |k+1=>bif gA c k then (mP c k).set (kD c k).dn.toNat true else mP c k
def Fe(c:av):∀ k,(mP c k).length=4
 |0=>rfl
 | k+1=>by
  have C:=Fe c k;show (bif gA c k then _ else _:aa Bool).length=4
  grind
def asz{c:av}{U:aa Int}{T:aa aQ}{Z:Int×Int×Int×Int×ah}{P:Int×Int×Int×Int×Int×(aa Int)×Int×Int×ah}{I hit dP wait:aa Bool}{hb:aa (Int×Bool)}{Y:aa aP}{k:Nat}{r:aX}{a:aQ}{nd:aP}{ct rd ib:Bool}(hq:c.queue.length<=12)(hk:k<c.queue.length)(hr:c.queue[k]=r)(h2:k<T.length)(ha:T[k]=a)(h3:k<I.length)(C:k<dP.length)(h5:Y.length=k)(D:0<=r.dn)(E:r.dn.toNat<wait.length)(e1:Cq c.aF a r.write=some nd)(e2:vS U a.aq=some ct)(e3:iR c nd=some rd)(e4:Cp c.pending a.aq=some ib)(b1:0<=r.at_/\r.at_<=1000000)(b2:0<=c.now/\c.now<=1000000):
  Cs ((U,T,(),(),(),(),(),(),(),(),(),c.queue,(c.queue.length:Int),(k:Int),()),(c,Z,P,I,hit,hb,Y,dP,wait,()))=some (.inl ((U,T,(),(),(),(),(),(),(),(),(),c.queue,(c.queue.length:Int),((k+1:Nat):Int),()),(c,Z,P,I,hit,hb,Y++[nd],dP.set k (I[k]&&(!ct&&(rd&&(!((nd.kind==1 ||nd.kind==4)&&ib) && !(nd.kind==4&&(mq hb a.aq&&decide (c.now-r.at_<P.2.1))))))),(bif (I[k]&&(!ct&&(rd&&(!((nd.kind==1 ||nd.kind==4)&&ib) && !(nd.kind==4&&(mq hb a.aq&&decide (c.now-r.at_<P.2.1)))))))then wait.set r.dn.toNat true else wait),()))):=by
 have hw:W6 (c.now-r.at_)=c.now-r.at_:=aZ;unfold Cs aM xG xI xL;dsimp only;rw[aY,au,aO ⟨by omega,by omega⟩,aO ⟨by omega,by omega⟩,aO ⟨by omega,by omega⟩];simp only[bE,hr,ha,e1,ay,h5,List.length_singleton,eM (show k+1<1073741824 by omega),au,e2,e3,e4,hw,cc (show k<4611686018427387904 by omega)];by_cases O:nd.kind=1
 ·have k4:(nd.kind==(4:Int))=false:=by rw[O];rfl
  have O:(nd.kind==(1:Int))=true:=by rw[O];rfl
  simp only[O,k4,au,ax,Bool.true_or,cJ,Bool.false_and,Bool.not_false,Bool.and_true];rw[aO ⟨by omega,by omega⟩,aO];cases I[k]<;>cases ct<;>cases rd<;>cases ib<;>simp[C,D,E]
 ·have O:(nd.kind==(1:Int))=false:=by simpa using O
  simp only[O,ax,Bool.false_or];rw[aO ⟨by omega,by omega⟩,aO];cases nd.kind==(4:Int)with
  |false=>cases I[k]<;>cases ct<;>cases rd<;>cases ib<;>simp[C,D,E]
  | true=>
   cases I[k]with
   |false=>simp[C,D,E]
   | true=>
    cases ct with
    |true=>simp[C,D,E]
    | false=>
     cases rd with
     |false=>simp[C,D,E]
     | true=>
      cases ib with
      |true=>simp[C,D,E]
      | false=>
       cases mq hb a.aq with
       |false=>simp[C,D,E]
       | true=>
        by_cases hc:c.now-r.at_<P.2.1
        ·simp[C,D,E,hc]
        ·simp[C,D,E,hc]
def JM(y x:aP):Bool:=(y.kind==x.kind)&&((y.aq==x.aq)&&((y.row==x.row)&&((y.bW==x.bW)&&true)))
def JN(c:av)(x:aP)(i:Int):Bool:=aT i 0 ((c.queue.length:Int)-1)&&(decide ((c.bA.length:Int)<400)&&JM (ou c.aF (cv c (c.queue.getD i.toNat nI).line) (c.queue.getD i.toNat nI).write) x)
def jE(c:av)(x:aP)(i:Int):Bool:=cC c.config.ak x&&(cI c x&&(!decide ((c.trace.length:Int) >= 2000)&&bif x.kind==2 ||x.kind==3 then JN c x i else i == -1 ||aT i 0 ((c.queue.length:Int)-1)))
def afh{c:av}(h:Pq c){i:Int}(hi:aT i 0 ((c.queue.length:Int)-1)=true):∃ C:i.toNat<c.queue.length,0 <= i/\c.queue.getD i.toNat nI=c.queue[i.toNat]/\vT c c.queue[i.toNat].line=some (cv c c.queue[i.toNat].line,true)/\Cq c.aF (cv c c.queue[i.toNat].line) c.queue[i.toNat].write=some (ou c.aF (cv c c.queue[i.toNat].line) c.queue[i.toNat].write):=by
 have hb:=br.1 hi;have C:i.toNat<c.queue.length:=by omega
 have⟨D,E⟩:=OA h (cR C);have⟨_,I,O,_⟩:=vV E;have T:=h.p.bl;have U:=ey c.config.ak;exact⟨C,hb.1,gM _ C,D,aeU _ I (by omega) (by omega)⟩
def asA{c:av}(T:cZ c)(h:Pq c)(x:aP)(i:Int):s9 c x i=bif jE c x i then (IV c x i).bind (λy=>some (y.2.1,true))else some (c,false):=by
 have Y:=h.ql;unfold s9 jE xI;rw[Of c T,ay,E4 c T,ay,h.p.ok,bL,ax];cases U:cC c.config.ak x with
 | false=>
  have e:iR c x=some false:=by
   unfold iR;rw[UO,U,Bool.false_and,Bool.and_false];rfl
  rw[e];rfl
 |true=>
 rw[yE h.p U,ay];cases cI c x with
 |false=>rfl
 |true=>
 rw[bL,ax];cases decide ((c.trace.length:Int) >= 2000)with
 |true=>rfl
 |false=>
 rw[ax,cJ,cJ,Bool.not_false,cJ,dh,aZ (n:=(c.queue.length:Int)-1),ay];unfold JN;cases hi:aT i 0 ((c.queue.length:Int)-1)with
 | true=>
  have⟨C,D,hq,f1,f3⟩:=afh h hi;rw[gR (show ¬ i = -1 by omega),bL,ax,au,ax,cJ,Bool.or_true,hq];by_cases E:x.kind=2
  ·rw[show (x.kind==2)=true by rw[E];rfl,au,Bool.true_or,au];by_cases I:(c.bA.length:Int)<400
   ·rw[aY I,bh (show ¬ (c.bA.length:Int) >= 400 by omega),ax,aO ⟨D,C⟩];dsimp only;rw[f1,ay,aO ⟨D,C⟩,f3,ay];unfold JM
    grind
   ·grind
  ·rw[jQ E,ax,Bool.false_or];by_cases O:x.kind=3
   ·rw[show (x.kind==3)=true by rw[O];rfl,au,au];by_cases I:(c.bA.length:Int)<400
    ·rw[aY I,bh (show ¬ (c.bA.length:Int) >= 400 by omega),ax,aO ⟨D,C⟩];dsimp only;rw[f1,ay,aO ⟨D,C⟩,f3,ay];unfold JM
     grind
    ·grind
   ·grind
 | false=>
  rw[Bool.false_and,Bool.not_false,au,Bool.or_false];by_cases E:x.kind=2
  ·simp_all
  ·rw[jQ E,ax,Bool.false_or];by_cases O:x.kind=3
   ·simp_all
   ·rw[jQ O,ax,ax];by_cases e:i = -1
    ·simp_all
    ·grind
def AQ{c:av}(D:cZ c)(h:Pq c){x:aP}{i:Int}(E:jE c x i=true):Bs c/\kO c.config.ak c.aF x=true/\(x.kind=2 \/ x.kind=3 -> qK c i.toNat 100000/\0 <= i)/\c.ready.bf.length <= 4:=by
 simp only[jE,aJ,fB,oA]at E;have⟨O,I,Z,C⟩:=E;simp[cI,aJ]at I
 refine⟨Bs.of D h.p.ok (by omega),?_,λT=>?_,(E0 h.p.CK).2.2⟩
 ·unfold kO;rw[h.p.rk,O,I.1];rfl
 ·have e:(x.kind==2 || x.kind==3)=true:=by rcases T with q | q <;>rw[q] <;>rfl
  rw[e,au]at C;simp[JN,aJ,fC]at C;have⟨U,Y,_⟩:=afh h C.1;exact⟨qK.of D h.p.ok U (by omega),Y⟩
structure Ck (c:av):Prop where
 f1:oh c.config c.box.bX=true
 f2:oh c.config c.box.next=true
 nw:aT c.now 0 1000000=true
 rk:kN c.config.ak c.aF=true
 rd:jR c.config.ak c.ready=true
 ar:nB c.config.ak c.array=true
 sp:nG c.config.ak c.spare=true
 se:c.spare.cF=c.config.cF
 rf:fY c.az=true
 pa:tq c=true
 qu:gw (dV (fZ c.config.ak c.spare)) c.queue=true
 sh:kB c.shares=true
 sl:(c.shares.length:Int)=4
 dr:qA c.drain=true
 pw:lD c.aN=true
 ps:c.aN.state=c.aF.aN
 si:c.aN.since<=c.now
 s1:aT c.eA.every 1 100000=true
 s2:aT c.eA.wait 1 c.eA.every=true
 s3:aT c.eA.next 0 (W6 (dV c.config.ak-1))=true
 er:oe c.errors=true
 tr:c.trace.length<=2000
 rp:c.bA.length<=400
def Ck.of{c:av}(h:cD c=true):Ck c:=by
 simp[cD,aJ,eG,fC,fB,oA]at h;have⟨C,D,E,I,O,T,U,Y,⟨Z,h9'⟩,CE,yB,qh,rS,uL,v7,Ax,Ay,CI,CJ,E6,Am,E7⟩:=h;exact⟨C,D,E,I,O,T,U,Y,Z,h9',CE,yB,qh,rS,uL,v7,by omega,Ay,CI,CJ,E6,by omega,by omega⟩
def Ck.ok{c:av}(h:Ck c):cD c=true:=by
 have⟨C,D,E,I,O,T,U,Y,Z,h9',CE,yB,qh,rS,uL,v7,Ax,Ay,CI,CJ,E6,Am,E7⟩:=h;simp[cD,aJ,eG,fC,fB,oA]
 grind
def afi:∀ (l:aa Nat) (a:Nat),l.Pairwise (λx y=>x≠y) -> l.length <= (l.filter (λx=>decide (x≠a))).length+1
 |[],a,_=>by simp
 | x :: l,a,h=>by
  have⟨C,D⟩:=List.pairwise_cons.1 h;by_cases e:x=a
  ·subst e;have:(x :: l).filter (λy=>decide (y≠x))=l:=by
    rw[List.filter_cons_of_neg (by simp)];exact List.filter_eq_self.2 λy E=>by simpa using (C y E).symm
   grind
  ·rw[List.filter_cons_of_pos (by simpa using e)];have:=afi l a D;simp only[mb];omega
def VE:∀ (n:Nat) (l:aa Nat),(∀ x∈l,x<n)->l.Pairwise (λx y=>x≠y)->l.length<=n
 | 0,l,h,_=>by
  cases l with
  |nil=>simp
  |cons x l=>exact absurd (h x (.head _)) (by omega)
 | n+1,l,h,hp=>by
  have D:=afi l n hp;have E:=VE n (l.filter (λx=>decide (x≠n))) (λx C=>by
   have:=List.mem_filter.1 C;have I:=h x this.1;have O:x≠n:=by simpa using this.2
   omega) (hp.filter _)
  omega
end Go.Proofs.YtpigmalhjkekiaaGreat
