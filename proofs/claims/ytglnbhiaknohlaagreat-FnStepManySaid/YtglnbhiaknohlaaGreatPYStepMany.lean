/-
  Plain laws. Nothing here is a claim.
-/
import Derived.Test.YtglnbhiaknohlaaGreatVZ
import Derived.Test.YtglnbhiaknohlaaGreatOpenV
import Derived.Test.YtglnbhiaknohlaaGreatG1
import Derived.Test.YtglnbhiaknohlaaGreatG2
import Derived.Test.YtglnbhiaknohlaaGreatG3
import Derived.Test.YtglnbhiaknohlaaGreatG4
import Derived.Test.YtglnbhiaknohlaaGreatG5
import Derived.Test.YtglnbhiaknohlaaGreatG6
import Derived.Test.YtglnbhiaknohlaaGreatG7
import Derived.Test.YtglnbhiaknohlaaGreatG8
import Derived.Test.YtglnbhiaknohlaaGreatG9
namespace Go.Proofs.YtglnbhiaknohlaaGreat
set_option linter.defProp false
open Go.RowKit
set_option linter.unusedVariables false
set_option linter.unusedSimpArgs false
set_option maxRecDepth 100000
def aR{n:Int}(C:-9223372036854775808<=n:=by omega)(D:n<9223372036854775808:=by omega):W6 n=n:=by
 exact(IntKind.wrap_i64 n).trans (by omega)
def YV{α β:Type}{step:α -> ah (α⊕β)}(I:α -> Prop)(m:α -> Nat)(Q:β -> Prop)
  (h:∀x,I x -> (∃y,step x=some (.inl y)/\I y/\m y<m x) \/ ∃z,step x=some (.inr z)/\Q z):
  ∀(n:Nat) (x:α),I x -> m x<n -> ∃z,iter step n x=some z/\Q z
 |0,x,_,E=>by omega
 | n+1,x,J,E=>by
  unfold iter;rcases h x J with ⟨y,C,D,L⟩|⟨z,C,D⟩
  ·rw[C];exact YV I m Q h n y D (by omega)
  ·simp_all
def aq{α β:Type}(x:α)(f:α->ah β):(some x).bind f=f x:=rfl
def gG{α β T:Type}{step:α -> ah (α⊕β)}(l:aa T)(q:T -> Bool)(S:Nat -> α)(D z:β)(fuel:Nat)(I:∀ k (h:k<l.length),step (S k)=some (bif q l[k]then .inl (S (k+1))else .inr D))(J:step (S l.length)=some (.inr z))(C:l.length<fuel):
  iter step fuel (S 0)=some (bif l.all q then z else D):=by
 have key:∀ (n i fuel:Nat),i+n=l.length -> n<fuel -> iter step fuel (S i)=some (bif (l.drop i).all q then z else D):=by
  intro n
  induction n with
  | zero=>
   intro i fuel hi C
   match fuel,C with
   | f+1,_=>
    have:i=l.length:=by omega
    subst this;unfold iter;simp_all
  | succ n L=>
   intro i fuel hi C
   match fuel,C with
   | f+1,C=>
    have E:i<l.length:=by omega
    unfold iter;rw[I i E,List.drop_eq_getElem_cons E,List.all_cons];cases q l[i]with
    |true=>grind
    |false=>rfl
 exact key l.length 0 fuel (by omega) C
def cy{α β:Type}{step:α -> ah (α⊕β)}(n:Nat)(S:Nat -> α)(z:β)(fuel:Nat)(E:∀ k,k<n -> step (S k)=some (.inl (S (k+1))))(D:step (S n)=some (.inr z))(C:n<fuel):iter step fuel (S 0)=some z:=by
 have key:∀ (m i fuel),i+m=n -> m<fuel -> iter step fuel (S i)=some z:=by
  intro m
  induction m with
  | zero=>
   intro i fuel hi C
   match fuel,C with
   | f+1,_=>
    have:i=n:=by omega
    subst this;unfold iter;rw[D]
  | succ m I=>
   intro i fuel hi C
   match fuel,C with
   | f+1,C=>
    unfold iter
    grind
 simp_all
def YW{α β:Type}{step:α -> ah (α⊕β)}(n:Nat)(I:Nat -> α -> Prop)(Q:β -> Prop){x:α}(fuel:Nat)(T:I 0 x)(E:∀ k,k<n -> ∀ x,I k x -> ∃ y,step x=some (.inl y)/\I (k+1) y)(J:∀ x,I n x -> ∃ z,step x=some (.inr z)/\Q z)(C:n<fuel):∃ z,iter step fuel x=some z/\Q z:=by
 have key:∀ (m i fuel:Nat) (x:α),i+m=n -> m<fuel -> I i x -> ∃ z,iter step fuel x=some z/\Q z:=by
  intro m
  induction m with
  | zero=>
   intro i fuel x hi C D
   match fuel,C with
   | f+1,_=>
    have:i=n:=by omega
    subst this;have⟨z,L,O⟩:=J x D;unfold iter;simp_all
  | succ m U=>
   intro i fuel x hi C D
   match fuel,C with
   | f+1,C=>
    have⟨y,L,O⟩:=E i (by omega) x D;unfold iter
    grind
 grind
def YX{α β:Type}{step:α -> ah (α⊕β)}(n:Nat)(I:Nat -> α -> Prop)(Q:β -> Prop){x:α}(fuel:Nat)(E:I 0 x)(L:∀ k,k<n -> ∀ x,I k x -> (∃ y,step x=some (.inl y)/\I (k+1) y) \/ ∃ z,step x=some (.inr z)/\Q z)(J:∀ x,I n x -> ∃ z,step x=some (.inr z)/\Q z)(C:n<fuel):∃ z,iter step fuel x=some z/\Q z:=by
 have key:∀ (m i fuel:Nat) (x:α),i+m=n -> m<fuel -> I i x -> ∃ z,iter step fuel x=some z/\Q z:=by
  intro m
  induction m with
  | zero=>
   intro i fuel x hi C D
   match fuel,C with
   | f+1,_=>
    have:i=n:=by omega
    subst this;have⟨z,O,T⟩:=J x D;unfold iter;simp_all
  | succ m U=>
   intro i fuel x hi C D
   match fuel,C with
   | f+1,C=>
    unfold iter
    grind
 exact key n 0 fuel x (by omega) C E
def upto{α:Type}(f:α->α)(l:aa α)(i:Nat):aa α:=(l.take i).map f++l.drop i
def Aq{α:Type}(f:α->α)(l:aa α)(i:Nat):(upto f l i).length=l.length:=by
 simp[upto];omega
def RH{α:Type}(f:α->α)(l:aa α):upto f l 0=l:=by simp[upto]
def FM{α:Type}(f:α->α)(l:aa α):upto f l l.length=l.map f:=by simp[upto]
def FN{α:Type}(f:α -> α)(l:aa α)(i:Nat)(h:i<l.length)(C:i<(upto f l i).length):(upto f l i)[i]=l[i]:=by
 simp[upto]
 grind
def FO{α:Type}(f:α -> α)(l:aa α)(i:Nat)(h:i<l.length):(upto f l i).set i (f l[i])=upto f l (i+1):=by
 have C:min i l.length=i:=by omega
 have e:=List.drop_eq_getElem_cons h;simp only[upto];rw[List.set_append_right _ _ (by simp;omega),e,List.take_succ_eq_append_getElem h];simp only[List.map_append,List.map_cons,List.map_nil,dB,fP,C,Nat.sub_self,List.set_cons_zero,List.append_assoc,List.cons_append,kj]
def jV{x y:Int}(h:¬ x=y):(x==y)=false:=by simp[h]
def gH{x y:Int}(h:¬ x=y):(x != y)=true:=by simp[h]
def cQ{n:Nat}(h:n<1073741824:=by omega):bC n=true:=aS h
def bD{i:Nat}(h:i<4611686018427387904:=by omega):W6 ((i:Int)+1)=((i+1:Nat):Int):=by
 rw[aR];simp
def bI{n:Nat}(h:n<1073741824:=by omega):n<aP:=by unfold aP;omega
def aL(x a b:Int):Bool:=decide (a<=x)&&decide (x<=b)
def bx{x a b:Int}:aL x a b=true ↔ a<=x/\x<=b:=by simp[aL]
def dF(x a b:Int):cE x a b=some (aL x a b):=by
 unfold cE aL;by_cases h:a<=x<;>simp[h]
def eE(x a b:Int):cP x a b=some (aL x a b):=dF x a b
def cC(g:aM):Bool:=aL g.cu 1 2&&aL g.aC 1 4&&aL g.rows 2 16&&aL g.aN 1 8
def xz(g:aM):sH g=some (cC g):=by
 unfold sH cC;simp[dF]
 grind
def FP(g:aM):xb g=some (cC g):=by
 unfold xb cC;simp[eE]
 grind
def fo{g:aM}(h:cC g=true):1<=g.cu/\g.cu<=2/\1<=g.aC/\g.aC<=4/\2<=g.rows/\g.rows<=16/\1<=g.aN/\g.aN<=8:=by
 simp only[cC,aL,aO,gK]at h;omega
def aW(g:aM):Int:=bif cC g then g.cu*g.aC else 0
def fh(g:aM):0 <= aW g/\aW g <= 8:=by
 unfold aW;cases h:cC g with
 |false=>simp
 | true=>
  have⟨C,D,E,I,_⟩:=fo h;simp;rcases(by omega:g.cu=1 \/ g.cu=2)with e|e<;>rw[e]<;>omega
def LH{g:aM}(h:cC g=true):1 <= aW g:=by
 have⟨C,D,E,I,_⟩:=fo h;simp[aW,h,ak];rcases(by omega:g.cu=1 \/ g.cu=2)with e|e<;>rw[e]<;>omega
def oH(g:aM):oG g=some (aW g):=by
 have hb:=fh g;unfold oG;rw[xz,aq];unfold aW at hb ⊢;cases h:cC g with
 |false=>rfl
 | true=>
  rw[h]at hb;simp at hb;simp;rw[aR]
def oI(g:aM):mV g=some (aW g):=by
 have hb:=fh g;unfold mV;rw[FP,aq];unfold aW at hb ⊢;cases h:cC g with
 |false=>rfl
 | true=>
  rw[h]at hb;simp at hb;simp;rw[aR]
def fY(g:aM):Int:=bif cC g then aW g*g.rows else 0
def ez(g:aM):Int:=bif cC g then aW g*g.rows*g.aN else 0
def RI{a b A B:Int}(D:0<=a)(E:a<=A)(C:0<=b)(I:b<=B):0<=a*b/\a*b<=A*B:=
 ⟨Int.mul_nonneg D C,Int.le_trans (Int.mul_le_mul_of_nonneg_right E C) (Int.mul_le_mul_of_nonneg_left I (by omega))⟩
def pJ(g:aM):0 <= fY g/\fY g <= 128:=by
 unfold fY;cases h:cC g with
 |false=>simp
 | true=>
  have⟨_,_,_,_,D,C,_⟩:=fo h;have:=fh g;exact RI this.1 this.2 (by omega) C
def lH(g:aM):0 <= ez g/\ez g <= 1024:=by
 have C:=pJ g;unfold ez fY at *
 cases h:cC g with
 |false=>simp
 | true=>
  rw[h]at C;have⟨_,_,_,_,E,I,J,D⟩:=fo h;exact RI C.1 C.2 (by omega) D
def LI(g:aM):vm g=some (ez g):=by
 have C:=lH g;have D:=pJ g;unfold vm;rw[oH,aq];unfold ez fY at *
 cases h:cC g with
 |false=>simp only[aW,h,au,Int.zero_mul];rw[show W6 0=0 from rfl,Int.zero_mul];rfl
 | true=>
  rw[h]at C D;simp only[ak]at C D;simp only[ak];rw[aR (n:=aW g*g.rows),aR]
def CK(g:aM):tV g=some (ez g):=by
 have C:=lH g;have D:=pJ g;unfold tV;rw[FP,aq,oI,aq];unfold ez fY at *
 cases h:cC g with
 |false=>rfl
 | true=>
  rw[h]at C D;simp at C D;simp;rw[aR (n:=aW g*g.rows),aR]
def dK(g:aM)(a:aK):Bool:=cC g&&aL a.ax 0 (aW g-1)&&aL a.row 0 (g.rows-1)&&aL a.bT 0 (g.aN-1)
def rO{g:aM}{a:aK}(h:dK g a=true):cC g=true/\0 <= a.ax/\a.ax<aW g/\0 <= a.row/\a.row<g.rows/\0 <= a.bT/\a.bT<g.aN:=by
 simp[dK,aL,aO,gK]at h
 grind
def vr{g:aM}{a:aK}(h:cC g=true)(C:0 <= a.ax)(D:a.ax<aW g)(E:0 <= a.row)(I:a.row<g.rows)(J:0 <= a.bT)(L:a.bT<g.aN):dK g a=true:=by
 simp[dK,aL,aO,gK]
 grind
def YY(g:aM)(a:aK):Cv g a=some (dK g a):=by
 unfold Cv dK;simp[xz,oH,dF,aq];have hb:=fh g;cases h:cC g with
 |false=>rfl
 | true=>
  have⟨_,_,_,_,C,D,E,I⟩:=fo h;rw[aR,aR,aR]
  grind
def YZ(g:aM)(a:aK):EE g a=some (dK g a):=by
 unfold EE dK;simp only[oI,eE,aq];have hb:=fh g;rw[aR];cases h:cC g with
 | false=>
  have:aL a.ax 0 (aW g-1)=false:=by
   simp[aW,h,aL]
   grind
  simp_all
 | true=>
  have⟨_,_,_,_,C,D,E,I⟩:=fo h;rw[aR,aR]
  grind
def vt{b n r R:Int}(C:0 <= b)(D:b<n)(E:0 <= r)(I:r<R):0 <= b*R/\0 <= b*R+r/\b*R+r<n*R:=by
 have J:0 <= b*R:=Int.mul_nonneg C (by omega);have L:(b+1)*R <= n*R:=Int.mul_le_mul_of_nonneg_right (by omega) (by omega)
 grind
def qC(g:aM)(a:aK):Int:=bif dK g a then (a.ax*g.rows+a.row)*g.aN+a.bT else -1
def Y0{g:aM}{a:aK}(h:dK g a=true):0 <= qC g a/\qC g a<ez g/\0 <= a.ax*g.rows/\0 <= a.ax*g.rows+a.row/\a.ax*g.rows+a.row<fY g/\0 <= (a.ax*g.rows+a.row)*g.aN:=by
 have⟨C,D,E,I,J,L,O⟩:=rO h;have⟨U,Q,T⟩:=vt D E I J;have⟨Y,l1,l2⟩:=vt Q T L O;simp[qC,h,ez,fY,C,ak];omega
def Y1(g:aM)(a:aK):KT g a=some (qC g a):=by
 unfold KT;rw[YY,aq];cases h:dK g a with
 |false=>simp[qC,h]
 | true=>
  have hb:=Y0 h;have D:=lH g;have E:=pJ g;have⟨C,I,J,L,O,Q,T⟩:=rO h;have⟨_,_,_,_,U,Y,Z,g8⟩:=fo C;simp only[qC,h,ak]at hb ⊢;simp only[bF,au];rw[aR (n:=a.ax*g.rows),aR (n:=a.ax*g.rows+a.row),aR (n:=(a.ax*g.rows+a.row)*g.aN),aR]
def RJ(g:aM)(a:aK):B5 g a=some (qC g a):=by
 unfold B5;rw[YZ,aq];cases h:dK g a with
 |false=>simp[qC,h]
 | true=>
  have hb:=Y0 h;have D:=lH g;have E:=pJ g;have⟨C,I,J,L,O,Q,T⟩:=rO h;have⟨_,_,_,_,U,Y,Z,g8⟩:=fo C;simp only[qC,h,ak]at hb ⊢;simp only[bF,au];rw[aR (n:=a.ax*g.rows),aR (n:=a.ax*g.rows+a.row),aR (n:=(a.ax*g.rows+a.row)*g.aN),aR]
def sL{α β:Type}{step:α -> ah (α⊕β)}(S:Nat -> α){z:β}:∀ (n i fuel:Nat),(∀ k,i <= k -> k<i+n -> step (S k)=some (.inl (S (k+1)))) -> step (S (i+n))=some (.inr z) -> n<fuel -> iter step fuel (S i)=some z
 | 0,i,fuel,_,C,D=>by
  match fuel,D with
  |f+1,_=>unfold iter;rw[Nat.add_zero]at C;rw[C]
 | n+1,i,fuel,E,C,D=>by
  match fuel,D with
  | f+1,D=>
   unfold iter;rw[E i (eK _) (by omega)];exact sL S n _ f (λk I J=>E k (by omega) (by omega)) (by rw[show i+1+n=i+(n+1) by omega];exact C) (by omega)
def qD{i:Nat}(h:i<4611686018427387904:=by omega):W6 ((i:Int)+1)=((i+1:Nat):Int):=by
 rw[aR];simp
def aiL(y:Int):0 <= bits .and .i64 y 255/\bits .and .i64 y 255 <= 255:=by
 have e:bits .and .i64 y 255=IntKind.wrap .i64 ((BitVec.ofInt 64 y &&& BitVec.ofInt 64 255).toNat):=rfl;have h:(BitVec.ofInt 64 y &&& BitVec.ofInt 64 255).toNat <= 255:=by
  exact Nat.le_trans Nat.and_le_right (by decide)
 rw[e,IntKind.wrap_i64];omega
structure jF (b:List Int) (c:bN):Prop where
 eq:c.b=b
 lo:0<=c.i
 hi:c.i<=b.length
 len:b.length<=1073741823
def jF.eta{b:aa Int}{c:bN}(h:jF b c):(⟨b,c.i,c.h⟩:bN)=c:=by
 have⟨C,i,D⟩:=c;have:=h.eq;simp_all
def Dr{α:Type}(b:aa Int)(f:ah (α×(bN×af)))(P:α->Prop):Prop:=∃x c,f=some (x,(c,()))/\jF b c/\P x
def Dr.bind{α β:Type}{b:aa Int}{f:ah (α×(bN×af))}{g:α×(bN×af) -> ah (β×(bN×af))}{P:α -> Prop}{Q:β -> Prop}(h:Dr b f P)(C:∀ x c,P x -> jF b c -> Dr b (g (x,(c,()))) Q):Dr b (f.bind g) Q:=by
 have⟨x,c,D,E,I⟩:=h;simp_all
def Dr.pure{α:Type}{b:aa Int}{x:α}{c:bN}{P:α->Prop}(C:jF b c)(D:P x):Dr b (some (x,(c,()))) P:=⟨x,c,rfl,C,D⟩
def aiM(l:aa Int)(h:l.length<=1073741823):∃ y,Cq l=some y:=by
 unfold Cq bu;obtain⟨z,C,I⟩:=YV (step:=Kh)
  (λx=>∃(i:Nat) (y:Int),x=(((),y,(i:Int),()),(l,()))/\i<=l.length)
  (λx=>l.length-x.1.2.2.1.toNat) (λz=>∃ y,(Sum.elim (λJ:((af×Int×af)×((aa Int)×af))=>some J.1.2.1) (λz=>nomatch z)) z=some y) (by
   rintro x ⟨i,y,rfl,hi⟩;unfold Kh ay xG xI;dsimp only;by_cases D:i<l.length
   ·have E:decide ((i:Int)<(l.length:Int))=true:=by simpa using D
    have L:0<=(i:Int)/\(i:Int).toNat<l.length:=⟨by omega,by simpa using D⟩
    rw[E,ak];cases O:decide ((i:Int)<4000)with
    | true=>
     rw[ak,aA L];left;refine⟨_,rfl,⟨i+1,_,by rw[qD],by omega⟩,?_⟩;dsimp only;rw[qD];omega
    | false=>
     rw[au];right;exact⟨_,rfl,_,rfl⟩
   ·have E:decide ((i:Int)<(l.length:Int))=false:=by simpa using D
    rw[E,au];right;exact⟨_,rfl,_,rfl⟩)
  aP (((),(W6 ((97301:Int)+(l.length:Int))),((0:Nat):Int),()),(l,())) ⟨0,_,rfl,by omega⟩ (by dsimp only;unfold aP;omega)
 have C:iter Kh aP (((),(W6 ((97301:Int)+(l.length:Int))),(0:Int),()),(l,()))=some z:=C;rw[C];exact I
def aiN(l:aa Int)(y:Int)(h:l.length<=1073741823):jF l ⟨l,0,y⟩:=⟨rfl,Int.le_refl _,by simp,h⟩
def LJ{b:aa Int}{c:bN}(C:jF b c):Dr b (zN c) λx=>0<=x/\x<=255:=by
 have hb:=C.eq;have E:=C.lo;have J:=C.hi;have I:=C.len;unfold zN xI;by_cases h:c.i<(c.b.length:Int)
 ·have D:decide (c.i<(c.b.length:Int))=true:=by simpa using h
  rw[D,ak,aA ⟨E,by omega⟩];refine Dr.pure ⟨hb,?_,?_,I⟩ (aiL _)
  ·show 0<=W6 (c.i+1);rw[hb]at h;rw[aR];omega
  ·show W6 (c.i+1)<=_;rw[hb]at h;rw[aR];omega
 ·have D:decide (c.i<(c.b.length:Int))=false:=by simpa using h
  rw[D,au];exact Dr.pure ⟨hb,E,J,I⟩ (aiL _)
def aiO{x n:Int}(h:0<=x)(C:0<n):0<=x.tmod n/\x.tmod n<n:=by
 rw[oU h];exact⟨Int.emod_nonneg _ (by omega),Int.emod_lt_of_pos _ C⟩
def fl{b:aa Int}{c:bN}(C:jF b c)(n:Int):Dr b (eU c n) λx=>0 <= x/\(n <= 0 -> x=0)/\(0<n -> x<n):=by
 unfold eU;by_cases O:n <= 0
 ·have J:decide (n <= 0)=true:=by simpa using O
  rw[J];exact Dr.pure C ⟨Int.le_refl _,λ_=>rfl,λh=>by omega⟩
 ·have J:decide (n <= 0)=false:=by simpa using O
  have Q:¬ n=0:=by omega
  rw[J];by_cases T:n <= 256
  ·have L:decide (n <= 256)=true:=by simpa using T
   rw[L,ak]
   refine(LJ C).bind λx c' hx U=>?_
   rw[bM Q];rw[C.eq,U.eta];have:=aiO hx.1 (show 0<n by omega);exact Dr.pure U ⟨this.1,λh=>by omega,λ_=>this.2⟩
  ·have L:decide (n <= 256)=false:=by simpa using T
   rw[L,au,C.eq]
   refine(LJ C).bind λD k1 Hx Y=>?_
   dsimp only;rw[Y.eta]
   refine(LJ Y).bind λE k2 MY Z=>?_
   dsimp only;rw[Z.eta]
   refine(LJ Z).bind λI k3 hx3 zF=>?_
   dsimp only;rw[zF.eta]
   refine(LJ zF).bind λx4 k4 hx4 ve=>?_
   rw[bM Q];dsimp only;rw[ve.eta];rw[aR (n:=D*16777216),aR (n:=E*65536),aR (n:=D*16777216+E*65536),aR (n:=I*256),aR (n:=D*16777216+E*65536+I*256),aR (n:=D*16777216+E*65536+I*256+x4)];have:=aiO (x:=D*16777216+E*65536+I*256+x4) (by omega) (show 0<n by omega);exact Dr.pure ve ⟨this.1,λh=>by omega,λ_=>this.2⟩
def axP(l:aa Int)(h:l.length<=1073741823):∃ y,Qr l=some y/\y.length=12/\∀ x∈y,0<=x/\x<10000:=by
 unfold Qr bu;obtain⟨C,O⟩:=aiM l h;rw[O];obtain⟨z,D,Q⟩:=YV (step:=Ki)
  (λx=>∃(i:Nat) (c:bN) (y:aa Int),x=(((),(),(i:Int),()),((l,c.i,c.h,()),y,()))/\i<=12/\jF l c/\y.length=i/\∀x∈y,0<=x/\x<10000)
  (λx=>12-x.1.2.2.1.toNat) (λz=>∃ y,(Sum.elim (λT:((af×af)×((aa Int)×af))=>some T.2.1) (λz=>nomatch z)) z=some y/\y.length=12/\∀ x∈y,0<=x/\x<10000) (by
   rintro x ⟨i,c,y,rfl,hi,J,U,L⟩;unfold Ki ay xG;dsimp only;by_cases h':i<12
   ·have E:decide ((i:Int)<(12:Int))=true:=aS;rw[E,ak,J.eta];left;obtain⟨x,I,Y,Z,Ip,_,Hx⟩:=fl J 10000;rw[Y];have ho:bC (y.length+([x]:aa Int).length)=true:=by
     unfold bC;simp;omega
    refine⟨(((),(),W6 ((i:Int)+1),()),((l,I.i,I.h,()),(y++[x]),())),?_,⟨i+1,I,y++[x],by rw[qD],by omega,Z,by simp[U],λu hu=>?_⟩,?_⟩
    ·show (bif bC (y.length+([x]:aa Int).length)then _ else none)=_;rw[ho];rfl
    ·rcases List.mem_append.1 hu with hu | hu
     ·exact L u hu
     ·rw[oT.1 hu];exact⟨Ip,Hx (by omega)⟩
    ·dsimp only;rw[qD];omega
   ·have E:decide ((i:Int)<(12:Int))=false:=bh;rw[E,au];right;exact⟨_,rfl,y,rfl,by omega,L⟩)
  aP (((),(),((0:Nat):Int),()),((l,0,C,()),([]:aa Int),())) ⟨0,⟨l,0,C⟩,[],rfl,by omega,aiN l C h,rfl,by simp⟩ (by dsimp only;unfold aP;omega)
 have D:iter Ki aP (((),(),(0:Int),()),((l,(0:Int),C,()),([]:aa Int),()))=some z:=D;rw[aq,D];exact Q
def axQ(x a b:Int):cE x a b=some (decide (a <= x)&&decide (x <= b)):=by
 unfold cE
 grind
def aiP{x a b:Int}(h:a<=x)(C:x<=b):cE x a b=some true:=by
 rw[axQ,aS h,aS C];rfl
def axR{x a b:Int}(h:a<=x)(C:x<=b):cP x a b=some true:=aiP h C
def opens:Nat->aa eP->aa Int
 |_,[]=>[]
 |i,b::bs=>bif b.open_ then (i:Int)::opens (i+1) bs else opens (i+1) bs
def Y2(i:Nat)(a b:aa eP):opens i (a++b)=opens i a++opens (i+a.length) b:=by
 induction a generalizing i with
 |nil=>simp[opens]
 | cons x a C=>
  simp[List.cons_append,opens]
  grind
def RK(i:Nat)(l:aa eP):(opens i l).length <= l.length:=by
 induction l generalizing i with
 |nil=>simp[opens]
 | cons x a C=>
  have:=C (i+1);simp[opens]
  grind
def pK{α:Type}{l:aa α}{i:Nat}(h:i<l.length):l.take (i+1)=l.take i++[l[i]]:=by
 rw[List.take_succ_eq_append_getElem h]
def RL(r:cK)(h:r.aC.length<1073741823):Ag r=some (opens 0 r.aC):=by
 unfold Ag bu;have e:=sL (step:=E9) (λi=>(((),r.aC,(r.aC.length:Int),(i:Int),()),(opens 0 (r.aC.take i),()))) (z:=.inl (((),()),(opens 0 r.aC,()))) r.aC.length 0 aP (λk _ C=>?_) ?_ (by unfold aP;omega)
 ·have e:iter E9 aP (((),r.aC,r.aC.length,0,()),(([]),()))=_:=e;simp_all
 ·have C:k<r.aC.length:=by omega
  unfold E9 ay xG xI;dsimp only;have D:decide ((k:Int)<(r.aC.length:Int))=true:=aS;have E:0 <= (k:Int)/\(k:Int).toNat<r.aC.length:=⟨by omega,by simpa using C⟩
  have hl:=RK 0 (r.aC.take k);rw[fP]at hl;have I:bC ((opens 0 (r.aC.take k)).length+([(k:Int)]:aa Int).length)=true:=by
   unfold bC;simp;omega
  rw[D,ak,aA E,qD,pK C,Y2];simp only[bB,opens,fP,fj,Nat.min_eq_left (Nat.le_of_lt C)];cases r.aC[k].open_ with
  |true=>grind
  |false=>grind
 ·rw[fj];unfold E9 ay xG xI;simp_all
def tZ(l:aa Int)(h:l.length<1073741823):qB l l=some true:=by
 unfold qB bQ;have c0:((l.length:Int) != (l.length:Int))=false:=by simp
 rw[c0,au];have e:=sL (step:=FK) (λi=>((l,l,(i:Int),()),())) (z:=.inr (.inl ((),()))) l.length 0 aP (λk _ E=>?_) ?_ (by unfold aP;omega)
 ·have e:iter FK aP ((l,l,(0:Int),()),())=_:=e;rw[e];rfl
 ·have E:k<l.length:=by omega
  unfold FK ay aV xG xI;dsimp only;have D:decide ((k:Int)<(l.length:Int))=true:=aS;have C:0<=(k:Int)/\(k:Int).toNat<l.length:=⟨by omega,by simpa using E⟩
  rw[D,ak,aA C,aA C,qD];have:(l[(k:Int).toNat]'C.2 != l[(k:Int).toNat]'C.2)=false:=by simp
  rw[this];rfl
 ·rw[fj];unfold FK ay aV xG xI;dsimp only;have D:decide ((l.length:Int)<(l.length:Int))=false:=bh;rw[D,au]
def axS(l:aa eP)(h:l.length<1073741823):Rt l l=some true:=by
 unfold Rt bQ;have c0:((l.length:Int) != (l.length:Int))=false:=by simp
 rw[c0,au];have e:=sL (step:=FL) (λi=>((l,l,(i:Int),()),())) (z:=.inr (.inl ((),()))) l.length 0 aP (λk _ D=>?_) ?_ (by unfold aP;omega)
 ·have e:iter FL aP ((l,l,(0:Int),()),())=_:=e;rw[e];rfl
 ·have D:k<l.length:=by omega
  unfold FL ay aV xG xI;dsimp only;have C:decide ((k:Int)<(l.length:Int))=true:=aS;have E:0<=(k:Int)/\(k:Int).toNat<l.length:=⟨by omega,by simpa using D⟩
  rw[C,ak,aA E,aA E,qD];simp
 ·rw[fj];unfold FL ay aV xG xI;dsimp only;have C:decide ((l.length:Int)<(l.length:Int))=false:=bh;rw[C,au]
def gmT:Nat:=116196760129267793630862849262464326346044543732748708940920453221664288556434379745879494961270582141731748813355742142288220638766218855867759359510984593843506004200114943278699875244065120512813025380665946106619127097398772031257643617143689515450995722003729973585221105779229319991106539050771048038400
def gm(a b:Nat):Nat:=(gmT / 2 ^ (4*(16*a+b))) % 16
def pwT:Nat:=44684875893970114885940500792407720993
def pw(n:Nat):Nat:=(pwT / 2 ^ (4*n)) % 16
def jf(f:Nat->Bool):Bool:=(List.range 16).all f
def gq{f:Nat->Bool}(h:jf f=true){a:Nat}(C:a<16):f a=true:=by
 have:=cI.1 h a (fq.2 C);exact this
def fZ(a b:Nat):gm a b<16:=Nat.mod_lt _ (by decide)
def ua(n:Nat):pw n<16:=Nat.mod_lt _ (by decide)
def axT:(jf λa=>jf λb=>ju (Int.ofNat a) (Int.ofNat b)==some (Int.ofNat (gm a b)))=true:=by kernel_rfl
def axU:((List.range 31).all λn=>K2 2 (Int.ofNat n)==some (Int.ofNat (pw n)))=true:=by kernel_rfl
def aiQ:(jf λa=>jf λb=>decide (bits .xor .i64 (Int.ofNat a) (Int.ofNat b)=Int.ofNat (a ^^^ b))&&Nat.blt (a ^^^ b) 16)=true:=by kernel_rfl
def axV:(jf λa=>jf λb=>jf λc=>Nat.beq (gm (a ^^^ b) c) (gm a c ^^^ gm b c))=true:=by kernel_rfl
def aiR:(jf λa=>Nat.beq (gm a 1) a&&Nat.beq (gm 0 a) 0)=true:=by kernel_rfl
def axW:(jf λC=>jf λs1=>jf λs2=>
  (λy z=>(λx=>Nat.beq (gm x 1 ^^^ (gm y 1 ^^^ (gm z 1 ^^^ C))) 0&&Nat.beq (gm x 1 ^^^ (gm y 2 ^^^ (gm z 4 ^^^ s1))) 0&&Nat.beq (gm x 1 ^^^ (gm y 4 ^^^ (gm z 3 ^^^ s2))) 0) (C ^^^ y ^^^ z))
   (gm (gm 2 (C ^^^ s1) ^^^ gm 5 (C ^^^ s2)) 13) (gm (gm 3 (C ^^^ s2) ^^^ gm 5 (C ^^^ s1)) 13))=true:=by kernel_rfl
def axX:CC 4=some 13:=by kernel_rfl
def CL{a b:Nat}(C:a<16)(hb:b<16):ju (a:Int) (b:Int)=some (gm a b:Int):=by
 have h:=gq (gq axT C) hb;exact eq_of_beq h
def axY{n:Nat}(h:n<31):K2 2 (n:Int)=some (pw n:Int):=eq_of_beq (cI.1 axU n (fq.2 h))
def rP{a b:Nat}(C:a<16)(hb:b<16):bits .xor .i64 (a:Int) (b:Int)=((a ^^^ b:Nat):Int):=by
 have h:=gq (gq aiQ C) hb;simp_all
def mw{a b:Nat}(C:a<16)(hb:b<16):a ^^^ b<16:=by
 have h:=gq (gq aiQ C) hb;simp_all
def axZ{a b c:Nat}(C:a<16)(hb:b<16)(D:c<16):gm (a ^^^ b) c=gm a c ^^^ gm b c:=cD (gq (gq (gq axV C) hb) D)
def ax0{a:Nat}(C:a<16):gm a 1=a:=by
 have h:=gq aiR C;rw[aO]at h;exact cD h.1
def RM{a:Nat}(C:a<16):gm 0 a=0:=by
 have h:=gq aiR C;rw[aO]at h;exact cD h.2
abbrev bk (w:aa Nat):aa Int:=w.map λ(n:Nat)=>(n:Int)
def dL(w:aa Nat):Prop:=∀x∈w,x<16
def gM(w:aa Nat):(bk w).length=w.length:=by simp[bk]
def uc{w:aa Nat}{k:Nat}(h:k<(bk w).length):(bk w)[k]=((w.getD k 0:Nat):Int):=by grind
def dL.get{w:aa Nat}(h:dL w)(k:Nat):w.getD k 0<16:=by
 by_cases C:k<w.length
 ·simp[fk,bX C];exact h _ (cU C)
 ·simp_all
def Y3{w:aa Nat}(E:dL w)(hl:w.length<1000)(n:Int):vn (bk w) n=some ((w.length:Int)==n):=by
 unfold vn bQ;have e:=sL (step:=Ah) (λi=>((bk w,n,bk w,((bk w).length),i,()),())) (z:=.inr (.inl ((bk w,n,()),()))) w.length 0 aP (λk _ C=>?_) ?_ (by unfold aP;omega)
 ·simp_all
 ·have C:k<(bk w).length:=by rw[gM];omega
  unfold Ah ay aV xG xI;dsimp only;have I:decide ((k:Int)<((bk w).length:Int))=true:=aS;have D:0 <= (k:Int)/\(k:Int).toNat<(bk w).length:=⟨by omega,by simpa using C⟩
  rw[I,ak,aA D];have J:(bk w)[(k:Int).toNat]'D.2=((w.getD k 0:Nat):Int):=uc C;rw[J];have:=E.get k;unfold Ct;rw[aiP (by omega) (by omega),aq,aq,qD];rfl
 ·unfold Ah ay aV xG xI;simp_all
def bU(w:aa Nat)(j:Nat):Nat->Nat
 |0=>0
 |i+1=>bU w j i ^^^ gm (w.getD i 0) (pw (i*j))
def rQ(w:aa Nat)(j:Nat):∀ i,bU w j i<16
 |0=>Nat.zero_lt_succ _
 |i+1=>mw (rQ w j i) (fZ _ _)
def ax1{w:aa Nat}(J:dL w)(hl:w.length=11)(j:Nat)(Z:j<3)(a b:Int)(o:aa Int)(L:j<o.length)(O:o.set j 0=o):
  iter CB aP ((bk w,(),(j:Int),a,b,bk w,((bk w).length:Int),(0:Int),()),(o,()))=some (.inl ((bk w,(),a,b,()),(o.set j (bU w j 11:Int),()))):=by
 have e:=sL (step:=CB) (λi=>((bk w,(),(j:Int),a,b,bk w,((bk w).length:Int),(i:Int),()),(o.set j (bU w j i:Int),()))) (z:=.inl ((bk w,(),a,b,()),(o.set j (bU w j 11:Int),()))) 11 0 aP (λk _ D=>?_) ?_ (by unfold aP;omega)
 ·have e:iter CB aP ((bk w,(),(j:Int),a,b,bk w,((bk w).length:Int),(0:Int),()),(o.set j 0,()))=_:=e;rw[O]at e;exact e
 ·have D:k<(bk w).length:=by rw[gM];omega
  unfold CB ay xG xI xL;dsimp only;have E:decide ((k:Int)<((bk w).length:Int))=true:=aS;have I:0<=(k:Int)/\(k:Int).toNat<(bk w).length:=⟨by omega,by simpa using D⟩
  have C:0<=(j:Int)/\(j:Int).toNat<(o.set j (bU w j k:Int)).length:=⟨by omega,by simpa using L⟩
  have Q:(bk w)[(k:Int).toNat]'I.2=((w.getD k 0:Nat):Int):=uc D;have T:(o.set j (bU w j k:Int))[(j:Int).toNat]'C.2=(bU w j k:Int):=List.getElem_set_self _;rw[E,ak,aA I,aA C,aA C.2,Q,T];have hkj:k*j<=20:=Nat.le_trans (Nat.mul_le_mul (show k<=10 by omega) (show j<=2 by omega)) (by decide);have U:W6 ((k:Int)*(j:Int))=((k*j:Nat):Int):=by
   rw[<-Int.natCast_mul,aR]
  rw[U,axY (by omega),aq,CL (J.get k) (ua _),aq,aA C,aA C.2,rP (rQ _ _ _) (fZ _ _),qD];have Y:(o.set j (bU w j k:Int)).set (j:Int).toNat ((bU w j k ^^^ gm (w.getD k 0) (pw (k*j)):Nat):Int)=o.set j (bU w j (k+1):Int):=List.set_set ..;rw[Y]
 ·unfold CB ay xG xI xL;dsimp only;have E:decide (((0+11:Nat):Int)<((bk w).length:Int))=false:=bh (by rw[gM];omega);rw[E,au]
def sM(w:aa Nat):Nat->aa Int
 |0=>[0,0,0]
 |1=>[(bU w 0 11:Int),0,0]
 |2=>[(bU w 0 11:Int),(bU w 1 11:Int),0]
 |_=>[(bU w 0 11:Int),(bU w 1 11:Int),(bU w 2 11:Int)]
def Y4{w:aa Nat}(D:dL w)(hl:w.length=11):Al (bk w)=some [(bU w 0 11:Int),(bU w 1 11:Int),(bU w 2 11:Int)]:=by
 unfold Al bu;have c0:((w.length:Int)==(11:Int))=true:=by rw[hl];rfl
 rw[Y3 D (by omega),c0,aq];have e:=sL (step:=Fu) (λj=>((bk w,(),(3:Int),(j:Int),()),(sM w j,()))) (z:=.inl (((),()),(sM w 3,()))) 3 0 aP (λk _ I=>?_) ?_ (by unfold aP;omega)
 ·have e:iter Fu aP ((bk w,(),((List.replicate (3:Int).toNat (0:Int)).length:Int),(0:Int),()),(List.replicate (3:Int).toNat (0:Int),()))=_:=e;rw[show (!true)=false from rfl,au,bA (by decide),e];rfl
 ·unfold Fu ay xG bu;dsimp only;have E:decide ((k:Int)<(3:Int))=true:=aS;have C:sM w k=(sM w k).set k 0/\k<(sM w k).length/\(sM w k).set k (bU w k 11:Int)=sM w (k+1):=by
   have:k=0\/k=1\/k=2:=by omega
   rcases this with rfl|rfl|rfl
   ·exact⟨rfl,by simp[sM],rfl⟩
   ·exact⟨rfl,by simp[sM],rfl⟩
   ·exact⟨rfl,by simp[sM],rfl⟩
  rw[E,ak,ax1 D hl k (by omega) (3:Int) (k:Int) (sM w k) C.2.1 C.1.symm,C.2.2];show some (Sum.inl ((bk w,(),(3:Int),W6 ((k:Int)+1),()),(sM w (k+1),())))=_;rw[qD]
 ·unfold Fu ay xG bu;dsimp only;rfl
def ax2{w:aa Nat}(C:dL w)(hl:w.length=11):Q3 (bk w)=some (Nat.beq (bU w 0 11) 0&&(Nat.beq (bU w 1 11) 0&&Nat.beq (bU w 2 11) 0)):=by
 unfold Q3 xL;rw[Y4 C hl,aq];generalize bU w 0 11=a;generalize bU w 1 11=b;generalize bU w 2 11=c;have q:∀ n:Nat,((n:Int)==(0:Int))=Nat.beq n 0:=by
  intro n;cases n with
  |zero=>rfl
  |succ n=>rfl
 show (bif ((a:Int)==(0:Int))then (bif ((b:Int)==(0:Int))then some ((c:Int)==(0:Int))else some false)else some false)=_
 grind
def ax3(C D E:Nat)(I:C<16)(J:D<16)(L:E<16):
  (λy z=>(λx=>(gm x 1 ^^^ (gm y 1 ^^^ (gm z 1 ^^^ C)))=0/\(gm x 1 ^^^ (gm y 2 ^^^ (gm z 4 ^^^ D)))=0/\(gm x 1 ^^^ (gm y 4 ^^^ (gm z 3 ^^^ E)))=0) (C ^^^ y ^^^ z))
   (gm (gm 2 (C ^^^ D) ^^^ gm 5 (C ^^^ E)) 13) (gm (gm 3 (C ^^^ E) ^^^ gm 5 (C ^^^ D)) 13):=by
 have h:=gq (gq (gq axW I) J) L;simp_all
def ax4{d:aa Nat}(O:dL d)(hl:d.length=8):∃ w,K8 (bk d)=some (bk w)/\w.length=11/\dL w/\w.drop 3=d/\bU w 0 11=0/\bU w 1 11=0/\bU w 2 11=0:=by
 have T:dL (0 :: 0 :: 0 :: d):=by
  intro x hx;simp only[gf]at hx;rcases hx with rfl|rfl|rfl|hx
  ·decide
  ·decide
  ·decide
  ·exact O x hx
 have key:∀ j x y z,j<3->x<16->y<16->z<16->bU (x :: y :: z :: d) j 11=gm x (pw (0*j)) ^^^ (gm y (pw (1*j)) ^^^ (gm z (pw (2*j)) ^^^ bU (0 :: 0 :: 0 :: d) j 11)):=by
  intro j x y z hj hx hy T;simp only[bU,List.getD_cons_zero,List.getD_cons_succ,Nat.xor_assoc,Nat.zero_xor,RM (ua _)]
 have e0:∀ C E I:Nat,C<16->E<16->I<16->Al (bk (0 :: 0 :: 0 :: d))=some [(C:Int),(E:Int),(I:Int)]->
   K8 (bk d)=some (bk ((C ^^^ gm (gm 2 (C ^^^ E) ^^^ gm 5 (C ^^^ I)) 13 ^^^ gm (gm 3 (C ^^^ I) ^^^ gm 5 (C ^^^ E)) 13)::gm (gm 2 (C ^^^ E) ^^^ gm 5 (C ^^^ I)) 13::gm (gm 3 (C ^^^ I) ^^^ gm 5 (C ^^^ E)) 13::d)):=by
  intro C E I D J L hs;unfold K8 xL;have c0:((d.length:Int)==(8:Int))=true:=by rw[hl];rfl
  have c1:bC ((List.replicate (3:Int).toNat (0:Int)).length+(bk d).length)=true:=by
   rw[gM,hl];rfl
  rw[Y3 O (by omega),aq,c0,show (!true)=false from rfl,au,bA (by decide),c1,ak];have Q:Al (List.replicate (3:Int).toNat (0:Int)++bk d)=some [(C:Int),(E:Int),(I:Int)]:=hs;rw[Q,aq];show (CC (4:Int)).bind (λU=>(ju (2:Int) (bits .xor .i64 (C:Int) (E:Int))).bind λlF=>(ju (5:Int) (bits .xor .i64 (C:Int) (I:Int))).bind λkF=>(ju (bits .xor .i64 lF kF) U).bind λY=>(ju (3:Int) (bits .xor .i64 (C:Int) (I:Int))).bind λlG=>(ju (5:Int) (bits .xor .i64 (C:Int) (E:Int))).bind λtY=>(ju (bits .xor .i64 lG tY) U).bind λZ=>some (bits .xor .i64 (bits .xor .i64 (C:Int) Y) Z::Y::Z::bk d))=_;have m2:∀b:Nat,b<16->ju (2:Int) (b:Int)=some (gm 2 b:Int):=λb hb=>CL (a:=2) (by decide) hb
  have m3:∀b:Nat,b<16->ju (3:Int) (b:Int)=some (gm 3 b:Int):=λb hb=>CL (a:=3) (by decide) hb
  have m5:∀b:Nat,b<16->ju (5:Int) (b:Int)=some (gm 5 b:Int):=λb hb=>CL (a:=5) (by decide) hb
  have m13:∀b:Nat,b<16->ju (b:Int) (13:Int)=some (gm b 13:Int):=λb hb=>CL (b:=13) hb (by decide)
  rw[axX,aq,rP D J,rP D L,m2 _ (mw D J),aq,m5 _ (mw D L),aq,rP (fZ _ _) (fZ _ _),m13 _ (mw (fZ _ _) (fZ _ _)),aq,m3 _ (mw D L),aq,m5 _ (mw D J),aq,rP (fZ _ _) (fZ _ _),m13 _ (mw (fZ _ _) (fZ _ _)),aq,rP D (fZ _ _),rP (mw D (fZ _ _)) (fZ _ _)];rfl
 have D:=rQ (0::0::0::d) 0 11;have J:=rQ (0::0::0::d) 1 11;have L:=rQ (0::0::0::d) 2 11;have Q:=e0 _ _ _ D J L (Y4 T (by simp[hl]));have f:=ax3 _ _ _ D J L;dsimp only at f;refine⟨_,Q,by simp[hl],?_,rfl,?_,?_,?_⟩
 ·intro x hx;simp only[gf]at hx;rcases hx with rfl | rfl | rfl | hx
  ·exact mw (mw D (fZ _ _)) (fZ _ _)
  ·exact fZ _ _
  ·exact fZ _ _
  ·exact O x hx
 ·rw[key 0 _ _ _ (by decide) (mw (mw D (fZ _ _)) (fZ _ _)) (fZ _ _) (fZ _ _)];exact f.1
 ·rw[key 1 _ _ _ (by decide) (mw (mw D (fZ _ _)) (fZ _ _)) (fZ _ _) (fZ _ _)];exact f.2.1
 ·rw[key 2 _ _ _ (by decide) (mw (mw D (fZ _ _)) (fZ _ _)) (fZ _ _) (fZ _ _)];exact f.2.2
def aiS{w:aa Nat}(C:dL w){k e:Nat}(D:e<16)(I:k<w.length)(j:Nat):∀ i,bU (w.set k (w.getD k 0 ^^^ e)) j i=if i <= k then bU w j i else bU w j i ^^^ gm e (pw (k*j))
 |0=>by rw[bA (Nat.zero_le _)];rfl
 | i+1=>by
  have J:=aiS C D I j i;have L:(w.set k (w.getD k 0 ^^^ e)).getD i 0=if i=k then w.getD k 0 ^^^ e else w.getD i 0:=by
   grind
  show bU _ j i ^^^ gm _ (pw (i*j))=_;rw[J,L];by_cases O:i<k
  ·rw[bA,bM,bA];rfl
  ·by_cases E:i=k
   ·subst E;rw[bA (eK _),bA rfl,bM,axZ (C.get _) D (ua _),<- Nat.xor_assoc];rfl
   ·rw[bM,bM E,bM];show _=bU w j i ^^^ gm _ _ ^^^ gm e _
    grind
def dL.set{w:aa Nat}(h:dL w){k v:Nat}(D:v<16):dL (w.set k v):=by
 intro x C;rcases List.mem_or_eq_of_mem_set C with C|rfl
 ·exact h x C
 ·exact D
def ivT:Nat:=9460475325918865680
def iv(a:Nat):Nat:=(ivT / 2 ^ (4*a)) % 16
def ax5(a:Nat):iv a<16:=Nat.mod_lt _ (by decide)
def ax6:(jf λa=>Nat.beq a 0 ||CC (Int.ofNat a)==some (Int.ofNat (iv a)))=true:=by kernel_rfl
def oJ:aa Nat:=[8,14,7,1]
def ax7:((List.range 8).all λm=>jf λf=>(List.range 3).all λj=>
  Nat.beq (gm (gm 8 f) (pw (m*j)) ^^^ (gm (gm 14 f) (pw ((m+1)*j)) ^^^ (gm (gm 7 f) (pw ((m+2)*j)) ^^^ gm f (pw ((m+3)*j))))) 0)=true:=by kernel_rfl
def ax8:(jf λa=>jf λb=>tX (Int.ofNat a) (Int.ofNat b)==some (Int.ofNat (gm a b)))=true:=by kernel_rfl
def LK{a b:Nat}(C:a<16)(hb:b<16):tX (a:Int) (b:Int)=some (gm a b:Int):=by
 have h:=gq (gq ax8 C) hb;exact eq_of_beq h
def aiT(W:aa Int):iter XZ aP (((),(),(1:Int),()),(W,([(1:Int),(1:Int)]:aa Int),()))=some (.inl (((),(),()),(W,bk oJ,()))):=by kernel_rfl
def aiU{w:aa Nat}(E:dL w)(hl:w.length<1000)(n:Int):vl (bk w) n=some ((w.length:Int)==n):=by
 unfold vl bQ;have e:=sL (step:=zY) (λi=>((bk w,n,i,()),())) (z:=.inr (.inl ((bk w,n,()),()))) w.length 0 aP (λk _ C=>?_) ?_ (by unfold aP;omega)
 ·simp_all
 ·have C:k<(bk w).length:=by rw[gM];omega
  unfold zY ay aV xG xI;dsimp only;have I:decide ((k:Int)<((bk w).length:Int))=true:=aS;have D:0 <= (k:Int)/\(k:Int).toNat<(bk w).length:=⟨by omega,by simpa using C⟩
  rw[I,ak,aA D];have J:(bk w)[(k:Int).toNat]'D.2=((w.getD k 0:Nat):Int):=uc C;rw[J];have:=E.get k;unfold xj;rw[axR (by omega) (by omega),aq,aq,qD];rfl
 ·unfold zY ay aV xG xI;simp_all
def ud(k:Nat):Nat:=oJ.getD k 0
def ax9(k:Nat):ud k<16:=by
 have:dL oJ:=by
  intro x C;simp[oJ,gf,List.not_mem_nil,or_false]at C;omega
 exact this.get k
def kG(r:aa Nat)(m f:Nat):Nat->aa Nat
 |0=>r
 |k+1=>(kG r m f k).set (m+k) ((kG r m f k).getD (m+k) 0 ^^^ gm (ud k) f)
def LL(r:aa Nat)(m f:Nat):∀ k,(kG r m f k).length=r.length
 |0=>rfl
 |k+1=>by show (List.set _ _ _).length=_;rw[jk,LL]
def LM{r:aa Nat}(C:dL r)(m f:Nat):∀ k,dL (kG r m f k)
 |0=>C
 |k+1=>(LM C m f k).set (mw ((LM C m f k).get _) (fZ _ _))
def RN(w:aa Nat)(k v:Nat):(bk w).set k (v:Int)=bk (w.set k v):=(List.map_set ..).symm
def aya{r:aa Nat}(L:dL r)(hl:r.length=11){m f:Nat}(Z:m<8)(O:f<16)(W:aa Int):
  iter EK aP (((),(),(),((m+3:Nat):Int),(f:Int),(0:Int),()),(W,bk oJ,bk r,()))=some (.inl (((),(),(),((m+3:Nat):Int),()),(W,bk oJ,bk (kG r m f 4),()))):=by
 have e:=sL (step:=EK) (λk=>(((),(),(),((m+3:Nat):Int),(f:Int),(k:Int),()),(W,bk oJ,bk (kG r m f k),()))) (z:=.inl (((),(),(),((m+3:Nat):Int),()),(W,bk oJ,bk (kG r m f 4),()))) 4 0 aP (λk _ hk=>?_) ?_ (by unfold aP;omega)
 ·exact e
 ·unfold EK ay xG xL;dsimp only;have D:decide ((k:Int)<((bk oJ).length:Int))=true:=aS (by show (k:Int)<4;omega);have Q:W6 (W6 (((m+3:Nat):Int)-3)+(k:Int))=((m+k:Nat):Int):=by
   rw[aR (n:=((m+3:Nat):Int)-3),aR];omega
  have I:m+k<(bk (kG r m f k)).length:=by rw[gM,LL,hl];omega
  have C:0<=((m+k:Nat):Int)/\((m+k:Nat):Int).toNat<(bk (kG r m f k)).length:=⟨by omega,I⟩
  have J:k<(bk oJ).length:=by show k<4;omega
  have E:0<=(k:Int)/\(k:Int).toNat<(bk oJ).length:=⟨by omega,J⟩
  have T:(bk (kG r m f k))[((m+k:Nat):Int).toNat]'C.2=(((kG r m f k).getD (m+k) 0:Nat):Int):=uc I;have U:(bk oJ)[(k:Int).toNat]'E.2=((ud k:Nat):Int):=uc J;rw[D,ak];simp only[Q];rw[aA C,aA C.2];rw[aA E,aA E.2,U,LK (ax9 k) O,aq,aA C,aA C.2,T,rP ((LM L m f k).get _) (fZ _ _),qD];have Y:(bk (kG r m f k)).set ((m+k:Nat):Int).toNat (((kG r m f k).getD (m+k) 0 ^^^ gm (ud k) f:Nat):Int)=bk (kG r m f (k+1)):=RN _ _ _;rw[Y]
 ·unfold EK ay xG xL;dsimp only;have D:decide (((0+4:Nat):Int)<((bk oJ).length:Int))=false:=rfl;rw[D,au]
def out(r:aa Nat):Nat->aa Nat
 |0=>r
 |t+1=>kG (out r t) (7-t) ((out r t).getD (10-t) 0) 4
def CM(r:aa Nat):∀ t,(out r t).length=r.length
 |0=>rfl
 |t+1=>by show (kG _ _ _ _).length=_;rw[LL,CM]
def CN{r:aa Nat}(C:dL r):∀ t,dL (out r t)
 |0=>C
 |t+1=>LM (CN C t) _ _ _
def aiV{r:aa Nat}(D:dL r)(hl:r.length=11)(W:aa Int):
  iter EL aP (((),(),(),(10:Int),()),(W,bk oJ,bk r,()))=some (.inl (((),(),()),(W,bk (out r 8),()))):=by
 have e:=sL (step:=EL) (λt=>(((),(),(),(10:Int)-(t:Int),()),(W,bk oJ,bk (out r t),()))) (z:=.inl (((),(),()),(W,bk (out r 8),()))) 8 0 aP (λt _ L=>?_) ?_ (by unfold aP;omega)
 ·exact e
 ·unfold EL ay xG bu xL;dsimp only;have hi:(10:Int)-(t:Int)=((7-t+3:Nat):Int):=by omega
  have I:decide ((10:Int)-(t:Int) >= 3)=true:=aS;have E:7-t+3<(bk (out r t)).length:=by rw[gM,CM,hl];omega
  have C:0<=((7-t+3:Nat):Int)/\((7-t+3:Nat):Int).toNat<(bk (out r t)).length:=⟨by omega,E⟩
  have J:(bk (out r t))[((7-t+3:Nat):Int).toNat]'C.2=(((out r t).getD (10-t) 0:Nat):Int):=(uc E).trans (by rw[show 7-t+3=10-t by omega]);rw[I,ak];simp only[hi];rw[aA C,aA C.2,J,aya (CN D t) (by rw[CM,hl]) (by omega) ((CN D t).get _)];show some (Sum.inl (((),(),(),W6 (((7-t+3:Nat):Int)-1),()),(W,bk oJ,bk (out r (t+1)),())))=_;rw[aR,show ((7-t+3:Nat):Int)-1=10-((t+1:Nat):Int) by omega]
 ·unfold EL ay xG bu xL;dsimp only;rfl
def ayb:(jf λa=>Nat.beq (gm 1 a) a)=true:=by kernel_rfl
def aiW{a:Nat}(C:a<16):gm 1 a=a:=cD (gq ayb C)
def aiX{r:aa Nat}(C:dL r)(hl:r.length=11){k e:Nat}(D:e<16)(E:k<11)(j:Nat):bU (r.set k (r.getD k 0 ^^^ e)) j 11=bU r j 11 ^^^ gm e (pw (k*j)):=by
 rw[aiS C D (by omega) j 11,bM]
def ayc{r:aa Nat}(D:dL r)(hl:r.length=11){m f j:Nat}(E:m<8)(C:f<16)(I:j<3):bU (kG r m f 4) j 11=bU r j 11:=by
 have st:∀ k,k<4 -> bU (kG r m f (k+1)) j 11=bU _ j 11 ^^^ gm _ _:=λk L=>
  aiX (LM D m f k) (by rw[LL,hl]) (fZ _ _) (by omega) j
 have h:=cI.1 (gq (cI.1 ax7 m (fq.2 E)) C) j (fq.2 I);have h:gm (gm (ud 0) f) (pw ((m+0)*j)) ^^^ (gm (gm (ud 1) f) (pw ((m+1)*j)) ^^^ (gm (gm (ud 2) f) (pw ((m+2)*j)) ^^^ gm (gm (ud 3) f) (pw ((m+3)*j))))=0:=by
  have J:gm (ud 3) f=f:=aiW C;rw[J];exact cD h
 rw[st 3 (by decide),st 2 (by decide),st 1 (by decide),st 0 (by decide),Nat.xor_assoc,Nat.xor_assoc,Nat.xor_assoc,h,Nat.xor_zero];rfl
def aiY{r:aa Nat}(C:dL r)(hl:r.length=11){j:Nat}(D:j<3):∀ t,t<=8->bU (out r t) j 11=bU r j 11
 |0,_=>rfl
 |t+1,E=>(ayc (CN C t) (by rw[CM,hl]) (by omega) ((CN C t).get _) D).trans (aiY C hl D t (by omega))
def aiZ(r:aa Nat)(k v n:Nat):(r.set k v).getD n 0=if n=k/\k<r.length then v else r.getD n 0:=by grind
def Y5(r:aa Nat)(m f:Nat):∀ k n,m+k<=n->(kG r m f k).getD n 0=r.getD n 0
 |0,n,_=>rfl
 | k+1,n,h=>by
  show (List.set _ _ _).getD n 0=_;rw[aiZ,bM,Y5 r m f k n (by omega)]
def ayd{r:aa Nat}{m f:Nat}(h:m+3<r.length):(kG r m f 4).getD (m+3) 0=r.getD (m+3) 0 ^^^ gm (ud 3) f:=by
 show (List.set _ _ _).getD _ 0=_;rw[aiZ,bA ⟨rfl,by rw[LL];exact h⟩,Y5 r m f 3 _ (eK _)]
def ai0{r:aa Nat}(C:dL r)(hl:r.length=11):∀ t,t <= 8 -> ∀ n,10-t<n -> n<11 -> (out r t).getD n 0=0
 |0,_,n,h,D=>by omega
 | t+1,I,n,h,D=>by
  show (kG _ _ _ 4).getD n 0=0;by_cases E:n=10-t
  ·have e:n=7-t+3:=by omega
   subst e;rw[ayd (by rw[CM];omega),<- E];have:gm (ud 3) _=(out r t).getD (7-t+3) 0:=aiW ((CN C t).get _);simp_all
  ·rw[Y5 _ _ _ 4 n (by omega)];exact ai0 C hl t (by omega) n (by omega) D
def qE(w r:aa Nat):Nat->aa Nat
 |0=>w
 |k+1=>(qE w r k).set k (r.getD k 0)
def Y6(w r:aa Nat):∀ k,(qE w r k).length=w.length
 |0=>rfl
 |k+1=>by show (List.set _ _ _).length=_;rw[jk,Y6]
def ai1{w r:aa Nat}(Q:w.length=11)(T:r.length=11):
  iter Jx aP (((),(),(0:Int),()),(bk w,bk r,()))=some (.inl (((),()),(bk (qE w r 3),()))):=by
 have e:=sL (step:=Jx) (λi=>(((),(),i,()),(bk (qE w r i),bk r,()))) (z:=.inl (((),()),(bk (qE w r 3),()))) 3 0 aP (λk _ U=>?_) ?_ (by unfold aP;omega)
 ·exact e
 ·unfold Jx ay xG xL;dsimp only;have I:decide ((k:Int)<(3:Int))=true:=aS;have D:k<(bk r).length:=by rw[gM];omega
  have J:k<(bk (qE w r k)).length:=by rw[gM,Y6];omega
  have C:0 <= (k:Int)/\(k:Int).toNat<(bk r).length:=⟨by omega,D⟩
  have E:0 <= (k:Int)/\(k:Int).toNat<(bk (qE w r k)).length:=⟨by omega,J⟩
  have L:(bk r)[(k:Int).toNat]'C.2=((r.getD k 0:Nat):Int):=uc D;rw[I,ak,aA C,aA C.2,L,aA E,aA E.2,qD];have O:(bk (qE w r k)).set (k:Int).toNat ((r.getD k 0:Nat):Int)=bk (qE w r (k+1)):=RN _ _ _;rw[O]
 ·rfl
def aye{d:aa Nat}(L:dL d)(hl:d.length=8):∃ w,zZ (bk d)=some (bk w)/\w.length=11/\dL w/\bU w 0 11=0/\bU w 1 11=0/\bU w 2 11=0:=by
 have D:dL (0 :: 0 :: 0 :: d):=by
  intro x hx;simp only[gf]at hx;rcases hx with rfl|rfl|rfl|hx
  ·decide
  ·decide
  ·decide
  ·exact L x hx
 have C:(0::0::0::d).length=11:=by simp[hl]
 have O:zZ (bk d)=some (bk (qE (0 :: 0 :: 0 :: d) (out (0 :: 0 :: 0 :: d) 8) 3)):=by
  unfold zZ xA bu xZ;have c0:((d.length:Int)==(8:Int))=true:=by rw[hl];rfl
  have Q:bC ((List.replicate (3:Int).toNat (0:Int)).length+(bk d).length)=true:=by
   rw[gM,hl];rfl
  have T:bC (([]:aa Int).length+(bk (0 :: 0 :: 0 :: d)).length)=true:=by
   rw[gM,C];rfl
  have U:W6 (((bk (0 :: 0 :: 0 :: d)).length:Int)-(1:Int))=10:=by
   rw[gM,C];rfl
  have Y:List.replicate (3:Int).toNat (0:Int)++bk d=bk (0::0::0::d):=rfl;rw[aiU L (by omega),aq,c0,show (!true)=false from rfl,au,bA (by decide),Q,ak,Y,aiT,aq,ef];dsimp only;rw[kj,T,ak,U,aiV D C,aq,ef];dsimp only;rw[ai1 C (by rw[CM,C]),aq,ef]
 have E:=CN D 8;have I:∀ j,j<3->bU (qE (0 :: 0 :: 0 :: d) (out (0 :: 0 :: 0 :: d) 8) 3) j 11=0:=by
  intro j Z;have J:=aiY D C Z 8 (eK _);have z:=ai0 D C 8 (eK _);revert J z;generalize out (0 :: 0 :: 0 :: d) 8=r;intro J z;have h2:bU (qE (0 :: 0 :: 0 :: d) r 3) j 11=gm (r.getD 0 0) (pw (0*j)) ^^^ (gm (r.getD 1 0) (pw (1*j)) ^^^ (gm (r.getD 2 0) (pw (2*j)) ^^^ bU (0 :: 0 :: 0 :: d) j 11)):=by
   show bU (r.getD 0 0::r.getD 1 0::r.getD 2 0::d) j 11=_;simp only[bU,List.getD_cons_zero,List.getD_cons_succ,Nat.xor_assoc,Nat.zero_xor,RM (ua _)]
  have h3:bU r j 11=gm (r.getD 0 0) (pw (0*j)) ^^^ (gm (r.getD 1 0) (pw (1*j)) ^^^ gm (r.getD 2 0) (pw (2*j))):=by
   simp only[bU,z 3 (by decide) (by decide),z 4 (by decide) (by decide),z 5 (by decide) (by decide),z 6 (by decide) (by decide),z 7 (by decide) (by decide),z 8 (by decide) (by decide),z 9 (by decide) (by decide),z 10 (by decide) (by decide),Nat.xor_assoc,Nat.zero_xor,Nat.xor_zero,RM (ua _)]
  rw[h2,<-J,h3,<-Nat.xor_assoc (gm (r.getD 1 0) _) (gm (r.getD 2 0) _),<-Nat.xor_assoc (gm (r.getD 0 0) _),Nat.xor_self]
 refine⟨_,O,by rw[Y6,C],?_,I 0 (by decide),I 1 (by decide),I 2 (by decide)⟩;exact((D.set (E.get _)).set (E.get _)).set (E.get _)
def vu(s:Int):Bool:=aL s 0 15
def sN(l:aa Int)(n:Int):Bool:=l.all vu&&decide ((l.length:Int)=n)
def ai2(l:aa Int)(n:Int)(hl:l.length<1073741824):vn l n=some (sN l n):=by
 unfold vn sN bQ;have e:=gG (step:=Ah) l vu (λi=>((l,n,l,l.length,i,()),())) _ (.inr (.inl ((l,n,()),()))) aP (λk h=>by
  unfold Ah Ct ay aV xG xI;simp (disch:=omega) [h,bD,dF,vu];cases aL l[k] 0 15<;>rfl) (by unfold Ah ay aV xG xI;simp) (bI hl)
 rw[cq]at e;rw[e];cases l.all vu<;>simp;rfl
def RO(l:aa Int)(n:Int)(hl:l.length<1073741824):vl l n=some (sN l n):=by
 unfold vl sN bQ;have e:=gG (step:=zY) l vu (λi=>((l,n,i,()),())) _ (.inr (.inl ((l,n,()),()))) aP (λk h=>by
  unfold zY xj ay aV xG xI;simp (disch:=omega) [h,bD,eE,vu];cases aL l[k] 0 15<;>rfl) (by unfold zY ay aV xG xI;simp) (bI hl)
 rw[cq]at e;rw[e];cases l.all vu<;>simp;rfl
def Sy(l:aa Int):Prop:=l.length=11/\∀s∈l,0<=s/\s<=15
def Sy.ok{l:aa Int}(h:Sy l):sN l 11=true:=by
 simp[sN,aO,cI,vu,bx];exact⟨λx C=>h.2 x C,by rw[h.1];rfl⟩
def Sy.of{l:aa Int}(h:sN l 11=true):Sy l:=by
 simp[sN,aO,cI,gK,vu,bx]at h;exact⟨by omega,h.1⟩
def Y7{a b:Int}(E:0 <= a/\a <= 15)(hb:0 <= b/\b <= 15):0 <= bits .xor .i64 a b/\bits .xor .i64 a b <= 15/\bits .xor .i64 (bits .xor .i64 a b) b=a:=by
 obtain⟨x,rfl⟩:=eX E.1;obtain⟨y,rfl⟩:=eX hb.1;have D:x<16:=by omega
 have C:y<16:=by omega
 have:=mw D C;rw[rP D C];rw[rP this C]
 grind
def Sy.set{l:aa Int}(h:Sy l){k:Nat}{v:Int}(D:0<=v/\v<=15):Sy (l.set k v):=by
 refine⟨by simp[h.1],λs C=>?_⟩
 rcases List.mem_or_eq_of_mem_set C with C|rfl
 ·exact h.2 s C
 ·exact D
def Sy.get{l:aa Int}(h:Sy l){k:Nat}(C:k<l.length):0<=l[k]/\l[k]<=15:=h.2 _ (cU C)
structure dY (g:aM) (B:Int) (a:dm):Prop where
 cells:(a.cells.length:Int)=ez g
 syms:∀c∈a.cells,Sy c.symbols
 bz:(a.bz.length:Int)=fY g
 br:(a.br.length:Int)=fY g
 As:∀x∈a.bz,0<=x/\x<=B
 iK:∀x∈a.br,0<=x/\x<=100000
def ayf(c:bY)(h:c.symbols.length<1073741824):QH c=some c:=by
 unfold QH xA xZ;simp[bC,h]
def ai3(c:bY)(h:c.symbols.length<1073741824):IK c=some c:=by
 unfold IK xA xZ;simp[bC,h]
def ai4(a:dm)(L:a.cells.length<1073741823)(C:a.bz.length<1073741824)(D:a.br.length<1073741824)(E:∀ c∈a.cells,c.symbols.length<1073741824):Fk a=some a:=by
 unfold Fk xA bu xZ;have e:=cy (step:=KN) a.cells.length (λi=>(((),(),a.cells,(a.cells.length:Int),(i:Int),()),(((),(),(),()),((),(),(),()),([]:aa bY),([]:aa Int),([]:aa Int),a.cells.take i,(([]:aa Int)++a.bz),(([]:aa Int)++a.br),())))
  (.inl (((),(),()),(((),(),(),()),((),(),(),()),([]:aa bY),([]:aa Int),([]:aa Int),a.cells,(([]:aa Int)++a.bz),(([]:aa Int)++a.br),()))) aP (λk h=>by
  unfold KN ay xG xI;have I:min k a.cells.length=k:=by omega
  have J:bC (k+1)=true:=cQ;simp (disch:=omega) [h,bD,ayf _ (E _ (cU h)),I,J]) (by unfold KN ay xG xI;simp) (bI)
 rw[cq,List.take_zero]at e;rw[e];simp[bC,C,D]
def ayg(a:dm)(L:a.cells.length<1073741823)(C:a.bz.length<1073741824)(D:a.br.length<1073741824)(E:∀ c∈a.cells,c.symbols.length<1073741824):OV a=some a:=by
 unfold OV xA bu xZ;have e:=cy (step:=IL) a.cells.length (λi=>(((),(),(),(i:Int),()),((a.cells,a.bz,a.br,()),((),(),(),()),((),(),(),()),([]:aa bY),([]:aa Int),([]:aa Int),a.cells.take i,(([]:aa Int)++a.bz),(([]:aa Int)++a.br),())))
  (.inl (((),(),()),(((),(),(),()),((),(),(),()),([]:aa bY),([]:aa Int),([]:aa Int),a.cells,(([]:aa Int)++a.bz),(([]:aa Int)++a.br),()))) aP (λk h=>by
  unfold IL ay xG xI;have I:min k a.cells.length=k:=by omega
  have J:bC (k+1)=true:=cQ;simp (disch:=omega) [h,bD,ai3 _ (E _ (cU h)),I,J]) (by unfold IL ay xG xI;simp) (bI)
 rw[cq,List.take_zero]at e;rw[e];simp[bC,C,D]
def dY.lens{g:aM}{B:Int}{a:dm}(h:dY g B a):a.cells.length<1073741823/\a.bz.length<1073741824/\a.br.length<1073741824/\∀ c∈a.cells,c.symbols.length<1073741824:=by
 have D:=h.cells;have E:=h.bz;have I:=h.br;have J:=lH g;have L:=pJ g;exact⟨by omega,by omega,by omega,λc C=>by rw[(h.syms c C).1];omega⟩
def dY.copy{g:aM}{B:Int}{a:dm}(h:dY g B a):Fk a=some a:=
 let ⟨C,D,E,I⟩:=h.lens;ai4 a C D E I
def LN(c:bY):Bool:=sN c.symbols 11
def xB(p:Int×Int):Bool:=aL p.1 0 100000&&aL p.2 0 100000
def mW(g:aM)(a:dm):Bool:=cC g&&(decide ((a.cells.length:Int)=ez g)&&(decide ((a.bz.length:Int)=fY g)&&(decide ((a.br.length:Int)=fY g)&&(a.cells.all LN&&(a.bz.zip a.br).all xB))))
def ai5(g:aM)(a:dm)(I:∀ c∈a.cells,c.symbols.length<1073741824):Fb g a=some (mW g a):=by
 unfold Fb mW bQ;rw[oH,aq,xz,aq,LI];cases J:cC g with
 |false=>rfl
 | true=>
  have Q:=lH g;have T:=pJ g;have er:aW g*g.rows=fY g:=by simp[fY,J]
  simp only[bF,au,aq,cJ,er];rw[aR];by_cases C:(a.cells.length:Int)=ez g
  ·by_cases D:(a.bz.length:Int)=fY g
   ·by_cases E:(a.br.length:Int)=fY g
    ·have hl:a.bz.length=a.br.length:=by omega
     have l1:=gG (step:=Kz) a.cells LN (λi=>(((),a.cells,(a.cells.length:Int),(i:Int),()),((a.cells,a.bz,a.br,()),()))) (.inl ((false,()),())) (.inr (.inl (((),()),((a.cells,a.bz,a.br,()),())))) aP (λk h=>by
      unfold Kz ay aV xG xI;simp (disch:=omega) [h,bD,ai2 _ 11 (I _ (cU h)),LN];cases sN a.cells[k].symbols 11<;>rfl) (by unfold Kz ay aV xG xI;simp) (bI)
     have l2:=gG (step:=KA) (a.bz.zip a.br) xB (λi=>(((),(a.bz.length:Int),(i:Int),()),((a.cells,a.bz,a.br,()),()))) (.inl ((false,()),())) (.inr (.inl ((),()))) aP (λk h=>by
      have L:k<a.bz.length:=by simp at h;omega
      have O:k<a.br.length:=by omega
      unfold KA ay aV xG xI;simp (disch:=omega) [L,O,bD,dF,xB];cases aL a.bz[k] 0 100000<;>cases aL a.br[k] 0 100000<;>rfl) (by unfold KA ay aV xG xI;simp[hl]) (bI (by simp;omega))
     rw[cq]at l1 l2;simp only[C,D,E,bne_self_eq_false,au,decide_true,cJ];rw[<-C,l1];cases U:a.cells.all LN with
     |false=>simp
     | true=>
      simp only[ak,Option.bind_some,Sum.elim_inr,ef];rw[l2];cases (a.bz.zip a.br).all xB<;>simp
    ·simp[C,D,gH E,E]
   ·simp[C,gH D,D]
  ·simp[gH C,C]
def dY.ok{g:aM}{B:Int}{a:dm}(h:dY g B a)(E:cC g=true)(hB:B <= 100000):Fb g a=some true:=by
 rw[ai5 g a (λc C=>by rw[(h.syms c C).1];omega)];have I:=h.cells;have J:=h.bz;have L:=h.br;have O:a.cells.all LN=true:=cI.2 λc C=>(h.syms c C).ok
 have Q:(a.bz.zip _).all xB=true:=cI.2 λp T=>by
  obtain⟨x,y⟩:=p;have D:=List.of_mem_zip T;have U:=h.As x D.1;have Y:=h.iK y D.2;simp[xB,aO,bx];omega
 simp[mW,E,I,J,L,O,Q]
def RQ{b:aa Int}{c:bN}(C:jF b c)(l:aa Int)(hl:0<l.length):Dr b (Ac c l) λx=>x∈l:=by
 unfold Ac xI;rw[C.eq]
 refine(fl C _).bind λI J E D=>?_
 rw[aA ⟨E.1,by dsimp only;omega⟩];rw[D.eta];exact Dr.pure D (cU _)
def RR{b:aa Int}{c:bN}(C:jF b c)(n:Int):Dr b (B1 c n) λ_=>True:=by
 unfold B1;rw[C.eq]
 refine(fl C _).bind λE I J D=>?_
 rw[D.eta];exact Dr.pure D trivial
def mX(g:aM):(⟨g.cu,g.aC,g.rows,g.aN⟩:aM)=g:=rfl
def ayh{b:aa Int}{c:bN}(D:jF b c){g:aM}(C:cC g=true):Dr b (Ql c g) λa=>dK g a=true:=by
 have T:=LH C;have⟨_,_,_,_,U,Y,Z,g8⟩:=fo C;unfold Ql;rw[oI,aq,D.eq]
 refine(fl D _).bind λx1 k1 E I=>?_
 dsimp only;rw[I.eta]
 refine(fl I _).bind λx2 k2 J L=>?_
 dsimp only;rw[L.eta]
 refine(fl L _).bind λx3 k3 O Q=>?_
 dsimp only;rw[Q.eta];exact Dr.pure Q (vr C E.1 (E.2.2 (by omega)) J.1 (J.2.2 (by omega)) O.1 (O.2.2 (by omega)))
def mY(n x:Int):Int:=if 100000<x+n then 100000 else x+n
def Y8(l:aa Int)(h:∀ s∈l,0 <= s/\s <= 15):bk (l.map Int.toNat)=l/\dL (l.map Int.toNat):=by
 constructor
 ·induction l with
  |nil=>rfl
  | cons x l C=>
   have D:=h x (.head _);have:=C λs E=>h s (.tail _ E)
   grind
 ·intro x D
  grind
def LO{w:aa Nat}(D:dL w)(hl:w.length=11):Sy (bk w):=by
 refine⟨by rw[gM,hl],λs C=>?_⟩
 simp at C;obtain⟨x,E,rfl⟩:=C;have:=D x E;omega
def Sy.mem{l:aa bY}(h:∀c∈l,Sy c.symbols){k:Nat}(C:k<l.length):Sy l[k].symbols:=h _ (cU C)
def Sy.bW{l:aa bY}(h:∀c∈l,Sy c.symbols){k:Nat}{d:bY}(C:Sy d.symbols):∀c∈l.set k d,Sy c.symbols:=by grind
def LP{l:aa Int}{B C:Int}(h:∀x∈l,B <= x/\x <= C){k:Nat}{v:Int}(D:B <= v/\v <= C):∀x∈l.set k v,B <= x/\x <= C:=by grind
def xD(l:kR)(a:dm)(i:Nat):Bool:=decide (a.bz.getD i 0 > l.bz) ||decide (a.br.getD i 0 > l.br)
def ayi(g:aM)(l:kR)(a:dm)(i:Nat)(C:i<a.bz.length)(D:i<a.br.length):Jh g l a (i:Int)=some (xD l a i):=by
 unfold Jh xD xI
 grind
def ayj{l:aa Int}{B C:Int}(h:∀ x∈l,B<=x/\x<=C)(k:Nat)(D:B<=0/\0<=C):B<=l.getD k 0/\l.getD k 0<=C:=by
 rw[fk];cases E:l[k]? with
 |none=>exact D
 |some x=>exact h x (fT E)
def Y9{x:Int}(h:0<=x/\x<=100000){n:Int}(C:0<=n):0<=mY n x/\mY n x<=100000:=by
 unfold mY;split<;>omega
def pL(k:Nat)(h:aa Int):aa Int:=h.set k (mY 1 (h.getD k 0))
def LQ(k:Nat)(h:aa Int):(pL k h).length=h.length:=by simp[pL]
def RS{k:Nat}{h:aa Int}(hb:∀ x∈h,0<=x/\x<=100000):∀ x∈pL k h,0<=x/\x<=100000:=
 LP hb (Y9 (ayj hb k ⟨by omega,by omega⟩) (by omega))
def Za{k:Nat}{h:aa Int}(C:k<h.length):pL k h=h.set k (mY 1 h[k]):=by
 unfold pL;rw[fk,bX C];rfl
def At(row:Int)(i:Nat)(h:aa Int):aa Int:=bif decide (0<row)then pL (i-1) (h.set i 0)else h.set i 0
def vw(R row:Int)(i:Nat)(h:aa Int):aa Int:=bif decide (row<R-1)then pL (i+1) (At row i h)else At row i h
def ayk(row:Int)(i:Nat)(h:aa Int):(At row i h).length=h.length:=by
 unfold At;cases decide (0<row)<;>simp[LQ]
def ayl(R row:Int)(i:Nat)(h:aa Int):(vw R row i h).length=h.length:=by
 unfold vw;cases decide (row<R-1)<;>simp[LQ,ayk]
def aym{row:Int}{i:Nat}{h:aa Int}(hb:∀ x∈h,0<=x/\x<=100000):∀ x∈At row i h,0<=x/\x<=100000:=by
 have C:=LP hb (k:=i) (v:=0) ⟨by omega,by omega⟩;unfold At;cases decide (0<row)
 ·exact C
 ·exact RS C
def ayn{R row:Int}{i:Nat}{h:aa Int}(hb:∀ x∈h,0<=x/\x<=100000):∀ x∈vw R row i h,0<=x/\x<=100000:=by
 have C:=aym (row:=row) (i:=i) hb;unfold vw;cases decide (row<R-1)
 ·exact C
 ·exact RS C
def Gv{C:Type}(P:C->Prop)(o:ah C):Prop:=∃y,o=some y/\P y
def Gv.pure{C:Type}{P:C->Prop}{y:C}(h:P y):Gv P (some y):=⟨y,rfl,h⟩
def Gv.bind{α C:Type}{Q:α->Prop}{P:C->Prop}{f:ah α}{g:α->ah C}(h:Gv Q f)(D:∀ y,Q y->Gv P (g y)):Gv P (f.bind g):=by
 obtain⟨y,rfl,E⟩:=h;exact D y E
def ayo(x a b:Int):Gv (λy=>y=aL x a b) (cP x a b):=⟨_,eE x a b,rfl⟩
def ayp(k:Int):Gv (λy=>y=(aL k 1 5,k==1,(k==2 || k==3))) (Pb k):=by
 refine Gv.bind (ayo _ _ _) (λ_ h=>?_)
 subst h;cases h:k==2<;>exact Gv.pure (by simp)
def qF(t:c7):aa Int:=[t.jI,t.rp,t.gw,t.nq,t.jJ,t.jK,t.nt,t.nu,t.iY,t.wr,t.ny,t.nA,t.pT,t.nB,t.n8,t.xp,t.xs]
def Au(x:Int):Bool:=aL x 1 64
def jg(t:c7):Bool:=(qF t).all Au&&(decide (t.jI<=t.gw)&&(decide (t.nq<=t.jJ)&&(decide (t.nt<=t.nu)&&decide (t.ny<=t.nA))))
def RT(t:c7):E7 t=some (jg t):=by
 unfold E7 jg bQ;change (iter E6 aP (((),(),((qF t).length:Int),(0:Int),()),(t,qF t,()))).bind _=_;have C:(qF t).length=17:=rfl;generalize qF t=l at *
 have e:=gG (step:=E6) l Au (λi=>(((),(),(l.length:Int),(i:Int),()),(t,l,()))) _ (.inr (.inl (((),()),(t,())))) aP (λk h=>by
  unfold E6 ay aV xG xL;simp (disch:=omega) [h,bD,dF,Au];cases aL l[k] 1 64<;>rfl) (by unfold E6 ay aV xG xL;simp) (bI)
 rw[cq]at e;rw[e];cases l.all Au<;>simp
 grind
def RU(t:c7):B3 t=some (jg t):=by
 unfold B3 jg XE bQ;rw[aq];change (iter Ey aP (((),(),(0:Int),()),(t,qF t,()))).bind _=_;have C:(qF t).length=17:=rfl;generalize qF t=l at *
 have e:=gG (step:=Ey) l Au (λi=>(((),(),(i:Int),()),(t,l,()))) (.inl ((false,()),())) (.inr (.inl (((),()),(t,())))) aP (λk h=>by
  unfold Ey ay aV xG xL;simp (disch:=omega) [h,bD,eE,Au];cases aL l[k] 1 64<;>rfl) (by unfold Ey ay aV xG xL;simp) (bI)
 rw[cq]at e;rw[e];cases l.all Au<;>simp
 grind
def ayq(t:c7):IQ t=Ad t:=by
 unfold IQ Ad;rw[RT,RU]
def ayr(t:c7):∃ y,Ad t=some y:=by
 unfold Ad;rw[RT];cases jg t<;>exact⟨_,rfl⟩
def LR(R i:Nat):Int:=((i % R:Nat):Int)
def mz(n R:Nat):aa Int:=(List.range n).map (LR R)
def Zb(n R:Nat):(mz n R).length=n:=by simp[mz]
def ays(n R:Nat):mz (n+1) R=mz n R++[LR R n]:=by simp[mz,List.range_succ]
def jv(g:aM)(n:Int):Bool:=cC g&&(aL n 0 2&&decide (2<=g.rows-n))
def sO(g:aM)(n:Int):dH×Bool:=bif jv g n then (⟨n,mz ((aW g).toNat*(g.rows-n).toNat) (g.rows-n).toNat⟩,true)else (⟨0,[]⟩,false)
def RX{g:aM}{n:Int}(h:jv g n=true):cC g=true/\0 <= n/\n <= 2/\2 <= g.rows-n/\g.rows <= 16:=by
 simp[jv,aO,bx,gK]at h;have⟨C,⟨D,E⟩,I⟩:=h;have:=fo C;simp_all
def Zc(g:aM)(n:Int):Ex g n=some (sO g n):=by
 unfold Ex sO bu;rw[FP,aq];cases D:cC g with
 |false=>simp[jv,D]
 | true=>
  simp only[bF,au,eE,aq];cases E:aL n 0 2 with
  |false=>simp[jv,E]
  | true=>
   have U:=bx.1 E;have Y:=fo D;simp only[bF,au];rw[aR];by_cases I:g.rows-n<2
   ·have:decide (2<=g.rows-n)=false:=bh;rw[aS I,ak];simp[jv,this]
   ·have L:jv g n=true:=by simp[jv,D,E];omega
    rw[bh I,au,L,ak];have O:=fh g;obtain⟨C,hb⟩:=eX O.1;obtain⟨R,hR⟩:=eX (show 0<=g.rows-n by omega);have Z:C*R<=8*16:=Nat.mul_le_mul (by omega) (by omega);have hmul:W6 ((C:Int)*(R:Int))=((C*R:Nat):Int):=by
     rw[<-Int.natCast_mul];exact aR
    have J:W6 (g.rows-n)=(R:Int):=by rw[hR];exact aR
    have e:=cy (step:=IP) (C*R) (λi=>((n,(),(),(),(i:Int),()),((g.cu,g.aC,g.rows,g.aN,()),((0:Int),(),()),(n,(),()),([]:aa Int),mz i R,())))
     (.inl (((),(),()),(((0:Int),(),()),(n,(),()),([]:aa Int),mz (C*R) R,()))) aP (λk h=>by
     unfold IP ay xG;have Q:bC ((mz k R).length+1)=true:=cQ (by rw[Zb];omega);have T:(k:Int).tmod (R:Int)=LR R k:=by unfold LR;exact(Int.ofNat_tmod k R).symm
     dsimp only;rw[mX,oI,aq,J,hb,hmul,aS,ak,bM,T];simp only[List.length_cons,List.length_nil,fj];rw[Q,ak,bD,ays]) (by
     unfold IP ay xG;dsimp only;rw[mX,oI,aq,J,hb,hmul,bh,au]) (bI)
    rw[cq]at e
    refine(bH (λo=>Option.bind o _) e).trans ?_
    rw[hb,hR];rfl
def ayt(b R:Nat)(hR:0<R)(j:Nat)(C:j <= R):mz (b*R+j) R=mz (b*R) R++(List.range j).map (λi:Nat=>(i:Int)):=by
 unfold mz;rw[List.range_add,List.map_append,List.map_map];congr 1
 refine lN λi hi=>?_
 have hi:=fq.1 hi;simp only[Function.comp,LR];rw[Nat.mul_comm,Nat.mul_add_mod,Nat.mod_eq_of_lt (by omega)]
def ai6(g:aM)(n:Int):Kk g n=some (sO g n):=by
 unfold Kk sO bu;rw[xz,aq];cases C:cC g with
 |false=>simp[jv,C]
 | true=>
  simp only[bF,au,dF,aq];cases D:aL n 0 2 with
  |false=>simp[jv,D]
  | true=>
   have T:=bx.1 D;have U:=fo C;simp only[bF,au];rw[aR];by_cases I:g.rows-n<2
   ·have:decide (2<=g.rows-n)=false:=bh;rw[aS I,ak];simp[jv,this]
   ·have L:jv g n=true:=by simp[jv,C,D];omega
    rw[bh I,au,L,ak];have O:=fh g;obtain⟨E,hb⟩:=eX O.1;obtain⟨R,hR⟩:=eX (show 0<=g.rows-n by omega);have J:W6 (g.rows-n)=(R:Int):=by rw[hR];exact aR
    have inner:∀ b:Nat,b<E->iter E2 aP ((n,(),(),(),(b:Int),(0:Int),()),((g.cu,g.aC,g.rows,g.aN,()),((0:Int),(),()),(n,(),()),([]:aa Int),mz (b*R) R,()))=some (.inl ((n,(),(),(),(b:Int),()),((g.cu,g.aC,g.rows,g.aN,()),((0:Int),(),()),(n,(),()),([]:aa Int),mz ((b+1)*R) R,()))):=by
     intro b Y;have Z:b*R<=8*16:=Nat.mul_le_mul (by omega) (by omega);have e:=cy (step:=E2) R (λj=>((n,(),(),(),(b:Int),(j:Int),()),((g.cu,g.aC,g.rows,g.aN,()),((0:Int),(),()),(n,(),()),([]:aa Int),mz (b*R) R++(List.range j).map (λi:Nat=>(i:Int)),())))
      (.inl ((n,(),(),(),(b:Int),()),((g.cu,g.aC,g.rows,g.aN,()),((0:Int),(),()),(n,(),()),([]:aa Int),mz (b*R) R++(List.range R).map (λi:Nat=>(i:Int)),()))) aP (λk h=>by
      unfold E2 ay xG;have Q:bC ((mz (b*R) R++(List.range k).map (λi:Nat=>(i:Int))).length+1)=true:=cQ (by simp[Zb];omega);dsimp only;rw[J,aS,ak];simp only[List.length_cons,List.length_nil,fj];rw[Q,ak,bD,List.range_succ,List.map_append,List.append_assoc];rfl) (by
      unfold E2 ay xG;dsimp only;rw[J,bh,au]) (bI)
     rw[cq,List.range_zero,List.map_nil,List.append_nil]at e;rw[e,<-ayt b R (by omega) R (eK _),iC]
    have e:=cy (step:=Kj) E (λi=>((n,(),(),(),(i:Int),()),((g.cu,g.aC,g.rows,g.aN,()),((0:Int),(),()),(n,(),()),([]:aa Int),mz (i*R) R,())))
     (.inl (((),(),()),(((0:Int),(),()),(n,(),()),([]:aa Int),mz (E*R) R,()))) aP (λk h=>by
     unfold Kj ay xG bu;dsimp only;rw[mX,oH,aq,hb,aS,ak]
     refine(bH (λo=>Option.bind o _) (inner k h)).trans ?_
     rw[aq];simp only[ef];rw[bD]) (by
     unfold Kj ay xG bu;dsimp only;rw[mX,oH,aq,hb,bh,au]) (bI)
    rw[cq,Nat.zero_mul]at e
    refine(bH (λo=>Option.bind o _) e).trans ?_
    rw[hb,hR];rfl
def CO(t:c7):Int:=(Ad t).getD 0
def ai7(t:c7):Ad t=some (CO t):=by
 obtain⟨y,e⟩:=ayr t;unfold CO;rw[e];rfl
def ayu(t:c7):IQ t=some (CO t):=by rw[ayq,ai7]
def Zd(m:kQ):Kp m=some (aL m.order 0 2):=by
 unfold Kp;rw[dF];rfl
def ayv(m:kQ):Ez m=some (aL m.order 0 2):=by
 unfold Ez;rw[eE];rfl
def nU(c:eT):Bool:=cC c.az&&(jg c.bL&&(aL c.mapping.order 0 2&&(jv c.az c.bP&&(aL c.interval (CO c.bL) 10000&&(aL c.gU 1 16&&(aL c.dU.bz (W6 ((6:Int)*c.interval)) 100000&&aL c.dU.br 0 100000))))))
def RY(g:aM)(n:Int):(sO g n).2=jv g n:=by
 unfold sO;cases jv g n<;>rfl
def RZ(c:eT):Qu c=some (nU c):=by
 unfold Qu nU;simp only[ai6,xz,RT,Zd,ai7,dF,aq,RY];cases cC c.az<;>cases jg c.bL<;>cases aL c.mapping.order 0 2<;>cases jv c.az c.bP<;>cases aL c.interval (CO c.bL) 10000<;>cases aL c.gU 1 16<;>cases aL c.dU.bz (W6 ((6:Int)*c.interval)) 100000<;>rfl
def ayw(c:eT):O0 c=some (nU c):=by
 unfold O0 nU;simp only[Zc,RU,ayv,ayu,eE,aq,RY];cases h:jv c.az c.bP with
 |false=>cases cC c.az<;>cases jg c.bL<;>cases aL c.mapping.order 0 2<;>rfl
 | true=>
  rw[(RX h).1];cases jg c.bL<;>cases aL c.mapping.order 0 2<;>cases aL c.interval (CO c.bL) 10000<;>cases aL c.gU 1 16<;>cases aL c.dU.bz (W6 ((6:Int)*c.interval)) 100000<;>rfl
def ai8{c:eT}(h:nU c=true):cC c.az=true/\jg c.bL=true/\jv c.az c.bP=true/\aL c.gU 1 16=true:=by
 simp[nU,aO]at h;simp_all
def ai9{t:c7}(h:jg t=true):(1 <= t.gw/\t.gw <= 64)/\1 <= t.rp/\t.rp <= 64:=by
 simp[jg,aO,cI]at h;have C:=h.1 t.gw (by simp[qF]);have D:=h.1 t.rp (by simp[qF]);simp[Au,bx]at C D;simp_all
def nW(s:cw):Bool:=aL s.weight 1 9&&aL s.fy 0 s.weight
def gN(l:aa cw):Bool:=l.all nW&&aL (l.length:Int) 1 4
def LS(l:aa cw)(hl:l.length<1073741824):E8 l=some (gN l):=by
 unfold E8 gN bQ;have e:=gG (step:=Kq) l nW (λi=>((l,l,l.length,i,()),())) _ (.inr (.inl ((l,()),()))) aP (λk h=>by
  unfold Kq ay aV xG xI;simp (disch:=omega) [h,bD,dF,nW];cases aL l[k].weight 1 9<;>cases aL l[k].fy 0 l[k].weight<;>rfl) (by unfold Kq ay aV xG xI;simp) (bI hl)
 rw[cq]at e;rw[e];cases l.all nW<;>simp[dF]
def aja(l:aa cw)(hl:l.length<1073741824):IT l=some (gN l):=by
 unfold IT gN bQ;have e:=gG (step:=IS) l nW (λi=>((l,i,()),())) _ (.inr (.inl ((l,()),()))) aP (λk h=>by
  unfold IS ay aV xG xI;simp (disch:=omega) [h,bD,eE,nW];cases aL l[k].weight 1 9<;>cases aL l[k].fy 0 l[k].weight<;>rfl) (by unfold IS ay aV xG xI;simp) (bI hl)
 rw[cq]at e;rw[e];cases l.all nW<;>simp[eE]
def jG(w:Int):cw:=⟨w,w⟩
def xE(l:aa Int):aa cw×Bool:=bif gN (l.map jG)then (l.map jG,true)else ([],false)
def ajb{l:aa Int}{k:Nat}(h:k<l.length):(l.take (k+1)).map jG=(l.take k).map jG++[⟨l[k],l[k]⟩]:=by
 rw[List.take_succ_eq_append_getElem h,List.map_append];rfl
def Ze(l:aa Int)(hl:l.length<1073741823):Ae l=some (xE l):=by
 unfold Ae xE bu;have e:=cy (step:=Kr) l.length (λi=>(((),l,(l.length:Int),(i:Int),()),((l.take i).map jG,()))) _ aP (λk h=>by
  unfold Kr ay xG xI;have C:bC (((l.take k).map jG).length+1)=true:=cQ (by simp;omega);dsimp only;rw[aS,ak,aA ⟨by omega,by omega⟩];simp only[List.length_cons,List.length_nil,fj,bB];rw[C,ak,bD,ajb h]) (by
  unfold Kr ay xG xI;dsimp only;rw[bh,au,jl]) (bI)
 refine(bH (λo=>Option.bind o _) e).trans ?_
 rw[aq];simp only[ef];rw[LS _ (by simp;omega),aq]
 grind
def Zf(l:aa Int)(hl:l.length<1073741823):zP l=some (xE l):=by
 unfold zP xE bu;have e:=cy (step:=IU) (min l.length 5) (λi=>((l,(),(i:Int),()),((l.take i).map jG,()))) (.inl (((),()),((l.take 5).map jG,()))) aP (λk h=>by
  have C:k<l.length:=by omega
  unfold IU ay xG xI;have D:bC (((l.take k).map jG).length+1)=true:=cQ (by simp;omega);dsimp only;rw[aS,ak,aS,ak,aA ⟨by omega,by omega⟩,aA ⟨by omega,by omega⟩];simp only[List.length_cons,List.length_nil,fj,bB];rw[D,ak,bD,ajb C]) (by
  unfold IU ay xG xI;dsimp only;by_cases c:l.length <= 5
  ·rw[Nat.min_eq_left c,jl,List.take_of_length_le c];by_cases J:l.length=5
   ·rw[bh,au]
   ·rw[bh,au]
  ·rw[Nat.min_eq_right (by omega),aS,ak,bh,au]) (bI)
 rw[cq,List.take_zero,List.map_nil]at e
 refine(bH (λo=>Option.bind o _) e).trans ?_
 rw[aq];simp only[ef];rw[aja _ (by simp;omega),aq];by_cases c:l.length <= 5
 ·rw[List.take_of_length_le c];cases gN _<;>rfl
 ·have E:gN (l.map jG)=false:=by
   unfold gN;have:aL ((l.map jG).length:Int) 1 4=false:=by
    rw[Bool.eq_false_iff];intro h;have:=(bx.1 h).2
    grind
   rw[this,Bool.and_false]
  have I:gN ((l.take 5).map jG)=false:=by
   unfold gN;have:aL (((l.take 5).map jG).length:Int) 1 4=false:=by
    rw[Bool.eq_false_iff];intro h;have:=(bx.1 h).2
    grind
   rw[this,Bool.and_false]
  rw[E,I];rfl
def ajc(l:aa Int):(xE l).2=gN (l.map jG):=by
 unfold xE;cases gN (l.map jG)<;>rfl
def kH(d:gx):Bool:=decide (d.low >= 0)&&(decide (d.low<d.high)&&decide (d.high<=12))
def R0(d:gx):Cr d=some (kH d):=by
 unfold Cr kH
 grind
def Zg(d:gx):EA d=some (kH d):=by
 unfold EA kH
 grind
def xF(r:n9):Bool:=aL r.down 1 10000&&(decide (r.sleep > r.down)&&decide (r.sleep<=20000))
def ajd(r:n9):Kt r=some (xF r):=by
 unfold Kt xF;rw[dF]
 grind
def aje(r:n9):IV r=some (xF r):=by
 unfold IV xF;rw[eE]
 grind
def pM(p:dJ):Bool:=aL p.eS 0 1&&(aL p.cap 0 100000&&(aL p.eZ 3 1000&&(kH ⟨false,p.low,p.high⟩&&((p.weights.length:Int)==4&&(gN (p.weights.map jG)&&xF p.dS)))))
def Zh(p:dJ)(hl:p.weights.length<1073741823):EB p=some (pM p):=by
 unfold EB pM;simp[Zf _ hl,aq,eE,Zg,aje,ajc]
 grind
def ayx(x:Int):aL x 0 1=(x==0 || x==1):=by
 rw[Bool.eq_iff_iff];simp[aL];omega
def R1(p:dJ)(hl:p.weights.length<1073741823):Qx p=some (pM p):=by
 unfold Qx pM;simp[Ze _ hl,aq,dF,R0,ajd,ajc,ayx]
 grind
def ayy(x:Int):O1 x=Af x:=by
 unfold O1 Af;rw[eE,dF]
def Zi(x:Int):∃ y,Af x=some y:=by
 unfold Af;rw[dF];cases aL x 3 1000<;>exact⟨_,rfl⟩
def Zj(c:eT)(p:dJ)(hl:p.weights.length<1073741823):∃ b,sI c p=some b/\(b=true->nU c=true):=by
 unfold sI;obtain⟨y,e⟩:=Zi p.eZ;simp only[RZ,R1 _ hl,e,aq];cases C:nU c with
 |false=>exact⟨false,rfl,λh=>by cases h⟩
 | true=>
  have E:=ai9 (ai8 C).2.1;have D:¬ W6 (c.bL.gw+c.bL.rp)=0:=by
   rw[aR];omega
  cases pM p with
  |false=>exact⟨false,rfl,λ_=>rfl⟩
  | true=>
   simp only[bM D,bF,au,ak];cases decide (W6 (y+2)<=c.dU.br)<;>exact⟨_,rfl,λ_=>by first|rfl|trivial⟩
def ayz(c:eT)(p:dJ)(hl:p.weights.length<1073741823):∃ b,sI c p=some b/\B4 c p=some b/\(b=true->nU c=true):=by
 unfold sI B4;obtain⟨y,e⟩:=Zi p.eZ;simp only[RZ,ayw,R1 _ hl,Zh _ hl,ayy,e,aq];cases C:nU c with
 |false=>exact⟨false,rfl,rfl,λh=>by cases h⟩
 | true=>
  have E:=ai9 (ai8 C).2.1;have D:¬ W6 (c.bL.gw+c.bL.rp)=0:=by
   rw[aR];omega
  cases pM p with
  |false=>exact⟨false,rfl,rfl,λ_=>rfl⟩
  | true=>
   simp only[bM D,bF,au,ak];cases decide (W6 (y+2)<=c.dU.br)<;>exact⟨_,rfl,rfl,λ_=>by first|rfl|trivial⟩
def ajf(i:Nat)(l:aa eP):((opens i l).length==0)=l.all λb=>!b.open_:=by
 induction l generalizing i with
 |nil=>rfl
 | cons x a C=>
  simp[opens,List.all_cons]
  grind
def Av(g:aM)(b:eP):Bool:=aL b.row 0 (g.rows-1)&&(b.open_ ||b.row==0)
def mZ(g:aM)(r:cK):Bool:=cC g&&(((r.aC.length:Int)==aW g)&&(aL r.bg 0 2&&(r.aC.all (Av g)&&(r.bg != 2 ||r.aC.all λb=>!b.open_))))
def ajg(g:aM)(r:cK):Kv g r=some (mZ g r):=by
 unfold Kv mZ bQ;rw[xz,aq,oH];cases D:cC g with
 |false=>rfl
 | true=>
  simp only[bF,au,aq,cJ];by_cases C:(r.aC.length:Int)=aW g
  ·have I:=fh g;have J:=fo D;simp only[C,bne_self_eq_false,au,ni,cJ,dF,aq];cases L:aL r.bg 0 2 with
   |false=>rfl
   | true=>
    have e:=gG (step:=Ku) r.aC (Av g) (λi=>(((),(),r.aC,(r.aC.length:Int),(i:Int),()),((g.cu,g.aC,g.rows,g.aN,()),(r.aC,r.bg,()),()))) (.inl ((false,()),())) (.inr (.inl (((),()),((r.aC,r.bg,()),())))) aP (λk h=>by
     unfold Ku ay aV xG xI;dsimp only;rw[aS,ak,aA ⟨by omega,by omega⟩];simp only[bB,dF,aq];rw[aR (n:=g.rows-1),bD];unfold Av;cases aL r.aC[k].row 0 (g.rows-1)with
     |false=>rfl
     | true=>
      cases r.aC[k].open_ with
      |true=>rfl
      | false=>
       simp[bne];cases r.aC[k].row==0<;>rfl) (by
     unfold Ku ay aV xG xI;dsimp only;rw[bh,au]) (bI)
    rw[cq,C]at e;simp only[bF,au,cJ]
    refine(bH (λo=>Option.bind o _) e).trans ?_
    rw[aq];cases r.aC.all (Av g)with
    |false=>rfl
    | true=>
     simp only[ak,Sum.elim_inr,ef,cJ];cases O:r.bg != 2 with
     |true=>rfl
     | false=>
      simp;rw[RL ⟨r.aC,r.bg⟩ (by show r.aC.length<_;omega),aq,<- ajf 0 r.aC];congr 1
      grind
  ·have E:((r.aC.length:Int)==aW g)=false:=by simp[C]
   rw[gH C,E];rfl
def xH(d:Int):Bool:=aL d (-2) 5
def eA(r:cY):Bool:=r.aJ.all xH&&(aL (r.aJ.length:Int) 1 8&&aL r.wait 1 10000)
def LU(r:cY)(hl:r.aJ.length<1073741824):Ai r=some (eA r):=by
 unfold Ai eA bQ;have e:=gG (step:=KB) _ xH (λi=>(((),r.aJ,r.aJ.length,i,()),((r.aJ,r.wait,r.dD,()),()))) _ (.inr (.inl (((),()),((r.aJ,r.wait,r.dD,()),())))) aP (λk h=>by
  unfold KB ay aV xG xI;simp (disch:=omega) [h,bD,dF,xH];cases aL r.aJ[k] _ 5<;>rfl) (by unfold KB ay aV xG xI;simp) (bI hl)
 rw[cq]at e;rw[e];cases r.aJ.all xH<;>simp[dF]
 grind
def R2(r:cY)(hl:r.aJ.length<1073741824):Cb r=some (eA r):=by
 unfold Cb eA bQ;have e:=gG (step:=Jt) _ xH (λi=>(((),i,()),((r.aJ,r.wait,r.dD,()),()))) _ (.inr (.inl (((),()),((r.aJ,r.wait,r.dD,()),())))) aP (λk h=>by
  unfold Jt ay aV xG xI;simp (disch:=omega) [h,bD,eE,xH];cases aL r.aJ[k] _ 5<;>rfl) (by unfold Jt ay aV xG xI;simp) (bI hl)
 rw[cq]at e;rw[e];cases r.aJ.all xH<;>simp[eE]
 grind
def gu{T:Type}(p:T->Bool)(l:aa T):Int:=match l.findIdx? p with
 |some i=>(i:Int)
 |none=>-1
def vA{α β T:Type}{step:α -> ah (α⊕β)}(l:aa T)(p:T -> Bool)(S:Nat -> α)(D:Nat -> β)(z:β)(fuel:Nat)(E:∀ k (h:k<l.length),step (S k)=some (bif p l[k]then .inr (D k)else .inl (S (k+1))))(I:step (S l.length)=some (.inr z))(C:l.length<fuel):
  iter step fuel (S 0)=some (match l.findIdx? p with|some i=>D i|none=>z):=by
 have key:∀ (n i fuel:Nat),i+n=l.length -> n<fuel -> (∀ j (h:j<l.length),j<i -> p l[j]=false) -> iter step fuel (S i)=some (match l.findIdx? p with | some i=>D i | none=>z):=by
  intro n
  induction n with
  | zero=>
   intro i fuel hi C J
   match fuel,C with
   | f+1,_=>
    have:i=l.length:=by omega
    subst this;have e:l.findIdx? p=none:=by
     rw[List.findIdx?_eq_none_iff];intro x L;obtain⟨j,O,rfl⟩:=jA.1 L
     grind
    unfold iter;rw[I,e]
  | succ n Q=>
   intro i fuel hi C J
   match fuel,C with
   | f+1,C=>
    have U:i<l.length:=by omega
    unfold iter;rw[E i U];cases Y:p l[i]with
    | true=>
     have e:l.findIdx? p=some i:=by
      rw[nj]
      grind
     rw[e];rfl
    | false=>
     simp only[au]
     refine Q (i+1) f (by omega) (by omega) λj O Z=>?_
     by_cases e:j=i
     ·grind
     ·grind
 exact key l.length 0 fuel (by omega) C λj _ h=>by omega
def LV{T:Type}{p:T -> Bool}{l:aa T}{i:Nat}(h:i<l.length)(E:p l[i]=true):(gu p l != (i:Int))=(l.take i).any p:=by
 unfold gu;cases C:(l.take i).any p with
 | false=>
  have e:l.findIdx? p=some i:=by
   rw[nj]
   refine⟨h,E,λj D=>?_⟩
   have:=mC.1 C l[j] (jA.2 ⟨j,by simp;omega,by simp⟩);exact this
  rw[e];simp
 | true=>
  have⟨x,I,L⟩:=List.any_eq_true.1 C;obtain⟨j,D,rfl⟩:=jA.1 I;rw[fP]at D;cases J:l.findIdx? p with
  |none=>simp
  | some k=>
   have⟨O,Q,U⟩:=nj.1 J;have:k≠i:=by
    grind
   simp only;simp;omega
def R3(x:Int):Bool:=aL x 0 4294967295
def pN(n:Int)(r:aX):Bool:=aL r.id 1 100000&&(aL r.dI 0 3&&(decide (r.line >= 0)&&(decide (r.line<n)&&(R3 r.data&&((r.write ||r.data==0)&&aL r.at_ 0 1000000)))))
def ayA(n:Int)(r:aX):QE n r=some (pN n r):=by
 unfold QE pN Cw R3;simp[dF]
 grind
def ayB(n:Int)(r:aX):O7 n r=some (pN n r):=by
 unfold O7 pN I0 R3;simp[eE]
 grind
def fR(x y:aX):Bool:=decide (x.at_<y.at_) ||(x.at_==y.at_&&decide (x.id<y.id))
def ajh(x y:aX):QD x y=some (fR x y):=by
 unfold QD fR
 grind
def aji(x y:aX):O8 x y=some (fR x y):=ajh x y
def Zk(l:aa aX)(id:Int)(hl:l.length<1073741824):I2 l id=some (gu (λr=>r.id==id) l):=by
 unfold I2 gu bQ;have e:=vA (step:=I1) l (λr=>r.id==id) (λi=>((l,id,i,()),())) _ (.inr (.inl ((),()))) aP (λk h=>by
  unfold I1 ay aV xG xI;simp (disch:=omega) [h,bD];cases l[k].id==id<;>rfl) (by unfold I1 ay aV xG xI;simp) (bI hl)
 rw[cq]at e;rw[e];cases l.findIdx? _<;>rfl
def rR(n:Int)(q:aa aX)(i:Nat):Bool:=match q[i]? with
 |some r=>pN n r&&((i==0 ||(match q[i-1]? with|some x=>fR x r|none=>false)) && !((q.take i).any λx=>x.id==r.id))
 |none=>false
def Zl{n:Int}{q:aa aX}(h:0<q.length):rR n q 0=pN n q[0]:=by
 unfold rR;rw[bX h];simp
def LW{n:Int}{q:aa aX}{i:Nat}(h:i+1<q.length):rR n q (i+1)=(pN n q[i+1]&&(fR q[i] q[i+1] && !((q.take (i+1)).any λx=>x.id==q[i+1].id))):=by
 unfold rR
 grind
def iU(n:Int)(q:aa aX):Bool:=(List.range q.length).all (rR n q)&&decide ((q.length:Int)<=12)
def ajj(n:Int)(q:aa aX):xd n q=some (iU n q):=by
 unfold xd iU bQ;by_cases c:(q.length:Int)<=12
 ·rw[bh (show ¬ (q.length:Int) > 12 by omega),au,aS c,Bool.and_true];have e:=gG (step:=I3) (List.range q.length) (rR n q) (λi=>((n,q,(i:Int),()),())) (.inl ((false,()),())) (.inr (.inl ((),()))) aP (λk h=>by
   rw[dh]at h;rw[ko];unfold I3 ay aV xG xI;dsimp only;rw[aS,ak,aA ⟨by omega,by omega⟩];simp only[bB,ayB,aq];cases k with
   | zero=>
    rw[Zl h];cases pN n q[0]with
    |false=>rfl
    | true=>
     simp only[bF,au,ak];rw[bh,au,aA ⟨by omega,h⟩,Zk _ _ (by omega),aq,LV h (by simp)];simp;rfl
   | succ k=>
    rw[LW h];cases pN n q[k+1]with
    |false=>rfl
    | true=>
     simp only[bF,au,cJ];have C:W6 (((k+1:Nat):Int)-1)=(k:Int):=by rw[aR];omega
     simp only[C,bB];rw[aS,ak,aA ⟨by omega,by omega⟩,aA ⟨by omega,h⟩,aji,aq];cases fR q[k] q[k+1]with
     |false=>rfl
     | true=>
      simp only[bF,au,cJ];rw[aA ⟨by omega,h⟩,Zk _ _ (by omega),aq,LV h (by simp),bD];cases (q.take (k+1)).any λx=>x.id==q[k+1].id<;>rfl) (by
   rw[dh];unfold I3 ay aV xG xI;dsimp only;rw[bh,au]) (by rw[dh];exact bI)
  rw[cq]at e
  refine(bH (λo=>Option.bind o _) e).trans ?_
  rw[aq];cases (List.range q.length).all (rR n q)<;>rfl
 ·rw[aS (show (q.length:Int) > 12 by omega),ak,bh c,Bool.and_false]
def ayC(n:Int)(q:aa aX){i:Nat}(h:i<q.length)(hl:q.length<1073741824):
  iter Fe aP ((n,q,(),q,(q.length:Int),(i:Int),((q.take i).drop 0),(((q.take i).drop 0).length:Int),(0:Int),()),((q[i].id,q[i].dI,q[i].line,q[i].write,q[i].data,q[i].at_,()),()))=some (bif (q.take i).any (λx=>x.id==q[i].id)then .inl ((false,()),())else .inr (.inl ((n,q,q,(q.length:Int),(i:Int),()),()))):=by
 rw[List.drop_zero];have hlen:(q.take i).length=i:=by rw[fP];omega
 generalize C:q[i]=r;generalize D:q.take i=t at *
 have e:=gG (step:=Fe) t (λx=>!(x.id==r.id)) (λj=>((n,q,(),q,(q.length:Int),(i:Int),t,(t.length:Int),(j:Int),()),((r.id,r.dI,r.line,r.write,r.data,r.at_,()),()))) (.inl ((false,()),())) _ aP (λk h=>by
  unfold Fe ay aV xG xI;dsimp only;rw[aS,ak,aA ⟨by omega,by omega⟩];simp only[bB];rw[bD];cases t[k].id==r.id<;>rfl) (by
  unfold Fe ay aV xG xI;dsimp only;rw[bh,au]) (bI)
 grind
def ayD(n:Int)(q:aa aX)(hl:q.length<1073741824):QF n q=some (iU n q):=by
 unfold QF iU bQ;have e:=gG (step:=KH) (List.range q.length) (rR n q) (λi=>((n,q,q,(q.length:Int),(i:Int),()),())) (.inl ((false,()),())) (.inr (.inl ((q,()),()))) aP (λk h=>by
   rw[dh]at h;rw[ko];unfold KH ay aV xG xI bQ;dsimp only;rw[aS,ak,aA ⟨by omega,by omega⟩];simp only[bB,ayA,aq];have C:=ayC n q h hl;cases k with
   | zero=>
    rw[Zl h];cases pN n q[0]with
    |false=>rfl
    | true=>
     simp only[bF,au,ak];rw[bh,au,bA ⟨by omega,by omega,by omega⟩]
     refine(bH (λo=>Option.bind o _) C).trans ?_
     simp;rfl
   | succ k=>
    rw[LW h];cases pN n q[k+1]with
    |false=>rfl
    | true=>
     simp only[bF,au,cJ];have D:W6 (((k+1:Nat):Int)-1)=(k:Int):=by rw[aR];omega
     simp only[D,bB];rw[aS,ak,aA ⟨by omega,by omega⟩,ajh,aq];cases fR q[k] q[k+1]with
     |false=>rfl
     | true=>
      simp only[bF,au,cJ];rw[bA ⟨by omega,by omega,by omega⟩]
      refine(bH (λo=>Option.bind o _) C).trans ?_
      rw[aq];cases (q.take (k+1)).any λx=>x.id==q[k+1].id with
      |true=>rfl
      | false=>
       simp only[au,Sum.elim_inr,ef];rw[bD];rfl) (by
   rw[dh];unfold KH ay aV xG xI bQ;dsimp only;rw[bh,au]) (by rw[dh];exact bI)
 rw[cq]at e
 refine(bH (λo=>Option.bind o _) e).trans ?_
 rw[aq];cases (List.range q.length).all (rR n q)<;>rfl
def iL(p:eR):Bool:=aL p.state 0 2&&(aL p.since 0 1000000&&aL p.idle 0 1000000)
def R4(p:eR):Cx p=some (iL p):=by
 unfold Cx iL;simp[dF]
 grind
def Zm(p:eR):xk p=some (iL p):=by
 unfold xk iL;simp[eE]
 grind
def xJ(e:cv):Bool:=aL e.line 0 1023&&((e.code==1 ||e.code==2)&&aL e.times 1 999)
def lI(e x:cv):Bool:=x.line==e.line&&x.code==e.code
def FQ(l:aa cv)(i:Nat):Bool:=match l[i]? with
 |some e=>xJ e && !((l.take i).any (lI e))
 |none=>false
def R5{l:aa cv}{i:Nat}(h:i<l.length):FQ l i=(xJ l[i] && !((l.take i).any (lI l[i]))):=by
 unfold FQ;rw[bX h]
def kI(l:aa cv):Bool:=(List.range l.length).all (FQ l)&&decide ((l.length:Int)<=6)
def ajk(l:aa cv)(e:cv)(hl:l.length<1073741824):JC l e.line e.code=some (gu (lI e) l):=by
 unfold JC gu bQ;have e:=vA (step:=JB) l (lI e) (λi=>((l,e.line,e.code,i,()),())) _ _ aP (λk h=>by
  unfold JB lI ay aV xG xI;dsimp only;rw[aS,ak,aA ⟨by omega,by omega⟩,aA ⟨by omega,by omega⟩];simp only[bB];rw[bD];cases l[k].line==e.line<;>cases l[k].code==e.code<;>rfl) (by
  unfold JB ay aV xG xI;dsimp only;rw[bh,au]) (bI hl)
 rw[cq]at e;rw[e];cases l.findIdx? _<;>rfl
def ayE(l:aa cv):PJ l=some (kI l):=by
 unfold PJ kI bQ;by_cases c:(l.length:Int) <= 6
 ·rw[bh (show ¬ (l.length:Int) > 6 by omega),au,aS c,Bool.and_true];have e:=gG (step:=JD) _ (FQ l) (λi=>((l,(i:Int),()),())) _ _ aP (λk h=>by
   rw[dh]at h;rw[ko,R5 h];unfold JD EP xJ ay aV xG xI;dsimp only;rw[aS,ak,aA ⟨by omega,by omega⟩,aA ⟨by omega,by omega⟩,aA ⟨by omega,by omega⟩];simp only[bB,eE,aq];rw[ajk _ _ (by omega),aq,LV h (by simp[lI]),bD];cases aL l[k].line 0 1023<;>cases l[k].code==1<;>cases l[k].code==2<;>cases aL l[k].times 1 999<;>cases (l.take k).any (lI l[k])<;>rfl) (by
   rw[dh];unfold JD ay aV xG xI;dsimp only;rw[bh,au]) (by rw[dh];exact bI)
  refine(bH (λo=>Option.bind o _) e).trans ?_
  rw[aq];cases (List.range l.length).all (FQ l)<;>rfl
 ·rw[aS (show (l.length:Int) > 6 by omega),ak,bh c,Bool.and_false]
def ayF(l:aa cv){i:Nat}(h:i<l.length)(hl:l.length<1073741824):
  iter Ff aP ((l,(),l,(l.length:Int),(i:Int),((l.take i).drop 0),(((l.take i).drop 0).length:Int),(0:Int),()),((l[i].line,l[i].code,l[i].times,()),()))=some (bif (l.take i).any (lI l[i])then .inl ((false,()),())else .inr (.inl ((l,l,(l.length:Int),(i:Int),()),()))):=by
 rw[List.drop_zero];have hlen:(l.take i).length=i:=by rw[fP];omega
 generalize C:l[i]=r;generalize D:l.take i=t at *
 have e:=gG (step:=Ff) t (λx=>!(lI r x)) (λj=>((l,(),l,(l.length:Int),(i:Int),t,(t.length:Int),(j:Int),()),((r.line,r.code,r.times,()),()))) _ _ aP (λk h=>by
  unfold Ff lI ay aV xG xI;dsimp only;rw[aS,ak,aA ⟨by omega,by omega⟩];simp only[bB];rw[bD,BEq.comm (a:=r.line),BEq.comm (a:=r.code)];cases t[k].line==r.line<;>cases t[k].code==r.code<;>rfl) (by
  unfold Ff ay aV xG xI;dsimp only;rw[bh,au]) (bI)
 grind
def ajl(l:aa cv)(hl:l.length<1073741824):KJ l=some (kI l):=by
 unfold KJ kI bQ;have e:=gG (step:=KI) _ (FQ l) (λi=>((l,l,l.length,i,()),())) _ _ aP (λk h=>by
   rw[dh]at h;rw[ko,R5 h];have C:=ayF l h hl;unfold KI xJ ay aV xG xI bQ;dsimp only;rw[aS,ak,aA ⟨by omega,by omega⟩];simp only[bB,dF,aq,bne];rw[bA ⟨by omega,by omega,by omega⟩];rw[show (0:Int).toNat=0 from rfl,C];cases aL l[k].line 0 1023<;>cases l[k].code==1<;>cases l[k].code==2<;>cases aL l[k].times 1 999<;>cases (l.take k).any (lI l[k])<;>first|rfl|(simp only[ak,au,bF,iq,aq,Sum.elim_inr,ef];rw[bD];rfl)) (by
   rw[dh];unfold KI ay aV xG xI bQ;dsimp only;rw[bh,au]) (by rw[dh];exact bI)
 refine(bH (λo=>Option.bind o _) e).trans ?_
 cases (List.range _).all _<;>rfl
def R6(l:aa Int)(x:Int)(hl:l.length<1073741824):Cu l x=some (gu (λe=>x==e) l):=by
 unfold Cu gu;have e:=vA (step:=KE) l (λe=>x==e) (λi=>((l,x,l.length,i,()),())) _ _ aP (λk h=>by
  unfold KE ay aV xG xI;dsimp only;rw[aS,ak,aA ⟨by omega,by omega⟩];simp only[bB];rw[bD];cases x==l[k]<;>rfl) (by
  unfold KE ay aV xG xI;dsimp only;rw[bh,au]) (bI hl)
 rw[cq]at e;rw[e];cases l.findIdx? _<;>rfl
def CP(t:cr)(i:Nat):Bool:=match t.rows[i]?,t.counts[i]? with
 |some r,some c=>aL r (-1) 15&&(aL c t.dc 100000&&((r != -1 ||c==0)&&(r == -1 ||!((t.rows.take i).any λx=>r==x))))
 |_,_=>false
def R7{t:cr}{i:Nat}(h:i<t.rows.length)(C:i<t.counts.length):CP t i=(aL t.rows[i] (-1) 15&&(aL t.counts[i] t.dc 100000&&((t.rows[i] != -1 || t.counts[i]==0)&&(t.rows[i] == -1 || !((t.rows.take i).any λx=>t.rows[i]==x))))):=by
 unfold CP;rw[bX h,bX C]
def kJ(t:cr):Bool:=aL (t.rows.length:Int) 1 16&&((t.rows.length:Int)==(t.counts.length:Int)&&(aL t.dc 0 100000&&(List.range t.rows.length).all (CP t)))
def Zn(t:cr):Aj t=some (kJ t):=by
 unfold Aj kJ bQ;simp only[dF,aq];cases D:aL (t.rows.length:Int) 1 16 with
 |false=>rfl
 | true=>
  have D:=bx.1 D;by_cases C:(t.rows.length:Int)=(t.counts.length:Int)
  ·simp only[C,bne_self_eq_false,ni,bF,au,cJ];cases L:aL t.dc 0 100000 with
   |false=>rfl
   | true=>
    have e:=gG (step:=KF) (List.range t.rows.length) (CP t) (λi=>(((),t.rows,(t.rows.length:Int),(i:Int),()),((t.rows,t.counts,t.dc,()),()))) (.inl ((false,()),())) (.inr (.inl ((),()))) aP (λk h=>by
     rw[dh]at h;have E:k<t.counts.length:=by omega
     rw[ko,R7 h E];unfold KF ay aV xG xI;dsimp only;rw[aS,ak,aA ⟨by omega,by omega⟩,aA ⟨by omega,by omega⟩,aA ⟨by omega,by omega⟩];simp only[bB,dF,aq,R6 _ _ (show t.rows.length<1073741824 by omega)];rw[LV (p:=λe=>t.rows[k]==e) h (by simp),bD];simp only[bne];cases aL t.rows[k] (-1) 15<;>cases aL t.counts[k] t.dc 100000<;>cases t.rows[k] == -1<;>cases t.counts[k]==0<;>cases (t.rows.take k).any (λe=>t.rows[k]==e)<;>rfl) (by
     rw[dh];unfold KF ay aV xG xI;dsimp only;rw[bh,au]) (by rw[dh];exact bI)
    rw[cq,C]at e;simp only[bF,au,cJ]
    refine(bH (λo=>Option.bind o _) e).trans ?_
    rw[aq];cases (List.range t.rows.length).all (CP t)<;>rfl
  ·have I:((t.rows.length:Int)==(t.counts.length:Int))=false:=by simp[C]
   have J:((t.counts.length:Int) != (t.rows.length:Int))=true:=gH λh=>C h.symm
   rw[I,J];rfl
def ayG(t:cr){i:Nat}(h:i<t.rows.length)(hl:t.rows.length<1073741824):
  iter EG aP (((),(i:Int),(0:Int),()),((t.rows,t.counts,t.dc,()),()))=some (bif decide (t.rows[i] >= 0)&&(t.rows.take i).any (λx=>t.rows[i]==x)then .inl ((false,()),())else .inr (.inl (((),(i:Int),()),((t.rows,t.counts,t.dc,()),())))):=by
 have hlen:(t.rows.take i).length=i:=by rw[fP];omega
 have e:=gG (step:=EG) (t.rows.take i) (λx=>!(decide (t.rows[i] >= 0)&&t.rows[i]==x)) (λj=>(((),(i:Int),(j:Int),()),((t.rows,t.counts,t.dc,()),()))) _ _ aP (λk C=>by
  unfold EG ay aV xG xI;dsimp only;rw[aS,ak,aA ⟨by omega,by omega⟩,aA ⟨by omega,by omega⟩,aA ⟨by omega,by omega⟩];simp only[bB,List.getElem_take];rw[bD,BEq.comm (a:=t.rows[k])];cases decide (t.rows[i] >= 0)<;>cases t.rows[i]==t.rows[k]<;>rfl) (by
  rw[hlen];unfold EG ay aV xG xI;dsimp only;rw[bh,au]) (bI)
 grind
def ajm(t:cr):Jj t=some (kJ t):=by
 unfold Jj kJ bQ;simp only[eE,aq];cases D:aL (t.rows.length:Int) 1 16 with
 |false=>rfl
 | true=>
  have D:=bx.1 D;by_cases C:(t.rows.length:Int)=(t.counts.length:Int)
  ·simp only[C,bne_self_eq_false,ni,bF,au,cJ];cases Q:aL t.dc 0 100000 with
   |false=>rfl
   | true=>
    have e:=gG (step:=Ji) (List.range t.rows.length) (CP t) (λi=>(((),(i:Int),()),((t.rows,t.counts,t.dc,()),()))) (.inl ((false,()),())) (.inr (.inl ((),()))) aP (λk h=>by
     rw[dh]at h;have J:k<t.counts.length:=by omega
     have L:=ayG t h (by omega);rw[ko,R7 h J];unfold Ji ay aV xG xI bQ;dsimp only;rw[aS,ak,aA ⟨by omega,by omega⟩,aA ⟨by omega,by omega⟩,aA ⟨by omega,by omega⟩,aA ⟨by omega,by omega⟩];simp only[bB,eE,aq];rw[L,aq];cases E:aL t.rows[k] (-1) 15 with
     |false=>rfl
     | true=>
      have E:=bx.1 E;cases aL t.counts[k] t.dc 100000 with
      |false=>rfl
      | true=>
       simp only[bF,au,cJ,bne];by_cases I:t.rows[k] = -1
       ·rw[aS (show t.rows[k]<0 by omega),bh (show ¬ t.rows[k] >= 0 by omega),show (t.rows[k] == -1)=true by simp[I]];simp;rw[bD]
        grind
       ·rw[bh (show ¬ t.rows[k]<0 by omega),aS (show t.rows[k] >= 0 by omega),show (t.rows[k] == -1)=false by simp[I]];simp only[ak,au,cJ];cases (t.rows.take k).any λx=>t.rows[k]==x with
        |true=>rfl
        | false=>
         simp;rw[bD];rfl) (by
     rw[dh];unfold Ji ay aV xG xI bQ;dsimp only;rw[bh,au]) (by rw[dh];exact bI)
    rw[cq]at e;simp only[bF,au,cJ]
    refine(bH (λo=>Option.bind o _) e).trans ?_
    rw[aq];cases (List.range t.rows.length).all (CP t)<;>rfl
  ·have O:((t.rows.length:Int)==(t.counts.length:Int))=false:=by simp[C]
   rw[O,gH C];rfl
def w9(g:aM):W6 ((9:Int)*(W6 (aW g+(1:Int))))=9*(aW g+1):=by
 have:=fh g;rw[aR (n:=aW g+1),aR]
def LX(k:Int):xo k=some (aL k 1 5):=by
 unfold xo;rw[dF];rfl
def ayH(n:Int)(u:Bool)(k:Int):Cz n u k=some (bif u then aL n 0 (W6 (k-1))else n==0):=by
 unfold Cz;rw[dF];cases u<;>rfl
def oK(g:aM)(i:Nat):Bool:=decide ((i:Int) / 9<aW g)==decide ((i:Int) % 9+1<=5)
def ayI(g:aM){i:Nat}(hi:i<1000):Pm g (i:Int)=some (oK g i):=by
 unfold Pm oK;rw[oI,aq,pS (by omega),oU (by omega),aR,aR,BEq.comm]
def ayJ(g:aM){i:Nat}(hi:i<1000):∃ c,Cs g (i:Int)=some (c,oK g i):=by
 unfold Cs oK;rw[oH,aq,pS (by omega),oU (by omega),aR,aR,LX];have:aL (i % 9+1) 1 5=decide ((i:Int) % 9+1 <= 5):=by
  simp[aL];omega
 rw[this];cases decide (i / 9<aW g)<;>exact⟨_,rfl⟩
def CQ(g:aM)(l:aa Int)(i:Nat):Bool:=match l[i]? with
 |some e=>aL e (-1) 1000000&&(oK g i ||e == -1)
 |none=>false
def LY{g:aM}{l:aa Int}{i:Nat}(h:i<l.length):CQ g l i=(aL l[i] (-1) 1000000&&(oK g i || l[i] == -1)):=by
 unfold CQ;rw[bX h]
def oL(l:aa Int)(i:Nat):Bool:=match l[i]? with
 |some e=>aL e 0 1000000&&(i==0 ||(match l[i-1]? with|some x=>!(decide (x >= e))|none=>false))
 |none=>false
def LZ{l:aa Int}(h:0<l.length):oL l 0=aL l[0] 0 1000000:=by
 unfold oL;rw[bX h];simp
def FR{l:aa Int}{i:Nat}(h:i+1<l.length):oL l (i+1)=(aL l[i+1] 0 1000000 && !(decide (l[i] >= l[i+1]))):=by
 unfold oL
 grind
def kK(g:aM)(r:dG):Bool:=cC g&&((r.last.length:Int)==9*(aW g+1)&&(!(decide ((r.bf.length:Int) > 4))&&((List.range r.last.length).all (CQ g r.last)&&(List.range r.bf.length).all (oL r.bf))))
def Zo(g:aM)(r:dG):Fa g r=some (kK g r):=by
 unfold Fa kK bQ;rw[xz,aq,oH];cases L:cC g with
 |false=>rfl
 | true=>
  simp only[bF,au,aq,cJ,w9];by_cases C:(r.last.length:Int)=9*(aW g+1)
  ·have O:=fh g;rw[C,bne_self_eq_false,au,ni,cJ,<-C];cases D:decide ((r.bf.length:Int) > 4)with
   |true=>rfl
   | false=>
    have D:=of_decide_eq_false D;have l1:=gG (step:=Kw) (List.range r.last.length) (CQ g r.last) (λi=>(((),(),r.last,(r.last.length:Int),(i:Int),()),((g.cu,g.aC,g.rows,g.aN,()),(r.last,r.bf,()),()))) (.inl ((false,()),())) (.inr (.inl (((),()),((r.last,r.bf,()),())))) aP (λk h=>by
     rw[dh]at h;obtain⟨c,E⟩:=ayJ g (i:=k) (by omega);rw[ko,LY h];unfold Kw ay aV xG xI;dsimp only;rw[aS,ak,aA ⟨by omega,by omega⟩];simp only[bB,dF,aq,mX,E,bne];rw[bD];cases aL r.last[k] (-1) 1000000<;>cases oK g k<;>cases r.last[k] == -1<;>rfl) (by
     rw[dh];unfold Kw ay aV xG xI;dsimp only;rw[bh,au]) (by rw[dh];exact bI)
    have l2:=gG (step:=Kx) (List.range r.bf.length) (oL r.bf) (λi=>(((),r.bf,(r.bf.length:Int),(i:Int),()),((r.last,r.bf,()),()))) (.inl ((false,()),())) (.inr (.inl ((),()))) aP (λk h=>by
     rw[dh]at h;rw[ko];unfold Kx ay aV xG xI;dsimp only;rw[aS,ak,aA ⟨by omega,by omega⟩];simp only[bB,dF,aq];cases k with
     | zero=>
      rw[LZ h];cases aL r.bf[0] 0 1000000 with
      |false=>rfl
      | true=>
       rw[bh];rfl
     | succ k=>
      rw[FR h];have I:W6 (((k+1:Nat):Int)-1)=(k:Int):=by rw[aR];omega
      simp only[I,bB];rw[aS (show ((k+1:Nat):Int) > 0 by omega),aA ⟨by omega,by omega⟩,bD];cases aL r.bf[k+1] 0 1000000<;>cases decide (r.bf[k] >= r.bf[k+1])<;>rfl) (by
     rw[dh];unfold Kx ay aV xG xI;dsimp only;rw[bh,au]) (by rw[dh];exact bI)
    rw[cq]at l1 l2;simp only[iq,au,cJ]
    refine(bH (λo=>Option.bind o _) l1).trans ?_
    rw[aq];cases (List.range r.last.length).all (CQ g r.last)with
    |false=>rfl
    | true=>
     simp only[ak,Sum.elim_inr,ef,cJ]
     refine(bH (λo=>Option.bind o _) l2).trans ?_
     rw[aq];cases (List.range r.bf.length).all (oL r.bf)<;>rfl
  ·have J:((r.last.length:Int)==9*(aW g+1))=false:=by simp[C]
   rw[gH C,J];rfl
def ayK(g:aM)(r:dG):Pn g r=some (kK g r):=by
 unfold Pn kK bQ;rw[FP,aq,oI];cases J:cC g with
 |false=>rfl
 | true=>
  simp only[bF,au,aq,cJ,w9];by_cases C:(r.last.length:Int)=9*(aW g+1)
  ·have L:=fh g;rw[C,bne_self_eq_false,au,ni,cJ];cases D:decide ((r.bf.length:Int) > 4)with
   |true=>rfl
   | false=>
    have D:=of_decide_eq_false D;have l1:=gG (step:=Jc) (List.range r.last.length) (CQ g r.last) (λi=>(((),(),(i:Int),()),((g.cu,g.aC,g.rows,g.aN,()),(r.last,r.bf,()),()))) (.inl ((false,()),())) (.inr (.inl (((),()),((r.last,r.bf,()),())))) aP (λk h=>by
     rw[dh]at h;rw[ko,LY h];unfold Jc ay aV xG xI;dsimp only;rw[aS,ak,aA ⟨by omega,by omega⟩,aA ⟨by omega,by omega⟩];simp only[bB,eE,aq,mX,ayI g (show k<1000 by omega),bne];rw[bD];cases aL r.last[k] (-1) 1000000<;>cases oK g k<;>cases r.last[k] == -1<;>rfl) (by
     rw[dh];unfold Jc ay aV xG xI;dsimp only;rw[bh,au]) (by rw[dh];exact bI)
    have l2:=gG (step:=Jd) (List.range r.bf.length) (oL r.bf) (λi=>(((),(i:Int),()),((r.last,r.bf,()),()))) (.inl ((false,()),())) (.inr (.inl ((),()))) aP (λk h=>by
     rw[dh]at h;rw[ko];unfold Jd ay aV xG xI;dsimp only;rw[aS,ak,aA ⟨by omega,by omega⟩];simp only[bB,eE,aq];cases k with
     | zero=>
      rw[LZ h];cases aL r.bf[0] 0 1000000 with
      |false=>rfl
      | true=>
       rw[bh];rfl
     | succ k=>
      rw[FR h];have E:W6 (((k+1:Nat):Int)-1)=(k:Int):=by rw[aR];omega
      simp only[E,bB];rw[aS (show ((k+1:Nat):Int) > 0 by omega),aA ⟨by omega,by omega⟩,aA ⟨by omega,by omega⟩,bD];cases aL r.bf[k+1] 0 1000000<;>cases decide (r.bf[k] >= r.bf[k+1])<;>rfl) (by
     rw[dh];unfold Jd ay aV xG xI;dsimp only;rw[bh,au]) (by rw[dh];exact bI)
    rw[cq]at l1 l2;simp only[iq,au,cJ]
    refine(bH (λo=>Option.bind o _) l1).trans ?_
    rw[aq];cases (List.range r.last.length).all (CQ g r.last)with
    |false=>rfl
    | true=>
     simp only[ak,Sum.elim_inr,ef,cJ]
     refine(bH (λo=>Option.bind o _) l2).trans ?_
     rw[aq];cases (List.range r.bf.length).all (oL r.bf)<;>rfl
  ·have I:((r.last.length:Int)==9*(aW g+1))=false:=by simp[C]
   rw[gH C,I];rfl
def ayL(l:aa Int)(x:Int)(hl:l.length<1073741824):P9 l x=some (l.any λe=>e==x):=by
 unfold P9 bQ;have e:=gG (step:=J7) l (λe=>!(e==x)) (λi=>((l,x,i,()),())) _ _ aP (λk h=>by
  unfold J7 ay aV xG xI;dsimp only;rw[aS,ak,aA ⟨by omega,by omega⟩];simp only[bB];rw[bD];cases l[k]==x<;>rfl) (by
  unfold J7 ay aV xG xI;dsimp only;rw[bh,au]) (bI hl)
 rw[cq]at e;rw[e];have:l.all (λe=>!(e==x)) = !l.any λe=>e==x:=by rw[List.any_eq_not_all_not,Bool.not_not]
 rw[this];cases l.any λe=>e==x<;>rfl
def ayM(l:aa Int)(x:Int)(hl:l.length<1073741824):Qt l x=some (l.count x:Int):=by
 unfold Qt bu;have e:=cy (step:=Kl) _ (λi=>((x,((l.take i).count x),l,l.length,i,()),())) _ aP (λk h=>by
  unfold Kl ay xG xI;have C:(l.take k).count x <= k:=Nat.le_trans List.count_le_length (by rw[fP];omega);dsimp only;rw[aS,ak,aA ⟨by omega,by omega⟩];simp only[bB];rw[List.take_succ_eq_append_getElem h,List.count_append,List.count_singleton,bD,bD];cases l[k]==x<;>rfl) (by
  unfold Kl ay xG xI;dsimp only;rw[bh,au,jl]) (bI hl)
 simp_all
def ajn{x:Int}:∀ (l:aa Int),(∀ j (h:j<l.length),l[j]=x -> x ∉ l.take j) -> l.count x <= 1
 |[],_=>by simp
 | y :: ys,h=>by
  rw[List.count_cons];by_cases e:y=x
  ·have:x ∉ ys:=by
    intro C;have⟨j,E,D⟩:=jA.1 C;refine h (j+1) (by simp;omega) (by simpa using D) ?_;simp_all
   grind
  ·have:=ajn ys λj E D C=>h (j+1) (by simp;omega) (by simpa using D) (by rw[List.take_succ_cons];exact List.mem_cons_of_mem _ C)
   simp_all
def ayN{x:Int}:∀ (l:aa Int) (j:Nat) (h:j<l.length),l[j]=x -> x∈l.take j -> 2 <= l.count x:=by
 intro l j h e C;have D:=List.count_pos_iff.2 C;have E:1 <= (l.drop j).count x:=List.count_pos_iff.2 (by rw[<- e];exact jA.2 ⟨0,by simp;omega,by simp⟩);have:l.count x=(l.take j).count x+(l.drop j).count x:=by rw[<- List.count_append,List.take_append_drop]
 omega
def rS(R M:Int)(L:aa Int)(j:Nat):Bool:=match L[j]? with
 |some e=>e==(j:Int) ||(aL e R M && !(decide ((L.count e:Int) > 1)))
 |none=>false
def vB(R M:Int)(L:aa Int)(j:Nat):Bool:=match L[j]? with
 |some e=>e==(j:Int) ||(aL e R M && !((L.take j).any λx=>x==e))
 |none=>false
def Zp(R M:Int)(L:aa Int)(hR:(L.length:Int)=R):(List.range L.length).all (rS R M L)=(List.range L.length).all (vB R M L):=by
 rw[Bool.eq_iff_iff,cI,cI];simp only[fq];constructor
 ·intro h j C;have:=h j C;unfold rS at this;unfold vB;rw[bX C]at *
  simp only[eB,aO,gT,qQ]at *
  rcases this with D|⟨D,Q⟩
  ·simp_all
  ·refine .inr ⟨D,?_⟩;rw[mC];intro x J I;have I:x=L[j]:=by simpa using I
   have:=ayN L j C rfl (I ▸ J);omega
 ·intro h j C;have:=h j C;unfold vB at this;unfold rS;rw[bX C]at *
  simp only[eB,aO,gT,qQ]at *
  rcases this with D|⟨D,Q⟩
  ·simp_all
  ·refine .inr ⟨D,?_⟩;have T:=(bx.1 D).1;have:=ajn (x:=L[j]) L λk O e J=>by
    have E:=h k O;unfold vB at E;rw[bX O]at E;simp only[eB,aO,gT]at E;rcases E with U|⟨_,Y⟩
    ·grind
    ·grind
   omega
def iB(m:aa Int)(R b:Nat):aa Int:=(m.take ((b+1)*R)).drop (b*R)
def FT(m:aa Int)(R b:Nat):iB m R b=(m.drop (b*R)).take R:=by
 unfold iB;rw[List.drop_take,iC,Nat.add_sub_cancel_left]
def FU{m:aa Int}{R b:Nat}(h:(b+1)*R<=m.length):(iB m R b).length=R:=by
 rw[FT,fP,List.length_drop];rw[iC]at h;omega
def Aw{C R b j:Nat}(hb:b<C)(D:j <= R):b*R+j <= C*R:=by
 have:=iN R hb
 grind
def L0(R:Nat)(M:Int)(m:aa Int)(i:Nat):Bool:=match m[i]? with
 |some e=>e==((i % R:Nat):Int) ||(aL e (R:Int) M && !(((m.take i).drop (i / R*R)).any λx=>x==e))
 |none=>false
def ajo{R:Nat}{M:Int}{m:aa Int}{b j:Nat}(C:j<R):L0 R M m (b*R+j)=vB (R:Int) M (iB m R b) j:=by
 unfold L0 vB;have D:(b*R+j) % R=j:=by rw[Nat.mul_comm,Nat.mul_add_mod,Nat.mod_eq_of_lt C]
 have E:(b*R+j) / R=b:=by rw[Nat.mul_comm,Nat.mul_add_div (by omega),Nat.div_eq_of_lt C,Nat.add_zero]
 have I:(iB m R b)[j]?=m[b*R+j]?:=by rw[FT,List.getElem?_take_of_lt C,List.getElem?_drop]
 have J:(iB m R b).take j=(m.take (b*R+j)).drop (b*R):=by rw[FT,List.take_take,List.drop_take,Nat.add_sub_cancel_left,Nat.min_eq_left (Nat.le_of_lt C)]
 simp_all
def ajp{n:Nat}(h:n<4611686018427387904):W6 (n:Int)=(n:Int):=aR
def ayO(R D:Nat)(hR:0<R)(M:Int)(m:aa Int):(List.range (D*R)).all (L0 R M m)=(List.range D).all λb=>(List.range R).all (vB (R:Int) M (iB m R b)):=by
 rw[Bool.eq_iff_iff,cI];simp;constructor
 ·intro h b hb j C;rw[<- ajo C];refine h _ ?_;have:=Aw hb (show j+1 <= R from C);omega
 ·intro h i hi;have hb:i / R<D:=Nat.div_lt_of_lt_mul (by rw[Nat.mul_comm];exact hi);have C:i % R<R:=Nat.mod_lt _ hR;have e:i / R*R+i % R=i:=by rw[Nat.mul_comm];exact Nat.div_add_mod i R
  have:=h _ hb _ C;rw[<- ajo C,e]at this;exact this
def kL(g:aM)(s:dH):Bool:=jv g s.bP&&((s.map.length:Int)==((aW g).toNat*(g.rows-s.bP).toNat:Nat)&&(List.range (aW g).toNat).all λb=>(List.range (g.rows-s.bP).toNat).all (rS (g.rows-s.bP) (g.rows-1) (iB s.map (g.rows-s.bP).toNat b)))
def ajq{g:aM}{s:dH}{R C b:Nat}(hR:g.rows-s.bP=(R:Int))(D:R<=16)(E:C<=8)(hb:b<C)(hl:s.map.length=C*R):E3 g s (b:Int)=some (b*R,(b+1)*R):=by
 have O:C*R<=8*16:=Nat.mul_le_mul E D;have Q:b*R+R<=C*R:=Aw hb (eK R);have I:W6 (g.rows-s.bP)=(R:Int):=by rw[hR];exact aR
 have J:W6 ((b:Int)*(R:Int))=((b*R:Nat):Int):=by rw[<-Int.natCast_mul];exact aR
 have L:W6 (((b+1:Nat):Int)*(R:Int))=(((b+1)*R:Nat):Int):=by
  rw[<-Int.natCast_mul];exact aR (by omega) (by rw[iC];omega)
 unfold E3;rw[I,bD,J,L,iC,bA ⟨by omega,by omega,by omega⟩];simp only[bB]
def ayP{g:aM}{s:dH}(R b:Int)(L:aa Int)(C:cC g=true)(D:L.length<1073741824):
  iter E4 aP (((),(),R,b,L,L,(L.length:Int),(0:Int),()),((g.cu,g.aC,g.rows,g.aN,()),(s.bP,s.map,()),()))=some (bif (List.range L.length).all (rS R (g.rows-1) L)then .inr (.inl (((),(),R,b,()),((g.cu,g.aC,g.rows,g.aN,()),(s.bP,s.map,()),())))else .inl ((false,()),())):=by
 have E:=fo C;have e:=gG (step:=E4) (List.range L.length) (rS R _ L) (λi=>(((),(),R,b,L,L,L.length,i,()),((g.cu,g.aC,g.rows,g.aN,()),(s.bP,s.map,()),()))) _ _ aP (λk h=>by
  rw[dh]at h;rw[ko];unfold E4 rS ay aV xG xI;dsimp only;rw[aS,ak,aA ⟨by omega,by omega⟩,bX h];simp only[bB,dF,aq,ayM _ _ D,bne];rw[bD,aR (n:=g.rows-1)];cases L[k]==(k:Int)<;>cases aL L[k] R (g.rows-1)<;>cases decide ((L.count L[k]:Int) > 1)<;>rfl) (by
  rw[dh];unfold E4 ay aV xG xI;dsimp only;rw[bh,au]) (by rw[dh];exact bI)
 simp_all
def ajr(g:aM)(s:dH):Ko g s=some (kL g s):=by
 unfold Ko kL bQ;rw[ai6,aq,RY];cases D:jv g s.bP with
 |false=>rfl
 | true=>
  obtain⟨I,s0,s2,AV,R8⟩:=RX D;have J:=fh g;have L:((sO g s.bP).1.map.length:Int)=(((aW g).toNat*(g.rows-s.bP).toNat:Nat):Int):=by
   unfold sO;rw[D,ak,Zb]
  rw[L];obtain⟨C,hb⟩:=eX J.1;obtain⟨R,hR⟩:=eX (show 0<=g.rows-s.bP by omega);rw[hb,hR];simp only[bB,bF,au,cJ];by_cases hl:(s.map.length:Int)=((C*R:Nat):Int)
  ·have E:s.map.length=C*R:=by omega
   rw[hl,bne_self_eq_false,au,ni,cJ];have O:W6 (R:Int)=(R:Int):=aR;have e:=gG (step:=Km) (List.range C) (λb=>(List.range R).all (rS (R:Int) (g.rows-1) (iB s.map R b))) (λi=>(((),(),(R:Int),(i:Int),()),((g.cu,g.aC,g.rows,g.aN,()),(s.bP,s.map,()),()))) (.inl ((false,()),())) (.inr (.inl ((),()))) aP (λk h=>by
    rw[dh]at h;rw[ko];have Q:=Aw (R:=R) h (eK R);have hlen:(iB s.map R k).length=R:=FU (by rw[iC,E];exact Q);have T:=ayP (g:=g) (s:=s) (R:Int) (k:Int) (iB s.map R k) I (by omega);unfold Km ay aV xG bQ;dsimp only;rw[mX,oH,aq,hb,aS,ak];have U:E3 g (⟨s.bP,s.map⟩:dH) (k:Int)=some (k*R,(k+1)*R):=ajq (s:=⟨s.bP,s.map⟩) hR (by omega) (by omega) h E;rw[U,aq];have Y:(Nat.ble (k*R) ((k+1)*R)&&Nat.ble ((k+1)*R) s.map.length)=true:=by
     rw[aO];exact⟨iD (by rw[iC];omega),iD (by rw[iC];omega)⟩
    rw[Y,ak]
    refine(bH (λo=>Option.bind o _) T).trans ?_
    rw[aq,hlen];cases (List.range R).all (rS (R:Int) (g.rows-1) (iB s.map R k))with
    |false=>rfl
    | true=>
     simp only[ak,Sum.elim_inr,ef];rw[bD]) (by
    rw[dh];unfold Km ay aV xG bQ;dsimp only;rw[mX,oH,aq,hb,bh,au]) (by rw[dh];exact bI)
   rw[cq]at e;rw[O]
   refine(bH (λo=>Option.bind o _) e).trans ?_
   rw[aq];cases (List.range C).all λb=>(List.range R).all (rS (R:Int) (g.rows-1) (iB s.map R b))<;>rfl
  ·have Z:((s.map.length:Int)==((C*R:Nat):Int))=false:=by simp only[beq_eq_false_iff_ne];exact hl
   rw[gH hl,Z];rfl
def ayQ(g:aM)(s:dH):Qa g s=some (kL g s):=by
 unfold Qa kL bQ;rw[Zc,aq,RY];cases I:jv g s.bP with
 |false=>rfl
 | true=>
  obtain⟨J,s0,s2,AV,R8⟩:=RX I;have L:=fh g;have gb:=fo J;obtain⟨C,hb⟩:=eX L.1;obtain⟨R,hR⟩:=eX (show 0<=g.rows-s.bP by omega);have hm:C*R<=8*16:=Nat.mul_le_mul (by omega) (by omega);have O:W6 (R:Int)=(R:Int):=aR;have hmul:W6 ((C:Int)*(R:Int))=((C*R:Nat):Int):=by rw[<-Int.natCast_mul];exact aR
  rw[oI,aq,hb,hR,O,hmul];simp only[bB,bF,au,cJ];by_cases hl:(s.map.length:Int)=((C*R:Nat):Int)
  ·have Q:s.map.length=C*R:=by omega
   rw[hl,bne_self_eq_false,au,ni,cJ];have e:=gG (step:=J8) (List.range (C*R)) (L0 R (g.rows-1) s.map) (λi=>(((),(),(R:Int),(i:Int),()),((g.cu,g.aC,g.rows,g.aN,()),(s.bP,s.map,()),()))) (.inl ((false,()),())) (.inr (.inl ((),()))) aP (λk h=>by
    rw[dh]at h;rw[ko];have T:k<s.map.length:=by omega
    have U:(k:Int).tmod (R:Int)=((k % R:Nat):Int):=(Int.ofNat_tmod k R).symm;have Y:(k:Int).tdiv (R:Int)=((k / R:Nat):Int):=(Int.ofNat_tdiv k R).symm;have Z:k / R<=k:=Nat.div_le_self k R;have E:k / R*R<=k:=Nat.div_mul_le_self k R;have w1:W6 (((k / R:Nat):Int))=((k / R:Nat):Int):=ajp (Nat.lt_of_le_of_lt Z (by omega));have w2:W6 (((k / R:Nat):Int)*(R:Int))=((k / R*R:Nat):Int):=by rw[<-Int.natCast_mul];exact ajp (Nat.lt_of_le_of_lt E (by omega))
    unfold J8 L0 ay aV xG xI;rw[bX T];dsimp only;rw[aS,ak,aA ⟨by omega,by omega⟩,bM,aA ⟨by omega,by omega⟩,bM,U,Y,w1,w2,bA ⟨Int.natCast_nonneg _,Int.ofNat_le.2 E,by omega⟩,aA ⟨by omega,by omega⟩];simp only[bB,eE,aq];rw[ayL _ _ (by rw[List.length_drop,fP];omega),aq,bD,aR (n:=g.rows-1)];cases s.map[k]==((k % R:Nat):Int)<;>cases aL s.map[k] (R:Int) (g.rows-1)<;>cases ((s.map.take k).drop (k / R*R)).any (λx=>x==s.map[k])<;>rfl) (by
    rw[dh];unfold J8 ay aV xG xI;dsimp only;rw[bh,au]) (by rw[dh];exact bI)
   rw[cq]at e
   refine(bH (λo=>Option.bind o _) e).trans ?_
   rw[aq,ayO R C (by omega)];have hAB:((List.range C).all λb=>(List.range R).all (vB (R:Int) (g.rows-1) (iB s.map R b)))=(List.range C).all λb=>(List.range R).all (rS (R:Int) (g.rows-1) (iB s.map R b)):=by
    rw[Bool.eq_iff_iff,cI,cI]
    refine forall_congr' λb=>?_
    refine imp_congr_right λD=>?_
    have D:=fq.1 D;have hk:=Aw (R:=R) D (eK R);have hlen:(iB s.map R b).length=R:=FU (by rw[iC,Q];exact hk);have:=Zp (R:Int) (g.rows-1) (iB s.map R b) (by rw[hlen]);rw[hlen]at this;rw[this]
   rw[hAB];cases (List.range C).all λb=>(List.range R).all (rS (R:Int) (g.rows-1) (iB s.map R b))<;>rfl
  ·have e2:((s.map.length:Int)==((C*R:Nat):Int))=false:=by simp only[beq_eq_false_iff_ne];exact hl
   rw[gH hl,e2];rfl
def eJ(g:aM)(s:dH):aM:=bif kL g s then ⟨g.cu,g.aC,W6 (g.rows-s.bP),g.aN⟩else ⟨0,0,0,0⟩
def Zq(g:aM)(s:dH):E5 g s=some (eJ g s):=by
 unfold E5 eJ;rw[ajr,aq];cases kL g s<;>rfl
def Ax(c:av):av:=c
def gO(a x:aK):Bool:=x.ax==a.ax&&(x.row==a.row&&(x.bT==a.bT&&true))
def ajs(l:aa aK)(a:aK)(hl:l.length<1073741824):Jg l a=some (gu (gO a) l):=by
 unfold Jg gu bQ;have e:=vA (step:=Jf) l (gO a) (λi=>((l,(),i,()),((a.ax,a.row,a.bT,()),()))) _ _ aP (λk h=>by
  unfold Jf gO ay aV xG xI;dsimp only;rw[aS,ak,aA ⟨by omega,by omega⟩];simp only[bB];rw[bD];cases (l[k].ax==a.ax&&(l[k].row==a.row&&(l[k].bT==a.bT&&true)))<;>rfl) (by
  unfold Jf ay aV xG xI;dsimp only;rw[bh,au]) (bI hl)
 rw[cq]at e;rw[e];cases l.findIdx? _<;>rfl
def ajt(l:aa aK)(a:aK)(hl:l.length<1073741824):Fc l a=some (gu (gO a) l):=by
 unfold Fc gu;have e:=vA (step:=KG) l (gO a) (λi=>((l,(),l.length,i,()),((a.ax,a.row,a.bT,()),()))) _ _ aP (λk h=>by
  unfold KG gO ay aV xG xI;dsimp only;rw[aS,ak,aA ⟨by omega,by omega⟩];simp only[bB];rw[bD,BEq.comm (a:=a.ax),BEq.comm (a:=a.row),BEq.comm (a:=a.bT)];cases (l[k].ax==a.ax&&(l[k].row==a.row&&(l[k].bT==a.bT&&true)))<;>rfl) (by
  unfold KG ay aV xG xI;dsimp only;rw[bh,au]) (bI hl)
 rw[cq]at e;rw[e];cases l.findIdx? _<;>rfl
def partAt(c:av)(i:Nat):Bool:=match c.bO[i]?,c.guard[i]? with
 |some t,some x=>kJ t&&aL x 3 1000
 |_,_=>false
def Ay(c:av)(i:Nat):Bool:=match c.pending[i]? with
 |some a=>dK c.config.az a&&(a.bT==0 && !((c.pending.take i).any (gO a)))
 |none=>false
def sP(c:av):Bool:=(c.aQ.aJ.length:Int)==aW c.config.az&&((c.bO.length:Int)==aW c.config.az&&((c.guard.length:Int)==aW c.config.az&&(!(decide ((c.pending.length:Int) > 128))&&((List.range c.bO.length).all (partAt c)&&(List.range c.pending.length).all (Ay c)))))
def aju(c:av)(G:(Int×Int×Int×Int×af))(n i:Int):QA (((),(),n,i,()),(Ax c,G,()))=(bif (decide (i<n))then if C:0<=i/\i.toNat<c.bO.length then (Aj (c.bO[i.toNat]'C.2)).bind λD=>bif (!D)then some (.inr (.inl ((false,()),())))else if E:0<=i/\i.toNat<c.guard.length then (cE (c.guard[i.toNat]'E.2) (3:Int) (1000:Int)).bind λI=>bif (!I)then some (.inr (.inl ((false,()),())))else some (.inl (((),(),n,(W6 (i+(1:Int))),()),(Ax c,G,())))else none else none else some (.inr (.inr (.inl (((),(),()),(Ax c,G,())))))):=rfl
def ajv(c:av)(g:aM)(l:aa aK)(n i:Int):QB (((),(),l,n,i,()),(Ax c,(g.cu,g.aC,g.rows,g.aN,()),()))=(bif (decide (i<n))then if C:0<=i/\i.toNat<l.length then (Cv g (l[i.toNat]'C.2)).bind λD=>bif (!D)then some (.inr (.inl ((false,()),())))else bif ((l[i.toNat]'C.2).bT != (0:Int))then some (.inr (.inl ((false,()),())))else (Fc c.pending (l[i.toNat]'C.2)).bind λE=>bif (E != i)then some (.inr (.inl ((false,()),())))else some (.inl (((),(),l,n,(W6 (i+(1:Int))),()),(Ax c,(g.cu,g.aC,g.rows,g.aN,()),())))else none else some (.inr (.inr (.inl ((),()))))):=rfl
def ayR(c:av)(L:c.aQ.aJ.length<1073741824):QC c=some (eA c.aQ&&sP c):=by
 unfold QC sP bQ;rw[oH,aq,LU _ L,aq];cases eA c.aQ with
 |false=>rfl
 |true=>
 simp only[bF,au,cJ];have b1:=fh c.config.az;by_cases C:(c.aQ.aJ.length:Int)=aW c.config.az
 ·by_cases D:(c.bO.length:Int)=aW c.config.az
  ·by_cases E:(c.guard.length:Int)=aW c.config.az
   ·have O:((c.aQ.aJ.length:Int) != aW c.config.az)=false:=by simp[C]
    have Q:((c.bO.length:Int) != aW c.config.az)=false:=by simp[D]
    have T:((c.guard.length:Int) != aW c.config.az)=false:=by simp[E]
    have U:((c.aQ.aJ.length:Int)==aW c.config.az)=true:=by simp[C]
    have Y:((c.bO.length:Int)==aW c.config.az)=true:=by simp[D]
    have Z:((c.guard.length:Int)==aW c.config.az)=true:=by simp[E]
    rw[O,Q,T,U,Y,Z];simp only[au,cJ];cases I:decide ((c.pending.length:Int) > 128)with
    |true=>rfl
    | false=>
     have I:=of_decide_eq_false I;have l1:=gG (step:=QA) (List.range c.bO.length) (partAt c) (λi=>(((),(),(c.bO.length:Int),(i:Int),()),(Ax c,(c.config.az.cu,c.config.az.aC,c.config.az.rows,c.config.az.aN,()),()))) (.inl ((false,()),())) (.inr (.inl (((),(),()),(Ax c,(c.config.az.cu,c.config.az.aC,c.config.az.rows,c.config.az.aN,()),())))) aP (λk h=>by
      rw[dh]at h;rw[ko,aju,aS,ak,aA ⟨by omega,by omega⟩,aA ⟨by omega,by omega⟩];simp only[bB,Zn,dF,aq];unfold partAt;rw[bX h,bX (show k<c.guard.length by omega),bD];simp only;cases kJ c.bO[k]<;>cases aL (c.guard[k]'(by omega)) 3 1000<;>rfl) (by
      rw[dh,aju,bh,au]) (by rw[dh];exact bI)
     have l2:=gG (step:=QB) (List.range c.pending.length) (Ay c) (λi=>(((),(),c.pending,(c.pending.length:Int),(i:Int),()),(Ax c,(c.config.az.cu,c.config.az.aC,c.config.az.rows,c.config.az.aN,()),()))) (.inl ((false,()),())) (.inr (.inl ((),()))) aP (λk h=>by
      rw[dh]at h;rw[ko,ajv,aS,ak,aA ⟨by omega,by omega⟩];simp only[bB,YY,aq,ajt _ _ (show c.pending.length<1073741824 by omega),bne];have J:=LV (p:=gO c.pending[k]) h (by simp[gO]);rw[bne]at J;rw[J];unfold Ay;rw[bX h,bD];simp only;cases dK c.config.az c.pending[k]<;>cases c.pending[k].bT==0<;>cases (c.pending.take k).any (gO c.pending[k])<;>rfl) (by
      rw[dh,ajv,bh,au]) (by rw[dh];exact bI)
     rw[cq]at l1 l2;simp only[iq,au,cJ]
     refine(bH (λo=>Option.bind o _) l1).trans ?_
     rw[aq];cases (List.range c.bO.length).all (partAt c)with
     |false=>rfl
     | true=>
      simp only[ak,Sum.elim_inr,ef,cJ]
      refine(bH (λo=>Option.bind o _) l2).trans ?_
      rw[aq];cases (List.range c.pending.length).all (Ay c)<;>rfl
   ·simp[C,D,gH E,E]
  ·simp[C,gH D,D]
 ·simp[gH C,C]
def sQ(n:Int)(u:Bool)(k:Int):Bool:=bif u then aL n 0 (k-1)else n==0
def dO(g:aM)(c:aH):Bool:=cC g&&(aL c.kind 1 9&&(sQ c.ax (aL c.kind 1 5) (aW g)&&(sQ c.row (c.kind==1) g.rows&&sQ c.bT (c.kind==2 ||c.kind==3) g.aN)))
def ayS(k:Int):QJ k=some (k==1):=by
 unfold QJ;rfl
def ayT(k:Int):QK k=some (k==2 || k==3):=by
 unfold QK;cases k==2<;>rfl
def Zr{n k:Int}(u:Bool)(h:-1000<k/\k<1000):Cz n u k=some (sQ n u k):=by
 rw[ayH,aR];rfl
def Zs(g:aM)(c:aH):Fp g c=some (dO g c):=by
 unfold Fp dO;rw[xz];cases C:cC g with
 |false=>rfl
 | true=>
  have D:=fh g;have E:=fo C;unfold Yu;simp only[ak,oH,aq,dF,LX,ayS,ayT,Zr _ (show -1000<aW g/\aW g<1000 by omega),Zr _ (show -1000<g.rows/\g.rows<1000 by omega),Zr _ (show -1000<g.aN/\g.aN<1000 by omega),cJ]
  grind
def ayU(k:Int):Pb k=some (aL k 1 5,k==1,(k==2 || k==3)):=by
 obtain⟨y,e,h⟩:=ayp k;rw[e,h]
def L1(c:aH):Bool:=(aL c.kind 1 5 ||c.ax==0)&&((c.kind==1 ||c.row==0)&&(((c.kind==2 ||c.kind==3) ||c.bT==0)&&(aL c.kind 1 9&&(aL c.ax 0 7&&(aL c.row 0 15&&aL c.bT 0 7)))))
def ayV(c:aH):Pc c=some (L1 c):=by
 unfold Pc L1;simp only[ayU,aq,eE,bne]
 grind
def ajw(g:aM)(c:aH):I6 g c=some (dO g c):=by
 unfold I6;rw[ayV,aq,YZ,aq];have key:(L1 c&&dK g ⟨c.ax,c.row,c.bT⟩)=dO g c:=by
  unfold dO dK;cases D:cC g with
  |false=>simp
  | true=>
   have I:=fh g;have J:=fo D;rw[Bool.eq_iff_iff];simp only[L1,sQ,aO,eB,fI,bx,cJ];constructor
   ·rintro⟨⟨h1,h2,h3,C,L,O,Q⟩,⟨T,U⟩,Y⟩;refine⟨C,?_,?_,?_⟩
    ·cases hu:aL c.kind 1 5 with
     |true=>simp[ak,bx];omega
     | false=>simp only[au,fI];rcases h1 with h1 | h1
              ·exact absurd (bx.2 h1) (by rw[hu];simp)
              ·exact h1
    ·cases hu:c.kind==1 with
     |true=>simp[ak,bx];omega
     | false=>simp only[au,fI];rcases h2 with h2 | h2
              ·simp_all
              ·exact h2
    ·cases hu:(c.kind==2 || c.kind==3)with
     |true=>simp[ak,bx];omega
     | false=>simp only[au,fI];rcases h3 with (h3 | h3) | h3
              ·simp_all
              ·simp_all
              ·exact h3
   ·rintro⟨h1,h2,h3,C⟩;have f1:(1 <= c.kind/\c.kind <= 5 \/ c.ax=0)/\0 <= c.ax/\c.ax <= aW g-1:=by
     cases hu:aL c.kind 1 5 with
     |true=>rw[hu,ak,bx]at h2;exact⟨.inl (bx.1 hu),h2⟩
     |false=>rw[hu,au,fI]at h2;have:=LH D;exact⟨.inr h2,by omega⟩
    have f2:(c.kind=1 \/ c.row=0)/\0 <= c.row/\c.row <= g.rows-1:=by
     cases hu:c.kind==1 with
     |true=>rw[hu,ak,bx]at h3;exact⟨.inl (by simpa using hu),h3⟩
     |false=>grind
    have E:((c.kind=2 \/ c.kind=3) \/ c.bT=0)/\0 <= c.bT/\c.bT <= g.aN-1:=by
     cases hu:(c.kind==2 ||c.kind==3)with
     |true=>rw[hu,ak,bx]at C;exact⟨.inl (by simpa using hu),C⟩
     |false=>simp_all
    exact⟨⟨f1.1,f2.1,E.1,h1,by omega,by omega,by omega⟩,⟨by omega,by omega⟩,by omega⟩
 rw[<- key];cases L1 c<;>rfl
def CR{g:aM}{c:aH}(h:dO g c=true):cC g=true/\(1 <= c.kind/\c.kind <= 9)/\(c.kind <= 5 -> 0 <= c.ax/\c.ax<aW g)/\(5<c.kind -> c.ax=0):=by
 simp[dO,aO,bx]at h
 refine⟨h.1,h.2.1,λD=>?_,λD=>?_⟩
 ·have:=h.2.2.1;rw[sQ,show aL _ 1 5=true from bx.2 ⟨h.2.1.1,D⟩,ak,bx]at this;omega
 ·have:=h.2.2.1;have C:aL c.kind 1 5=false:=by
   cases C:aL _ 1 5 with
   |false=>rfl
   |true=>have:=bx.1 C;omega
  rwa [sQ,C,au,fI]at this
def kinds{k:Int}(h:1<=k/\k<=9):k=1\/k=2\/k=3\/k=4\/k=5\/k=6\/k=7\/k=8\/k=9:=by omega
def jh(r:cK)(b:Int):eP:=r.aC.getD b.toNat ⟨false,0⟩
def pO(r:cK)(c:aH):Bool:=
 bif c.kind==1 ||c.kind==5 then r.bg==0 && !(jh r c.ax).open_ else
 bif c.kind==2 ||c.kind==3 ||c.kind==4 then r.bg==0&&(jh r c.ax).open_ else
 bif c.kind==6 then r.bg==0 else
 bif c.kind==8 then r.bg==0&&r.aC.all (λb=>!b.open_)else
 bif c.kind==7 then r.bg==1 else r.bg==2
def fO(r:cK)(c:aH):cK:=
 bif c.kind==1 then ⟨r.aC.set c.ax.toNat ⟨true,c.row⟩,r.bg⟩else
 bif c.kind==4 then ⟨r.aC.set c.ax.toNat ⟨false,0⟩,r.bg⟩else
 bif c.kind==6 then ⟨r.aC,1⟩else
 bif c.kind==8 then ⟨r.aC,2⟩else
 bif c.kind==7 ||c.kind==9 then ⟨r.aC,0⟩else r
def ajx{r:cK}{b:Int}(h:b.toNat<r.aC.length):r.aC[b.toNat]=jh r b:=by
 simp[jh,h]
def ajy(r:cK):(((opens 0 r.aC).length:Int)==0)=r.aC.all λb=>!b.open_:=by
 rw[<-ajf 0 r.aC,Bool.eq_iff_iff];simp only[fI];omega
def ajz(r:cK)(h:r.aC.length<1073741823):I7 r=some (opens 0 r.aC):=by
 unfold I7 bu;have e:=sL (step:=EF) (λi=>(((),(),(i:Int),()),((r.aC,r.bg,()),opens 0 (r.aC.take i),()))) (z:=.inl (((),()),(opens 0 r.aC,()))) r.aC.length 0 aP (λk _ C=>?_) ?_ (by unfold aP;omega)
 ·have e:iter EF aP (((),(),0,()),((r.aC,r.bg,()),([]),()))=_:=e;simp_all
 ·have C:k<r.aC.length:=by omega
  unfold EF ay xG xI;dsimp only;have D:decide ((k:Int)<(r.aC.length:Int))=true:=aS;have E:0 <= (k:Int)/\(k:Int).toNat<r.aC.length:=⟨by omega,by simpa using C⟩
  have hl:=RK 0 (r.aC.take k);rw[fP]at hl;have I:bC ((opens 0 (r.aC.take k)).length+([(k:Int)]:aa Int).length)=true:=by
   unfold bC;simp;omega
  rw[D,ak,aA E,qD,pK C,Y2];simp only[bB,opens,fP,fj,Nat.min_eq_left (Nat.le_of_lt C)];cases r.aC[k].open_ with
  |true=>grind
  |false=>grind
 ·rw[fj];unfold EF ay xG xI;simp_all
def ayW{r:cK}{c:aH}(C:1 <= c.kind/\c.kind <= 9)(hb:c.kind <= 5 -> 0 <= c.ax/\c.ax.toNat<r.aC.length)(hl:r.aC.length<1073741823):Pd r c=some (pO r c):=by
 unfold Pd pO xI;rcases kinds C with h|h|h|h|h|h|h|h|h
 case inr.inr.inr.inr.inr.inr.inr.inl=>simp[h,ajz r hl,ajy];cases r.bg==0<;>rfl
 all_goals (try (have hb:=hb _))<;>simp[h,hb,ajx]<;>(cases r.bg==0<;>rfl)
def Zt(g:aM)(r:cK)(c:aH):KO g r c=some (mZ g r&&(dO g c&&pO r c)):=by
 unfold KO xI;rw[ajg,aq];cases C:mZ g r with
 |false=>rfl
 | true=>
  rw[Zs,aq];cases D:dO g c with
  |false=>rfl
  | true=>
   have⟨I,E,hb,_⟩:=CR D;have hlen:(r.aC.length:Int)=aW g:=by
    simp[mZ,aO,fI]at C;simp_all
   have J:=fh g;have hb:c.kind <= 5 -> 0 <= c.ax/\c.ax.toNat<r.aC.length:=λh=>by have:=hb h;omega
   have hl:r.aC.length<1073741823:=by omega
   simp only[bF,au,cJ];unfold pO;rcases kinds E with h|h|h|h|h|h|h|h|h
   case inr.inr.inr.inr.inr.inr.inr.inl=>simp[h,RL r hl,ajy];cases r.bg==0<;>rfl
   all_goals (try (have hb:=hb (by omega)))<;>simp[h,hb,ajx]<;>(cases r.bg==0<;>rfl)
def m0(g:aM)(r:cK)(c:aH):Bool:=mZ g r&&(dO g c&&pO r c)
def Zu(g:aM)(r:cK)(c:aH):cK×Bool:=bif m0 g r c then (fO r c,true)else (r,false)
def CS{g:aM}{r:cK}{c:aH}(h:m0 g r c=true):cC g=true/\(r.aC.length:Int)=aW g/\(1 <= c.kind/\c.kind <= 9)/\(c.kind <= 5 -> 0 <= c.ax/\c.ax.toNat<r.aC.length):=by
 simp[m0,aO]at h;have⟨D,E,hb,_⟩:=CR h.2.1;have C:=h.1;simp[mZ,aO,fI]at C;simp_all
def ayX(r:cK)(h:r.aC.length<1073741824):Fi r=some r:=by
 unfold Fi xA xZ;rw[show ([]).length+r.aC.length=r.aC.length by simp,cQ h];rfl
def ayY(g:aM)(r:cK)(c:aH)(h:r.aC.length<1073741824):KS g r c=some (Zu g r c):=by
 unfold KS Zu xL;rw[ayX r h,Zt];change (bif !(m0 g r c)then _ else _)=_;cases C:m0 g r c with
 |false=>rfl
 | true=>
  have⟨D,hlen,E,hb⟩:=CS C;unfold fO
  grind
def R9(g:aM):cK:=⟨List.replicate (aW g).toNat ⟨false,0⟩,0⟩
def ayZ(g:aM):OY g=some (R9 g):=by
 have C:=fh g;unfold OY R9;rw[oI,aq,bA ⟨by omega,by omega,by omega⟩]
def ajA(r:cK)(c:aH):(fO r c).aC.length=r.aC.length:=by
 unfold fO
 grind
def CT(t:c7)(a b:Int):Int:=
 bif a==1 then (bif b==2 ||b==3 then t.jI else bif b==4 then t.gw else bif b==1 ||b==5 then W6 (t.gw+t.rp)else 0)else
 bif a==2 then (bif b==4 then t.iY else bif b==1 ||b==5 then W6 (t.iY+t.rp)else 0)else
 bif a==3 then (bif b==4 then t.wr else bif b==1 ||b==5 then W6 (t.wr+t.rp)else 0)else
 bif a==4 then (bif b==1 ||b==5 then t.rp else 0)else
 bif a==5 then (bif b==1 ||b==5 then t.nB else 0)else 0
def CU(t:c7)(a b:Int)(C:Bool):Int:=
 bif a==7 then t.xp else bif a==9 then t.xs else
 bif (a==6&&b==7) ||(a==8&&b==9)then t.n8 else
 bif a==1&&b==1 then (bif C then t.jJ else t.nq)else
 bif (a==2&&b==2) ||(a==3&&b==3)then (bif C then t.nu else t.nt)else
 bif a==3&&b==2 then (bif C then t.nA else t.ny)else
 bif a==2&&b==3 then t.pT else
 bif a==5&&b==5 then t.jJ else
 bif a==2&&b==6 then t.iY else bif a==3&&b==6 then t.wr else
 bif b==8 then CT t a 1 else 0
def ay0(t:c7){a b:Int}(C:1<=a/\a<=9)(hb:1<=b/\b<=9):QL t a b=some (CT t a b):=by
 rcases kinds C with rfl|rfl|rfl|rfl|rfl|rfl|rfl|rfl|rfl<;>rcases kinds hb with rfl|rfl|rfl|rfl|rfl|rfl|rfl|rfl|rfl<;>kernel_rfl
def Zv(t:c7){a b:Int}(C:Bool)(D:1<=a/\a<=9)(hb:1<=b/\b<=9):QM t a b C=some (CU t a b C):=by
 cases C<;>rcases kinds D with rfl|rfl|rfl|rfl|rfl|rfl|rfl|rfl|rfl<;>rcases kinds hb with rfl|rfl|rfl|rfl|rfl|rfl|rfl|rfl|rfl<;>kernel_rfl
def ajB{t:c7}(C:jg t=true){a b:Int}(D:1 <= a/\a <= 9)(hb:1 <= b/\b <= 9):I8 t a b=some (CT t a b):=by
 unfold I8;rw[RU,aq,C,bF];rcases kinds D with rfl|rfl|rfl|rfl|rfl|rfl|rfl|rfl|rfl<;>rcases kinds hb with rfl|rfl|rfl|rfl|rfl|rfl|rfl|rfl|rfl<;>kernel_rfl
def Zw{t:c7}(E:jg t=true){a b:Int}(D:Bool)(C:1 <= a/\a <= 9)(hb:1 <= b/\b <= 9):I9 t a b D=some (CU t a b D):=by
 unfold I9;rw[RU,aq,E,bF,au,eE,aq,bx.2 C,bF,au,eE,aq,bx.2 hb,bF];by_cases I:b=8/\a≠7/\a≠9
 ·obtain⟨rfl,J,L⟩:=I;have e:=ajB E C (b:=1) (by omega);rcases kinds C with rfl|rfl|rfl|rfl|rfl|rfl|rfl|rfl|rfl<;>first|exact absurd rfl J|exact absurd rfl L|simp[e,CU]
 ·cases D<;>rcases kinds C with rfl|rfl|rfl|rfl|rfl|rfl|rfl|rfl|rfl<;>rcases kinds hb with rfl|rfl|rfl|rfl|rfl|rfl|rfl|rfl|rfl<;>first|exact absurd ⟨rfl,by omega,by omega⟩ I|kernel_rfl
def Sa(a b:aH):Bool:=aL a.kind 1 5&&aL b.kind 1 5
def L2(g:aM)(a b:aH):Bool:=Sa a b&&(W6 (a.ax.tdiv g.aC)==W6 (b.ax.tdiv g.aC))
def vC(g:aM)(t:c7)(a b:aH):Int:=
 bif Sa a b&&a.ax==b.ax then max (max 1 (CU t a.kind b.kind (L2 g a b))) (CT t a.kind b.kind)else max 1 (CU t a.kind b.kind (L2 g a b))
def Sb(x y:Int):(if x > y then x else y)=max x y:=by
 rw[Int.max_def];split<;>split<;>omega
def ajC{g:aM}{b:Int}(h:0<=b/\b<aW g)(C:cC g=true):KP g b=some (W6 (b.tdiv g.aC)):=by
 have D:=fh g;have E:=fo C;unfold KP;rw[oH,aq,dF,aq,aR,bx.2 ⟨h.1,by omega⟩,bF,au,bM]
def L3{k:Int}(h:1<=k/\k<=9):aL k 1 5=decide (k<=5):=by
 unfold aL;rw[aS h.1,cJ]
def ay1{g:aM}(t:c7){a b:aH}(E:cC g=true)(C:1 <= a.kind/\a.kind <= 9)(D:1 <= b.kind/\b.kind <= 9)(I:a.kind <= 5 -> 0 <= a.ax/\a.ax<aW g)(J:b.kind <= 5 -> 0 <= b.ax/\b.ax<aW g):KQ g t a b=some (vC g t a b):=by
 unfold KQ vC L2 Sa;simp only[LX,aq];cases L:aL a.kind 1 5 with
 | false=>
  simp;rw[Zv t false C D,aq,Sb,Int.max_comm]
 | true=>
  cases O:aL b.kind 1 5 with
  | false=>
   simp;rw[Zv t false C D,aq,Sb,Int.max_comm]
  | true=>
   have Q:=bx.1 L;have T:=bx.1 O;simp only[ak,cJ];rw[ajC (I Q.2) E,aq,ajC (J T.2) E,aq,Zv t _ C D,aq,ay0 t C D];cases a.ax==b.ax with
   |false=>grind
   |true =>grind
def ay2{g:aM}{t:c7}{a b:aH}(I:cC g=true)(E:jg t=true)(C:1 <= a.kind/\a.kind <= 9)(D:1 <= b.kind/\b.kind <= 9):zS g t a b=some (vC g t a b):=by
 have J:=fo I;unfold zS vC L2 Sa;rw[L3 C,L3 D];cases decide (a.kind <= 5)with
 | false=>
  simp;rw[Zw E false C D,aq,Sb]
 | true=>
  cases decide (b.kind <= 5)with
  | false=>
   simp;rw[Zw E false C D,aq,Sb]
  | true=>
   simp only[ak,cJ,Bool.and_self];rw[bM,bM,Zw E _ C D,aq,ajB E C D]
   grind
def Zx{t:c7}(h:jg t=true):∀ x∈qF t,1 <= x/\x <= 64:=by
 simp[jg,aO,cI]at h;exact λx C=>bx.1 (h.1 x C)
def ajD{t:c7}(h:jg t=true)(a b:Int):0 <= CT t a b/\CT t a b <= 128:=by
 have hb:=Zx h;simp only[qF,gf,List.not_mem_nil,or_false,forall_eq_or_imp,forall_eq]at hb;have⟨C,D,E,I,J,L,O,Q,T,U,Y,Z,kX,mE,nD,jL,qU⟩:=hb;unfold CT;rw[aR (n:=t.gw+t.rp),aR (n:=t.iY+t.rp),aR (n:=t.wr+t.rp)]
 grind
def ay3{c:Bool}{x y a b:Int}(C:a<=x/\x<=b)(D:a<=y/\y<=b):a<=(bif c then x else y)/\(bif c then x else y)<=b:=by
 cases c
 ·exact D
 ·exact C
def ay4{t:c7}(h:jg t=true)(a b:Int)(n:Bool):0 <= CU t a b n/\CU t a b n <= 128:=by
 have hb:=Zx h;simp[qF,gf,forall_eq_or_imp,forall_eq]at hb;have C:=ajD h a 1
 repeat' (first|exact C|refine ay3 ?_ ?_|omega)
def ji(g:aM)(c:aH):Int:=9*(bif aL c.kind 1 5 then c.ax else aW g)+c.kind-1
def Zy{g:aM}{c:aH}(h:dO g c=true):0 <= ji g c/\ji g c<9*(aW g+1):=by
 have⟨C,D,hb,_⟩:=CR h;have E:=fh g;unfold ji
 grind
def ay5{g:aM}{c:aH}(h:dO g c=true):QT g c=some (ji g c):=by
 have⟨C,D,hb,_⟩:=CR h;have E:=fh g;unfold QT ji;simp[oH,aq,LX];cases hu:aL _ 1 5 with
 | true=>
  have:=bx.1 hu;simp;rw[aR (n:=9*c.ax),aR (n:=9*c.ax+c.kind),aR]
 | false=>
  simp;rw[aR (n:=9*aW g),aR (n:=9*aW g+c.kind),aR]
def ajE(r:dG)(C:r.last.length<1073741824)(D:r.bf.length<1073741824):Fj r=some r:=by
 unfold Fj xA xZ;rw[show ([]).length+r.last.length=r.last.length by simp,cQ C,show ([]).length+r.bf.length=r.bf.length by simp,cQ D];rfl
def ajF(r:dG)(C:r.last.length<1073741824)(D:r.bf.length<1073741824):tU r=some r:=ajE r C D
def CV(r:dG)(x:Int):Bool:=match r.bf.getLast? with
 |some y=>decide (x<=y)
 |none=>false
def CW(l:aa Int)(x:Int):aa Int:=(l++[x]).drop (l.length+1-4)
def ue(g:aM)(r:dG)(e:eY):dG:=
 bif kK g r&&(dO g e.cmd&&(aL e.at_ 0 1000000 && !(e.cmd.kind==1&&CV r e.at_)))then ⟨r.last.set (ji g e.cmd).toNat e.at_,bif e.cmd.kind==1 then CW r.bf e.at_ else r.bf⟩else r
def Sc{g:aM}{r:dG}(h:kK g r=true):cC g=true/\(r.last.length:Int)=9*(aW g+1)/\r.bf.length <= 4:=by
 simp[kK,aO,fI,gT,qQ]at h
 grind
def ajG{l:aa Int}(h:0<l.length)(C:(W6 ((l.length:Int)-1)).toNat<l.length)(hl:l.length<1073741824):l.getLast?=some (l[(W6 ((l.length:Int)-1)).toNat]'C):=by
 have e:(W6 ((l.length:Int)-1)).toNat=l.length-1:=by rw[aR];omega
 simp only[e];rw[List.getLast?_eq_getElem?,bX (by omega)]
def ay6(g:aM)(r:dG)(e:eY)(L:r.last.length<1073741824)(O:r.bf.length<1073741824):QU g r e=some (ue g r e):=by
 unfold QU ue xA xI xL xZ;rw[ajE r L O,aq,Zo,aq];cases Q:kK g r with
 |false=>rfl
 | true=>
  simp only[bF,au,cJ];rw[Zs,aq];cases D:dO g e.cmd with
  |false=>rfl
  | true=>
   simp only[bF,au,cJ];rw[dF,aq];cases U:aL e.at_ 0 1000000 with
   |false=>rfl
   | true=>
    obtain⟨Y,hl,Z⟩:=Sc Q;have E:=Zy D;have b1:=fh g;simp only[bF,au,cJ,ay5 D,aq];cases hk:(e.cmd.kind==1)with
    | false=>
     simp only[au,Bool.false_and,iq,ak];rw[aA ⟨E.1,by omega⟩,aA]
    | true=>
     have tl:∀ (A B:ah dG),(if kz:0<=ji g e.cmd/\(ji g e.cmd).toNat<r.last.length then if kX:(ji g e.cmd).toNat<r.last.length then (bif bC (r.bf.length+([e.at_]:aa Int).length)then if 0<=(if W6 (((r.bf++[e.at_]).length:Int)-4) > 0 then W6 (((r.bf++[e.at_]).length:Int)-4)else 0)/\(if W6 (((r.bf++[e.at_]).length:Int)-4) > 0 then W6 (((r.bf++[e.at_]).length:Int)-4)else 0)<=((r.bf++[e.at_]).length:Int)/\((r.bf++[e.at_]).length:Int)<=((r.bf++[e.at_]).length:Int)then bif bC (([]:aa Int).length+(((r.bf++[e.at_]).take (((r.bf++[e.at_]).length:Int).toNat)).drop ((if W6 (((r.bf++[e.at_]).length:Int)-4) > 0 then W6 (((r.bf++[e.at_]).length:Int)-4)else 0).toNat)).length)then some (⟨(r.last.set (ji g e.cmd).toNat e.at_),(([]:aa Int)++(((r.bf++[e.at_]).take (((r.bf++[e.at_]).length:Int).toNat)).drop ((if W6 (((r.bf++[e.at_]).length:Int)-4) > 0 then W6 (((r.bf++[e.at_]).length:Int)-4)else 0).toNat)))⟩:dG)else none else none else none)else A else B)=some ⟨r.last.set (ji g e.cmd).toNat e.at_,CW r.bf e.at_⟩:=by
      intro A B;have I:(r.bf++[e.at_]).length=r.bf.length+1:=by simp
      have T:(if W6 (((r.bf.length+1:Nat):Int)-4) > 0 then W6 (((r.bf.length+1:Nat):Int)-4)else 0)=((r.bf.length+1-4:Nat):Int):=by
       rw[aR];split<;>omega
      rw[aA ⟨E.1,by omega⟩,aA,cQ (by simp;omega),ak,I,T,bA ⟨by omega,by omega,by omega⟩,cQ (by simp;omega),ak];unfold CW;simp only[bB,kj];rw[<-I,jl]
     simp only[ak,cJ];unfold CV;by_cases C:0<r.bf.length
     ·have J:(W6 ((r.bf.length:Int)-1))=((r.bf.length-1:Nat):Int):=by rw[aR];omega
      have hi:(W6 ((r.bf.length:Int)-1)).toNat<r.bf.length:=by rw[J];omega
      rw[aS (show (r.bf.length:Int) > 0 by omega),ak,aA ⟨by rw[J];omega,hi⟩,ajG C hi (by omega)];dsimp only;cases decide (e.at_<=r.bf[(W6 ((r.bf.length:Int)-1)).toNat])with
      |true=>rfl
      | false=>
       simp only[au,iq,ak];exact tl _ _
     ·have C:r.bf=[]:=List.eq_nil_of_length_eq_zero (by omega);rw[bh (by rw[C];simp),au];rw[show r.bf.getLast?=none by rw[C];rfl];simp only[iq,ak];exact tl _ _
def ay7(g:aM)(r:dG)(e:eY)(U:r.last.length<1073741824)(Y:r.bf.length<1073741824):Po g r e=some (ue g r e):=by
 unfold Po ue xA xI xL xZ;rw[ajF r U Y,aq,ayK,aq];cases Z:kK g r with
 |false=>rfl
 | true=>
  simp only[bF,au,cJ];rw[ajw,aq];cases J:dO g e.cmd with
  |false=>rfl
  | true=>
   simp only[bF,au,cJ];rw[eE,aq];cases ha:aL e.at_ 0 1000000 with
   |false=>rfl
   | true=>
    obtain⟨hg,hl,h4⟩:=Sc Z;obtain⟨_,Sd,hb,_⟩:=CR J;have hp:=Zy J;have b1:=fh g;have pl:ji g e.cmd=bif decide (e.cmd.kind<=5)then 9*e.cmd.ax+e.cmd.kind-1 else 9*aW g+e.cmd.kind-1:=by
     unfold ji;rw[L3 Sd];cases decide (e.cmd.kind<=5)<;>rfl
    have L:decide (e.cmd.kind<=5)=true->W6 (W6 (W6 (9*e.cmd.ax)+e.cmd.kind)-1)=ji g e.cmd:=by
     intro C;have:=hb (of_decide_eq_true C);rw[aR (n:=9*e.cmd.ax),aR (n:=9*e.cmd.ax+e.cmd.kind),aR,pl,C];rfl
    have hW2:decide (e.cmd.kind<=5)=false->W6 (W6 (W6 (9*aW g)+e.cmd.kind)-1)=ji g e.cmd:=by
     intro C;rw[aR (n:=9*aW g),aR (n:=9*aW g+e.cmd.kind),aR,pl,C];rfl
    have E:∀l:aa Int,l.length<1073741824->tU ⟨r.last.set (ji g e.cmd).toNat e.at_,l⟩=some ⟨r.last.set (ji g e.cmd).toNat e.at_,l⟩:=λl A7=>ajF _ (by simp;omega) A7
    have D:0<=ji g e.cmd/\(ji g e.cmd).toNat<r.last.length:=⟨hp.1,by omega⟩
    have o1:bC (([]:aa Int).length+r.bf.length)=true:=cQ (by simp;omega);have o2:bC ((([]:aa Int)++r.bf).length+([e.at_]:aa Int).length)=true:=cQ (by simp;omega);have O:((([]:aa Int)++r.bf)++([e.at_]:aa Int)).length=r.bf.length+1:=by simp
    have Q:(bif decide ((((r.bf.length+1:Nat):Int)) > 4)then if 0<=(1:Int)/\(1:Int)<=((r.bf.length+1:Nat):Int)/\((r.bf.length+1:Nat):Int)<=((r.bf.length+1:Nat):Int)then (tU (⟨r.last.set (ji g e.cmd).toNat e.at_,(((([]:aa Int)++r.bf)++([e.at_]:aa Int)).take (((r.bf.length+1:Nat):Int).toNat)).drop ((1:Int).toNat)⟩:dG)).bind λje=>some je else none else (tU (⟨r.last.set (ji g e.cmd).toNat e.at_,((([]:aa Int)++r.bf)++([e.at_]:aa Int))⟩:dG)).bind λjU=>some jU)=some ⟨r.last.set (ji g e.cmd).toNat e.at_,CW r.bf e.at_⟩:=by
     have et:((([]:aa Int)++r.bf)++([e.at_]:aa Int)).take (((r.bf.length+1:Nat):Int).toNat)=r.bf++[e.at_]:=by
      rw[bB,<-O,jl,kj]
     rw[et];unfold CW;by_cases h5:4<=r.bf.length
     ·rw[aS,ak,bA ⟨by omega,by omega,by omega⟩,E _ (by simp;omega),aq,show r.bf.length+1-4=1 by omega];rfl
     ·rw[bh,au,E _ (by simp;omega),aq,show r.bf.length+1-4=0 by omega];rfl
    simp only[bF,au,cJ,oI,aq];cases hk:(e.cmd.kind==1)with
    | false=>
     cases C:decide (e.cmd.kind<=5)with
     | true=>
      simp only[au,Bool.false_and,iq,ak,L C];rw[aA D,aA D.2,E _ (by omega),aq]
     | false=>
      simp only[au,Bool.false_and,iq,ak,hW2 C];rw[aA D,aA D.2,E _ (by omega),aq]
    | true=>
     have C:decide (e.cmd.kind<=5)=true:=by
      have:e.cmd.kind=1:=by simpa using hk
      exact aS
     simp only[ak,cJ,C,L C,o1,o2,O];unfold CV;by_cases I:0<r.bf.length
     ·have T:(W6 ((r.bf.length:Int)-1))=((r.bf.length-1:Nat):Int):=by rw[aR];omega
      have hi:(W6 ((r.bf.length:Int)-1)).toNat<r.bf.length:=by rw[T];omega
      rw[aS (show (r.bf.length:Int) > 0 by omega),ak,aA ⟨by rw[T];omega,hi⟩,ajG I hi (by omega)];dsimp only;rw[show decide (r.bf[(W6 ((r.bf.length:Int)-1)).toNat] >= e.at_)=decide (e.at_<=r.bf[(W6 ((r.bf.length:Int)-1)).toNat])from rfl];cases decide (e.at_<=r.bf[(W6 ((r.bf.length:Int)-1)).toNat])with
      |true=>rfl
      | false=>
       simp only[au,iq,ak];rw[aA D,aA D.2];exact Q
     ·have I:r.bf=[]:=List.eq_nil_of_length_eq_zero (by omega);rw[bh (by rw[I];simp),au];rw[show r.bf.getLast?=none by rw[I];rfl];simp only[iq,ak];rw[aA D,aA D.2];exact Q
def Zz{t:c7}(C:jg t=true)(g:aM)(a b:aH):1 <= vC g t a b/\vC g t a b <= 128:=by
 have D:=ay4 C a.kind b.kind (L2 g a b);have E:=ajD C a.kind b.kind;unfold vC
 grind
def ajH{t:c7}(C:jg t=true):1<=t.jK/\t.jK<=64:=Zx C _ (by simp[qF])
def ZA{T:Type}{p:T -> Bool}{l:aa T}{i:Nat}{x:T}(h:l.all p=true)(C:p x=true):(l.set i x).all p=true:=by grind
def vD{g:aM}{r:cK}(h:mZ g r=true):cC g=true/\(r.aC.length:Int)=aW g/\(0 <= r.bg/\r.bg <= 2)/\r.aC.all (Av g)=true/\(r.bg=2 -> (r.aC.all λb=>!b.open_)=true):=by
 simp only[mZ,aO,fI,bx,eB,bne_iff_ne]at h
 grind
def FV{g:aM}{r:cK}(C:cC g=true)(D:(r.aC.length:Int)=aW g)(E:0 <= r.bg/\r.bg <= 2)(I:r.aC.all (Av g)=true)(J:r.bg=2 -> (r.aC.all λb=>!b.open_)=true):mZ g r=true:=by
 simp only[mZ,aO,fI,bx,eB,bne_iff_ne]
 grind
def ajI{g:aM}{r:cK}{c:aH}(J:mZ g r=true)(I:dO g c=true)(D:pO r c=true):mZ g (fO r c)=true:=by
 have⟨C,hlen,T,E,U⟩:=vD J;have⟨_,L,hb,_⟩:=CR I;have Y:=fo C;have O:c.kind=1 -> 0 <= c.row/\c.row <= g.rows-1:=by
  intro h;simp[dO,aO]at I;have:=I.2.2.2.1;rw[sQ,h]at this
  simpa [bx]using this
 rcases kinds L with h|h|h|h|h|h|h|h|h
 ·have e:fO r c=⟨r.aC.set c.ax.toNat ⟨true,c.row⟩,r.bg⟩:=by simp[fO,h]
  have Q:r.bg=0:=by simp[pO,h]at D;exact D.1
  rw[e];exact FV C (by simpa using hlen) (by omega) (ZA E (by simp only[Av,aO,bx];exact⟨O h,by simp⟩)) (λe=>by simp only at e;omega)
 ·have e:fO r c=r:=by simp[fO,h]
  simp_all
 ·have e:fO r c=r:=by simp[fO,h]
  simp_all
 ·have e:fO r c=⟨r.aC.set c.ax.toNat ⟨false,0⟩,r.bg⟩:=by simp[fO,h]
  have Q:r.bg=0:=by simp[pO,h]at D;exact D.1
  rw[e];exact FV C (by simpa using hlen) (by omega) (ZA E (by simp only[Av,aO,bx];exact⟨by omega,by simp⟩)) (λe=>by simp only at e;omega)
 ·have e:fO r c=r:=by simp[fO,h]
  simp_all
 ·have e:fO r c=⟨r.aC,1⟩:=by simp[fO,h]
  rw[e];exact FV C hlen (by simp) E (λe=>by simp at e)
 ·have e:fO r c=⟨r.aC,0⟩:=by simp[fO,h]
  rw[e];exact FV C hlen (by simp) E (λe=>by simp at e)
 ·have e:fO r c=⟨r.aC,2⟩:=by simp[fO,h]
  rw[e];exact FV C hlen (by simp) E (λ_=>by simp[pO,h]at D;simpa using D.2)
 ·have e:fO r c=⟨r.aC,0⟩:=by simp[fO,h]
  rw[e];exact FV C hlen (by simp) E (λe=>by simp at e)
def vE(n k:Nat):aa Int:=List.replicate k (-1)++List.replicate (n-k) 0
def ay8{n k:Nat}(h:k<=n):(vE n k).length=n:=by
 unfold vE;simp;omega
def ay9{n k:Nat}(h:k<n):(vE n k).set k (-1)=vE n (k+1):=by
 obtain⟨m,rfl⟩:∃m,n=k+1+m:=⟨n-k-1,by omega⟩
 unfold vE;rw[show k+1+m-k=m+1 by omega,show k+1+m-(k+1)=m by omega,List.set_append_right _ _ (by simp),nh,Nat.sub_self,List.replicate_succ,List.replicate_succ',List.append_assoc];rfl
def aza(n:Nat):vE n 0=List.replicate n 0:=by simp[vE]
def azb(n:Nat):vE n n=List.replicate n (-1):=by simp[vE]
def ajJ(n:Nat)(C:n<1073741824):IX (n:Int)=some (List.replicate n (-1)):=by
 have e:=cy (step:=IW) n (λi=>((n,(),i,()),(vE n i,()))) _ aP (λk h=>by
  have hl:=ay8 (show k <= n by omega);unfold IW ay xG xL;dsimp only;rw[aS,ak,aA ⟨by omega,by omega⟩,aA,bD,bB,ay9 h]) (by
  unfold IW ay xG xL;dsimp only;rw[bh,au]) (bI)
 unfold IX bu;rw[bA ⟨by omega,by omega,by omega⟩];rw[aza,azb]at e;simp_all
def Se(g:aM):dG:=⟨List.replicate (9*(aW g+1)).toNat (-1),[]⟩
def azc{g:aM}(C:cC g=true):O2 g=some (Se g):=by
 have hb:=fh g;obtain⟨n,D⟩:∃n:Nat,9*(aW g+1)=n:=⟨(9*(aW g+1)).toNat,by omega⟩
 unfold O2 Se;rw[FP,aq,C,bF,au,oI,aq,w9,D,ajJ n (by omega),aq,bB]
def azd(g:aM)(r:dG)(e:eY):(ue g r e).last.length=r.last.length/\(r.bf.length <= 4 -> (ue g r e).bf.length <= 4):=by
 unfold ue;cases (kK g r&&(dO g e.cmd&&(aL e.at_ 0 1000000 && !(e.cmd.kind==1&&CV r e.at_))))with
 |false=>simp_all
 | true=>
  refine⟨by simp,λh=>?_⟩
  cases e.cmd.kind==1 with
  |false=>exact h
  | true=>
   simp[ak,CW,List.length_drop,List.length_append,jz];omega
def L4(x:dJ):Prop:=(x.weights.length<=1048576)
def place(l:aa aX)(id:Int):Int:=match l.findIdx? (λr=>r.id==id)with
 |some i=>(i:Int)
 |none=>-1
def aze(l:aa (Int×Bool))(k j:Int):mP (nP l k true) j=(j==k || mP l j):=by
 induction l with
 |nil =>rfl
 | cons p ps D=>
  simp only[nP];cases C:(k==p.1)with
  | true=>
   have e:k=p.1:=by simpa using C
   rw[ak];simp[mP]
   grind
  | false=>
   rw[au];simp only[mP]
   grind
def ic(g:aM)(a:aK):Nat:=(qC g a).toNat
def L5{g:aM}{a:aK}(h:dK g a=true):qC g a=(ic g a:Int)/\(ic g a:Int)<ez g:=by
 have:=Y0 h;unfold ic;omega
def dY.lt{g:aM}{B:Int}{a:dm}(C:dY g B a){at_:aK}(h:dK g at_=true):ic g at_<a.cells.length:=by
 have:=L5 h;have:=C.cells;omega
def dY.Az{g:aM}{B:Int}{a:dm}(C:dY g B a)(k:Nat){c:bY}(D:Sy c.symbols):dY g B ⟨a.cells.set k c,a.bz,a.br⟩:=
 ⟨by simp[C.cells],Sy.bW C.syms D,C.bz,C.br,C.As,C.iK⟩
def azf(c:bY)(h:c.symbols.length<1073741823):Rw c c=some true:=by
 unfold Rw;rw[tZ _ h];simp
def mA(R row:Int):aa Int:=(bif decide (0<row)then [row-1]else [])++(bif decide (row<R-1)then [row+1]else [])
def ZB{R row:Int}(J:2<=R)(L:R<=16)(O:0<=row)(Q:row<R):Fs R row=some (mA R row):=by
 unfold Fs mA xA xZ;have C:aL R 2 16=true:=by rw[bx];omega
 have D:aL row 0 (R-1)=true:=by rw[bx];omega
 rw[dF,aq,C,aR (n:=R-1),dF,aR (n:=row-1),aR (n:=row+1)];by_cases E:0<row<;>by_cases I:row<R-1<;>simp[D,E,I,bC]
def ajK{R row:Int}(D:0 <= row)(E:row<R):∀ n∈mA R row,0 <= n/\n<R:=by
 intro n C;unfold mA at C
 grind
def azg(R row:Int):(mA R row).length <= 2:=by
 unfold mA
 grind
def azh{R row k:Int}{i:Nat}(hi:k+row=(i:Int))(C:0 <= k)(D:0 <= row)(H:aa Int):(mA R row).foldl (λh n=>pL (k+n).toNat h) (H.set i 0)=vw R row i H:=by
 unfold mA vw At
 grind
def ajL(k:Int):∀ (l:aa Int) (H:aa Int),(l.foldl (λh n=>pL (k+n).toNat h) H).length=H.length
 |[],H=>rfl
 |x::l,H=>by rw[List.foldl_cons,ajL k l,LQ]
def ajM(k:Int):∀ (l:aa Int) (H:aa Int),(∀ x∈H,0<=x/\x<=100000)->∀ x∈l.foldl (λh n=>pL (k+n).toNat h) H,0<=x/\x<=100000
 |[],H,h=>h
 |x::l,H,h=>by rw[List.foldl_cons];exact ajM k l _ (RS h)
def azi{g:aM}(D:cC g=true){B:Int}{a:dm}(C:dY g B a)(hB:B <= 100000){n:Int}(J:0 <= n)(L:n <= 100000):Lh g a n=some ⟨a.cells,a.bz.map (mY n),a.br⟩:=by
 have O:=pJ g;have Q:=C.bz;have E:aL n 0 100000=true:=by rw[bx];omega
 unfold Lh bu;rw[C.copy,aq,C.ok D hB,aq,dF,aq,E];have e:=cy (step:=Lg) _ (λi=>((n,(),(),(a.bz.length:Int),(i:Int),()),(((),(),(),()),((),(),(),()),([]:aa bY),([]:aa Int),([]:aa Int),a.cells,upto (mY n) a.bz i,a.br,()))) (.inl (((),(),()),(((),(),(),()),((),(),(),()),([]:aa bY),([]:aa Int),([]),a.cells,a.bz.map (mY n),a.br,()))) aP (λk h=>by
  unfold Lg ay xG xL;have T:=C.As _ (cU h);have I:=FO (mY n) a.bz k h;have D:=FN (mY n) a.bz k h (by rw[Aq];exact h);simp (disch:=omega) [Aq,h,D,aR];rw[<- I];rfl) (by unfold Lg ay xG xL;simp[FM]) (bI)
 rw[cq,RH]at e;simp_all
def azj(y:Int):0 <= bits .and .i64 y 15/\bits .and .i64 y 15 <= 15:=by
 have e:bits .and .i64 y 15=IntKind.wrap .i64 ((BitVec.ofInt 64 y &&& BitVec.ofInt 64 15).toNat):=rfl;have h:(BitVec.ofInt 64 y &&& BitVec.ofInt 64 15).toNat <= 15:=by
  exact Nat.le_trans Nat.and_le_right (by decide)
 rw[e,IntKind.wrap_i64];omega
def ajN{n:Int}(C:0 <= n)(D:n<18446744073709551616):IntKind.u64.wrap n=n:=by
 have:IntKind.u64.wrap n=n % 18446744073709551616:=rfl
 grind
def lg(a:Nat):Nat:=(14688061253356765440 / 2 ^ (4*a)) % 16
def okB(C s1 s2 i:Nat):Bool:=!Nat.beq C 0&&(Nat.beq (gm C (pw i)) s1&&Nat.beq (gm s1 (pw i)) s2)
def loc(C s1 s2:Nat):ah Nat:=(List.range 11).find? (okB C s1 s2)
def FW:ah Nat->Nat
 |some n=>n
 |none=>99
def azk:(jf λa=>Nat.beq a 0 ||Q4 (Int.ofNat a)==some (Int.ofNat (lg a)))=true:=by kernel_rfl
def ajO:(jf λC=>jf λs1=>jf λs2=>bif Nat.beq C 0 || Nat.beq s1 0 then Nat.beq (FW (loc C s1 s2)) 99 else
  (λx=>!Nat.beq x 0&&Nat.beq (FW (loc C s1 s2)) (bif Nat.blt (lg x) 11&&Nat.beq (gm s1 x) s2 then lg x else 99)) (gm s1 (iv C)))=true:=by kernel_rfl
def azl:((List.range 11).all λn=>EJ 2 (Int.ofNat n)==some (Int.ofNat (pw n)))=true:=by kernel_rfl
def L6{n:Nat}(h:n<11):EJ 2 (n:Int)=some (pw n:Int):=eq_of_beq (cI.1 azl n (fq.2 h))
def azm:((List.range 11).all λi=>(List.range 3).all λj=>Nat.beq (gm (pw (i*j)) (pw i)) (pw (i*(j+1))))=true:=by kernel_rfl
def azn{i j:Nat}(hi:i<11)(C:j<3):gm (pw (i*j)) (pw i)=pw (i*(j+1)):=cD (cI.1 (cI.1 azm i (fq.2 hi)) j (fq.2 C))
def uf(w:aa Nat)(i:Nat):aa Int:=[(bU w 0 i:Int),(bU w 1 i:Int),(bU w 2 i:Int)]
def ZC(w:aa Nat)(i:Nat):Nat->aa Int
 |0=>[(bU w 0 i:Int),(bU w 1 i:Int),(bU w 2 i:Int)]
 |1=>[(bU w 0 (i+1):Int),(bU w 1 i:Int),(bU w 2 i:Int)]
 |2=>[(bU w 0 (i+1):Int),(bU w 1 (i+1):Int),(bU w 2 i:Int)]
 |_=>[(bU w 0 (i+1):Int),(bU w 1 (i+1):Int),(bU w 2 (i+1):Int)]
def azo{w:aa Nat}(L:dL w)(hl:w.length=11){i:Nat}(hi:i<11):iter EN aP ((bk w,(),(i:Int),(1:Int),(pw i:Int),(0:Int),()),(uf w i,()))=some (.inl ((bk w,(),(i:Int),()),(uf w (i+1),()))):=by
 have J:i<(bk w).length:=by rw[gM];omega
 have O:(bk w)[i]=((w.getD i 0:Nat):Int):=uc J;have Q:=L.get i;have C:∀ j,bits .xor .i64 ((bU w j i:Nat):Int) ((gm (w.getD i 0) (pw (i*j)):Nat):Int)=((bU w j (i+1):Nat):Int):=λj=>by
  rw[rP (rQ w j i) (fZ _ _)];rfl
 have D:=λj=>LK Q (ua (i*j))
 have E:∀ j,j<3 -> tX ((pw (i*j):Nat):Int) ((pw i:Nat):Int)=some ((pw (i*(j+1)):Nat):Int):=λj I=>by
  rw[LK (ua (i*j)) (ua i),azn hi I]
 generalize bk w=W at *
 generalize w.getD i 0=c at *
 have e:=cy (step:=EN) 3 (λj=>((W,(),(i:Int),(pw (i*j):Int),(pw i:Int),(j:Int),()),(ZC w i j,()))) (.inl ((W,(),(i:Int),()),(uf w (i+1),()))) aP (λj I=>by
  have D:=D j;have E:=E j I;have C:=C j;generalize pw (i*j)=d at D E C ⊢;unfold EN ay xG xI xL;rcases(by omega:j=0 \/ j=1 \/ j=2)with rfl|rfl|rfl<;>simp[ZC,J,O,D,E,C]<;>rfl) (by unfold EN ay xG xI xL;simp[ZC,uf]) (bI)
 have T:pw (i*0)=1:=by rw[Nat.mul_zero];rfl
 rw[cq,T]at e;exact e
def azp{w:aa Nat}(C:dL w)(hl:w.length=11):PD (bk w)=some (uf w 11):=by
 have D:=(LO C hl).ok;unfold PD bu;rw[RO _ _ (by rw[gM];omega),D,aq];have e:=cy (step:=Jz) 11 (λi=>((bk w,(),(i:Int),()),(uf w i,()))) (.inl (((),()),(uf w 11,()))) aP (λi hi=>by
  have E:i<w.length:=by omega
  unfold Jz ay xG bu;simp (disch:=omega) [gM,E,L6 hi,azo C hl hi,bD]) (by unfold Jz ay xG bu;simp[ hl]) (bI)
 rw[cq]at e;have I:(List.replicate (3:Int).toNat (0:Int))=uf w 0:=rfl;simp_all
def nX(w:aa Nat):Bool:=Nat.beq (bU w 0 11) 0&&(Nat.beq (bU w 1 11) 0&&Nat.beq (bU w 2 11) 0)
def fS(w:aa Nat):aa Nat×Int×Int:=bif nX w then (w,0,-1)else match loc (bU w 0 11) (bU w 1 11) (bU w 2 11)with
 |some k=>(w.set k (w.getD k 0 ^^^ bU w 0 11),1,(k:Int))
 |none=>(w,2,-1)
def FX(n m:Nat):((n:Int)==(m:Int))=Nat.beq n m:=by
 cases h:Nat.beq n m with
 |true=>simp_all
 | false=>
  have:n≠m:=by rintro rfl;simp at h
  grind
def azq{C s1 s2:Nat}(h:loc C s1 s2=none):∀ i,i<11 -> okB C s1 s2 i=false:=by
 intro i hi;have:=List.find?_eq_none.1 h i (fq.2 hi);simp_all
def Sf{D s1 s2 k:Nat}(h:loc D s1 s2=some k):k<11/\okB D s1 s2 k=true /\ ∀ i,i<k -> okB D s1 s2 i=false:=by
 refine⟨fq.1 (List.mem_of_find?_eq_some h),List.find?_some h,λi hi=>?_⟩
 have⟨J,l1,l2,E,L⟩:=List.find?_eq_some_iff_append.1 h;have O:l1.length=k/\l1=List.range k:=by
  have C:(List.range 11)[l1.length]?=some k:=by rw[E];simp
  have I:l1.length<11:=by have:=bH List.length E;simp at this;omega
  rw[List.getElem?_range I]at C;injection C with C;refine⟨C,?_⟩;have Q:(List.range 11).take l1.length=l1:=by rw[E];simp
  grind
 simp_all
def azr{w:aa Nat}(O:dL w)(hl:w.length=11):PE (bk w)=some (bk (fS w).1,(fS w).2.1,(fS w).2.2):=by
 have hs:=(LO O hl).ok;have ho:bC w.length=true:=cQ;have U:∀n:Nat,((n:Int)==(0:Int))=Nat.beq n 0:=λn=>FX n 0
 have Y:=rQ w 0 11;have vh:=rQ w 1 11;unfold PE EO xA bQ xZ xI;rw[RO _ _ (by rw[gM];omega),hs,aq,azp O hl];have Z:EO (uf w 11)=some (nX w):=by
  unfold EO nX xI;cases h1:Nat.beq (bU w 0 11) 0<;>cases h2:Nat.beq (bU w 1 11) 0<;>simp[uf,U,h1,h2]
 have E:∀i (h:i<(bk w).length),(bk w)[i]=((w.getD i 0:Nat):Int):=λi h=>uc h
 have D:∀ k,(bk w).set k (bits .xor .i64 ((w.getD k 0:Nat):Int) ((bU w 0 11:Nat):Int))=bk (w.set k (w.getD k 0 ^^^ bU w 0 11)):=λk=>by
  rw[rP (O.get k) Y,RN]
 have hlen:(bk w).length=11:=by rw[gM,hl]
 unfold EO xI at Z;unfold fS nX at *
 simp only[bF,au,aq];rw[Z,aq,cQ (by simp[hlen])];cases hz:(Nat.beq (bU w 0 11) 0&&(Nat.beq (bU w 1 11) 0&&Nat.beq (bU w 2 11) 0))with
 |true=>simp
 | false=>
  simp only[au,ak,kj];unfold uf;generalize hW:bk w=W at E D hlen ⊢;generalize hg0:bU w 0 11=C at *
  generalize Xd:bU w 1 11=s1 at *
  generalize GS:bU w 2 11=s2 at *
  have step:∀ i:Nat,i<11->Cc (((),(),(i:Int),()),(W,[(C:Int),(s1:Int),(s2:Int)],()))=some (bif okB C s1 s2 i then .inr (.inl (((),1,(i:Int),()),(bk (w.set i (w.getD i 0 ^^^ C)),())))else .inl (((),(),((i+1:Nat):Int),()),(W,[(C:Int),(s1:Int),(s2:Int)],()))):=by
   intro i hi;have ei:i<W.length:=by omega
   have I:(i:Int)<11:=by omega
   have Q:=LK Y (ua i);have m2:=LK vh (ua i);have E:=E i ei;have D:=D i;generalize w.getD i 0=c at E D ⊢;generalize bk (w.set i (c ^^^ C))=R at D ⊢;unfold Cc okB ay aV xG xL;have J:((C:Int) != (0:Int)) = !Nat.beq C 0:=by rw[bne,U]
   cases L:Nat.beq C 0 with
   |true=>simp (disch:=omega) [I,L6 hi,J,L,bD]
   | false=>
    cases T:Nat.beq (gm C (pw i)) s1 with
    |false=>simp (disch:=omega) [I,L6 hi,J,L,Q,FX,T,bD]
    | true=>
     cases q2:Nat.beq (gm s1 (pw i)) s2 with
     |false=>simp (disch:=omega) [I,L6 hi,J,L,Q,m2,FX,T,q2,bD]
     |true=>simp (disch:=omega) [I,L6 hi,J,L,Q,m2,FX,T,q2,ei,E,D]
  cases DQ:loc C s1 s2 with
  | none=>
   have hn:=azq DQ;have e:=cy (step:=Cc) 11 (λi=>(((),(),(i:Int),()),(W,[(C:Int),(s1:Int),(s2:Int)],()))) (.inr (.inl (((),()),(W,())))) aP (λi hi=>by rw[step i hi,hn i hi];rfl) (by unfold Cc ay aV xG xL;simp) (bI);rw[cq]at e;rw[e];simp only[Option.bind_some,Sum.elim_inr,ef];rw[hW]
  | some k=>
   obtain⟨hk,iS,hlo⟩:=Sf DQ;have e:=cy (step:=Cc) k (λi=>(((),(),(i:Int),()),(W,[(C:Int),(s1:Int),(s2:Int)],()))) (.inl (((),1,(k:Int),()),(bk (w.set k (w.getD k 0 ^^^ C)),()))) aP (λi hi=>by rw[step i (by omega),hlo i hi];rfl) (by rw[step k hk,iS];rfl) (bI);rw[cq]at e;rw[e];rfl
def ajP{C s1 s2:Nat}(D:C<16)(E:s1<16)(I:s2<16)(h:C=0 \/ s1=0):loc C s1 s2=none:=by
 have t:=gq (gq (gq ajO D) E) I;have J:(Nat.beq C 0 ||Nat.beq s1 0)=true:=by rcases h with rfl|rfl<;>simp
 rw[J]at t;have t:=cD t;cases hl:loc C s1 s2 with
 |none=>rfl
 | some k=>
  rw[hl]at t;have:=(Sf hl).1;simp[FW]at t;omega
def azs{C s1 s2:Nat}(D:C<16)(E:s1<16)(I:s2<16)(J:C≠0)(L:s1≠0):gm s1 (iv C)≠0/\loc C s1 s2=bif Nat.blt (lg (gm s1 (iv C))) 11&&Nat.beq (gm s1 (gm s1 (iv C))) s2 then some (lg (gm s1 (iv C)))else none:=by
 have t:=gq (gq (gq ajO D) E) I;have c0:Nat.beq C 0=false:=by cases h:Nat.beq C 0 with|false=>rfl|true=>exact absurd (cD h) J
 have O:Nat.beq s1 0=false:=by cases h:Nat.beq s1 0 with|false=>rfl|true=>exact absurd (cD h) L
 dsimp only at t;rw[c0,O,Bool.or_false,au,aO]at t;have⟨t1,t2⟩:=t;have t2:=cD t2;refine⟨(by rintro e;rw[e]at t1;cases t1),?_⟩;cases hb:(Nat.blt (lg (gm s1 (iv C))) 11&&Nat.beq (gm s1 (gm s1 (iv C))) s2)with
 | true=>
  rw[hb,ak]at t2;rw[aO]at hb;have Q:lg (gm s1 (iv C))<11:=cL hb.1;cases hl:loc C s1 s2 with
  |none=>rw[hl]at t2;simp[FW]at t2;omega
  |some k=>rw[hl]at t2;simp[FW]at t2;rw[t2];rfl
 | false=>
  rw[hb,au]at t2;cases hl:loc C s1 s2 with
  |none=>rfl
  | some k=>
   have:=(Sf hl).1;rw[hl]at t2;simp[FW]at t2;omega
def azt{a:Nat}(h:a<16)(C:a≠0):CC (a:Int)=some (iv a:Int):=by
 have t:=gq ax6 h;simp_all
def azu{a:Nat}(h:a<16)(C:a≠0):Q4 (a:Int)=some (lg a:Int):=by
 have t:=gq azk h;simp_all
def ajQ{w:aa Nat}(O:dL w)(hl:w.length=11):K3 (bk w)=some (bk (fS w).1,(fS w).2.1,(fS w).2.2):=by
 have ho:bC (([]:aa Int).length+(bk w).length)=true:=cQ (by simp[gM,hl]);have h0:∀n:Nat,((n:Int)==(0:Int))=Nat.beq n 0:=λn=>FX n 0
 have C:=rQ w 0 11;have D:=rQ w 1 11;have Q:=rQ w 2 11;have J:∀i (h:i<(bk w).length),(bk w)[i]=((w.getD i 0:Nat):Int):=λi h=>uc h
 have L:∀ k,(bk w).set k (bits .xor .i64 ((w.getD k 0:Nat):Int) ((bU w 0 11:Nat):Int))=bk (w.set k (w.getD k 0 ^^^ bU w 0 11)):=λk=>by
  rw[rP (O.get k) C,RN]
 have hlen:(bk w).length=11:=by rw[gM,hl]
 unfold K3 xA xC xL xZ;rw[Y4 O hl,aq,ax2 O hl,ho];have azv:jc [((bU w 0 11:Nat):Int),((bU w 1 11:Nat):Int),((bU w 2 11:Nat):Int)]=false:=rfl;rw[azv,au,ak,aq];unfold fS nX;cases hz:(Nat.beq (bU w 0 11) 0&&(Nat.beq (bU w 1 11) 0&&Nat.beq (bU w 2 11) 0))with
 |true=>simp
 | false=>
  simp only[au,kj];generalize T:bk w=W at J L hlen ⊢;generalize hg0:bU w 0 11=E at *
  generalize Xd:bU w 1 11=s1 at *
  generalize GS:bU w 2 11=s2 at *
  have eI:∀n:Nat,((n:Int) != (0:Int)) = !Nat.beq n 0:=λn=>by rw[bne,h0]
  by_cases I:E=0
  ·rw[ajP C D Q (.inl I)];subst I;simp[T]
  ·have c0:Nat.beq E 0=false:=by cases h:Nat.beq E 0 with | false=>rfl | true=>exact absurd (cD h) I
   by_cases U:s1=0
   ·rw[ajP C D Q (.inr U)];simp_all
   ·have c1:Nat.beq s1 0=false:=by cases h:Nat.beq s1 0 with | false=>rfl | true=>exact absurd (cD h) U
    have⟨nx,DQ⟩:=azs C D Q I U;have Z:=azt C I;have e2:=CL D (ax5 E);rw[DQ];generalize hx:gm s1 (iv E)=x at *
    have ajR:x<16:=by rw[<- hx];exact fZ _ _
    have e3:=azu ajR nx;have e4:=CL D ajR;generalize hn:lg x=n at *
    by_cases q1:n<11
    ·have Y:Nat.blt n 11=true:=iD q1;have d2:(n:Int)<11:=by omega
     have ei:n<W.length:=by omega
     have J:=J n ei;have L:=L n;cases q2:Nat.beq (gm s1 x) s2 with
     | true=>
      simp only[Y,cJ,ak];generalize w.getD n 0=c at J L ⊢;simp_all
     | false=>
      simp[ Z,e2,e3,e4,FX,q2,T]
    ·have Y:Nat.blt n 11=false:=by
      cases h:Nat.blt n 11 with
      |false=>rfl
      |true=>exact absurd (cL h) (by omega)
     have d2:¬ (n:Int)<11:=by omega
     simp only[Y,Bool.false_and,au];simp[eI,c0,c1,Z,e2,e3,d2,T]
def CX{w:aa Nat}(C:dL w)(hl:w.length=11):(fS w).1.length=11/\dL (fS w).1/\((fS w).2.1=0 \/ (fS w).2.1=1 \/ (fS w).2.1=2):=by
 have D:=rQ w 0 11;unfold fS;cases nX w with
 |true=>simp_all
 | false=>
  cases loc _ _ _ with
  |none=>simp_all
  |some k=>exact⟨by simp[hl],C.set (mw (C.get k) D),.inr (.inl rfl)⟩
def azw:(jf λa=>(List.range 11).all λk=>Nat.beq (gm (gm a (pw k)) (pw k)) (gm a (pw (k*2))))=true:=by kernel_rfl
def azx{w:aa Nat}(J:dL w)(hl:w.length=11)(h:(fS w).2.1≠2):nX (fS w).1=true:=by
 unfold fS at h ⊢;cases L:nX w with
 |true=>grind
 | false=>
  rw[L,au]at h;simp only[au];cases O:loc (bU w 0 11) (bU w 1 11) (bU w 2 11)with
  |none=>grind
  | some k=>
   have⟨E,C,_⟩:=Sf O;have D:=rQ w 0 11;simp only[okB,aO]at C;have I:=cD C.2.1;have Q:=cD C.2.2;have u:=λj=>aiX J hl D E j
   have T:gm (bU w 0 11) (pw (k*0))=bU w 0 11:=by rw[Nat.mul_zero];exact ax0 D
   have U:gm (bU w 0 11) (pw (k*2))=bU w 2 11:=by
    rw[<- cD (cI.1 (gq azw D) k (fq.2 E)),I,Q]
   simp only[nX,aO];rw[u 0,u 1,u 2,T,Nat.mul_one,I,U,Nat.xor_self,Nat.xor_self,Nat.xor_self];exact⟨rfl,rfl,rfl⟩
def azy{w:aa Nat}(C:dL w)(hl:w.length=11):Q6 (bk w)=some (bk (w.drop 3)):=by
 unfold Q6 xA xZ;have c0:((w.length:Int)==(11:Int))=true:=by rw[hl];rfl
 have D:(bk w).length=11:=by rw[gM,hl]
 rw[Y3 C (by omega),aq,c0,show (!true)=false from rfl,au,D];have e:((bk w).take ((11:Nat):Int).toNat).drop (3:Int).toNat=bk (w.drop 3):=by
  rw[List.take_of_length_le (by omega)];simp_all
 have E:bC (([]:aa Int).length+(bk (w.drop 3)).length)=true:=by
  rw[gM,List.length_drop,hl];rfl
 simp_all
def AA(x:fU):Prop:=L4 x.bV/\L4 x.next
def ZD(x:cK):Prop:=(x.aC.length<=1048576)
def azz(x:dG):Prop:=(x.last.length<=1048576)/\(x.bf.length<=1048576)
def Sg(x:bY):Prop:=(x.symbols.length<=1048576)
def Sh(x:dm):Prop:=(x.cells.length<=1048576/\∀y∈x.cells,Sg y)/\(x.bz.length<=1048576)/\(x.br.length<=1048576)
def ajS(x:dH):Prop:=(x.map.length<=1048576)
def xK(x:cY):Prop:=(x.aJ.length<=1048576)
def jw(x:cr):Prop:=(x.rows.length<=1048576)/\(x.counts.length<=1048576)
def cW(x:av):Prop:=AA x.box/\ZD x.bq/\azz x.ready/\Sh x.array/\ajS x.spare/\xK x.aQ/\(x.bO.length<=1048576/\∀y∈x.bO,jw y)/\(x.guard.length<=1048576)/\(x.pending.length<=1048576)/\(x.queue.length<=1048576)/\(x.shares.length<=1048576)/\(x.errors.length<=1048576)/\(x.trace.length<=1048576)/\(x.cz.length<=1048576)
def lJ(c:eT)(p:dJ):Bool:=(sI c p).getD false
def L7(c:eT)(p:dJ)(hl:p.weights.length<1073741823):sI c p=some (lJ c p):=by
 obtain⟨b,e,_⟩:=Zj c p hl;unfold lJ;rw[e];rfl
def ajT(c:eT)(p:dJ)(hl:p.weights.length<1073741823):B4 c p=some (lJ c p):=by
 have⟨b,e,C,_⟩:=ayz c p hl;unfold lJ;simp_all
def ba1(a x:Bool):(bif a then some x else some false)=some (a&&x):=by cases a<;>rfl
def ba2(a x:Bool):(bif !a then some false else some x)=some (a&&x):=by cases a<;>rfl
def ba3(a b:Int)(x:Bool):(bif a != b then some false else some x)=some (a==b&&x):=by
 rw[bne];cases a==b<;>rfl
theorem ba4(p:Prop)[Decidable p](x:Bool):(bif decide p then some false else some x)=some (!decide p&&x):=by cases decide p<;>rfl
def c8(c:av):Bool:=
 lJ c.config c.box.bV&&(lJ c.config c.box.next&&(aL c.now 0 1000000&&(mZ c.config.az c.bq&&(kK c.config.az c.ready&&(mW c.config.az c.array&&(kL c.config.az c.spare&&(c.spare.bP==c.config.bP&&((eA c.aQ&&sP c)&&(iU (ez (eJ c.config.az c.spare)) c.queue&&(gN c.shares&&((c.shares.length:Int)==4&&(kH c.drain&&(iL c.bg&&(c.bg.state==c.bq.bg&&(!decide (c.bg.since > c.now)&&(aL c.cM.every 1 100000&&(aL c.cM.wait 1 c.cM.every&&(aL c.cM.next 0 (W6 (ez c.config.az-1))&&(kI c.errors&&(decide ((c.trace.length:Int)<=2000)&&decide ((c.cz.length:Int)<=400)))))))))))))))))))))
def Si(c:av)(C:cW c):Fg c=some (c8 c):=by
 have⟨⟨D,E⟩,Q,⟨T,U⟩,⟨⟨Y,I⟩,Z,z8⟩,z9,J,⟨jx,aDr⟩,iV,iW,gP,jj,z16,z17,z18⟩:=C;unfold L4 at D E;have L:∀ x∈c.array.cells,x.symbols.length<1073741824:=λx O=>by
  have:=I x O;unfold Sg at this;omega
 unfold xK at J;unfold Fg c8;simp only[L7 _ _ (show c.box.bV.weights.length<1073741823 by omega),L7 _ _ (show c.box.next.weights.length<1073741823 by omega),dF,ajg,Zo,ai5 _ _ L,ajr,ayR _ (show c.aQ.aJ.length<1073741824 by omega),Zq,LI,ayD _ _ (show c.queue.length<1073741824 by omega),LS _ (show c.shares.length<1073741824 by omega),R0,R4,ajl _ (show c.errors.length<1073741824 by omega),aq,ba1,ba2,ba3,ba4]
def ajU{g:aM}{a:dm}(h:mW g a=true):cC g=true/\(a.bz.length:Int)=fY g/\(a.br.length:Int)=fY g:=by
 simp[mW,aO,gK]at h;simp_all
def ajV(p:dJ):Prop:=(0<=p.eS/\p.eS<=1)/\(0<=p.cap/\p.cap<=200)/\(0<=p.low/\p.low<=2)/\(p.low<p.high/\p.high<=6)/\(∃(i:Nat) (w:Int),i<4/\1<=w/\w<=4/\p.weights=[1,1,1,1].set i w)/\(5<=p.dS.down/\p.dS.down<=24)/\(60<=p.dS.sleep/\p.dS.sleep<=119)
def xN(p:dJ):Prop:=ajV p/\8<=p.eZ/\p.eZ<=17
def azA{b:aa Int}{c:bN}(L:jF b c):Dr b (Qh c) ajV:=by
 unfold Qh xL;rw[L.eq];show Dr b (Option.bind (some _) _) _;rw[aq]
 refine(fl L 2).bind λx1 k1 O Q=>?_
 dsimp only;rw[Q.eta]
 refine(RQ Q _ (by decide)).bind λT k2 h2 U=>?_
 dsimp only;rw[U.eta]
 refine(fl U 6).bind λx3 k3 Y Z=>?_
 dsimp only;rw[Z.eta]
 refine(fl Z 3).bind λC k4 D ve=>?_
 dsimp only;rw[ve.eta]
 refine(fl ve 4).bind λE k5 h5 BM=>?_
 dsimp only;rw[BM.eta]
 refine(fl BM 4).bind λx6 k6 h6 L8=>?_
 dsimp only;rw[L8.eta]
 refine(fl L8 4).bind λx7 k7 h7 L9=>?_
 have a1:=O.2.2 (by omega);have a3:=Y.2.2 (by omega);have a4:=D.2.2 (by omega);have a5:=h5.2.2 (by omega);have a6:=h6.2.2 (by omega);have a7:=h7.2.2 (by omega);have b3:=Y.1;have b4:=D.1;have b5:=h5.1;have b6:=h6.1;have b7:=h7.1;have hl:x6.toNat<([1,1,1,1]:aa Int).length:=by simp only[List.length_cons,List.length_nil];omega
 dsimp only;rw[aA ⟨b6,hl⟩,aA hl,L9.eta]
 refine(fl L9 20).bind λI k8 h8 hk8=>?_
 dsimp only;rw[hk8.eta]
 refine(fl hk8 60).bind λJ k9 h9 Sd=>?_
 dsimp only;rw[Sd.eta];have a8:=h8.2.2 (by omega);have a9:=h9.2.2 (by omega);have b8:=h8.1;have b9:=h9.1;rw[aR (n:=3+x3),aR (n:=C+1),aR (n:=C+1+E),aR (n:=1+x7),aR (n:=5+I),aR (n:=60+J)];simp only[gf,List.not_mem_nil,or_false]at h2;refine Dr.pure Sd ⟨⟨O.1,by show x1<=_;omega⟩,⟨by show 0<=T;omega,by show T<=_;omega⟩,⟨D.1,by show C<=_;omega⟩,⟨by show C<C+1+E;omega,by show C+1+E<=_;omega⟩,⟨x6.toNat,1+x7,by omega,by omega,by omega,rfl⟩,⟨by show 5<=5+I;omega,by show 5+I<=_;omega⟩,⟨by show 60<=60+J;omega,by show 60+J<=_;omega⟩⟩
def ajW{b:aa Int}{c:bN}(C:jF b c):Dr b (Ke c) xN:=by
 unfold Ke;rw[C.eq]
 refine(azA C).bind λL O J D=>?_
 dsimp only;rw[D.eta]
 refine(fl D 10).bind λE Q T I=>?_
 dsimp only;rw[I.eta];rw[aR];exact Dr.pure I ⟨J,by show 8 <= 8+E;omega,by show 8+E <= _;omega⟩
def azB{b:aa Int}{c:bN}(C:jF b c):Dr b (OR c) λg=>g.cu=1/\1<=g.aC/\g.aC<=2/\1<=g.aN/\g.aN<=2:=by
 unfold OR;rw[C.eq]
 refine(fl C 2).bind λD U E I=>?_
 dsimp only;rw[I.eta]
 refine(fl I 3).bind λY Z J L=>?_
 dsimp only;rw[L.eta]
 refine(fl L 2).bind λO k3 Q T=>?_
 dsimp only;rw[T.eta];have a1:=E.2.2 (by omega);have a2:=J.2.2 (by omega);have a3:=Q.2.2 (by omega);have b1:=E.1;have b2:=J.1;have b3:=Q.1;rw[aR,aR,aR];exact Dr.pure T ⟨rfl,by show 1<=1+D;omega,by show 1+D<=_;omega,by show 1<=1+O;omega,by show 1+O<=_;omega⟩
def azC{b:aa Int}{c:bN}(C:jF b c):Dr b (OS c) λm=>0 <= m.order/\m.order <= 2:=by
 unfold OS;rw[C.eq]
 refine(fl C 3).bind λI L J D=>?_
 rw[D.eta]
 refine(RR D 2).bind λO Q T E=>?_
 rw[E.eta];exact Dr.pure E ⟨J.1,by show I <= 2;omega⟩
def ZE(iY wr:Int):c7:=⟨3,3,7,2,3,10,2,3,iY,wr,4,5,4,12,3,4,16⟩
def Sj(g:aM):Prop:=(1<=g.cu/\g.cu<=2)/\(1<=g.aC/\g.aC<=2)/\(4<=g.rows/\g.rows<=6)/\(1<=g.aN/\g.aN<=2)
def vF(x:eT):Prop:=Sj x.az/\(∃r w:Int,1<=r/\r<=4/\4<=w/\w<=8/\x.bL=ZE r w)/\(0<=x.mapping.order/\x.mapping.order<=2)/\(0<=x.bP/\x.bP<=2)/\(200<=x.interval/\x.interval<=259)/\x.gU=16/\x.dU=⟨6*x.interval,40⟩
def azD{b:aa Int}{c:bN}(J:jF b c):Dr b (OT c) vF:=by
 unfold OT;rw[J.eq]
 refine(azB J).bind λg kg hg L=>?_
 dsimp only;rw[L.eta];obtain⟨g1,g2,g3,g4,g5⟩:=hg;show Dr b (Option.bind (some _) _) _;rw[aq]
 refine(azC L).bind λm km O Q=>?_
 dsimp only;rw[Q.eta]
 refine(fl Q 60).bind λC k1 T U=>?_
 dsimp only;rw[U.eta]
 refine(fl U 3).bind λD k2 Y Z=>?_
 dsimp only;rw[Z.eta]
 refine(fl Z 2).bind λE k3 h3 zF=>?_
 dsimp only;rw[zF.eta]
 refine(fl zF 3).bind λx4 k4 h4 ve=>?_
 dsimp only;rw[ve.eta]
 refine(RR ve 3).bind λx5 k5 h5 I=>?_
 dsimp only;rw[I.eta];have a1:=T.2.2 (by omega);have a2:=Y.2.2 (by omega);have a3:=h3.2.2 (by omega);have a4:=h4.2.2 (by omega);have b1:=T.1;have b2:=Y.1;have b3:=h3.1;have b4:=h4.1;have e1:W6 (200+C)=200+C:=aR;have e2:W6 (6*(200+C))=6*(200+C):=aR;have e3:W6 (4+D)=4+D:=aR;have e4:W6 (1+E)=1+E:=aR;rw[e1,e2,e3,e4];have hG:Sj ⟨1+E,g.aC,4+D,g.aN⟩:=⟨⟨by show 1<=1+E;omega,by show 1+E<=2;omega⟩,⟨g2,g3⟩,⟨by show 4<=4+D;omega,by show 4+D<=6;omega⟩,⟨g4,g5⟩⟩
 cases x5 with
 | true=>
  rw[ak]
  refine(fl I 5).bind λx6 k6 h6 L8=>?_
  dsimp only;rw[L8.eta]
  refine(fl L8 4).bind λx7 k7 h7 L9=>?_
  dsimp only;rw[L9.eta];have a6:=h6.2.2 (by omega);have a7:=h7.2.2 (by omega);have b6:=h6.1;have b7:=h7.1;rw[aR (n:=1+x7),aR (n:=4+x6)];exact Dr.pure L9 ⟨hG,⟨1+x7,4+x6,by omega,by omega,by omega,by omega,rfl⟩,O,⟨b4,by show x4<=2;omega⟩,⟨by show 200<=200+C;omega,by show 200+C<=259;omega⟩,rfl,rfl⟩
 |false=>exact Dr.pure I ⟨hG,⟨3,6,by omega,by omega,by omega,by omega,rfl⟩,O,⟨b4,by show x4<=2;omega⟩,⟨by show 200<=200+C;omega,by show 200+C<=259;omega⟩,rfl,rfl⟩
def iM(p:aX->Bool)(q:aa aX):Nat:=(q.findIdx? p).getD q.length
def ajX(p:aX -> Bool)(q:aa aX):iM p q <= q.length:=by
 unfold iM;cases h:q.findIdx? p with
 |none=>simp_all
 | some k=>
  have⟨C,_⟩:=nj.1 h
  grind
def xO(p:aX->Bool)(q:aa aX)(r:aX):aa aX:=(q.take (iM p q)++[r])++q.drop (iM p q)
def azE(p:aX->Bool)(q:aa aX)(r:aX):(xO p q r).length=q.length+1:=by
 have:=ajX p q;simp[xO];omega
def azF{p:aX -> Bool}{q:aa aX}{i:Nat}(h:i<iM p q)(hi:i<q.length):p q[i]=false:=by
 unfold iM at h;cases C:q.findIdx? p with
 |none =>simp_all
 | some k=>
  rw[C]at h;have⟨_,_,D⟩:=nj.1 C;simp_all
def azG{p:aX -> Bool}{q:aa aX}(h:iM p q<q.length):p q[iM p q]=true:=by
 unfold iM at h;cases C:q.findIdx? p with
 |none=>grind
 | some k=>
  have⟨D,E,_⟩:=nj.1 C;have e:iM p q=k:=by unfold iM;rw[C];rfl
  simp_all
def azH{n:Int}{l:aa aX}(h:iU n l=true){i j:Nat}(E:i<j)(D:j<l.length):(l[i].id==l[j].id)=false:=by
 unfold iU at h;rw[aO,cI]at h;have C:=h.1 j (fq.2 D);unfold rR at C;rw[bX D]at C;simp at C;have:=C.2.2 l[i] (jA.2 ⟨i,by simp;omega,by simp⟩);simp_all
def CY(n:Int)(q:aa aX)(r:aX):aa aX×Bool:=bif iU n q&&iU n (xO (λx=>fR r x) q r)then (xO (λx=>fR r x) q r,true)else (q,false)
def ajY(r:aX):(⟨r.id,r.dI,r.line,r.write,r.data,r.at_⟩:aX)=r:=rfl
def m6(r:aX)(q:aa aX)(i:Nat):aa aX:=if iM (λx=>fR r x) q<i then (q.take (iM (λx=>fR r x) q)++[r])++(q.take i).drop (iM (λx=>fR r x) q)else q.take i
def ajZ(r:aX)(q:aa aX)(i:Nat)(h:i <= q.length):(m6 r q i).length <= i+1:=by
 unfold m6
 grind
def azI{r:aX}{q:aa aX}{k:Nat}(C:k<q.length)(h:k=iM (λx=>fR r x) q):m6 r q (k+1)=(q.take k++[r])++[q[k]]:=by
 unfold m6;rw[bA,<- h,pK,List.drop_left' (by simp;omega)]
def azJ{r:aX}{q:aa aX}{k:Nat}(C:k<q.length)(h:iM (λx=>fR r x) q<k):m6 r q (k+1)=m6 r q k++[q[k]]:=by
 unfold m6;rw[bA,bA h,pK C,List.drop_append_of_le_length (by simp;omega)];simp_all
def azK{r:aX}{q:aa aX}{k:Nat}(C:k<q.length)(h:k<iM (λx=>fR r x) q):m6 r q (k+1)=m6 r q k++[q[k]]:=by
 unfold m6;rw[bM,bM,pK C]
def azL(n:Int)(q:aa aX)(r:aX)(hl:q.length<1000000000):O9 n q r=some (CY n q r):=by
 have Q:=ajX (λx=>fR r x) q;unfold O9 xA bu xZ;have e:=cy (step:=I4) q.length (λi=>((n,q,(),(),decide (iM (λx=>fR r x) q<i),(i:Int),()),((r.id,r.dI,r.line,r.write,r.data,r.at_,()),m6 r q i,()))) (.inl ((n,q,(),(),decide (iM (λx=>fR r x) q<q.length),()),((r.id,r.dI,r.line,r.write,r.data,r.at_,()),m6 r q q.length,()))) aP (λk h=>by
  have I:=ajZ r q k (by omega);unfold I4 ay xG xI;dsimp only;rw[aS (show (k:Int)<(q.length:Int) by omega),ak];by_cases c:iM (λx=>fR r x) q<k
  ·rw[aS c,bF,au,aA ⟨by omega,by omega⟩];simp only[bB];rw[cQ (by simp;omega),ak,bD,azJ h c,aS (show iM _ q<k+1 by omega)]
  ·rw[bh c,iq,ak,aA ⟨by omega,by omega⟩];simp only[bB];rw[ajY,aji,aq];by_cases J:k=iM (λx=>fR r x) q
   ·have C:fR r q[k]=true:=by
     have:=azG (p:=λx=>fR r x) (q:=q) (by omega);simp_all
    have D:m6 r q k=q.take k:=by unfold m6;rw[bM c]
    rw[C,ak,cQ (by simp;omega),ak,aA ⟨by omega,by omega⟩,cQ (by simp;omega),ak,bD,aS (show iM _ q<k+1 by omega),azI h J,D]
   ·have C:=azF (p:=λx=>fR r x) (by omega) h;rw[C,au,aA ⟨by omega,by omega⟩,cQ (by simp;omega),ak,bD,bh (show ¬ iM _ q<k+1 by omega),azK h (by omega)]) (by
  unfold I4 ay xG xI;dsimp only;rw[bh,au]) (bI)
 have D:m6 r q 0=[]:=by
  unfold m6;simp[*]
 rw[cq,D,bh (show ¬ iM (λx=>fR r x) q<0 by omega)]at e;rw[e,aq];simp only[ef];have T:=azE (λx=>fR r x) q r;have E:∀l:aa aX,l.length<1073741824 -> bC (([]:aa aX).length+l.length)=true:=λl h=>cQ (by simpa using h)
 have key:∀ o:aa aX,o=xO (λx=>fR r x) q r -> ((xd n q).bind λL=>bif (!L)then bif bC (([]:aa aX).length+q.length)then some ((([]:aa aX)++q),false)else none else (xd n o).bind λO=>bif (!O)then bif bC (([]:aa aX).length+q.length)then some ((([]:aa aX)++q),false)else none else some (o,true))=some (CY n q r):=by
  rintro o rfl;rw[ajj,aq];unfold CY;cases U:iU n q with
  |false=>rw[iq,ak,E q (by omega)];rfl
  | true=>
   rw[bF,au,ajj,aq,cJ];cases C:iU n (xO (λx=>fR r x) q r)with
   |false=>rw[iq,ak,E q (by omega)];rfl
   |true=>rfl
 have I:=ajZ r q q.length (eK _);by_cases c:iM (λx=>fR r x) q<q.length
 ·rw[aS c,bF];refine key _ ?_;unfold m6 xO;simp[*]
 ·rw[bh c,iq,ak,cQ (by simp only[jz];omega),ak,ajY];refine key _ ?_;unfold m6 xO;have:iM (λx=>fR r x) q=q.length:=by omega
  rw[bM c,this,jl,List.drop_length,List.append_nil]
abbrev azM:=((af×af×af×Int×af)×(av×(Int×Int×Int×Int×Int×Int×Int×Int×Int×Int×Int×Int×Int×Int×Int×Int×Int×Int×Int×Int×Int×Int×Bool×Int×Int×Int×Int×Int×Int×Int×Int×Int×Int×af×Int×Int×Int×Int×Int×Int×Int×af×Int×Int×Bool×Int×af×Int×af×af×af×af×af×Int×af×af×Int×Bool×(aa cr)×(aa Int)×(aa aK)×(aa aX)×(aa cw)×Bool×Int×Int×Int×Int×Int×Int×Int×Int×(aa cv)×(aa eY)×(aa eM)×af)×(aa cr)×(aa Int)×(aa Int)×(aa eP)×(aa Int)×(aa Int)×(aa bY)×(aa Int)×(aa Int)×(aa Int)×(aa Int)×af))
abbrev azN:=((af×af×af×(aa cr)×Int×Int×af)×(av×av×(Int×Int×Int×Int×Int×Int×Int×Int×Int×Int×Int×Int×Int×Int×Int×Int×Int×Int×Int×Int×Int×Int×Bool×Int×Int×Int×Int×Int×Int×Int×Int×Int×Int×af×Int×Int×Int×Int×Int×Int×Int×af×Int×Int×Bool×Int×af×Int×af×af×af×af×af×Int×af×af×Int×Bool×af×(aa Int)×(aa aK)×(aa aX)×(aa cw)×Bool×Int×Int×Int×Int×Int×Int×Int×Int×(aa cv)×(aa eY)×(aa eM)×af)×(aa Int)×(aa Int)×(aa eP)×(aa Int)×(aa Int)×(aa bY)×(aa Int)×(aa Int)×(aa Int)×(aa Int)×(aa cr)×af))
def gQ{α:Type}(l:aa α)(h:l.length<=1048577:=by omega):bC (([]:aa α).length+l.length)=true:=cQ (by simp;omega)
def ZF(t:cr)(h:jw t):Fl t=some t:=by
 unfold Fl xA xZ;have C:=h.1;have D:=h.2;rw[gQ _,gQ _];rfl
def aj0(t:cr)(h:jw t):IN t=some t:=ZF t h
def azO(s:azM)(T:aa cr)(C:s.1.2.2.2.1=0)(D:s.2.2.2.1=[])(E:s.2.2.1.2.2.2.2.2.2.2.2.2.2.2.2.2.2.2.2.2.2.2.2.2.2.2.2.2.2.2.2.2.2.2.2.2.2.2.2.2.2.2.2.2.2.2.2.2.2.2.2.2.2.2.2.2.2.2.2.2.2.1=T)(I:T.length<=1048576/\∀ y∈T,jw y):iter Ev aP s=some (.inl (((),(),(),()),(s.2.1,s.2.2.1,T,s.2.2.2.2))):=by
 subst E;have e:=cy (step:=Ev) (s.2.2.1.2.2.2.2.2.2.2.2.2.2.2.2.2.2.2.2.2.2.2.2.2.2.2.2.2.2.2.2.2.2.2.2.2.2.2.2.2.2.2.2.2.2.2.2.2.2.2.2.2.2.2.2.2.2.2.2.2.2.1).length (λi=>(((),(),(),(i:Int),()),(s.2.1,s.2.2.1,(s.2.2.1.2.2.2.2.2.2.2.2.2.2.2.2.2.2.2.2.2.2.2.2.2.2.2.2.2.2.2.2.2.2.2.2.2.2.2.2.2.2.2.2.2.2.2.2.2.2.2.2.2.2.2.2.2.2.2.2.2.2.1).take i,s.2.2.2.2))) (.inl (((),(),(),()),(s.2.1,s.2.2.1,s.2.2.1.2.2.2.2.2.2.2.2.2.2.2.2.2.2.2.2.2.2.2.2.2.2.2.2.2.2.2.2.2.2.2.2.2.2.2.2.2.2.2.2.2.2.2.2.2.2.2.2.2.2.2.2.2.2.2.2.2.2.1,s.2.2.2.2))) aP (λk h=>by
  unfold Ev ay xG xI;dsimp only;rw[aS,ak,aA ⟨by omega,by omega⟩];simp only[bB];rw[aj0 _ (I.2 _ (cU _)),aq,cQ (by simp;omega),ak,bD,pK h]) (by
  unfold Ev ay xG xI;dsimp only;rw[bh,au,jl]) (bI)
 have J:s=(((),(),(),((0:Nat):Int),()),(s.2.1,s.2.2.1,(s.2.2.1.2.2.2.2.2.2.2.2.2.2.2.2.2.2.2.2.2.2.2.2.2.2.2.2.2.2.2.2.2.2.2.2.2.2.2.2.2.2.2.2.2.2.2.2.2.2.2.2.2.2.2.2.2.2.2.2.2.2.1).take 0,s.2.2.2.2)):=by
  rw[List.take_zero,<-D,cq,<-C]
 rw[<-e,<-J]
def azP(s:azN)(D:s.1.2.2.2.2.2.1=0)(E:s.1.2.2.2.2.1=(s.1.2.2.2.1.length:Int))(I:s.2.2.2.2.2.2.2.2.2.2.2.2.2.2.1=[])(C:s.1.2.2.2.1.length <= 1048576 /\ ∀ y∈s.1.2.2.2.1,jw y):iter Fm aP s=some (.inl (((),(),(),()),(s.2.1,s.2.2.1,s.2.2.2.1,s.2.2.2.2.1,s.2.2.2.2.2.1,s.2.2.2.2.2.2.1,s.2.2.2.2.2.2.2.1,s.2.2.2.2.2.2.2.2.1,s.2.2.2.2.2.2.2.2.2.1,s.2.2.2.2.2.2.2.2.2.2.1,s.2.2.2.2.2.2.2.2.2.2.2.1,s.2.2.2.2.2.2.2.2.2.2.2.2.1,s.2.2.2.2.2.2.2.2.2.2.2.2.2.1,s.1.2.2.2.1,s.2.2.2.2.2.2.2.2.2.2.2.2.2.2.2))):=by
 have e:=cy (step:=Fm) s.1.2.2.2.1.length (λi=>(((),(),(),s.1.2.2.2.1,s.1.2.2.2.1.length,i,()),(s.2.1,s.2.2.1,s.2.2.2.1,s.2.2.2.2.1,s.2.2.2.2.2.1,s.2.2.2.2.2.2.1,s.2.2.2.2.2.2.2.1,s.2.2.2.2.2.2.2.2.1,s.2.2.2.2.2.2.2.2.2.1,s.2.2.2.2.2.2.2.2.2.2.1,s.2.2.2.2.2.2.2.2.2.2.2.1,s.2.2.2.2.2.2.2.2.2.2.2.2.1,s.2.2.2.2.2.2.2.2.2.2.2.2.2.1,s.1.2.2.2.1.take i,s.2.2.2.2.2.2.2.2.2.2.2.2.2.2.2))) _ aP (λk h=>by
  unfold Fm ay xG xI;dsimp only;rw[aS,ak,aA ⟨by omega,by omega⟩];simp only[bB];rw[ZF _ (C.2 _ (cU _)),aq,cQ (by simp;omega),ak,bD,pK h]) (by
  unfold Fm ay xG xI;dsimp only;rw[bh,au,jl]) (bI)
 grind
def aj1(l:aa Int)(h:l.length <= 1048577):QI l=some l:=by
 cases l with
 |nil=>rfl
 | cons a l=>
  show (bif bC _ then some _ else none)=_;rw[gQ _ h];rfl
def azQ(l:aa aK)(h:l.length <= 1048577):Yn l=some l:=by
 cases l with
 |nil=>rfl
 | cons a l=>
  show (bif bC _ then some _ else none)=_;rw[gQ _ h];rfl
def azR(l:aa aX)(h:l.length <= 1048577):Yo l=some l:=by
 cases l with
 |nil=>rfl
 | cons a l=>
  show (bif bC _ then some _ else none)=_;rw[gQ _ h];rfl
def azS(l:aa cw)(h:l.length <= 1048577):Yp l=some l:=by
 cases l with
 |nil=>rfl
 | cons a l=>
  show (bif bC _ then some _ else none)=_;rw[gQ _ h];rfl
def azT(l:aa cv)(h:l.length <= 1048577):Yq l=some l:=by
 cases l with
 |nil=>rfl
 | cons a l=>
  show (bif bC _ then some _ else none)=_;rw[gQ _ h];rfl
def azU(l:aa eY)(h:l.length <= 1048577):Yr l=some l:=by
 cases l with
 |nil=>rfl
 | cons a l=>
  show (bif bC _ then some _ else none)=_;rw[gQ _ h];rfl
def azV(l:aa eM)(h:l.length <= 1048577):Ys l=some l:=by
 cases l with
 |nil=>rfl
 | cons a l=>
  show (bif bC _ then some _ else none)=_;rw[gQ _ h];rfl
def ZG(b:fU)(h:AA b):KM b=some b:=by
 have C:b.bV.weights.length <= 1048576:=h.1;have D:b.next.weights.length <= 1048576:=h.2
 unfold KM Fh xA xZ;rw[gQ _,ak,gQ _];rfl
def ZH(b:fU)(h:AA b):IJ b=some b:=ZG b h
def azW(c:av)(D:cW c):OW c=some c:=by
 obtain⟨E,I,J,C,L,O,Q,U,Y,Z,jx,iV,iW,gP⟩:=D;have y2:c.bq.aC.length<=1048576:=I;obtain⟨y3,y3'⟩:=J;have y5:c.spare.map.length<=1048576:=L;have y6:c.aQ.aJ.length<=1048576:=O;unfold OW xA bu xZ;rw[ZH _ E,aq];unfold XB tU IM B2 xA xZ;rw[gQ _,ak,aq,gQ _,ak,gQ _,ak,aq,ayg _ (by have:=C.1.1;omega) (by have:=C.2.1;omega) (by have:=C.2.2;omega) (λx T=>by have:x.symbols.length<=1048576:=C.1.2 x T;omega),aq,gQ _,ak,aq,gQ _,ak,aq]
 refine(bH (λo=>Option.bind o _) (azO _ c.bO rfl rfl rfl Q)).trans ?_
 rw[aq];simp only[ef];rw[gQ c.guard,ak,gQ c.pending,ak,gQ c.queue,ak,gQ c.shares,ak,gQ c.errors,ak,gQ c.trace,ak,gQ c.cz,ak];rfl
def Sk(c:av)(D:cW c):Fo c=some c:=by
 obtain⟨E,I,J,C,L,O,Q,U,Y,Z,jx,iV,iW,gP⟩:=D;have y2:c.bq.aC.length<=1048576:=I;obtain⟨y3,y3'⟩:=J;have y5:c.spare.map.length<=1048576:=L;have y6:c.aQ.aJ.length<=1048576:=O;unfold Fo bu;rw[ZG _ E,aq];unfold Fi Fj Cy xA xZ;rw[gQ _,ak,aq,gQ _,ak,gQ _,ak,aq,ai4 _ (by have:=C.1.1;omega) (by have:=C.2.1;omega) (by have:=C.2.2;omega) (λx T=>by have:x.symbols.length<=1048576:=C.1.2 x T;omega),aq,aj1 _ (by omega),aq,gQ _,ak,aq]
 refine(bH (λo=>Option.bind o _) (azP _ rfl rfl rfl Q)).trans ?_
 rw[aq];simp only[ef];rw[aj1 c.guard (by omega),aq,azQ c.pending (by omega),aq,azR c.queue (by omega),aq,azS c.shares (by omega),aq,azT c.errors (by omega),aq,azU c.trace (by omega),aq,azV c.cz (by omega),aq];rfl
def c9{α:Type}(p:α->Bool)(q:aa α):Nat:=(q.findIdx? p).getD q.length
def ug{α:Type}(p:α -> Bool)(q:aa α):c9 p q <= q.length:=by
 unfold c9;cases h:q.findIdx? p with
 |none=>simp_all
 | some k=>
  have⟨C,_⟩:=nj.1 h
  grind
def m7{α:Type}{p:α -> Bool}{q:aa α}{i:Nat}(h:i<c9 p q)(hi:i<q.length):p q[i]=false:=by
 unfold c9 at h;cases C:q.findIdx? p with
 |none =>simp_all
 | some k=>
  rw[C]at h;have⟨_,_,D⟩:=nj.1 C;simp_all
def qG{α:Type}{p:α -> Bool}{q:aa α}(h:c9 p q<q.length):p q[c9 p q]=true:=by
 unfold c9 at h;cases C:q.findIdx? p with
 |none=>grind
 | some k=>
  have⟨D,E,_⟩:=nj.1 C;have e:c9 p q=k:=by unfold c9;rw[C];rfl
  simp_all
def Ma{α:Type}(p:α -> Bool)(q:aa α):q.any p=decide (c9 p q<q.length):=by
 by_cases c:c9 p q<q.length
 ·rw[aS c,List.any_eq_true];exact⟨_,cU c,qG c⟩
 ·rw[bh c,mC];intro x C;obtain⟨i,hi,rfl⟩:=jA.1 C;rw[m7 (p:=p) (by omega) hi];simp
def azX(c:av)(r:aX):aX:=⟨r.id,r.dI,r.line,r.write,r.data,c.now⟩
def m8(c:av)(r:aX):aa aX×Bool:=CY (ez (eJ c.config.az c.spare)) c.queue (azX c r)
def sR(c:av)(r:aX):av×Bool:=bif (!c8 c) ||((!(m8 c r).2) ||(c.cz.any λx=>x.id==r.id))then (c,false)else ({ c with queue:=(m8 c r).1 },true)
def azY(c:av)(h:c8 c=true):ez ⟨c.config.az.cu,c.config.az.aC,W6 (c.config.az.rows-c.config.bP),c.config.az.aN⟩=ez (eJ c.config.az c.spare):=by
 simp only[c8,aO,fI]at h;obtain⟨_,_,_,_,_,_,C,D,_⟩:=h;unfold eJ;rw[C,ak,D]
def azZ(c:av)(r:aX)(h:c.queue.length <= 1048576):(m8 c r).1.length <= 1048576:=by
 unfold m8 CY;cases C:(iU _ _&&iU _ _)with
 |false=>exact h
 | true=>
  rw[ak];rw[aO]at C;have:=C.2;unfold iU at this
  grind
def az0(c:av)(r:aX)(C:cW c):cW (sR c r).1:=by
 unfold sR;cases hb:((!c8 c) ||((!(m8 c r).2) ||(c.cz.any λx=>x.id==r.id)))with
 |true=>exact C
 | false=>
  have⟨D,E,I,J,L,O,Q,T,U,Y,Z,iV,iW,gP⟩:=C;exact⟨D,E,I,J,L,O,Q,T,U,azZ c r Y,Z,iV,iW,gP⟩
def Mb(c:av)(r:aX):Bool×av:=bif (c.cz.any λx=>x.id==r.id)then (false,c)else bif (m8 c r).2 then (true,{ c with queue:=(m8 c r).1 })else (false,c)
def az1(c:av)(r:aX)(C:cW c)(D:c8 c=true):Pa c r=some ((Mb c r).1,((Mb c r).2,())):=by
 obtain⟨I,J,L,O,Q,T,U,Y,Z,iJ,jx,iV,iW,gP⟩:=C;have hk:=ug (λx:eM=>x.id==r.id) c.cz;unfold Pa Mb bQ;rw[Ma];have e:=cy (step:=I5) (c9 (λx:eM=>x.id==r.id) c.cz) (λi=>(((),(),(),(i:Int),()),(c,(r.id,r.dI,r.line,r.write,r.data,r.at_,()),(c.config.az.cu,c.config.az.aC,(W6 (c.config.az.rows-c.config.bP)),c.config.az.aN,()),()))) (if c9 (λx:eM=>x.id==r.id) c.cz<c.cz.length then .inl ((false,()),(c,()))else .inr (.inl (((),(),(),()),(c,(r.id,r.dI,r.line,r.write,r.data,r.at_,()),(c.config.az.cu,c.config.az.aC,(W6 (c.config.az.rows-c.config.bP)),c.config.az.aN,()),())))) aP (λk h=>by
  have E:=m7 h (by omega);unfold I5 ay aV xG xL;dsimp only;rw[aS,ak,aA ⟨by omega,by omega⟩,aA];simp only[bB];rw[E,au,bD]) (by
  unfold I5 ay aV xG xL;dsimp only;by_cases k:c9 (λx:eM=>x.id==r.id) c.cz<c.cz.length
  ·rw[aS,ak,aA ⟨by omega,by omega⟩,aA,bA k];simp only[bB];rw[qG k,ak]
  ·rw[bh,au,bM k]) (bI)
 rw[cq]at e;rw[e,aq];by_cases k:c9 (λx:eM=>x.id==r.id) c.cz<c.cz.length
 ·rw[bA k,aS k,ef];rfl
 ·rw[bM k,bh k,Sum.elim_inr,ef,CK,aq];dsimp only;rw[azY c D,azL _ _ _ (by omega),aq];show (bif (m8 c r).2 then some ((m8 c r).2,({ c with queue:=(m8 c r).1 },()))else some ((m8 c r).2,(c,())))=_;cases (m8 c r).2<;>rfl
def nb(l:aa UInt8):aa Int:=l.map λb=>(b.toNat:Int)
def cV(c:av)(a:dm):av:=⟨c.config,c.box,c.now,c.bq,c.ready,a,c.spare,c.aQ,c.bO,c.guard,c.pending,c.queue,c.shares,c.drain,c.bg,c.cM,c.errors,c.trace,c.cz⟩
def vG:bY:=⟨[],false⟩
def CZ(d:bY):bY:=⟨(d.symbols.set 0 (bits .xor .i64 (d.symbols.getD 0 0) 5)).set 1 (bits .xor .i64 (d.symbols.getD 1 0) 10),d.ir⟩
def jW(base:Nat):Nat->aa bY->aa bY
 |0,cs=>cs
 |n+1,cs=>(jW base n cs).set (base+n) (CZ ((jW base n cs).getD (base+n) vG))
def Mc(base:Nat):∀ (n:Nat) (cs:aa bY),(jW base n cs).length=cs.length
 |0,_=>rfl
 | n+1,cs=>by
  show ((jW base n cs).set _ _).length=_;rw[jk,Mc]
def az2{d:bY}(h:Sy d.symbols):Sy (CZ d).symbols:=by
 have C:0<d.symbols.length:=by rw[h.1];omega
 have l1:1<d.symbols.length:=by rw[h.1];omega
 have I:d.symbols.getD 0 0=d.symbols[0]:=by rw[fk,bX C];rfl
 have J:d.symbols.getD 1 0=d.symbols[1]:=by rw[fk,bX l1];rfl
 have D:=Y7 (h.get (k:=0) C) (b:=5) ⟨by omega,by omega⟩;have E:=Y7 (h.get l1) (b:=10) ⟨by omega,by omega⟩;unfold CZ;rw[I,J];exact(h.set ⟨D.1,D.2.1⟩).set ⟨E.1,E.2.1⟩
def Sl{base:Nat}:∀ (n:Nat) {cs:aa bY},base+n <= cs.length -> (∀ c∈cs,Sy c.symbols) -> ∀ c∈jW base n cs,Sy c.symbols
 |0,cs,_,h=>h
 | n+1,cs,hl,h=>by
  have C:=Sl (base:=base) n (by omega) h;have hlen:=Mc base n cs;refine Sy.bW C (az2 ?_)
  grind
def uh(g:aM)(l:kR)(a:dm)(b r:Int):dm:=
 ⟨bif xD l a (b*g.rows+r).toNat then jW ((b*g.rows+r)*g.aN).toNat g.aN.toNat a.cells else a.cells,a.bz.set (b*g.rows+r).toNat 0,vw g.rows r (b*g.rows+r).toNat a.br⟩
def Md{g:aM}(C:cC g=true){b r k:Int}(E:0 <= b)(I:b<aW g)(J:0 <= r)(L:r<g.rows)(O:0 <= k)(Q:k<g.aN):0 <= (b*g.rows+r)*g.aN/\(b*g.rows+r)*g.aN+k<ez g/\0 <= b*g.rows+r/\b*g.rows+r<fY g:=by
 have er:aW g*g.rows=fY g:=by simp[fY,C]
 have⟨U,T,D⟩:=vt E I J L;rw[er]at D;have⟨Y,Z,q2⟩:=vt T D O Q;have el:fY g*g.aN=ez g:=by simp[fY,ez,C]
 simp_all
def az3{g:aM}(C:cC g=true)(c:av){b r:Int}(hc:(c.array.cells.length:Int)=ez g)(Q:∀ x∈c.array.cells,Sy x.symbols)(E:0<=b)(I:b<aW g)(J:0<=r)(L:r<g.rows):
  iter CA aP (((),b,r,(),(0:Int),()),(c,(g.cu,g.aC,g.rows,g.aN,()),()))=some (.inl (((),b,r,(),()),(cV c ⟨jW ((b*g.rows+r)*g.aN).toNat g.aN.toNat c.array.cells,c.array.bz,c.array.br⟩,(g.cu,g.aC,g.rows,g.aN,()),()))):=by
 obtain⟨_,_,_,_,g5,g6,g7,g8⟩:=fo C;have b1:=lH g;obtain⟨n,T⟩:=eX (show 0<=g.aN by omega);obtain⟨B,hB⟩:∃B,B=((b*g.rows+r)*g.aN).toNat:=⟨_,rfl⟩
 have U:g.aN.toNat=n:=by omega
 rw[<-hB,U];have lR:B+n<=c.array.cells.length:=by
  have:=Md C E I J L (show 0<=g.aN-1 by omega) (by omega);omega
 have e:=cy (step:=CA) n (λk=>(((),b,r,(),(k:Int),()),(cV c ⟨jW B k c.array.cells,c.array.bz,c.array.br⟩,(g.cu,g.aC,g.rows,g.aN,()),()))) (.inl (((),b,r,(),()),(cV c ⟨jW B n c.array.cells,c.array.bz,c.array.br⟩,(g.cu,g.aC,g.rows,g.aN,()),()))) aP (λk hk=>by
  have Y:dK g ⟨b,r,(k:Int)⟩=true:=vr C E I J L (by dsimp only;omega) (by dsimp only;omega);have Z:qC g ⟨b,r,(k:Int)⟩=((B+k:Nat):Int):=by
   have:=Md C E I J L (show 0<=(k:Int) by omega) (by omega);unfold qC;rw[Y,ak];dsimp only;omega
  have hlen:=Mc B k c.array.cells;have O:=Sl k (by omega:B+k<=c.array.cells.length) Q;show CA (((),b,r,(),(k:Int),()),(cV c ⟨jW B k c.array.cells,c.array.bz,c.array.br⟩,(g.cu,g.aC,g.rows,g.aN,()),()))=some (.inl (((),b,r,(),((k+1:Nat):Int),()),(cV c ⟨(jW B k c.array.cells).set (B+k) (CZ ((jW B k c.array.cells).getD (B+k) vG)),c.array.bz,c.array.br⟩,(g.cu,g.aC,g.rows,g.aN,()),())));generalize jW B k c.array.cells=cs at hlen O;have D:B+k<cs.length:=by omega
  have s1:=Sy.mem O D;have l1:(0:Nat)<cs[B+k].symbols.length:=by rw[s1.1];omega
  have l2:(1:Nat)<cs[B+k].symbols.length:=by rw[s1.1];omega
  have c2:decide ((k:Int)<g.aN)=true:=aS;have BI:cs.getD (B+k) vG=cs[B+k]:=by rw[fk,bX D];rfl
  have f0:cs[B+k].symbols.getD 0 0=cs[B+k].symbols[0]:=by rw[fk,bX l1];rfl
  have f1:cs[B+k].symbols.getD 1 0=cs[B+k].symbols[1]:=by rw[fk,bX l2];rfl
  rw[BI];unfold CZ;rw[f0,f1];unfold CA cV xC ay xG xL xM;dsimp only;rw[c2,ak,mX g,Y1,aq,Z];generalize B+k=j at D s1 l1 l2;simp (disch:=omega) [D,bD,l1,l2]) (by unfold CA xC ay xG xL xM;simp[T]) (bI)
 exact e
def az4(c:av){R k:Int}{nb:aa Int}(hl:nb.length<1000)(E:∀ n∈nb,0<=n/\n<R)(O:0<=k)(Q:k+R<=(c.array.br.length:Int))(T:c.array.br.length<1000000)(hb:∀ x∈c.array.br,0<=x/\x<=100000):
  iter Ak aP (((),k,(),(nb.length:Int),(0:Int),()),(c,nb,()))=some (.inl ((),(cV c ⟨c.array.cells,c.array.bz,nb.foldl (λh n=>pL (k+n).toNat h) c.array.br⟩,()))):=by
 have e:=cy (step:=Ak) nb.length (λi=>(((),k,(),(nb.length:Int),(i:Int),()),(cV c ⟨c.array.cells,c.array.bz,(nb.take i).foldl (λh n=>pL (k+n).toNat h) c.array.br⟩,nb,()))) (.inl ((),(cV c ⟨c.array.cells,c.array.bz,nb.foldl (λh n=>pL (k+n).toNat h) c.array.br⟩,()))) aP (λj h=>by
  have U:=E _ (cU h);have I:=ajL k (nb.take j) c.array.br;have hB:=ajM k (nb.take j) c.array.br hb;rw[List.take_succ_eq_append_getElem h,List.foldl_append];simp only[List.foldl_cons,List.foldl_nil];generalize (nb.take j).foldl (λh n=>pL (k+n).toNat h) c.array.br=G at I hB;obtain⟨q,D⟩:=eX (show 0<=k+nb[j] by omega);have C:q<G.length:=by omega
  have Y:=hB _ (cU C);have J:W6 (k+nb[j])=(q:Int):=by rw[D];exact aR
  have L:W6 (G[q]+1)=G[q]+1:=aR;rw[D,bB,Za C];unfold Ak cV ay xG xL;simp (disch:=omega) [h,J,C,L,bD,mY]) (by unfold Ak ay xG xL;simp) (bI)
 rw[cq,List.take_zero,List.foldl_nil]at e;exact e
def ZI{g:aM}(D:cC g=true)(l:kR){B:Int}(hB:0 <= B){a:dm}(C:dY g B a){b r:Int}(E:0 <= b)(I:b<aW g)(J:0 <= r)(L:r<g.rows):dY g B (uh g l a b r):=by
 have⟨_,_,_,_,Q,T,U,Y⟩:=fo D;have O:((b*g.rows+r)*g.aN).toNat+g.aN.toNat <= a.cells.length:=by
  have:=Md D E I J L (show 0 <= g.aN-1 by omega) (by omega);have:=C.cells;omega
 unfold uh;refine⟨?_,?_,by simp[C.bz],by simp[ayl,C.br],LP C.As ⟨by omega,by omega⟩,ayn C.iK⟩
 ·dsimp only;cases xD l a (b*g.rows+r).toNat with
  |false=>exact C.cells
  |true=>rw[ak,Mc];exact C.cells
 ·dsimp only;cases xD l a (b*g.rows+r).toNat with
  |false=>exact C.syms
  |true=>rw[ak];exact Sl _ O C.syms
def aj2{g:aM}(Q:cC g=true)(l:kR){B:Int}(c:av)(C:dY g B c.array){b r:Int}(T:0<=b)(U:b<aW g)(D:0<=r)(E:r<g.rows):KU g l c b r=some ((),(cV c (uh g l c.array b r),())):=by
 obtain⟨_,_,_,_,g5,g6,g7,g8⟩:=fo Q;have b2:=pJ g;have er:aW g*g.rows=fY g:=by simp[fY,Q]
 obtain⟨Y,r1,Z⟩:=vt T U D E;rw[er]at Z;have hk:b*g.rows+g.rows<=fY g:=by
  have:=(vt T U (show 0<=g.rows-1 by omega) (show g.rows-1<g.rows by omega)).2.2;omega
 have a1:=C.bz;have a2:=C.br;have I:W6 (b*g.rows)=b*g.rows:=aR;have e2:W6 (b*g.rows+r)=b*g.rows+r:=aR;have eL:=az3 Q c C.cells C.syms T U D E;unfold uh;generalize jW ((b*g.rows+r)*g.aN).toNat g.aN.toNat c.array.cells=cs at eL;obtain⟨i,hi⟩:=eX r1;obtain⟨k,J⟩:∃k,k=b*g.rows:=⟨_,rfl⟩
 rw[<-J]at hi hk I e2 Y r1 Z;unfold KU bu xL;rw[<-J,I,e2];rw[hi]at Z;rw[hi,bB];have L:i<c.array.bz.length:=by omega
 have O:i<c.array.br.length:=by omega
 have Vu:QV g l c.array b r=some (xD l c.array i):=by
  unfold QV xI;have ZJ:W6 (i:Int)=i:=aR;simp only[<-J,I,hi,ZJ];unfold xD;simp only[fk,bX L,bX O,Option.getD_some];by_cases h:c.array.bz[i] > l.bz<;>simp[L,O,h]
 rw[Vu,aq];have b1:=LP C.iK (k:=i) (v:=0) ⟨by omega,by omega⟩;have DX:=ZB g5 g6 D E;have q6:=azg g.rows r;have ZK:∀ cells:aa bY,iter Ak aP (((),k,(),((mA g.rows r).length:Int),(0:Int),()),(cV c ⟨cells,c.array.bz.set i 0,c.array.br.set i 0⟩,mA g.rows r,()))=some (.inl ((),(cV c ⟨cells,c.array.bz.set i 0,vw g.rows r i c.array.br⟩,()))):=λcells=>by
  have:=az4 (cV c ⟨cells,c.array.bz.set i 0,c.array.br.set i 0⟩) (R:=g.rows) (k:=k) (nb:=mA g.rows r) (by omega) (ajK D E) Y (by simp[cV];omega) (by simp[cV];omega) b1;simp only[cV]at this ⊢;rw[azh hi Y D]at this;exact this
 have h2x:YD=Ak:=rfl;unfold cV at ZK eL ⊢;cases xD l c.array i with
 | false=>
  simp[L,O,DX,h2x,ZK]
 | true=>
  rw[ak,eL];have ZJ:W6 (i:Int)=i:=aR;simp[<-J,I,ZJ,hi,L,O,DX,ZK]
def az5{g:aM}(C:cC g=true)(c:av){b r:Int}(hc:(c.array.cells.length:Int)=ez g)(Q:∀ x∈c.array.cells,Sy x.symbols)(E:0<=b)(I:b<aW g)(J:0<=r)(L:r<g.rows):
  iter zW aP (((),r,(),b*g.rows+r,(0:Int),()),(c,(g.cu,g.aC,g.rows,g.aN,()),()))=some (.inl (((),r,(),b*g.rows+r,()),(cV c ⟨jW ((b*g.rows+r)*g.aN).toNat g.aN.toNat c.array.cells,c.array.bz,c.array.br⟩,(g.cu,g.aC,g.rows,g.aN,()),()))):=by
 obtain⟨_,_,_,_,g5,g6,g7,g8⟩:=fo C;have b1:=lH g;have b2:=pJ g;obtain⟨n,T⟩:=eX (show 0<=g.aN by omega);obtain⟨B,hB⟩:∃B,B=((b*g.rows+r)*g.aN).toNat:=⟨_,rfl⟩
 have U:g.aN.toNat=n:=by omega
 rw[<-hB,U];have lR:B+n<=c.array.cells.length:=by
  have:=Md C E I J L (show 0<=g.aN-1 by omega) (by omega);omega
 have e:=cy (step:=zW) n (λk=>(((),r,(),b*g.rows+r,(k:Int),()),(cV c ⟨jW B k c.array.cells,c.array.bz,c.array.br⟩,(g.cu,g.aC,g.rows,g.aN,()),()))) (.inl (((),r,(),b*g.rows+r,()),(cV c ⟨jW B n c.array.cells,c.array.bz,c.array.br⟩,(g.cu,g.aC,g.rows,g.aN,()),()))) aP (λk hk=>by
  have ZL:=Md C E I J L (show 0<=(k:Int) by omega) (by omega);have Y:W6 ((b*g.rows+r)*g.aN)=(b*g.rows+r)*g.aN:=aR;have Z:W6 ((b*g.rows+r)*g.aN+(k:Int))=((B+k:Nat):Int):=by rw[aR];omega
  have hlen:=Mc B k c.array.cells;have O:=Sl k (by omega:B+k<=c.array.cells.length) Q;show zW (((),r,(),b*g.rows+r,(k:Int),()),(cV c ⟨jW B k c.array.cells,c.array.bz,c.array.br⟩,(g.cu,g.aC,g.rows,g.aN,()),()))=some (.inl (((),r,(),b*g.rows+r,((k+1:Nat):Int),()),(cV c ⟨(jW B k c.array.cells).set (B+k) (CZ ((jW B k c.array.cells).getD (B+k) vG)),c.array.bz,c.array.br⟩,(g.cu,g.aC,g.rows,g.aN,()),())));generalize jW B k c.array.cells=cs at hlen O;have D:B+k<cs.length:=by omega
  have s1:=Sy.mem O D;have l1:(0:Nat)<cs[B+k].symbols.length:=by rw[s1.1];omega
  have l2:(1:Nat)<cs[B+k].symbols.length:=by rw[s1.1];omega
  have c2:decide ((k:Int)<g.aN)=true:=aS;have BI:cs.getD (B+k) vG=cs[B+k]:=by rw[fk,bX D];rfl
  have f0:cs[B+k].symbols.getD 0 0=cs[B+k].symbols[0]:=by rw[fk,bX l1];rfl
  have f1:cs[B+k].symbols.getD 1 0=cs[B+k].symbols[1]:=by rw[fk,bX l2];rfl
  rw[BI];unfold CZ;rw[f0,f1];unfold zW cV xC ay xG xL xM;dsimp only;have t0:(0:Int).toNat=0:=rfl;have t1:(1:Int).toNat=1:=rfl;have p0:(0:Int)<=0:=Int.le_refl 0;have p1:(0:Int)<=1:=by omega
  rw[c2,ak];simp only[Y,Z,bB];have cj:(0:Int)<=((B+k:Nat):Int):=by omega
  simp only[cj,D,p0,p1,t0,t1,l1,l2,and_self,dite_true,jk,List.getElem_set_self,List.set_set,aqq];have w:=bD (i:=k);simp only[w,List.getElem_set_ne (show (0:Nat)≠1 by decide)]) (by unfold zW xC ay xG xL xM;simp[T]) (bI)
 exact e
def aj3{x:Int}(h:0<=x/\x<=100000):(if (100000:Int)<W6 (x+1)then (100000:Int)else W6 (x+1))=mY 1 x:=by
 rw[aR (n:=x+1)];rfl
def Sm(C:av)(J D L:Int)(E:aa Int):ah (af×(av×af)):=bif (decide (J<(W6 (L-(1:Int)))))then if T:0<=(W6 (D+(1:Int)))/\(W6 (D+(1:Int))).toNat<E.length then if O:(W6 (D+(1:Int))).toNat<E.length then (let I:=E[(W6 (D+(1:Int))).toNat]'O;if U:0<=(W6 (D+(1:Int)))/\(W6 (D+(1:Int))).toNat<E.length then if Q:(W6 (D+(1:Int))).toNat<E.length then (let Y:=E[(W6 (D+(1:Int))).toNat]'Q;some ((),((⟨C.config,C.box,C.now,C.bq,C.ready,⟨C.array.cells,(C.array.bz.set D.toNat (0:Int)),(E.set (W6 (D+(1:Int))).toNat (if (100000:Int)<(W6 (I+(1:Int)))then (100000:Int)else (W6 (I+(1:Int)))))⟩,C.spare,C.aQ,C.bO,C.guard,C.pending,C.queue,C.shares,C.drain,C.bg,C.cM,C.errors,C.trace,C.cz⟩:av),())))else none else none)else none else none else some ((),((⟨C.config,C.box,C.now,C.bq,C.ready,⟨C.array.cells,(C.array.bz.set D.toNat (0:Int)),E⟩,C.spare,C.aQ,C.bO,C.guard,C.pending,C.queue,C.shares,C.drain,C.bg,C.cM,C.errors,C.trace,C.cz⟩:av),()))
def Sn(D:av)(E C I:Int):ah (af×(av×af)):=if U:0<=C/\C.toNat<D.array.bz.length then if L:C.toNat<D.array.bz.length then (let Y:=D.array.bz[C.toNat]'L;if Z:0<=C/\C.toNat<D.array.br.length then if O:C.toNat<D.array.br.length then (let e50:=D.array.br[C.toNat]'O;(bif (decide (E > (0:Int)))then if h51:0<=(W6 (C-(1:Int)))/\(W6 (C-(1:Int))).toNat<(D.array.br.set C.toNat (0:Int)).length then if Q:(W6 (C-(1:Int))).toNat<(D.array.br.set C.toNat (0:Int)).length then (let J:=(D.array.br.set C.toNat (0:Int))[(W6 (C-(1:Int))).toNat]'Q;if h54:0<=(W6 (C-(1:Int)))/\(W6 (C-(1:Int))).toNat<(D.array.br.set C.toNat (0:Int)).length then if T:(W6 (C-(1:Int))).toNat<(D.array.br.set C.toNat (0:Int)).length then (let XT:=(D.array.br.set C.toNat (0:Int))[(W6 (C-(1:Int))).toNat]'T;(Sm D E C I ((D.array.br.set C.toNat (0:Int)).set (W6 (C-(1:Int))).toNat (if (100000:Int)<(W6 (J+(1:Int)))then (100000:Int)else (W6 (J+(1:Int)))))))else none else none)else none else none else (Sm D E C I (D.array.br.set C.toNat (0:Int)))))else none else none)else none else none
def aj4{d:av}{R r:Int}{i:Nat}{H:aa Int}(hl:H.length<1000000)(D:r<R-1->i+1<H.length)(E:W6 (R-1)=R-1)(I:∀ x∈H,0<=x/\x<=100000)(hi:i<1000000):Sm d r (i:Int) R H=some ((),(cV d ⟨d.array.cells,d.array.bz.set i 0,bif decide (r<R-1)then pL (i+1) H else H⟩,())):=by
 have J:W6 ((i:Int)+1)=((i+1:Nat):Int):=bD;unfold Sm cV;rw[E,J];simp only[bB];by_cases C:r<R-1
 ·have q:i+1<H.length:=D C;rw[aS C,ak,ak,aA ⟨by omega,q⟩,aA q,aA ⟨by omega,q⟩,aA q,aj3 (I _ (cU q)),Za q]
 ·rw[bh C,au,au]
def aj5{d:av}{R r:Int}{i:Nat}(E:i<d.array.bz.length)(I:i<d.array.br.length)(hl:d.array.br.length<1000000)(Q:0<r->1<=i)(J:r<R-1->i+1<d.array.br.length)(L:W6 (R-1)=R-1)(T:∀ x∈d.array.br,0<=x/\x<=100000):Sn d r (i:Int) R=some ((),(cV d ⟨d.array.cells,d.array.bz.set i 0,vw R r i d.array.br⟩,())):=by
 have C:=LP T (k:=i) (v:=0) ⟨by omega,by omega⟩;have U:(d.array.br.set i 0).length=d.array.br.length:=by simp
 unfold Sn vw At;simp only[bB];rw[aA ⟨by omega,E⟩,aA E,aA ⟨by omega,I⟩,aA I];obtain⟨H,O⟩:∃H,d.array.br.set i 0=H:=⟨_,rfl⟩
 rw[O]at C U;simp only[O];by_cases D:0<r
 ·have Y:=Q D;have w1:W6 ((i:Int)-1)=((i-1:Nat):Int):=by rw[aR];omega
  have q:i-1<H.length:=by omega
  simp only[w1,bB];rw[aS D,ak,ak,aA ⟨by omega,q⟩,aA q,aA ⟨by omega,q⟩,aA q,aj3 (C _ (cU q)),<-Za q];exact aj4 (by rw[LQ];omega) (λh=>by rw[LQ];have:=J h;omega) L (RS C) (by omega)
 ·rw[bh D,au,au];exact aj4 (by omega) (λh=>by have:=J h;omega) L C (by omega)
def aj6{g:aM}(E:cC g=true)(l:kR){B:Int}(c:av)(C:dY g B c.array){b r:Int}(I:0<=b)(J:b<aW g)(T:0<=r)(U:r<g.rows):Jo g l c b r=some ((),(cV c (uh g l c.array b r),())):=by
 obtain⟨_,_,_,_,g5,g6,g7,g8⟩:=fo E;have b2:=pJ g;have er:aW g*g.rows=fY g:=by simp[fY,E]
 obtain⟨r0,r1,Y⟩:=vt I J T U;rw[er]at Y;have L:r<g.rows-1->b*g.rows+r+1<fY g:=λh=>by
  have:=(vt I J (show 0<=r+1 by omega) (show r+1<g.rows by omega)).2.2;omega
 have O:0<r->1<=b*g.rows+r:=λh=>by omega
 have a1:=C.bz;have a2:=C.br;have e1:W6 (b*g.rows)=b*g.rows:=aR;have e2:W6 (b*g.rows+r)=b*g.rows+r:=aR;have Z:W6 (g.rows-1)=g.rows-1:=aR;have Q:=az5 E c C.cells C.syms I J T U;unfold uh;generalize jW ((b*g.rows+r)*g.aN).toNat g.aN.toNat c.array.cells=cs at Q;have hx:Jo g l c b r=(Jh g l c.array (W6 (W6 (b*g.rows)+r))).bind λy1=>bif y1 then (iter zW aP (((),r,(),W6 (W6 (b*g.rows)+r),(0:Int),()),(c,(g.cu,g.aC,g.rows,g.aN,()),()))).bind (Sum.elim (λD=>Sn D.2.1 D.1.2.1 D.1.2.2.2.1 D.2.2.1.2.2.1) (λz=>nomatch z))else Sn c r (W6 (W6 (b*g.rows)+r)) g.rows:=rfl
 rw[hx,e1,e2];obtain⟨i,hi⟩:=eX r1;rw[hi]at Q O L Y ⊢;rw[bB,ayi g l c.array i (by omega) (by omega),aq];cases xD l c.array i with
 |false=>exact aj5 (d:=c) (r:=r) (R:=g.rows) (i:=i) (by omega) (by omega) (by omega) (λh=>by have:=O h;omega) (λh=>by have:=L h;omega) Z C.iK
 | true=>
  rw[ak,Q,aq];exact aj5 (d:=cV c ⟨cs,c.array.bz,c.array.br⟩) (r:=r) (R:=g.rows) (i:=i) (by show i<c.array.bz.length;omega) (by show i<c.array.br.length;omega) (by show c.array.br.length<_;omega) (λh=>by have:=O h;omega) (λh=>by show _<c.array.br.length;have:=L h;omega) Z C.iK
def az6{c:eT}{p:dJ}(hl:p.weights.length<1073741823)(h:lJ c p=true):jg c.bL=true:=by
 have⟨b,e,C⟩:=Zj c p hl;have hb:b=true:=by
  rw[L7 c p hl]at e;simp_all
 have:=C hb;simp[nU,aO]at this;simp_all
def jy(i:Nat):aH:=⟨(i:Int) % 9+1,if (i:Int) % 9+1<=5 then (i:Int) / 9 else 0,0,0⟩
def xP(n m:Int):Int:=if n > m then n else m
def So(g:aM)(t:c7)(l:aa Int)(c:aH)(m:Int)(i:Nat):Int:=match l[i]? with
 |some n=>bif decide (n<0)then m else xP (n+vC g t (jy i) c) m
 |none=>m
def uj(g:aM)(t:c7)(l:aa Int)(c:aH)(k:Nat):Int:=(List.range k).foldl (So g t l c) 0
def xQ(g:aM)(t:c7)(r:dG)(c:aH):Int:=
 bif c.kind==1&&(r.bf.length:Int)==4 then xP (r.bf.getD 0 0+t.jK) (uj g t r.last c r.last.length)else uj g t r.last c r.last.length
def ZM(g:aM)(t:c7)(l:aa Int)(c:aH)(k:Nat):uj g t l c (k+1)=So g t l c (uj g t l c k) k:=by
 unfold uj;rw[List.range_succ,List.foldl_append];rfl
def ZN{g:aM}{t:c7}{l:aa Int}{c:aH}{m:Int}{i:Nat}(h:i<l.length):So g t l c m i=bif decide (l[i]<0)then m else xP (l[i]+vC g t (jy i) c) m:=by
 unfold So;rw[bX h]
def az7{a b C:Int}(D:a<=C)(hb:0<=b/\b<=C):0<=xP a b/\xP a b<=C:=by
 unfold xP;split<;>omega
structure FY (g:aM) (t:c7) (r:dG):Prop where
 sS:cC g=true
 C0:jg t=true
 len:r.last.length<1000
 last:∀(i:Nat) (h:i<r.last.length),(-1<=r.last[i]/\r.last[i]<=1000000)/\(r.last[i] = -1\/oK g i=true)
 a4:r.bf.length<=4
 act:∀x∈r.bf,0<=x/\x<=1000000
def az8{g:aM}{t:c7}{r:dG}(E:jg t=true)(h:kK g r=true):FY g t r:=by
 have hb:=fh g;simp only[kK,aO,cI,fq]at h;have⟨I,C,D,J,L⟩:=h;have C:(r.last.length:Int)=9*(aW g+1):=by simpa using C
 have D:¬ (r.bf.length:Int) > 4:=by simpa using D
 refine⟨I,E,by omega,λi hi=>?_,by omega,λx O=>?_⟩
 ·have e:=J i hi;rw[LY hi]at e;simp only[aO,eB]at e;refine⟨bx.1 e.1,?_⟩
  grind
 ·obtain⟨i,hi,rfl⟩:=jA.1 O;have e:=L i hi;cases i with
  |zero=>rw[LZ hi]at e;exact bx.1 e
  |succ i=>rw[FR hi]at e;simp at e;exact bx.1 e.1
def aj7(i:Nat):1<=(jy i).kind/\(jy i).kind<=9:=by
 unfold jy;dsimp only;omega
def az9{g:aM}{i:Nat}(C:oK g i=true):(jy i).kind <= 5 -> 0 <= (jy i).ax/\(jy i).ax<aW g:=by
 unfold oK at C;unfold jy
 grind
def aAa{g:aM}{i:Nat}(hi:i<1000)(C:oK g i=true):∃ b,Cs g (i:Int)=some (jy i,b):=by
 have E:=C;unfold oK at C;unfold Cs jy;rw[oH,aq,pS (by omega),oU (by omega),aR,aR,LX,aq];cases D:decide ((i:Int) / 9<aW g)with
 |true =>simp_all
 | false=>
  rw[D]at C;have I:¬ (i:Int) % 9+1 <= 5:=by
   simp_all
  simp[*]
def Sq{g:aM}{t:c7}{r:dG}(h:FY g t r)(c:aH):∀ k,k <= r.last.length -> 0 <= uj g t r.last c k/\uj g t r.last c k <= 1000128
 |0,_=>⟨Int.le_refl _,by show 0 <= _;omega⟩
 | k+1,D=>by
  have C:=Sq h c k (by omega);rw[ZM,ZN (by omega)];have E:=Zz h.C0 g (jy k) c;have hl:=(h.last k (by omega)).1;cases decide (r.last[k]<0)with
  |true=>exact C
  |false=>exact az7 (by omega) C
def aAb{g:aM}{t:c7}{r:dG}{c:aH}(h:FY g t r)(L:dO g c=true):Pf g t r c=some (xQ g t r c):=by
 have hb:=λk E=>Sq h c k E
 have Q:1<=c.kind/\c.kind<=9:=by
  simp only[dO,aO]at L;exact bx.1 L.2.1
 have e:=cy (step:=Jb) r.last.length (λi=>(((),(),(),(),uj g t r.last c i,(i:Int),()),((g.cu,g.aC,g.rows,g.aN,()),t,(r.last,r.bf,()),(c.kind,c.ax,c.row,c.bT,()),()))) (.inl (((),(),(),uj g t r.last c r.last.length,()),(t,(r.last,r.bf,()),(c.kind,c.ax,c.row,c.bT,()),()))) aP (λk E=>by
  have Y:=h.len;have Z:=(h.last k E).1;have h3:=hb k (by omega);have D:=Zz h.C0 g (jy k) c;unfold Jb ay xG xI;dsimp only;rw[aS,ak,aA ⟨by omega,by omega⟩,bD];simp only[bB];rw[ZM,ZN E];cases hd:decide (r.last[k]<0)with
  |true=>rfl
  | false=>
   have I:zS g t (jy k) c=some (vC g t (jy k) c):=ay2 h.sS h.C0 (aj7 k) Q;have T:W6 ((k:Int).tmod 9+1)=(k:Int) % 9+1:=by rw[oU (by omega),aR]
   have U:W6 ((k:Int).tdiv 9)=(k:Int) / 9:=by rw[pS (by omega),aR]
   unfold jy at I;rw[au,au,T,U];by_cases C:(k:Int) % 9+1<=5
   ·rw[bA C]at I;rw[aS C,ak,aA ⟨by omega,E⟩,mX];show Option.bind (zS g t _ c) _=_;rw[I,aq,aR (n:=r.last[k]+_) (by unfold jy at D;rw[bA C]at D;omega) (by unfold jy at D;rw[bA C]at D;omega)];unfold jy xP;rw[bA C]
   ·rw[bM C]at I;rw[bh C,au,aA ⟨by omega,E⟩,mX];show Option.bind (zS g t _ c) _=_;rw[I,aq,aR (n:=r.last[k]+_) (by unfold jy at D;rw[bM C]at D;omega) (by unfold jy at D;rw[bM C]at D;omega)];unfold jy xP;rw[bM C]) (by
  unfold Jb ay xG xI;dsimp only;rw[bh,au]) (bI (by have:=h.len;omega))
 rw[cq]at e;unfold Pf xQ xI bu
 refine(bH (λo=>Option.bind o _) e).trans ?_
 rw[aq];simp only[ef];have hL:=hb r.last.length (eK _);have hf:=ajH h.C0;cases c.kind==(1:Int)with
 |false=>rfl
 | true=>
  cases O:(r.bf.length:Int)==(4:Int)with
  |false=>rfl
  | true=>
   have O:(r.bf.length:Int)=4:=by simpa using O
   have J:0<r.bf.length:=by omega
   have ha:=h.act _ (cU J);rw[ak,ak,aA ⟨by omega,J⟩];show some (if W6 (r.bf[0]+t.jK) > _ then W6 (r.bf[0]+t.jK)else _)=_;rw[aR,fk,bX J];rfl
def aAc{g:aM}{t:c7}{r:dG}(h:FY g t r)(c:aH):0 <= xQ g t r c:=by
 have C:=Sq h c _ (eK _);unfold xQ xP
 grind
def aAd{g:aM}{t:c7}{r:dG}{c:aH}(h:FY g t r)(T:kK g r=true)(C:dO g c=true):QN g t r c=some (bif decide (xQ g t r c > 1000000)then -1 else xQ g t r c):=by
 have hb:=λk D=>Sq h c k D
 have L:(1<=c.kind/\c.kind<=9)/\(c.kind<=5->0<=c.ax/\c.ax<aW g):=by
  simp only[dO,aO]at C
  refine⟨bx.1 C.2.1,λU=>?_⟩
  have E:=C.2.2.1;rw[L3 (bx.1 C.2.1),aS U]at E;have:=bx.1 E;omega
 have e:=cy (step:=KR) r.last.length (λi=>(((),(),(),(),uj g t r.last c i,r.last,(r.last.length:Int),(i:Int),()),((g.cu,g.aC,g.rows,g.aN,()),t,(r.last,r.bf,()),(c.kind,c.ax,c.row,c.bT,()),()))) (.inl (((),(),(),uj g t r.last c r.last.length,()),(t,(r.last,r.bf,()),(c.kind,c.ax,c.row,c.bT,()),()))) aP (λk D=>by
  have E:=h.len;have h2:=(h.last k D).1;have h3:=hb k (by omega);have hg:=Zz h.C0 g (jy k) c;unfold KR ay xG xI;dsimp only;rw[aS,ak,aA ⟨by omega,by omega⟩,bD];simp only[bB];rw[ZM,ZN D];cases Y:decide (r.last[k]<0)with
  |true=>rfl
  | false=>
   have aDs:¬ r.last[k]<0:=by simpa using Y
   have O:oK g k=true:=by
    rcases(h.last k D).2 with h9|h9
    ·omega
    ·exact h9
   obtain⟨b,Z⟩:=aAa (g:=g) (i:=k) (by omega) O;rw[au,au,mX,Z,aq];show Option.bind (KQ g t (jy k) c) _=_;rw[ay1 t h.sS (aj7 k) L.1 (az9 O) L.2,aq,aR (n:=r.last[k]+_)];rfl) (by
  unfold KR ay xG xI;dsimp only;rw[bh,au]) (bI (by have:=h.len;omega))
 rw[cq]at e;unfold QN xQ xI bu;rw[RT,aq,h.C0,bF,au,Zo,aq,T,bF,au,Zs,aq,C,bF,au]
 refine(bH (λo=>Option.bind o _) e).trans ?_
 rw[aq];simp only[ef];have hL:=hb r.last.length (eK _);have hf:=ajH h.C0;have I:∀m:Int,(bif decide (m > 1000000)then some (-1:Int)else some m)=some (bif decide (m > 1000000)then -1 else m):=λm=>by cases decide (m > 1000000)<;>rfl
 cases c.kind==(1:Int)with
 |false=>exact I _
 | true=>
  cases Q:(r.bf.length:Int)==(4:Int)with
  |false=>exact I _
  | true=>
   have Q:(r.bf.length:Int)=4:=by simpa using Q
   have J:0<r.bf.length:=by omega
   have ha:=h.act _ (cU J);rw[ak,ak,aA ⟨by omega,J⟩];show (bif decide ((if W6 (r.bf[0]+t.jK) > _ then W6 (r.bf[0]+t.jK)else _) > 1000000)then _ else some (if W6 (r.bf[0]+t.jK) > _ then W6 (r.bf[0]+t.jK)else _))=_;rw[aR,fk,bX J];exact I _
def dy(c:av)(x:aH):Bool:=pO c.bq x&&(decide (xQ c.config.az c.config.bL c.ready x<=1000000)&&decide (xQ c.config.az c.config.bL c.ready x<=c.now))
structure Pk (c:av):Prop where
 z:cW c
 ok:c8 c=true
 rk:mZ c.config.az c.bq=true
 rdy:kK c.config.az c.ready=true
 R:FY c.config.az c.config.bL c.ready
 bl:(c.bq.aC.length:Int)=aW c.config.az
def Pk.of{c:av}(C:cW c)(h:c8 c=true):Pk c:=by
 have L:c.box.bV.weights.length <= 1048576:=C.1.1;have I:=h;simp[c8,aO]at h;have⟨J,O,Q,D,E,T,U,Y,Z,h10,Sr,kz,kX,mE,nD,jL,qU,r6,r7,vT,vU,vV⟩:=h;have hb:c.bq.aC.length=aW c.config.az:=by
  simp[mZ,aO]at D;simp_all
 exact⟨C,I,D,E,az8 (az6 (by omega) J) E,hb⟩
def aAe{g:aM}{x:aH}(C:dO g x=true):(1 <= x.kind/\x.kind <= 9)/\(x.kind <= 5 -> 0 <= x.ax/\x.ax<aW g):=by
 simp[dO,aO]at C
 refine⟨bx.1 C.2.1,λE=>?_⟩
 have D:=C.2.2.1;rw[L3 (bx.1 C.2.1),aS E]at D;have:=bx.1 D;omega
def Ss{c:av}(h:Pk c){x:aH}(C:dO c.config.az x=true):B7 c x=some (dy c x):=by
 have⟨I,D⟩:=aAe C;have hb:=fh c.config.az;have hl:=h.bl;unfold B7 dy;rw[ayW I (λE=>⟨(D E).1,by have:=D E;omega⟩) (by omega),aq,aAb h.R C,aq]
 grind
def xR{c:av}(h:Pk c){x:aH}(C:dO c.config.az x=true):iT c x=some (dy c x):=by
 have D:=aAc h.R x;unfold iT dy;rw[Zt,aq,h.rk,C,cJ,cJ,aAd h.R h.rdy C,aq]
 grind
def cG(i:Nat):aa Int->aa Int
 |[]=>[]
 |d::l=>bif decide (d >= 4)then (i:Int)::cG (i+1) l else cG (i+1) l
def aAf(i:Nat)(a b:aa Int):cG i (a++b)=cG i a++cG (i+a.length) b:=by
 induction a generalizing i with
 |nil=>rfl
 | cons d a C=>
  rw[List.cons_append,cG,cG,C,show i+1+a.length=i+(a.length+1) by omega]
  grind
def C1(i:Nat)(l:aa Int):(cG i l).length <= l.length:=by
 induction l generalizing i with
 |nil=>exact eK _
 | cons d l C=>
  have:=C (i+1);unfold cG
  grind
def ZO{l:aa Int}{i:Nat}(h:i<l.length):cG 0 (l.take (i+1))=bif decide (l[i] >= 4)then cG 0 (l.take i)++[(i:Int)]else cG 0 (l.take i):=by
 rw[pK h,aAf,fP,Nat.min_eq_left (by omega),fj];show _++(bif decide _ then _::cG _ []else cG _ [])=_;cases decide (l[i] >= 4)with
 |true=>rfl
 |false=>exact List.append_nil _
def aj8{l:aa Int}{i:Nat}{b:Int}(h:b∈cG i l):∃ j:Nat,b=((i+j:Nat):Int)/\j<l.length/\l.getD j 0 >= 4:=by
 induction l generalizing i with
 |nil=>cases h
 | cons d l D=>
  unfold cG at h;have tl:b∈cG (i+1) l -> ∃ j:Nat,b=((i+j):Int)/\j<(d :: l).length/\(d :: l).getD j 0 >= 4:=λh=>by
   have⟨j,E,I,J⟩:=D h;exact⟨j+1,by rw[E];omega,by simpa using I,by simpa using J⟩
  cases C:decide (d >= 4)with
  | true=>
   rw[C]at h;rcases gf.1 h with rfl|h
   ·exact⟨0,rfl,by simp,by simpa using C⟩
   ·exact tl h
  |false =>grind
def nY{r:cY}(h:eA r=true):r.aJ.length<=8/\1<=r.aJ.length:=by
 simp only[eA,aO]at h;have:=bx.1 h.2.1;omega
def ZP{r:cY}(C:eA r=true):FB r=some (cG 0 r.aJ):=by
 have hl:=nY C;unfold FB bu;rw[LU _ (by omega),aq,C,bF,au];have e:=cy (step:=Lj) r.aJ.length (λi=>(((),r.aJ,(r.aJ.length:Int),(i:Int),()),(cG 0 (r.aJ.take i),()))) (.inl (((),()),(cG 0 r.aJ,()))) aP (λi h=>by
  have D:=C1 0 (r.aJ.take i);rw[fP]at D;unfold Lj ay xG xI;dsimp only;rw[aS,ak,aA ⟨by omega,by omega⟩,bD,ZO h];simp only[bB];cases decide (r.aJ[i] >= 4)with
  |true=>rw[ak,ak,jz,cQ,ak]
  |false=>rfl) (by
  unfold Lj ay xG xI;dsimp only;rw[bh,au,jl]) (bI)
 rw[cq]at e
 refine(bH (λo=>Option.bind o _) e).trans ?_
 rfl
def aj9{r:cY}(C:eA r=true):JF r=some (cG 0 r.aJ):=by
 have hl:=nY C;unfold JF bu;have e:=cy (step:=JE) r.aJ.length (λi=>(((),(),(i:Int),()),((r.aJ,r.wait,r.dD,()),cG 0 (r.aJ.take i),()))) (.inl (((),()),(cG 0 r.aJ,()))) aP (λi h=>by
  have D:=C1 0 (r.aJ.take i);rw[fP]at D;unfold JE ay xG xI;dsimp only;rw[aS,ak,show (⟨r.aJ,r.wait,r.dD⟩:cY)=r from rfl,R2 _ (by omega),aq,C,ak,aA ⟨by omega,by omega⟩,bD,ZO h];simp only[bB];cases decide (r.aJ[i] >= 4)with
  |true=>rw[ak,ak,jz,cQ,ak]
  |false=>rfl) (by
  unfold JE ay xG xI;dsimp only;rw[bh,au,jl]) (bI)
 rw[cq,List.take_zero]at e
 refine(bH (λo=>Option.bind o _) e).trans ?_
 rfl
def uk(c:av):Bool:=decide ((c.queue.length:Int) > 0) ||(decide ((c.pending.length:Int) > 0) ||decide (((cG 0 c.aQ.aJ).length:Int) > 0))
def aka{c:av}(C:eA c.aQ=true):Am c=some (uk c):=by
 unfold Am uk;rw[ZP C]
 grind
def akb{c:av}(C:eA c.aQ=true):Ci c=some (uk c):=by
 unfold Ci uk;rw[aj9 C]
 grind
def um(r:n9)(p:eR)(b:Bool):Int:=
 bif b then (bif p.state==1 then 7 else bif p.state==2 then 9 else 0)else bif p.state==0&&decide (p.idle >= r.sleep)then 8 else bif p.state==0&&decide (p.idle >= r.down)then 6 else bif p.state==1&&decide (p.idle >= r.sleep)then 7 else 0
def aAg(r:n9)(p:eR)(b:Bool)(C:xF r=true)(D:iL p=true):Rh r p b=some (um r p b):=by
 unfold Rh um;rw[ajd,aq,C,bF,R4,aq,D,bF]
 grind
def aAh(r:n9)(p:eR)(b:Bool)(C:xF r=true)(D:iL p=true):PS r p b=some (um r p b):=by
 unfold PS um;simp[aje,Zm,C,D,au]
 grind
def aAi(r:n9)(p:eR)(b:Bool):um r p b=0 \/ 6 <= um r p b/\um r p b <= 9:=by
 unfold um
 grind
def AB(D:Nat->Bool)(v:Nat->Int)(C:Int)(i:Nat):Int:=bif D i&&(decide (C<0) ||decide (v i > v C.toNat))then (i:Int)else C
def kM(C:Nat->Bool)(v:Nat->Int)(k:Nat):Int:=(List.range k).foldl (AB C v) (-1)
def FZ(C:Nat->Bool)(v:Nat->Int)(k:Nat):kM C v (k+1)=AB C v (kM C v k) k:=by
 unfold kM;rw[List.range_succ,List.foldl_append];rfl
def vH(C:Nat -> Bool)(v:Nat -> Int):∀ k,-1 <= kM C v k/\kM C v k<k
 |0=>⟨Int.le_refl _,by show (-1)<0;omega⟩
 | k+1=>by
  have D:=vH C v k;rw[FZ];unfold AB
  grind
def ZQ(C:Nat -> Bool)(v:Nat -> Int):∀ k,kM C v k = -1 \/ C (kM C v k).toNat=true
 |0=>.inl rfl
 | k+1=>by
  have D:=ZQ C v k;rw[FZ];unfold AB
  grind
def ZR{C:Nat -> Bool}(v:Nat -> Int){i:Nat}(h:C i=true):∀ k,i<k -> 0 <= kM C v k
 |0,D=>by omega
 | k+1,D=>by
  have hb:=vH C v k;rw[FZ];unfold AB;by_cases E:i=k
  ·grind
  ·have I:=ZR v h k (by omega)
   grind
def uq(l:aa cw)(w:aa Bool):Int:=kM (λi=>w.getD i false) (λi=>(l.getD i ⟨0,0⟩).fy) (min l.length w.length)
def Me(l:aa cw)(w:aa Bool)(hl:l.length<1073741824):Fv l w=some (uq l w):=by
 unfold Fv uq bu;generalize L:min l.length w.length=n;have e:=cy (step:=K7) n (λi=>((l,w,kM (λi=>w.getD i false) (λi=>(l.getD i ⟨0,0⟩).fy) i,(i:Int),()),())) (.inl ((kM (λi=>w.getD i false) (λi=>(l.getD i ⟨0,0⟩).fy) n,()),())) aP (λi h=>by
  have C:i<l.length:=by omega
  have J:i<w.length:=by omega
  have hb:=vH (λi=>w.getD i false) (λi=>(l.getD i ⟨0,0⟩).fy) i;rw[FZ];generalize kM (λi=>w.getD i false) (λi=>(l.getD i ⟨0,0⟩).fy) i=D at hb;unfold K7 AB ay xG xI;dsimp only;rw[aS,ak,aS,ak,aA ⟨by omega,by omega⟩,bD];simp only[bB,fk,bX J,bX C,Option.getD_some];cases w[i]with
  |false=>rfl
  | true=>
   rw[ak,cJ];by_cases E:D<0
   ·rw[aS E];rfl
   ·have I:D.toNat<l.length:=by omega
    rw[bh E,aA ⟨by omega,C⟩,aA ⟨by omega,I⟩,bX I,Option.getD_some];cases decide (l[i].fy > l[D.toNat].fy)<;>rfl) (by
  unfold K7 ay xG xI;dsimp only;by_cases C:n<l.length
  ·rw[aS,ak,bh,au]
  ·rw[bh,au]) (bI)
 rw[cq]at e
 refine(bH (λo=>Option.bind o _) e).trans ?_
 rfl
def aAj:Pz=Fv:=rfl
def sU(s:cw):cw:=⟨s.weight,s.weight⟩
def iX(l:aa cw):aa cw:=l.map sU
def ZS(l:aa cw)(w:aa Bool)(hl:l.length<1073741824):iter Fw aP ((w,(),(l.length:Int),(0:Int),()),(l,()))=some (.inl ((w,(),()),(iX l,()))):=by
 have e:=cy (step:=Fw) _ (λi=>((w,(),l.length,i,()),(upto sU l i,()))) (.inl ((w,(),()),(iX l,()))) aP (λi h=>by
  have hlen:=Aq sU l i;unfold Fw ay xG xL;dsimp only;rw[aS,ak,aA ⟨by omega,by omega⟩,aA,aA ⟨by omega,by omega⟩,aA,bD];simp only[bB];rw[FN sU l i h,<- FO sU l i h];rfl) (by
  unfold Fw ay xG xL;dsimp only;rw[bh,au,FM];rfl) (bI hl)
 exact e
def aAk(l:aa cw)(w:aa Bool)(hl:l.length<1073741824):iter EI aP ((w,(),(0:Int),()),(l,()))=some (.inl ((w,(),()),(iX l,()))):=by
 have e:=cy (step:=EI) _ (λi=>((w,(),i,()),(upto sU l i,()))) (.inl ((w,(),()),(iX l,()))) aP (λi h=>by
  have hlen:=Aq sU l i;unfold EI ay xG xL;dsimp only;rw[aS,ak,aA ⟨by omega,by omega⟩,aA,aA ⟨by omega,by omega⟩,aA,bD];simp only[bB];rw[FN sU l i h,<- FO sU l i h];rfl) (by
  have hlen:=Aq sU l l.length;unfold EI ay xG xL;dsimp only;rw[bh,au,FM];rfl) (bI hl)
 exact e
def akc(l:aa cw)(w:aa Bool)(hl:l.length<1073741823):Ju l w=qz l w:=by
 unfold Ju qz xA xC bu xL xZ;rw[kj,aAj,Me l w (by omega),LS _ (by omega),aja _ (by omega),aq];rw[ZS l w (by omega),aAk l w (by omega)];rfl
def ZT{l:aa cw}(w:aa Bool)(hl:l.length<1073741823)(D:gN l=true)(O:l.length=w.length):∃ y t,qz l w=some (y,t)/\y.length=l.length:=by
 unfold qz xA xC bu xL xZ;have hb:=vH (λi=>w.getD i false) (λi=>(l.getD i ⟨0,0⟩).fy) (min l.length w.length);have E:(iX l).length=l.length:=by simp[iX]
 have I:=vH (λi=>w.getD i false) (λi=>((iX l).getD i ⟨0,0⟩).fy) (min (iX l).length w.length);have J:=ZQ (λi=>w.getD i false) (λi=>(l.getD i ⟨0,0⟩).fy) (min l.length w.length);rw[kj,Me l w (by omega),aq,LS _ (by omega),aq,D,bF,au,List.length_nil,fj,cQ,ak];unfold uq;generalize Q:kM (λi=>w.getD i false) (λi=>(l.getD i ⟨0,0⟩).fy) (min l.length w.length)=b at *
 by_cases L:b<0
 ·simp_all
 ·have C:b.toNat<l.length:=by omega
  rw[bh L,au,aA ⟨by omega,C⟩,aA C];dsimp only;cases l[b.toNat].fy==0 with
  |false =>simp_all
  | true=>
   rw[ak,ZS l w (by omega),aq];simp only[ef];rw[Me _ w (by omega),aq];have T:0 <= uq (iX l) w:=ZR _ (i:=b.toNat) (by rcases J with h|h;exact absurd h (by omega);exact h) _ (by rw[E];omega);have U:uq (iX l) w<((min (iX l).length w.length:Nat):Int):=I.2;simp_all
def AD(m:kQ)(n:Int)(a:aK):aK:=bif m.hash then ⟨(a.ax+a.row) % n,a.row,a.bT⟩else a
def xS(g:aM)(m:kQ)(l:Int):aK:=AD m (aW g)
 (bif m.order==0 then ⟨l / g.aN % aW g,l / g.aN / aW g,l % g.aN⟩else bif m.order==1 then ⟨l % aW g,l / aW g / g.aN,l / aW g % g.aN⟩else ⟨l / g.aN / g.rows,l / g.aN % g.rows,l % g.aN⟩)
def F0{l a b:Int}(C:0<=l)(hb:0<b)(h:l<a*b):0<=l / b/\l / b<a/\l / b<=l:=by
 refine⟨Int.ediv_nonneg C (by omega),Int.ediv_lt_of_lt_mul hb h,?_⟩;exact Int.ediv_le_self _ C
def AE{l b:Int}(hb:0<b):0<=l % b/\l % b<b:=⟨Int.emod_nonneg _ (by omega),Int.emod_lt_of_pos _ hb⟩
def ZU{m:kQ}{n:Int}{a:aK}(C:0<n)(hb:0 <= a.ax/\a.ax<n):0 <= (AD m n a).ax/\(AD m n a).ax<n/\(AD m n a).row=a.row/\(AD m n a).bT=a.bT:=by
 unfold AD;cases m.hash with
 |false=>simp_all
 |true=>exact⟨(AE C).1,(AE C).2,rfl,rfl⟩
def ZV{m:kQ}{n b r c:Int}(C:0<n)(D:n<=8)(E:0<=b/\b<=100000)(I:0<=r/\r<=100000):(bif m.hash then if n=0 then none else some ((⟨(W6 (b+r)).tmod n,r,c⟩:aK),true)else some ((⟨b,r,c⟩:aK),true))=some (AD m n ⟨b,r,c⟩,true):=by
 unfold AD;cases m.hash with
 |false=>rfl
 |true=>rw[ak,bM,aR,oU (by omega),ak]
def akd{g:aM}{m:kQ}{l:Int}(L:cC g=true)(hm:aL m.order 0 2=true)(D:0<=l)(hl:l<ez g):∀ (f:ah (aK×Bool)),f=(bif (m.order==(0:Int))then if g.aN=0 then none else if g.aN=0 then none else if aW g=0 then none else if g.aN=0 then none else if aW g=0 then none else bif m.hash then if aW g=0 then none else some ((⟨((W6 (((W6 (l.tdiv g.aN)).tmod (aW g))+(W6 ((W6 (l.tdiv g.aN)).tdiv (aW g))))).tmod (aW g)),(W6 ((W6 (l.tdiv g.aN)).tdiv (aW g))),(l.tmod g.aN)⟩:aK),true)else some ((⟨((W6 (l.tdiv g.aN)).tmod (aW g)),(W6 ((W6 (l.tdiv g.aN)).tdiv (aW g))),(l.tmod g.aN)⟩:aK),true)else bif (m.order==(1:Int))then if aW g=0 then none else if aW g=0 then none else if g.aN=0 then none else if aW g=0 then none else if g.aN=0 then none else bif m.hash then if aW g=0 then none else some ((⟨((W6 ((l.tmod (aW g))+(W6 ((W6 (l.tdiv (aW g))).tdiv g.aN)))).tmod (aW g)),(W6 ((W6 (l.tdiv (aW g))).tdiv g.aN)),((W6 (l.tdiv (aW g))).tmod g.aN)⟩:aK),true)else some ((⟨(l.tmod (aW g)),(W6 ((W6 (l.tdiv (aW g))).tdiv g.aN)),((W6 (l.tdiv (aW g))).tmod g.aN)⟩:aK),true)else if g.aN=0 then none else if g.aN=0 then none else if g.rows=0 then none else if g.aN=0 then none else if g.rows=0 then none else bif m.hash then if aW g=0 then none else some ((⟨((W6 ((W6 ((W6 (l.tdiv g.aN)).tdiv g.rows))+((W6 (l.tdiv g.aN)).tmod g.rows))).tmod (aW g)),((W6 (l.tdiv g.aN)).tmod g.rows),(l.tmod g.aN)⟩:aK),true)else some ((⟨(W6 ((W6 (l.tdiv g.aN)).tdiv g.rows)),((W6 (l.tdiv g.aN)).tmod g.rows),(l.tmod g.aN)⟩:aK),true))->f=some (xS g m l,true)/\dK g (xS g m l)=true:=by
 have hb:=fh g;have hp:=LH L;have hL:=lH g;have gb:=fo L;have eL:ez g=aW g*g.rows*g.aN:=by simp[ez,L]
 have AT:aL l 0 (W6 (ez g-1))=true:=by rw[aR];exact bx.2 ⟨D,by omega⟩
 have ho:=bx.1 hm;rw[eL]at hl;have U:¬ aW g=0:=by omega
 have tD:¬ g.aN=0:=by omega
 have lY:¬ g.rows=0:=by omega
 rintro f rfl;simp only[bM U,bM tD,bM lY];unfold xS;by_cases Y:m.order=0
 ·have C:=F0 (a:=aW g*g.rows) D (show 0<g.aN by omega) hl;have E:=F0 (l:=l / g.aN) (a:=g.rows) (b:=aW g) C.1 (by omega) (by rw[Int.mul_comm];exact C.2.1);have O:=AE (l:=l / g.aN) (b:=aW g) (by omega);have a4:=AE (l:=l) (b:=g.aN) (by omega);rw[Y,ni,ak,ak,pS D,oU D,aR (n:=l / g.aN),pS C.1,oU C.1,aR (n:=l / g.aN / aW g)];obtain⟨Q,T,I,J⟩:=ZU (m:=m) (n:=aW g) (a:=⟨l / g.aN % aW g,l / g.aN / aW g,l % g.aN⟩) (by omega) O;refine⟨?_,vr L Q T (by rw[I];exact E.1) (by rw[I];exact E.2.1) (by rw[J];exact a4.1) (by rw[J];exact a4.2)⟩;refine Eq.trans ?_ (ZV (by omega) (by omega) (by omega) (by omega));rw[bM U]
 ·rw[jV Y,au,au];by_cases Z:m.order=1
  ·have C:=F0 (a:=g.rows*g.aN) D (show 0<aW g by omega) (by rw[Int.mul_comm,<-Int.mul_assoc];exact hl);have E:=F0 (l:=l / aW g) (a:=g.rows) (b:=g.aN) C.1 (by omega) C.2.1;have O:=AE (l:=l) (b:=aW g) (by omega);have a4:=AE (l:=l / aW g) (b:=g.aN) (by omega);rw[Z,ni,ak,ak,pS D,oU D,aR (n:=l / aW g),pS C.1,oU C.1,aR (n:=l / aW g / g.aN)];obtain⟨Q,T,I,J⟩:=ZU (m:=m) (n:=aW g) (a:=⟨l % aW g,l / aW g / g.aN,l / aW g % g.aN⟩) (by omega) O;refine⟨?_,vr L Q T (by rw[I];exact E.1) (by rw[I];exact E.2.1) (by rw[J];exact a4.1) (by rw[J];exact a4.2)⟩;refine Eq.trans ?_ (ZV (by omega) (by omega) (by omega) (by omega));rw[bM U]
  ·have C:=F0 (a:=aW g*g.rows) D (show 0<g.aN by omega) hl;have E:=F0 (l:=l / g.aN) (a:=aW g) (b:=g.rows) C.1 (by omega) C.2.1;have O:=AE (l:=l / g.aN) (b:=g.rows) (by omega);have a4:=AE (l:=l) (b:=g.aN) (by omega);rw[jV Z,au,au,pS D,oU D,aR (n:=l / g.aN),pS C.1,oU C.1,aR (n:=l / g.aN / g.rows)];obtain⟨Q,T,I,J⟩:=ZU (m:=m) (n:=aW g) (a:=⟨l / g.aN / g.rows,l / g.aN % g.rows,l % g.aN⟩) (by omega) ⟨E.1,E.2.1⟩;refine⟨?_,vr L Q T (by rw[I];exact O.1) (by rw[I];exact O.2) (by rw[J];exact a4.1) (by rw[J];exact a4.2)⟩;refine Eq.trans ?_ (ZV (by omega) (by omega) (by omega) (by omega));rw[bM U]
def ake{g:aM}{m:kQ}{l:Int}(C:cC g=true)(D:aL m.order 0 2=true)(E:0<=l)(hl:l<ez g):QO g m l=some (xS g m l,true)/\dK g (xS g m l)=true:=by
 have J:=lH g;have I:aL l 0 (W6 (ez g-1))=true:=by rw[aR];exact bx.2 ⟨E,by omega⟩
 refine akd C D E hl _ ?_;unfold QO;rw[xz,aq,C,bF,au,Zd,aq,D,bF,au,LI,aq,dF,aq,I,bF,au,oH,aq]
def aAl{g:aM}{m:kQ}{l:Int}(E:cC g=true)(C:aL m.order 0 2=true)(D:0<=l)(hl:l<ez g):Ph g m l=some (xS g m l,true):=by
 have J:=lH g;have I:aL l 0 (W6 (ez g-1))=true:=by rw[aR];exact bx.2 ⟨D,by omega⟩
 refine(akd E C D hl _ ?_).1;unfold Ph;rw[show Ez m=some (aL m.order 0 2)from Zd m,aq,C,bF,au,CK,aq,eE,aq,I,bF,au,oI,aq]
def gB(c:av)(l:Int):aK:=
 let a:=xS (eJ c.config.az c.spare) c.config.mapping l
 ⟨a.ax,c.spare.map.getD (a.ax*(c.config.az.rows-c.spare.bP)+a.row).toNat 0,a.bT⟩
def Mf{g:aM}{s:dH}(h:kL g s=true):eJ g s=⟨g.cu,g.aC,g.rows-s.bP,g.aN⟩/\cC g=true/\cC (eJ g s)=true/\aW (eJ g s)=aW g/\0 <= s.bP/\s.bP <= 2/\2 <= g.rows-s.bP/\g.rows <= 16:=by
 have D:=h;simp[kL,aO]at h;have⟨C,E,I,J,L⟩:=RX h.1;have Q:=fo C;have e:eJ g s=⟨g.cu,g.aC,g.rows-s.bP,g.aN⟩:=by
  unfold eJ;rw[D,ak,aR]
 have O:cC (eJ g s)=true:=by
  rw[e];unfold cC;simp[aO,bx];omega
 refine⟨e,C,O,?_,E,I,J,L⟩;unfold aW;simp_all
def akf{g:aM}{s:dH}(h:kL g s=true){b r:Int}(hb:0 <= b/\b<aW g)(E:0 <= r/\r<g.rows-s.bP):(b*(g.rows-s.bP)+r).toNat<s.map.length/\0 <= s.map.getD (b*(g.rows-s.bP)+r).toNat 0/\s.map.getD (b*(g.rows-s.bP)+r).toNat 0<g.rows:=by
 have⟨_,T,_,_,U,Y,Z,h4⟩:=Mf h;have I:=fh g;simp only[kL,aO,fI,cI,fq]at h;have⟨_,hl,J⟩:=h;obtain⟨b,rfl⟩:=eX hb.1;obtain⟨r,rfl⟩:=eX E.1;have⟨R,hR⟩:=eX (show 0 <= g.rows-s.bP by omega);have⟨C,L⟩:=eX I.1;rw[hR,L,bB,bB]at hl;have hl:s.map.length=C*R:=by exact_mod_cast hl
 have O:b<C:=by omega
 have D:r<R:=by omega
 have e:((b:Int)*(g.rows-s.bP)+(r:Int)).toNat=b*R+r:=by rw[hR,<- Int.natCast_mul,<- Int.natCast_add,bB]
 have ei:=Aw (R:=R) O (show r+1 <= R from D);have hi:b*R+r<s.map.length:=by omega
 have h5:=J b (by omega) r (by omega);rw[e];refine⟨hi,?_⟩;rw[fk,bX hi,Option.getD_some];have Q:(iB s.map R b)[r]?=some s.map[b*R+r]:=by rw[FT,List.getElem?_take_of_lt D,List.getElem?_drop,bX hi]
 rw[hR,bB]at h5;unfold rS at h5;rw[Q]at h5;simp only[eB,aO,fI,bx]at h5;rcases h5 with h5|h5
 ·omega
 ·grind
def aAm{c:av}(h:Pk c)(E:kL c.config.az c.spare=true)(he:c.spare.bP=c.config.bP)(hm:aL c.config.mapping.order 0 2=true){l:Int}(h0:0 <= l)(hl:l<ez (eJ c.config.az c.spare)):vo c l=some (gB c l,true)/\dK c.config.az (gB c l)=true:=by
 have⟨T,U,Y,Z,s1,s2,s3,s4⟩:=Mf E;have⟨m1,m3⟩:=ake Y hm h0 hl;have⟨_,C,D,I,J,b5,b6⟩:=rO m3;rw[Z]at D;have gb:=fo U;have hb:=fh c.config.az;have er:(eJ c.config.az c.spare).rows=c.config.az.rows-c.spare.bP:=by rw[T]
 have ec:(eJ c.config.az c.spare).aN=c.config.az.aN:=by rw[T]
 rw[er]at J;rw[ec]at b6;have⟨k1,k2,k3⟩:=akf E ⟨C,D⟩ ⟨I,J⟩;have hmul:=vt C D I J;have hM:=RI (a:=aW c.config.az) (b:=c.config.az.rows-c.spare.bP) (A:=8) (B:=16) hb.1 hb.2 (by omega) (by omega);unfold gB;generalize hA:xS (eJ c.config.az c.spare) c.config.mapping l=A at *
 dsimp only;refine⟨?_,vr U C D k2 k3 b5 b6⟩;unfold vo;rw[Zq,aq,m1,aq];dsimp only;rw[bF,au];unfold Yy xI;have hx:QS (eJ c.config.az c.spare) A.ax A.row=some true:=by
  unfold QS;rw[YY,aq,vr (a:=⟨A.ax,A.row,0⟩) Y C (by rw[Z];exact D) I (by rw[er];exact J) (Int.le_refl 0) (by rw[ec];show 0<_;omega)]
 have⟨b,hbN⟩:=eX C;have⟨r,hrN⟩:=eX I;have⟨R,hR⟩:=eX (show 0 <= c.config.az.rows-c.spare.bP by omega);have⟨bn,hn⟩:=eX hb.1;have O:c.spare.map.length=bn*R:=by
  simp only[kL,aO,fI]at E;have:=E.2.1
  grind
 have L:b<bn:=by omega
 have Q:r<R:=by omega
 have ei:=Aw (R:=R) L (show r+1 <= R from Q);have aAn:=Aw (R:=R) L (eK R);have hi:b*R+r<c.spare.map.length:=by omega
 rw[Zq,aq,hx,aq,bF,au,hbN,ajq hR (by omega) (by omega) L O,aq];have ht:((c.spare.map.take ((b+1)*R)).drop (b*R))=iB c.spare.map R b:=rfl;have lW:(iB c.spare.map R b).length=R:=FU (by rw[O];exact iN R L);have hgx:(iB c.spare.map R b)[r]?=some c.spare.map[b*R+r]:=by rw[FT,List.getElem?_take_of_lt Q,List.getElem?_drop,bX hi]
 have hgy:(iB c.spare.map R b)[r]'(by omega)=c.spare.map[b*R+r]:=by
  grind
 dsimp only;rw[iD (by rw[iC];omega),iD (by rw[iC,O];omega),cJ,ak,hrN,aA ⟨by omega,by rw[ht,lW,bB];exact Q⟩];simp only[bB,ht,hgy,aq];rw[hR,<- Int.natCast_mul,<- Int.natCast_add,bB,fk,bX hi,Option.getD_some]
def aAo{c:av}(h:Pk c)(I:kL c.config.az c.spare=true)(Y:c.spare.bP=c.config.bP)(J:aL c.config.mapping.order 0 2=true){l:Int}(L:0<=l)(hl:l<ez (eJ c.config.az c.spare)):xg c l=some (gB c l):=by
 obtain⟨C,Z,O,eb,s1,s2,s3,s4⟩:=Mf I;obtain⟨m1,m3⟩:=ake O J L hl;have m2:=aAl O J L hl;obtain⟨_,Q,D,T,E,b5,b6⟩:=rO m3;rw[eb]at D;have gb:=fo Z;have hb:=fh c.config.az;have er:(eJ c.config.az c.spare).rows=c.config.az.rows-c.spare.bP:=by rw[C]
 have ec:(eJ c.config.az c.spare).aN=c.config.az.aN:=by rw[C]
 rw[er]at E;rw[ec]at b6;obtain⟨U,k2,k3⟩:=akf I ⟨Q,D⟩ ⟨T,E⟩;have hmul:=vt Q D T E;have hM:=RI (a:=aW c.config.az) (b:=c.config.az.rows-c.spare.bP) (A:=8) (B:=16) hb.1 hb.2 (by omega) (by omega);unfold gB;generalize hA:xS (eJ c.config.az c.spare) c.config.mapping l=A at *
 dsimp only;unfold xg xI;have hw:W6 (c.config.az.rows-c.config.bP)=c.config.az.rows-c.spare.bP:=by rw[<-Y];exact aR
 have hw1:W6 (A.ax*(c.config.az.rows-c.spare.bP))=A.ax*(c.config.az.rows-c.spare.bP):=aR;have hw2:W6 (A.ax*(c.config.az.rows-c.spare.bP)+A.row)=A.ax*(c.config.az.rows-c.spare.bP)+A.row:=aR;simp only[hw];rw[<-C,m2,aq];simp only[hw1,hw2];rw[aA ⟨hmul.2.1,U⟩,fk,bX U,Option.getD_some]
def F1{c:eT}{p:dJ}(hl:p.weights.length<1073741823)(h:lJ c p=true):nU c=true/\pM p=true:=by
 have⟨b,e,D⟩:=Zj c p hl;have hb:b=true:=by
  rw[L7 c p hl]at e;simp_all
 subst hb;have C:=D rfl;refine⟨C,?_⟩;unfold sI at e;have⟨y,E⟩:=Zi p.eZ;simp[RZ,R1 _ hl,C]at e
 grind
structure Pq (c:av):Prop where
 p:Pk c
 sp:kL c.config.az c.spare=true
 se:c.spare.bP=c.config.bP
 mo:aL c.config.mapping.order 0 2=true
 q:∀r∈c.queue,(0<=r.line/\r.line<ez (eJ c.config.az c.spare))/\(0<=r.dI/\r.dI<=3)/\(0<=r.at_/\r.at_<=1000000)
 ql:c.queue.length<=12
 pe:∀a∈c.pending,dK c.config.az a=true
 pl:c.pending.length<=128
 rf:eA c.aQ=true
 dl:(c.aQ.aJ.length:Int)=aW c.config.az
 sh:gN c.shares=true
 shl:c.shares.length=4
 dr:kH c.drain=true
 pw:iL c.bg=true
 ps:c.bg.state=c.bq.bg
 nw:0<=c.now/\c.now<=1000000
 cap:0<=c.box.bV.cap/\c.box.bV.cap<=100000
 dS:xF c.box.bV.dS=true
def Pq.of{c:av}(D:cW c)(h:c8 c=true):Pq c:=by
 have I:=Pk.of D h;have z1:c.box.bV.weights.length <= 1048576:=D.1.1;simp only[c8,aO]at h;have⟨J,h2,L,h4,h5,h6,O,Q,C,E,T,kz,U,Y,Z,jL,qU,r6,r7,vT,vU,vV⟩:=h;have⟨f1,f2⟩:=F1 (by omega) J;simp only[nU,aO]at f1;simp only[pM,aO]at f2;have⟨f3,f4,f5,f6,f7,f8,f9⟩:=f2;simp only[sP,aO,fI,gT,qQ,cI,fq]at C;have⟨C,g1,g2,g3,g4,g5,g6⟩:=C;simp only[iU,aO,cI,fq,gK]at E;have⟨q1,q2⟩:=E;have Pv:c.shares.length=4:=by
  grind
 refine⟨I,O,by simpa using Q,f1.2.2.1,λr hr=>?_,by omega,λa ha=>?_,by omega,C,g1,T,Pv,U,Y,by simpa using Z,bx.1 L,bx.1 f4,f9⟩
 ·obtain⟨i,hi,rfl⟩:=jA.1 hr;have hb:=q1 i hi;unfold rR at hb;rw[bX hi]at hb;simp[pN,aO,gK]at hb;have⟨⟨k1,k2,k3,k4,k5,k6,k7⟩,_⟩:=hb;exact⟨⟨k3,k4⟩,bx.1 k2,bx.1 k7⟩
 ·obtain⟨i,hi,rfl⟩:=jA.1 ha;have hb:=g6 i hi;unfold Ay at hb;simp_all
def vI(r:cK)(a:aK):Bool:=(jh r a.ax).open_&&((jh r a.ax).row==a.row)
def C2(r:cK)(a:aK)(w:Bool):aH:=
 bif !(jh r a.ax).open_ then ⟨1,a.ax,a.row,0⟩else bif (jh r a.ax).row != a.row then ⟨4,a.ax,0,0⟩else bif w then ⟨3,a.ax,0,a.bT⟩else ⟨2,a.ax,0,a.bT⟩
def AF{r:cK}{b:Int}(h:b.toNat<r.aC.length):jh r b=r.aC[b.toNat]:=by
 unfold jh;rw[fk,bX h];rfl
def Mg{b:Int}{n:Nat}(C:0<=b)(h:b.toNat<n)(D:n<=1048576):aL b 0 (W6 ((n:Int)-1))=true:=by
 rw[aR];exact bx.2 ⟨C,by omega⟩
def Su{r:cK}{a:aK}(w:Bool)(C:0 <= a.ax)(h:a.ax.toNat<r.aC.length)(hl:r.aC.length <= 1048576):xq r a w=some (C2 r a w):=by
 unfold xq C2 xI;rw[dF,aq,Mg C h hl,bF,aA ⟨C,h⟩,AF h]
 grind
def akg:zU=xq:=rfl
def akh{r:cK}{b:Int}(C:0 <= b)(h:b.toNat<r.aC.length)(hl:r.aC.length <= 1048576):Ln r b=some (bif (jh r b).open_ then (jh r b).row else -1):=by
 unfold Ln xI;rw[dF,aq,Mg C h hl,bF,aA ⟨C,h⟩,AF h]
 grind
def aAp:PY=Ln:=rfl
def aAq{r:cK}{a:aK}(D:0 <= a.row)(C:0 <= a.ax)(h:a.ax.toNat<r.aC.length)(hl:r.aC.length <= 1048576):FE r a=some (vI r a):=by
 unfold FE vI;rw[gH (by omega:¬ a.row = -1),akh C h hl,aq];cases (jh r _).open_ with
 |false=>rw[au,jV (by omega:¬ (-1)=a.row)];rfl
 |true=>rfl
def aki{r:cK}{a:aK}(D:0 <= a.row)(C:0 <= a.ax)(h:a.ax.toNat<r.aC.length)(hl:r.aC.length <= 1048576):JO r a=some (vI r a):=by
 unfold JO vI;rw[aAp,akh C h hl,aq,aq];cases (jh r _).open_ with
 |false=>simp_all
 | true=>
  rw[ak,cJ];by_cases e:(jh r a.ax).row=a.row
  ·rw[e,ni,ak,gH (by omega:¬ a.row = -1)]
  ·grind
def aAr{g:aM}{r:cK}{a:aK}(w:Bool)(h:dK g a=true):dO g (C2 r a w)=true:=by
 have⟨D,E,Q,I,T,J,U⟩:=rO h;have L:aL _ 0 (aW g-1)=true:=bx.2 ⟨E,by omega⟩;have C:aL a.row 0 (g.rows-1)=true:=bx.2 ⟨I,by omega⟩;have O:aL a.bT 0 (g.aN-1)=true:=bx.2 ⟨J,by omega⟩;unfold C2 dO sQ;cases (jh r _).open_<;>cases (jh r _).row != a.row<;>cases w<;>simp[D,aL,C]<;>simp[aL,gK]at L C O<;>omega
def AG{g:aM}{k b:Int}(C:cC g=true)(D:k=4 \/ k=5)(hb:0 <= b/\b<aW g):dO g ⟨k,b,0,0⟩=true:=by
 have E:aL b 0 (aW g-1)=true:=bx.2 ⟨hb.1,by omega⟩;unfold dO sQ;rcases D with rfl|rfl<;>simp[C,aL]<;>simp[aL,gK]at E<;>omega
def aAs{g:aM}{a:aK}(h:dK g a=true):dO g ⟨1,a.ax,a.row,0⟩=true:=by
 have⟨C,D,E,I,J,L,O⟩:=rO h;unfold dO sQ;simp[C,aL];omega
def Sv{g:aM}{k:Int}(C:cC g=true)(D:6<=k/\k<=9):dO g ⟨k,0,0,0⟩=true:=by
 obtain⟨n,rfl⟩:=eX (show 0<=k by omega);have:n=6\/n=7\/n=8\/n=9:=by omega
 unfold dO;rw[C];rcases this with rfl|rfl|rfl|rfl<;>rfl
def ZW(l:aa aK)(b:Int)(hl:l.length<=1048576):CD l b=some (l.any λa=>a.ax==b):=by
 have E:=ug (λa:aK=>a.ax==b) l;unfold CD YM YL;rw[Ma];have e:=cy (step:=FC) (c9 (λa:aK=>a.ax==b) l) (λi=>((l,b,(l.length:Int),(i:Int),()),())) (if c9 (λa:aK=>a.ax==b) l<l.length then .inl ((((c9 (λa:aK=>a.ax==b) l:Nat):Int),()),())else .inr (.inl ((),()))) aP (λk h=>by
  have D:=m7 h (by omega);unfold FC ay aV xG xI;dsimp only;rw[aS,ak,aA ⟨by omega,by omega⟩];simp only[bB];rw[D,au,bD]) (by
  by_cases C:c9 (λa:aK=>a.ax==b) l<l.length
  ·have D:=qG C;unfold FC ay aV xG xI;dsimp only;rw[aS,ak,aA ⟨by omega,by omega⟩];simp only[bB];rw[D,ak,bA C]
  ·unfold FC ay aV xG xI;dsimp only;rw[bh,au,bM C]) (bI)
 rw[cq]at e;rw[e];by_cases C:c9 (λa:aK=>a.ax==b) l<l.length
 ·rw[bA C,aS C];simp
 ·rw[bM C,bh C];rfl
def pP(t:cr)(row:Int):ah Nat:=match t.rows.findIdx? (λe=>e==row)with
 |some i=>some i
 |none=>t.counts.findIdx? (λe=>e==t.dc)
def jX(t:cr)(row:Int):cr:=match t.rows.findIdx? (λe=>e==row)with
 |some i=>⟨t.rows,t.counts.set i (t.counts.getD i 0+1),t.dc⟩
 | none=>match t.counts.findIdx? (λe=>e==t.dc)with
  |some i=>⟨t.rows.set i row,t.counts.set i (t.dc+1),t.dc⟩
  |none=>⟨t.rows,t.counts,t.dc+1⟩
def ur(t:cr)(row dx:Int):cr×Bool:=bif kJ t&&(aL row 0 15&&aL dx 2 1000)then (bif kJ (jX t row)then (jX t row,match pP t row with
    |some i=>((jX t row).counts.getD i 0).tmod dx==0
    |none=>false)else (t,false))else (t,false)
structure Tk (t:cr):Prop where
 rl:t.rows.length<=16
 cl:t.counts.length=t.rows.length
 sp:0<=t.dc/\t.dc<=100000
 cs:∀i (h:i<t.counts.length),0<=t.counts[i]/\t.counts[i]<=100000
def Tk.of{t:cr}(h:kJ t=true):Tk t:=by
 simp[kJ,aO,fI,cI,fq]at h;have⟨D,I,C,E⟩:=h;have D:=bx.1 D;have C:=bx.1 C
 refine⟨by omega,by omega,C,λi hi=>?_⟩
 have hb:=E i (by omega);rw[R7 (by omega) hi,aO,aO]at hb;have:=bx.1 hb.2.1;omega
def Mh{T:Type}{p:T -> Bool}{l:aa T}{i:Nat}(h:l.findIdx? p=some i):∃ hi:i<l.length,p l[i]=true:=by
 have⟨hi,C,_⟩:=nj.1 h;simp_all
def aAt{t:cr}(h:Tk t)(row:Int):Pp t row=some ((match pP t row with | some i=>(i:Int) | none=>-1),(jX t row,())):=by
 have L:=h.rl;have O:=h.cl;have E:=vA (step:=Jk) t.rows (λe=>e==row) (λi=>(((),row,(i:Int),()),(((),(),t.dc,()),t.rows,t.counts,()))) (λi=>.inl (((i:Int),()),(((),(),t.dc,()),t.rows,t.counts.set i (t.counts.getD i 0+1),()))) (.inr (.inl (((),row,()),(((),(),t.dc,()),t.rows,t.counts,())))) aP (λk D=>by
  have C:k<t.counts.length:=by omega
  have I:=h.cs k C;unfold Jk ay aV xG xL;dsimp only;rw[aS,ak,aA ⟨by omega,by omega⟩,aA];simp only[bB];cases t.rows[k]==row with
  |false=>rw[au,au,bD]
  | true=>
   rw[ aA ⟨by omega,C⟩,aA C,aA ⟨by omega,C⟩,aA C,aR (n:=t.counts[k]+1),fk,bX C];rfl) (by
  unfold Jk ay aV xG xL;dsimp only;rw[bh,au]) (bI)
 have J:=vA (step:=Jl) t.counts (λe=>e==t.dc) (λi=>(((),row,(i:Int),()),(((),(),t.dc,()),t.rows,t.counts,()))) (λi=>.inl (((i:Int),()),(((),(),t.dc,()),t.rows.set i row,t.counts.set i (t.dc+1),()))) (.inr (.inl (((),()),(((),(),t.dc,()),t.rows,t.counts,())))) aP (λk D=>by
  have C:k<t.rows.length:=by omega
  have I:=h.sp;unfold Jl ay aV xG xL;dsimp only;rw[aS,ak,aA ⟨by omega,by omega⟩,aA];simp only[bB];cases t.counts[k]==t.dc with
  |false=>rw[au,au,bD]
  |true=>rw[ak,ak,aA ⟨by omega,C⟩,aA C,aA ⟨by omega,D⟩,aA D,aR]) (by
  unfold Jl ay aV xG xL;dsimp only;rw[bh,au]) (bI)
 have Q:=h.sp;unfold Pp pP jX bQ
 refine(bH (λo=>Option.bind o _) E).trans ?_
 rw[aq];cases T:t.rows.findIdx? (λe=>e==row)with
 |some i=>rfl
 | none=>
  simp only[ef,Sum.elim_inr]
  refine(bH (λo=>Option.bind o _) J).trans ?_
  rw[aq];cases U:t.counts.findIdx? (λe=>e==t.dc)with
  |some i=>rfl
  | none=>
   simp;rw[aR]
def ZX{t:cr}(row:Int):(jX t row).rows.length=t.rows.length/\(jX t row).counts.length=t.counts.length:=by
 unfold jX
 grind
def akj{t:cr}(h:Tk t){row:Int}{i:Nat}(hi:pP t row=some i):i<t.counts.length:=by
 have:=h.cl;unfold pP at hi;split at hi
 next j C=>cases hi;have⟨D,_⟩:=Mh C;omega
 ·exact(Mh hi).1
def akk(t:cr)(D:jw t)(row dx:Int):Jm t row dx=some (ur t row dx):=by
 unfold Jm ur xL;rw[aj0 t D,aq,ajm,aq];cases E:kJ t with
 |false=>rfl
 | true=>
  have C:=Tk.of E;rw[bF,au,eE,aq,cJ];cases L:aL row 0 15 with
  |false=>rfl
  | true=>
   rw[bF,au,eE,aq,cJ];cases I:aL dx 2 1000 with
   |false=>rfl
   | true=>
    have hl:=bx.1 I;rw[bF,au,ak,aAt C,aq,ajm,aq];dsimp only;cases O:kJ (jX t row)with
    |false =>simp_all
    | true=>
     rw[bF,au,ak];cases J:pP t row with
     |none=>rfl
     | some i=>
      have hi:i<(jX t row).counts.length:=by rw[(ZX row).2];exact akj C J
      grind
def aAu(t:cr)(hz:jw t)(row dx:Int):QW t row dx=some (ur t row dx):=by
 have sw:∀x:Int,(λe:Int=>x==e)=λe=>e==x:=λx=>funext λe=>by rw[Bool.eq_iff_iff,fI,fI];exact eq_comm
 unfold QW ur xL;rw[ZF t hz,aq,Zn,aq];dsimp only;cases ht:kJ t with
 |false=>rfl
 | true=>
  have L:=Tk.of ht;have r1:=L.rl;have r2:=L.cl;have yI:=L.sp;rw[bF,au,dF,aq,cJ];cases h1:aL row 0 15 with
  |false=>rfl
  | true=>
   rw[bF,au,dF,aq,cJ];cases h2:aL dx 2 1000 with
   |false=>rfl
   | true=>
    have hl:=bx.1 h2;rw[bF,au,ak,R6 _ _ (by omega),aq,sw row];have Y:∀ (E:Int) (D:cr),D=jX t row->(E=match pP t row with | some i=>(i:Int) | none=>-1)->
      ((Aj D).bind λlG=>bif (!lG)then ((some t).bind λtY=>some (tY,false))else (bif (decide (E >= (0:Int)))then if yF:0<=E/\E.toNat<D.counts.length then if GJ:E.toNat<D.counts.length then (if dx=0 then none else some (D,(D.counts[E.toNat]'GJ).tmod dx==(0:Int)))else none else none else some (D,false)))=some (bif kJ (jX t row)then (jX t row,match pP t row with
        |some i=>((jX t row).counts.getD i 0).tmod dx==0
        |none=>false)else (t,false)):=by
     intro E D O e2;subst O;rw[Zn,aq];cases h3:kJ (jX t row)with
     |false=>rfl
     | true=>
      rw[bF,au,ak,e2];cases h4:pP t row with
      |none=>rfl
      | some i=>
       have hi:i<(jX t row).counts.length:=by rw[(ZX row).2];exact akj L h4
       simp only[bB];rw[aS,ak,aA ⟨by omega,hi⟩,aA hi,bM,fk,bX hi];rfl
    cases C:t.rows.findIdx? (λe=>e==row)with
    | some i=>
     obtain⟨hi,_⟩:=Mh C;have J:i<t.counts.length:=by omega
     have hc:=L.cs i J;have Q:pP t row=some i:=by unfold pP;rw[C]
     have T:jX t row=⟨t.rows,t.counts.set i (t.counts[i]+1),t.dc⟩:=by unfold jX;simp only[C];rw[fk,bX J];rfl
     have O:gu (λe=>e==row) t.rows=(i:Int):=by unfold gu;rw[C]
     rw[O,bh,au];simp only[bB];rw[aS,ak,aA ⟨by omega,J⟩,aA J,aA ⟨by omega,J⟩,aA J];have U:W6 (t.counts[i]+1)=t.counts[i]+1:=aR;simp only[U];exact Y (i:Int) ⟨t.rows,t.counts.set i (t.counts[i]+1),t.dc⟩ T.symm (by rw[Q])
    | none=>
     have O:gu (λe=>e==row) t.rows = -1:=by unfold gu;rw[C]
     rw[O,aS,ak,R6 _ _ (by omega),aq,sw t.dc];cases I:t.counts.findIdx? (λe=>e==t.dc)with
     | some i=>
      obtain⟨hi,Z⟩:=Mh I;have hir:i<t.rows.length:=by omega
      have Z:t.counts[i]=t.dc:=by simpa using Z
      have Q:pP t row=some i:=by unfold pP;rw[C];exact I
      have T:jX t row=⟨t.rows.set i row,t.counts.set i (t.dc+1),t.dc⟩:=by unfold jX;rw[C];simp only[I]
      have e3:gu (λe=>e==t.dc) t.counts=(i:Int):=by unfold gu;rw[I]
      rw[e3];simp only[bB];rw[aS,ak,aA ⟨by omega,hir⟩,aA hir,ak,aA ⟨by omega,hi⟩,aA hi,aA ⟨by omega,hi⟩,aA hi];have U:W6 (t.dc+1)=t.dc+1:=aR;simp only[Z,U];exact Y (i:Int) ⟨t.rows.set i row,t.counts.set i (t.dc+1),t.dc⟩ T.symm (by rw[Q])
     | none=>
      have Q:pP t row=none:=by unfold pP;rw[C];exact I
      have T:jX t row=⟨t.rows,t.counts,t.dc+1⟩:=by unfold jX;rw[C];simp only[I]
      have e3:gu (λe=>e==t.dc) t.counts = -1:=by unfold gu;rw[I]
      have U:W6 (t.dc+1)=t.dc+1:=aR;rw[e3,bh,au,au];simp only[U];exact Y (-1) ⟨t.rows,t.counts,t.dc+1⟩ T.symm (by rw[Q])
def xT(k:Int):cr:=⟨List.replicate k.toNat (-1),List.replicate k.toNat 0,0⟩
def aAv{k:Int}(h:aL k 1 16=true):Q1 k=some (xT k,true):=by
 have hb:=bx.1 h;unfold Q1;have e:BW ([(-1:Int)]) k=some (List.replicate k.toNat (-1)):=by
  unfold BW;simp_all
 rw[dF,aq,h,bF,e,aq,bA ⟨by omega,Int.le_refl _,by omega⟩];rfl
def aAw{k:Int}(h:aL k 1 16=true):EC k=some (xT k,true):=by
 have hb:=bx.1 h;obtain⟨n,rfl⟩:=eX (show 0 <= k by omega);unfold EC;rw[eE,aq,h,bF,ajJ n (by omega),aq,bA ⟨by omega,Int.le_refl _,by omega⟩];rfl
def vJ(r:cY)(b:Int):cY:=bif decide (r.aJ.getD b.toNat 0 = -2)then r else ⟨r.aJ.set b.toNat (r.aJ.getD b.toNat 0-1),r.wait,r.dD⟩
def Mi{r:cY}(h:eA r=true):∀ x∈r.aJ,-2 <= x/\x <= 5:=by
 simp[eA,aO,cI]at h;exact λx C=>bx.1 (h.1 x C)
def aAx{α β:Type}{o:ah (α×β)}{a:α}(h:o.map Prod.fst=some a):∃b,o=some (a,b):=by simp_all
def aAy{r:cY}(h:eA r=true){b:Int}(D:0 <= b)(C:b.toNat<r.aJ.length):∃ y,Px r b=some (vJ r b,y):=by
 have hl:=nY h;have J:=Mi h _ (cU C);have E:r.aJ.getD b.toNat 0=r.aJ[b.toNat]:=by rw[fk,bX C];rfl
 unfold Px B2 vJ xI xL xA xZ;rw[cQ (by simp;omega),ak,aq,R2 _ (by omega),aq,h,bF,au,eE,aq,Mg D C (by omega),bF,au,aA ⟨D,C⟩,E];dsimp only;by_cases I:r.aJ[b.toNat] = -2
 ·simp_all
 ·rw[bh (show ¬ r.aJ[b.toNat] <= -2 by omega),bh I,kj,aA ⟨D,C⟩,aA ⟨D,C⟩,aA C,aR];simp_all
def aAz{r:cY}(h:eA r=true){b:Int}(D:0 <= b)(C:b.toNat<r.aJ.length):∃ y,Q2 r b=some (vJ r b,y):=by
 have hl:=nY h;have J:=Mi h _ (cU C);have I:r.aJ.getD b.toNat 0=r.aJ[b.toNat]:=by rw[fk,bX C];rfl
 unfold Q2 Cy vJ xI xL xA xZ;rw[cQ (by simp;omega),ak,aq,LU _ (by omega),aq,h,bF,au,dF,aq,Mg D C (by omega),bF,au,aA ⟨D,C⟩,I];dsimp only;by_cases E:r.aJ[b.toNat] = -2
 ·simp_all
 ·rw[jV E,bh E,kj,aA ⟨D,C⟩,aA C,aA ⟨D,C⟩,aA C,aR];simp_all
def xU(p:eR)(k now:Int):eR:=bif iL p&&aL now p.since 1000000 then
 (bif (k==6)&&(p.state==0)then ⟨1,now,p.idle⟩else bif (k==8)&&(p.state==0)then ⟨2,now,p.idle⟩else bif (k==7)&&(p.state==1)then ⟨0,now,p.idle⟩else bif (k==9)&&(p.state==2)then ⟨0,now,p.idle⟩else p)else p
def Sw(p:eR){k:Int}(C:6 <= k/\k <= 9)(now:Int):∃ y,Rd p k now=some (xU p k now,y):=by
 refine aAx ?_;unfold Rd xU;rw[R4,aq];cases iL p with
 |false=>rfl
 | true=>
  rw[bF,au,dF,aq];cases aL now p.since 1000000 with
  |false=>rfl
  | true=>
   have:k=6 \/ k=7 \/ k=8 \/ k=9:=by omega
   grind
def Sx(p:eR){k:Int}(C:6 <= k/\k <= 9)(now:Int):∃ y,PO p k now=some (xU p k now,y):=by
 unfold PO xU;simp[Zm,eE];have:k=6 \/ k=7 \/ k=8 \/ k=9:=by omega
 rcases this with rfl|rfl|rfl|rfl
 ·grind
 ·grind
 ·grind
 ·grind
def akl{α β T:Type}{step:α -> ah (α⊕β)}(p:T -> Bool)(S:Nat -> Nat -> aa T -> α)(Z:Nat -> aa T -> β)
  (U:∀i j s (E:j<s.length),i <= j -> j<1073741824 -> step (S i j s)=some (.inl (bif p s[j]then S i (j+1) s else S (i+1) (j+1) (s.set i s[j]))))
  (hz:∀i s,i <= s.length -> step (S i s.length s)=some (.inr (Z i s))):
  ∀(n i j fuel:Nat) (s:aa T),j+n=s.length -> i <= j -> s.length<1073741824 -> n<fuel -> ∃C D,iter step fuel (S i j s)=some (Z D C)/\C.length=s.length/\D <= s.length/\C.take D=s.take i++(s.drop j).filter (λx=>!p x):=by
 intro n
 induction n with
 | zero=>
  intro i j fuel s Y hi hl hf;obtain⟨f,rfl⟩:∃f,fuel=f+1:=⟨fuel-1,by omega⟩
  have ej:j=s.length:=by omega
  subst ej;refine⟨s,i,?_,rfl,hi,by simp⟩;unfold iter;simp_all
 | succ n I=>
  intro i j fuel s Y hi hl hf;obtain⟨f,rfl⟩:∃f,fuel=f+1:=⟨fuel-1,by omega⟩
  have E:j<s.length:=by omega
  unfold iter;rw[U i j s E hi (by omega)];have hd:=List.drop_eq_getElem_cons E;cases hp:p s[j]with
  | true=>
   have⟨C,D,J,L,O,Q⟩:=I i (j+1) f s (by omega) (by omega) hl (by omega)
   grind
  | false=>
   have⟨C,D,J,L,O,Q⟩:=I (i+1) (j+1) f (s.set i s[j]) (by simp;omega) (by omega) (by simp;omega) (by omega);refine⟨C,D,J,by simpa using L,by simpa using O,?_⟩;rw[Q,hd,List.filter_cons_of_pos (by simp[hp]),List.drop_set_of_lt (by omega),List.take_add_one,List.getElem?_set_self (by omega),List.take_set_of_le (by omega)];simp
def ZY{T:Type}{p:T -> Bool}{l:aa T}{k:Nat}(h:l.findIdx? p=some k):l.filter (λx=>!p x)=l.take k++(l.drop (k+1)).filter (λx=>!p x):=by
 have⟨D,E,I⟩:=nj.1 h;have e:l=l.take k++l[k] :: l.drop (k+1):=by
  simp[*]
 have J:(l.take k).filter (λx=>!p x)=l.take k:=by
  rw[List.filter_eq_self];intro a C;obtain⟨i,hi,rfl⟩:=jA.1 C
  grind
 grind
def ZZ{T:Type}(s r:aa T)(i:Nat)(h:i <= s.length):(splice s i r).take i=s.take i:=by
 unfold splice;simp_all
def aAA(l:aa aK)(a:aK)(hl:l.length<1073741824):QX l a=some (gu (gO a) l):=by
 unfold QX gu;have e:=vA (step:=KV) l (gO a) (λi=>((l,a,(l.length:Int),(i:Int),()),())) (λi=>.inl (((i:Int),()),())) (.inr (.inl ((),()))) aP (λk h=>by
  unfold KV gO ay aV xG xI;dsimp only;rw[aS,ak,aA ⟨by omega,by omega⟩];simp only[bB];rw[bD];cases (l[k].ax==a.ax&&(l[k].row==a.row&&(l[k].bT==a.bT&&true)))<;>rfl) (by
  unfold KV ay aV xG xI;dsimp only;rw[bh,au]) (bI hl)
 rw[cq]at e;rw[e];cases l.findIdx? (gO a)<;>rfl
def aAB(l:aa aK)(x:aH)(hl:l.length<1073741824):Re l x=some (gu (λa=>a.ax==x.ax) l):=by
 unfold Re gu;have e:=vA (step:=La) l (λa=>a.ax==x.ax) (λi=>((l,x,(l.length:Int),(i:Int),()),())) (λi=>.inl (((i:Int),()),())) (.inr (.inl ((),()))) aP (λk h=>by
  unfold La ay aV xG xI;dsimp only;rw[aS,ak,aA ⟨by omega,by omega⟩];simp only[bB];rw[bD];cases (l[k].ax==x.ax)<;>rfl) (by
  unfold La ay aV xG xI;dsimp only;rw[bh,au]) (bI hl)
 rw[cq]at e;rw[e];cases l.findIdx? (λa=>a.ax==x.ax)<;>rfl
def aAC(l:aa aK)(a:aK)(hl:l.length<1000000):QY l a=some (l.filter (λx=>!gO a x),([],())):=by
 unfold QY;rw[aAA l a (by omega),aq];unfold gu;cases C:l.findIdx? (gO a)with
 | none=>
  have e:l.filter (λx=>!gO a x)=l:=by
   rw[List.filter_eq_self];intro x D;have:=List.findIdx?_eq_none_iff.1 C x D;simp[this]
  rw[e];rfl
 | some k=>
  obtain⟨J,L,O⟩:=nj.1 C;rw[ZY C];simp only;rw[jV (show ¬ (k:Int) = -1 by omega),au,bD];obtain⟨Q,T,E,U,Y,I⟩:=akl (step:=KW) (gO a) (λi j s=>(((),a,(i:Int),(j:Int),()),(s,()))) (λi s=>.inl (((),(i:Int),()),(s,()))) (λi j s Z hi hb=>by
   unfold KW gO ay xG xL;dsimp only;rw[aS,ak,aA ⟨by omega,by omega⟩,aA];simp only[bB];rw[bD,bD,aA ⟨by omega,by omega⟩,aA];cases (s[j].ax==a.ax&&(s[j].row==a.row&&(s[j].bT==a.bT&&true)))<;>rfl) (λi s hi=>by
   unfold KW ay xG xL;dsimp only;rw[bh,au]) (l.length-(k+1)) k (k+1) aP l (by omega) (by omega) (by omega) (by unfold aP;omega)
  rw[E,aq,ef];dsimp only;rw[bA ⟨by omega,by omega,by omega⟩,bA ⟨by omega,by omega⟩,bA ⟨by omega,by omega,by
   rw[tf _ _ _ (by simp;omega)];omega⟩]
  rw[ZZ _ _ _ (by omega),bB,I]
def aAD(l:aa aK)(c:aH)(hl:l.length<1000000):Rf l c=some (l.filter (λx=>!(x.ax==c.ax)),([],())):=by
 unfold Rf;rw[aAB l c (by omega),aq];unfold gu;cases C:l.findIdx? (λa=>a.ax==c.ax)with
 | none=>
  have e:l.filter (λx=>!(x.ax==c.ax))=l:=by
   rw[List.filter_eq_self];intro x D;have:=List.findIdx?_eq_none_iff.1 C x D;simp[this]
  rw[e];rfl
 | some k=>
  obtain⟨J,L,O⟩:=nj.1 C;rw[ZY C];simp only;rw[jV (show ¬ (k:Int) = -1 by omega),au,bD];obtain⟨Q,T,E,U,Y,I⟩:=akl (step:=Lb) (λx=>x.ax==c.ax) (λi j s=>(((),c,(i:Int),(j:Int),()),(s,()))) (λi s=>.inl (((),(i:Int),()),(s,()))) (λi j s Z hi hb=>by
   unfold Lb ay xG xL;dsimp only;rw[aS,ak,aA ⟨by omega,by omega⟩,aA];simp only[bB];rw[bD,bD,aA ⟨by omega,by omega⟩,aA];cases (s[j].ax==c.ax)<;>rfl) (λi s hi=>by
   unfold Lb ay xG xL;dsimp only;rw[bh,au]) (l.length-(k+1)) k (k+1) aP l (by omega) (by omega) (by omega) (by unfold aP;omega)
  rw[E,aq,ef];dsimp only;rw[bA ⟨by omega,by omega,by omega⟩,bA ⟨by omega,by omega⟩,bA ⟨by omega,by omega,by
   rw[tf _ _ _ (by simp;omega)];omega⟩]
  rw[ZZ _ _ _ (by omega),bB,I]
end Go.Proofs.YtglnbhiaknohlaaGreat
