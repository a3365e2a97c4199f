/-
  Plain laws. Nothing here is a claim.
-/
import Derived.Test.YtpigmalhjkekiaaGreatVZ
import Derived.Test.YtpigmalhjkekiaaGreatOpenV
import Derived.Test.YtpigmalhjkekiaaGreatG1
import Derived.Test.YtpigmalhjkekiaaGreatG2
import Derived.Test.YtpigmalhjkekiaaGreatG3
import Derived.Test.YtpigmalhjkekiaaGreatG4
import Derived.Test.YtpigmalhjkekiaaGreatG5
import Derived.Test.YtpigmalhjkekiaaGreatG6
import Derived.Test.YtpigmalhjkekiaaGreatG7
import Derived.Test.YtpigmalhjkekiaaGreatGX
namespace Go.Proofs.YtpigmalhjkekiaaGreat
set_option linter.defProp false
open Go.RowKit
set_option linter.unusedVariables false
set_option linter.unusedSimpArgs false
set_option maxRecDepth 100000
def aZ{n:Int}(C:-9223372036854775808<=n:=by omega)(D:n<9223372036854775808:=by omega):W6 n=n:=by
 exact(IntKind.wrap_i64 n).trans (by omega)
def WX{α β:Type}{step:α -> aj (α⊕β)}(I:α -> Prop)(m:α -> Nat)(Q:β -> Prop)
  (h:∀x,I x -> (∃y,step x=some (.inl y)/\I y/\m y<m x) \/ ∃z,step x=some (.inr z)/\Q z):
  ∀(n:Nat) (x:α),I x -> m x<n -> ∃z,iter step n x=some z/\Q z
 |0,x,_,E=>by omega
 | n+1,x,O,E=>by
  unfold iter;rcases h x O with ⟨y,C,D,T⟩|⟨z,C,D⟩
  ·rw[C];exact WX I m Q h n y D (by omega)
  ·simp_all
def au{α β:Type}(x:α)(f:α->aj β):(some x).bind f=f x:=rfl
def gF{α β T:Type}{step:α -> aj (α⊕β)}(l:aa T)(q:T -> Bool)(S:Nat -> α)(D z:β)(fuel:Nat)(I:∀ k (h:k<l.length),step (S k)=some (bif q l[k]then .inl (S (k+1))else .inr D))(O:step (S l.length)=some (.inr z))(C:l.length<fuel):
  iter step fuel (S 0)=some (bif l.all q then z else D):=by
 have key:∀ (n i fuel:Nat),i+n=l.length -> n<fuel -> iter step fuel (S i)=some (bif (l.drop i).all q then z else D):=by
  intro n
  induction n with
  | zero=>
   intro i fuel hi C
   match fuel,C with
   | f+1,_=>
    have:i=l.length:=by omega
    subst this;unfold iter;simp_all
  | succ n U=>
   intro i fuel hi C
   match fuel,C with
   | f+1,C=>
    have E:i<l.length:=by omega
    unfold iter;rw[I i E,List.drop_eq_getElem_cons E,List.all_cons];cases q l[i]with
    |true=>grind
    |false=>rfl
 exact key l.length 0 fuel (by omega) C
def eV{α β:Type}{step:α -> aj (α⊕β)}(n:Nat)(S:Nat -> α)(z:β)(fuel:Nat)(E:∀ k,k<n -> step (S k)=some (.inl (S (k+1))))(D:step (S n)=some (.inr z))(C:n<fuel):iter step fuel (S 0)=some z:=by
 have key:∀ (m i fuel),i+m=n -> m<fuel -> iter step fuel (S i)=some z:=by
  intro m
  induction m with
  | zero=>
   intro i fuel hi C
   match fuel,C with
   | f+1,_=>
    have:i=n:=by omega
    subst this;unfold iter;rw[D]
  | succ m I=>
   intro i fuel hi C
   match fuel,C with
   | f+1,C=>
    unfold iter
    grind
 simp_all
def WY{α β:Type}{step:α -> aj (α⊕β)}(n:Nat)(I:Nat -> α -> Prop)(Q:β -> Prop){x:α}(fuel:Nat)(Y:I 0 x)(E:∀ k,k<n -> ∀ x,I k x -> ∃ y,step x=some (.inl y)/\I (k+1) y)(O:∀ x,I n x -> ∃ z,step x=some (.inr z)/\Q z)(C:n<fuel):∃ z,iter step fuel x=some z/\Q z:=by
 have key:∀ (m i fuel:Nat) (x:α),i+m=n -> m<fuel -> I i x -> ∃ z,iter step fuel x=some z/\Q z:=by
  intro m
  induction m with
  | zero=>
   intro i fuel x hi C D
   match fuel,C with
   | f+1,_=>
    have:i=n:=by omega
    subst this;have⟨z,T,U⟩:=O x D;unfold iter;simp_all
  | succ m Z=>
   intro i fuel x hi C D
   match fuel,C with
   | f+1,C=>
    have⟨y,T,U⟩:=E i (by omega) x D;unfold iter
    grind
 grind
def agj{α β:Type}{step:α -> aj (α⊕β)}(n:Nat)(I:Nat -> α -> Prop)(Q:β -> Prop){x:α}(fuel:Nat)(E:I 0 x)(T:∀ k,k<n -> ∀ x,I k x -> (∃ y,step x=some (.inl y)/\I (k+1) y) \/ ∃ z,step x=some (.inr z)/\Q z)(O:∀ x,I n x -> ∃ z,step x=some (.inr z)/\Q z)(C:n<fuel):∃ z,iter step fuel x=some z/\Q z:=by
 have key:∀ (m i fuel:Nat) (x:α),i+m=n -> m<fuel -> I i x -> ∃ z,iter step fuel x=some z/\Q z:=by
  intro m
  induction m with
  | zero=>
   intro i fuel x hi C D
   match fuel,C with
   | f+1,_=>
    have:i=n:=by omega
    subst this;have⟨z,U,Y⟩:=O x D;unfold iter;simp_all
  | succ m Z=>
   intro i fuel x hi C D
   match fuel,C with
   | f+1,C=>
    unfold iter
    grind
 exact key n 0 fuel x (by omega) C E
def upto{α:Type}(f:α->α)(l:aa α)(i:Nat):aa α:=(l.take i).map f++l.drop i
def Qb{α:Type}(f:α->α)(l:aa α)(i:Nat):(upto f l i).length=l.length:=by
 simp[upto];omega
def agk{α:Type}(f:α->α)(l:aa α):upto f l 0=l:=by simp[upto]
def WZ{α:Type}(f:α->α)(l:aa α):upto f l l.length=l.map f:=by simp[upto]
def W0{α:Type}(f:α -> α)(l:aa α)(i:Nat)(h:i<l.length)(C:i<(upto f l i).length):(upto f l i)[i]=l[i]:=by
 simp[upto]
 grind
def W2{α:Type}(f:α -> α)(l:aa α)(i:Nat)(h:i<l.length):(upto f l i).set i (f l[i])=upto f l (i+1):=by
 have C:min i l.length=i:=by omega
 have e:=List.drop_eq_getElem_cons h;simp only[upto];rw[List.set_append_right _ _ (by simp;omega),e,List.take_succ_eq_append_getElem h];simp only[List.map_append,List.map_cons,List.map_nil,fy,kU,C,Nat.sub_self,List.set_cons_zero,List.append_assoc,List.cons_append,List.nil_append]
def jw{x y:Int}(h:¬ x=y):(x==y)=false:=by simp[h]
def fR{x y:Int}(h:¬ x=y):(x != y)=true:=by simp[h]
def eE{n:Nat}(h:n<1073741824:=by omega):bX n=true:=bf h
def bN{i:Nat}(h:i<4611686018427387904:=by omega):W6 ((i:Int)+1)=((i+1:Nat):Int):=by
 rw[aZ];simp
def bS{n:Nat}(h:n<1073741824:=by omega):n<bq:=by unfold bq;omega
def aP(x a b:Int):Bool:=decide (a<=x)&&decide (x<=b)
def bu{x a b:Int}:aP x a b=true ↔ a<=x/\x<=b:=by simp[aP]
def cV(x a b:Int):cc x a b=some (aP x a b):=by
 unfold cc aP;by_cases h:a<=x<;>simp[h]
def ic(x a b:Int):dD x a b=some (aP x a b):=cV x a b
def cq(g:aF):Bool:=aP g.cm 1 2&&aP g.aI 1 4&&aP g.rows 2 16&&aP g.aQ 1 8
def uj(g:aF):qI g=some (cq g):=by
 unfold qI cq;simp[cV]
 grind
def Bm(g:aF):vC g=some (cq g):=by
 unfold vC cq;simp[ic]
 grind
def fL{g:aF}(h:cq g=true):1<=g.cm/\g.cm<=2/\1<=g.aI/\g.aI<=4/\2<=g.rows/\g.rows<=16/\1<=g.aQ/\g.aQ<=8:=by
 simp only[cq,aP,aM,gB]at h;omega
def aJ(g:aF):Int:=bif cq g then g.cm*g.aI else 0
def eI(g:aF):0 <= aJ g/\aJ g <= 8:=by
 unfold aJ;cases h:cq g with
 |false=>simp
 | true=>
  have⟨C,D,E,I,_⟩:=fL h;simp;rcases(by omega:g.cm=1 \/ g.cm=2)with e|e<;>rw[e]<;>omega
def FW{g:aF}(h:cq g=true):1 <= aJ g:=by
 have⟨C,D,E,I,_⟩:=fL h;simp[aJ,h,aq];rcases(by omega:g.cm=1 \/ g.cm=2)with e|e<;>rw[e]<;>omega
def kM(g:aF):lC g=some (aJ g):=by
 have hb:=eI g;unfold lC;rw[uj,au];unfold aJ at hb ⊢;cases h:cq g with
 |false=>rfl
 | true=>
  rw[h]at hb;simp at hb;simp;rw[aZ]
def og(g:aF):mF g=some (aJ g):=by
 have hb:=eI g;unfold mF;rw[Bm,au];unfold aJ at hb ⊢;cases h:cq g with
 |false=>rfl
 | true=>
  rw[h]at hb;simp at hb;simp;rw[aZ]
def fM(g:aF):Int:=bif cq g then aJ g*g.rows else 0
def dB(g:aF):Int:=bif cq g then aJ g*g.rows*g.aQ else 0
def Qc{a b A B:Int}(D:0<=a)(E:a<=A)(C:0<=b)(I:b<=B):0<=a*b/\a*b<=A*B:=
 ⟨Int.mul_nonneg D C,Int.le_trans (Int.mul_le_mul_of_nonneg_right E C) (Int.mul_le_mul_of_nonneg_left I (by omega))⟩
def rD(g:aF):0 <= fM g/\fM g <= 128:=by
 unfold fM;cases h:cq g with
 |false=>simp
 | true=>
  have⟨_,_,_,_,D,C,_⟩:=fL h;have:=eI g;exact Qc this.1 this.2 (by omega) C
def lD(g:aF):0 <= dB g/\dB g <= 1024:=by
 have C:=rD g;unfold dB fM at *
 cases h:cq g with
 |false=>simp
 | true=>
  rw[h]at C;have⟨_,_,_,_,E,I,O,D⟩:=fL h;exact Qc C.1 C.2 (by omega) D
def Bn(g:aF):ud g=some (dB g):=by
 have C:=lD g;have D:=rD g;unfold ud;rw[kM,au];unfold dB fM at *
 cases h:cq g with
 |false=>simp only[aJ,h,av,Int.zero_mul];rw[show W6 0=0 from rfl,Int.zero_mul];rfl
 | true=>
  rw[h]at C D;simp only[aq]at C D;simp only[aq];rw[aZ (n:=aJ g*g.rows),aZ]
def Bp(g:aF):vD g=some (dB g):=by
 have C:=lD g;have D:=rD g;unfold vD;rw[Bm,au,og,au];unfold dB fM at *
 cases h:cq g with
 |false=>rfl
 | true=>
  rw[h]at C D;simp at C D;simp;rw[aZ (n:=aJ g*g.rows),aZ]
def dU(g:aF)(a:aO):Bool:=cq g&&aP a.ay 0 (aJ g-1)&&aP a.row 0 (g.rows-1)&&aP a.bZ 0 (g.aQ-1)
def oX{g:aF}{a:aO}(h:dU g a=true):cq g=true/\0 <= a.ay/\a.ay<aJ g/\0 <= a.row/\a.row<g.rows/\0 <= a.bZ/\a.bZ<g.aQ:=by
 simp[dU,aP,aM,gB]at h
 grind
def xd{g:aF}{a:aO}(h:cq g=true)(C:0 <= a.ay)(D:a.ay<aJ g)(E:0 <= a.row)(I:a.row<g.rows)(O:0 <= a.bZ)(T:a.bZ<g.aQ):dU g a=true:=by
 simp[dU,aP,aM,gB]
 grind
def Bq(g:aF)(a:aO):zk g a=some (dU g a):=by
 unfold zk dU;simp[uj,kM,cV,au];have hb:=eI g;cases h:cq g with
 |false=>rfl
 | true=>
  have⟨_,_,_,_,C,D,E,I⟩:=fL h;rw[aZ,aZ,aZ]
  grind
def agl(g:aF)(a:aO):E5 g a=some (dU g a):=by
 unfold E5 dU;simp only[og,ic,au];have hb:=eI g;rw[aZ];cases h:cq g with
 | false=>
  have:aP a.ay 0 (aJ g-1)=false:=by
   simp[aJ,h,aP]
   grind
  simp_all
 | true=>
  have⟨_,_,_,_,C,D,E,I⟩:=fL h;rw[aZ,aZ]
  grind
def Br{b n r R:Int}(C:0 <= b)(D:b<n)(E:0 <= r)(I:r<R):0 <= b*R/\0 <= b*R+r/\b*R+r<n*R:=by
 have O:0 <= b*R:=Int.mul_nonneg C (by omega);have T:(b+1)*R <= n*R:=Int.mul_le_mul_of_nonneg_right (by omega) (by omega)
 grind
def qK(g:aF)(a:aO):Int:=bif dU g a then (a.ay*g.rows+a.row)*g.aQ+a.bZ else -1
def W3{g:aF}{a:aO}(h:dU g a=true):0 <= qK g a/\qK g a<dB g/\0 <= a.ay*g.rows/\0 <= a.ay*g.rows+a.row/\a.ay*g.rows+a.row<fM g/\0 <= (a.ay*g.rows+a.row)*g.aQ:=by
 have⟨C,D,E,I,O,T,U⟩:=oX h;have⟨r0,Y,Z⟩:=Br D E I O;have⟨l0,l1,l2⟩:=Br Y Z T U;simp[qK,h,dB,fM,C,aq];omega
def FX(g:aF)(a:aO):Bi g a=some (qK g a):=by
 unfold Bi;rw[Bq,au];cases h:dU g a with
 |false=>simp[qK,h]
 | true=>
  have hb:=W3 h;have D:=lD g;have E:=rD g;have⟨C,I,O,T,U,Y,Z⟩:=oX h;have⟨_,_,_,_,g5,g6,g7,g8⟩:=fL C;simp only[qK,h,aq]at hb ⊢;simp only[bE,av];rw[aZ (n:=a.ay*g.rows),aZ (n:=a.ay*g.rows+a.row),aZ (n:=(a.ay*g.rows+a.row)*g.aQ),aZ]
def as9(g:aF)(a:aO):P9 g a=some (qK g a):=by
 unfold P9;rw[agl,au];cases h:dU g a with
 |false=>simp[qK,h]
 | true=>
  have hb:=W3 h;have D:=lD g;have E:=rD g;have⟨C,I,O,T,U,Y,Z⟩:=oX h;have⟨_,_,_,_,g5,g6,g7,g8⟩:=fL C;simp only[qK,h,aq]at hb ⊢;simp only[bE,av];rw[aZ (n:=a.ay*g.rows),aZ (n:=a.ay*g.rows+a.row),aZ (n:=(a.ay*g.rows+a.row)*g.aQ),aZ]
def KH{α β:Type}{step:α -> aj (α⊕β)}(S:Nat -> α){z:β}:∀ (n i fuel:Nat),(∀ k,i <= k -> k<i+n -> step (S k)=some (.inl (S (k+1)))) -> step (S (i+n))=some (.inr z) -> n<fuel -> iter step fuel (S i)=some z
 | 0,i,fuel,_,C,D=>by
  match fuel,D with
  |f+1,_=>unfold iter;rw[Nat.add_zero]at C;rw[C]
 | n+1,i,fuel,E,C,D=>by
  match fuel,D with
  | f+1,D=>
   unfold iter;rw[E i (dg _) (by omega)];exact KH S n _ f (λk I O=>E k (by omega) (by omega)) (by rw[show i+1+n=i+(n+1) by omega];exact C) (by omega)
def Bt{i:Nat}(h:i<4611686018427387904:=by omega):W6 ((i:Int)+1)=((i+1:Nat):Int):=by
 rw[aZ];simp
def agm(y:Int):0 <= bits .and .i64 y 255/\bits .and .i64 y 255 <= 255:=by
 have e:bits .and .i64 y 255=IntKind.wrap .i64 ((BitVec.ofInt 64 y &&& BitVec.ofInt 64 255).toNat):=rfl;have h:(BitVec.ofInt 64 y &&& BitVec.ofInt 64 255).toNat <= 255:=by
  exact Nat.le_trans Nat.and_le_right (by decide)
 rw[e,IntKind.wrap_i64];omega
structure kN (b:List Int) (c:bC):Prop where
 eq:c.b=b
 lo:0<=c.i
 hi:c.i<=b.length
 len:b.length<=1073741823
def kN.eta{b:aa Int}{c:bC}(h:kN b c):(⟨b,c.i,c.h⟩:bC)=c:=by
 have⟨C,i,D⟩:=c;have:=h.eq;simp_all
def Dr{α:Type}(b:aa Int)(f:aj (α×(bC×ah)))(P:α->Prop):Prop:=∃x c,f=some (x,(c,()))/\kN b c/\P x
def Dr.bind{α β:Type}{b:aa Int}{f:aj (α×(bC×ah))}{g:α×(bC×ah) -> aj (β×(bC×ah))}{P:α -> Prop}{Q:β -> Prop}(h:Dr b f P)(C:∀ x c,P x -> kN b c -> Dr b (g (x,(c,()))) Q):Dr b (f.bind g) Q:=by
 have⟨x,c,D,E,I⟩:=h;simp_all
def Dr.pure{α:Type}{b:aa Int}{x:α}{c:bC}{P:α->Prop}(C:kN b c)(D:P x):Dr b (some (x,(c,()))) P:=⟨x,c,rfl,C,D⟩
def agn(l:aa Int)(h:l.length<=1073741823):∃ y,CY l=some y:=by
 unfold CY bR;obtain⟨z,C,I⟩:=WX (step:=IL)
  (λx=>∃(i:Nat) (y:Int),x=(((),y,(i:Int),()),(l,()))/\i<=l.length)
  (λx=>l.length-x.1.2.2.1.toNat) (λz=>∃ y,(Sum.elim (λO:((ah×Int×ah)×((aa Int)×ah))=>some O.1.2.1) (λz=>nomatch z)) z=some y) (by
   rintro x ⟨i,y,rfl,hi⟩;unfold IL aE xG xI;dsimp only;by_cases D:i<l.length
   ·have E:decide ((i:Int)<(l.length:Int))=true:=by simpa using D
    have T:0<=(i:Int)/\(i:Int).toNat<l.length:=⟨by omega,by simpa using D⟩
    rw[E,aq];cases U:decide ((i:Int)<4000)with
    | true=>
     rw[aq,aK T];left;refine⟨_,rfl,⟨i+1,_,by rw[Bt],by omega⟩,?_⟩;dsimp only;rw[Bt];omega
    | false=>
     rw[av];right;exact⟨_,rfl,_,rfl⟩
   ·have E:decide ((i:Int)<(l.length:Int))=false:=by simpa using D
    rw[E,av];right;exact⟨_,rfl,_,rfl⟩)
  bq (((),(W6 ((97301:Int)+(l.length:Int))),((0:Nat):Int),()),(l,())) ⟨0,_,rfl,by omega⟩ (by dsimp only;unfold bq;omega)
 have C:iter IL bq (((),(W6 ((97301:Int)+(l.length:Int))),(0:Int),()),(l,()))=some z:=C;rw[C];exact I
def ago(l:aa Int)(y:Int)(h:l.length<=1073741823):kN l ⟨l,0,y⟩:=⟨rfl,eW _,by simp,h⟩
def KI{b:aa Int}{c:bC}(C:kN b c):Dr b (AY c) λx=>0<=x/\x<=255:=by
 have hb:=C.eq;have E:=C.lo;have O:=C.hi;have I:=C.len;unfold AY xI;by_cases h:c.i<(c.b.length:Int)
 ·have D:decide (c.i<(c.b.length:Int))=true:=by simpa using h
  rw[D,aq,aK ⟨E,by omega⟩];refine Dr.pure ⟨hb,?_,?_,I⟩ (agm _)
  ·show 0<=W6 (c.i+1);rw[hb]at h;rw[aZ];omega
  ·show W6 (c.i+1)<=_;rw[hb]at h;rw[aZ];omega
 ·have D:decide (c.i<(c.b.length:Int))=false:=by simpa using h
  rw[D,av];exact Dr.pure ⟨hb,E,O,I⟩ (agm _)
def KJ{x n:Int}(h:0<=x)(C:0<n):0<=x.tmod n/\x.tmod n<n:=by
 rw[rT h];exact⟨Int.emod_nonneg _ (by omega),Int.emod_lt_of_pos _ C⟩
def fC{b:aa Int}{c:bC}(C:kN b c)(n:Int):Dr b (ff c n) λx=>0 <= x/\(n <= 0 -> x=0)/\(0<n -> x<n):=by
 unfold ff;by_cases U:n <= 0
 ·have O:decide (n <= 0)=true:=by simpa using U
  rw[O];exact Dr.pure C ⟨eW _,λ_=>rfl,λh=>by omega⟩
 ·have O:decide (n <= 0)=false:=by simpa using U
  have Y:¬ n=0:=by omega
  rw[O];by_cases Z:n <= 256
  ·have T:decide (n <= 256)=true:=by simpa using Z
   rw[T,aq]
   refine(KI C).bind λx c' hx Qd=>?_
   rw[aX Y];rw[C.eq,Qd.eta];have:=KJ hx.1 (show 0<n by omega);exact Dr.pure Qd ⟨this.1,λh=>by omega,λ_=>this.2⟩
  ·have T:decide (n <= 256)=false:=by simpa using Z
   rw[T,av,C.eq]
   refine(KI C).bind λD k1 HE AP=>?_
   dsimp only;rw[AP.eta]
   refine(KI AP).bind λE k2 L3 mC=>?_
   dsimp only;rw[mC.eta]
   refine(KI mC).bind λI k3 hx3 qF=>?_
   dsimp only;rw[qF.eta]
   refine(KI qF).bind λx4 k4 hx4 tY=>?_
   rw[aX Y];dsimp only;rw[tY.eta];rw[aZ (n:=D*16777216),aZ (n:=E*65536),aZ (n:=D*16777216+E*65536),aZ (n:=I*256),aZ (n:=D*16777216+E*65536+I*256),aZ (n:=D*16777216+E*65536+I*256+x4)];have:=KJ (x:=D*16777216+E*65536+I*256+x4) (by omega) (show 0<n by omega);exact Dr.pure tY ⟨this.1,λh=>by omega,λ_=>this.2⟩
def ata(l:aa Int)(h:l.length<=1073741823):∃ y,Oa l=some y/\y.length=12/\∀ x∈y,0<=x/\x<10000:=by
 unfold Oa bR;obtain⟨C,U⟩:=agn l h;rw[U];obtain⟨z,D,Y⟩:=WX (step:=IT)
  (λx=>∃(i:Nat) (c:bC) (y:aa Int),x=(((),(),(i:Int),()),((l,c.i,c.h,()),y,()))/\i<=12/\kN l c/\y.length=i/\∀x∈y,0<=x/\x<10000)
  (λx=>12-x.1.2.2.1.toNat) (λz=>∃ y,(Sum.elim (λZ:((ah×ah)×((aa Int)×ah))=>some Z.2.1) (λz=>nomatch z)) z=some y/\y.length=12/\∀ x∈y,0<=x/\x<10000) (by
   rintro x ⟨i,c,y,rfl,hi,O,hy,T⟩;unfold IT aE xG;dsimp only;by_cases h':i<12
   ·have E:decide ((i:Int)<(12:Int))=true:=bf;rw[E,aq,O.eta];left;obtain⟨x,I,e1,Qd,Ix,_,HE⟩:=fC O 10000;rw[e1];have ho:bX (y.length+([x]:aa Int).length)=true:=by
     unfold bX;simp;omega
    refine⟨(((),(),W6 ((i:Int)+1),()),((l,I.i,I.h,()),(y++[x]),())),?_,⟨i+1,I,y++[x],by rw[Bt],by omega,Qd,by simp[hy],λu hu=>?_⟩,?_⟩
    ·show (bif bX (y.length+([x]:aa Int).length)then _ else none)=_;rw[ho];rfl
    ·rcases List.mem_append.1 hu with hu | hu
     ·exact T u hu
     ·rw[iw.1 hu];exact⟨Ix,HE (by omega)⟩
    ·dsimp only;rw[Bt];omega
   ·have E:decide ((i:Int)<(12:Int))=false:=br;rw[E,av];right;exact⟨_,rfl,y,rfl,by omega,T⟩)
  bq (((),(),((0:Nat):Int),()),((l,0,C,()),([]:aa Int),())) ⟨0,⟨l,0,C⟩,[],rfl,by omega,ago l C h,rfl,by simp⟩ (by dsimp only;unfold bq;omega)
 have D:iter IT bq (((),(),(0:Int),()),((l,(0:Int),C,()),([]:aa Int),()))=some z:=D;rw[au,D];exact Y
def atb(x a b:Int):cc x a b=some (decide (a <= x)&&decide (x <= b)):=by
 unfold cc
 grind
def atc{x a b:Int}(h:a<=x)(C:x<=b):cc x a b=some true:=by
 rw[atb,bf h,bf C];rfl
def opens:Nat->aa gN->aa Int
 |_,[]=>[]
 |i,b::bs=>bif b.open_ then (i:Int)::opens (i+1) bs else opens (i+1) bs
def agp(i:Nat)(a b:aa gN):opens i (a++b)=opens i a++opens (i+a.length) b:=by
 induction a generalizing i with
 |nil=>simp[opens]
 | cons x a C=>
  simp[List.cons_append,opens]
  grind
def agq(i:Nat)(l:aa gN):(opens i l).length <= l.length:=by
 induction l generalizing i with
 |nil=>simp[opens]
 | cons x a C=>
  have:=C (i+1);simp[opens]
  grind
def Dv{α:Type}{l:aa α}{i:Nat}(h:i<l.length):l.take (i+1)=l.take i++[l[i]]:=by
 rw[List.take_succ_eq_append_getElem h]
def Qe(r:cg)(h:r.aI.length<1073741823):A8 r=some (opens 0 r.aI):=by
 unfold A8 bR;have e:=KH (step:=Fq) (λi=>(((),r.aI,(r.aI.length:Int),(i:Int),()),(opens 0 (r.aI.take i),()))) (z:=.inl (((),()),(opens 0 r.aI,()))) r.aI.length 0 bq (λk _ C=>?_) ?_ (by unfold bq;omega)
 ·have e:iter Fq bq (((),r.aI,r.aI.length,0,()),(([]),()))=_:=e;simp_all
 ·have C:k<r.aI.length:=by omega
  unfold Fq aE xG xI;dsimp only;have D:decide ((k:Int)<(r.aI.length:Int))=true:=bf;have E:0 <= (k:Int)/\(k:Int).toNat<r.aI.length:=⟨by omega,by simpa using C⟩
  have hl:=agq 0 (r.aI.take k);rw[kU]at hl;have I:bX ((opens 0 (r.aI.take k)).length+([(k:Int)]:aa Int).length)=true:=by
   unfold bX;simp;omega
  rw[D,aq,aK E,Bt,Dv C,agp];simp only[bz,opens,kU,fO,Nat.min_eq_left (Nat.le_of_lt C)];cases r.aI[k].open_ with
  |true=>grind
  |false=>grind
 ·rw[fO];unfold Fq aE xG xI;simp_all
def gmT:Nat:=116196760129267793630862849262464326346044543732748708940920453221664288556434379745879494961270582141731748813355742142288220638766218855867759359510984593843506004200114943278699875244065120512813025380665946106619127097398772031257643617143689515450995722003729973585221105779229319991106539050771048038400
def gm(a b:Nat):Nat:=(gmT / 2 ^ (4*(16*a+b))) % 16
def pwT:Nat:=44684875893970114885940500792407720993
def pw(n:Nat):Nat:=(pwT / 2 ^ (4*n)) % 16
def nB(f:Nat->Bool):Bool:=(List.range 16).all f
def jY{f:Nat->Bool}(h:nB f=true){a:Nat}(C:a<16):f a=true:=by
 have:=bT.1 h a (fS.2 C);exact this
def iC(a b:Nat):gm a b<16:=Nat.mod_lt _ (by decide)
def W4(n:Nat):pw n<16:=Nat.mod_lt _ (by decide)
def atd:(nB λa=>nB λb=>iB (Int.ofNat a) (Int.ofNat b)==some (Int.ofNat (gm a b)))=true:=by kernel_rfl
def ate:((List.range 31).all λn=>Jx 2 (Int.ofNat n)==some (Int.ofNat (pw n)))=true:=by kernel_rfl
def atf:(nB λa=>Nat.beq a 0 || (List.range 11).all λk=>(match wW (Int.ofNat a)with
  | some y=>(match iB (Int.ofNat (gm a (pw k))) y with
   | some x=>(match Dd x with
    |some n=>decide (n=Int.ofNat k)
    |none=>false)&&(match iB (Int.ofNat (gm a (pw k))) x with
    |some z=>decide (z=Int.ofNat (gm a (pw (k*2))))
    |none=>false) && !Nat.beq (gm a (pw k)) 0
   |none=>false)
  |none=>false))=true:=by kernel_rfl
def agr:(nB λa=>nB λb=>decide (bits .xor .i64 (Int.ofNat a) (Int.ofNat b)=Int.ofNat (a ^^^ b))&&Nat.blt (a ^^^ b) 16)=true:=by kernel_rfl
def atg:(nB λa=>nB λb=>nB λc=>Nat.beq (gm (a ^^^ b) c) (gm a c ^^^ gm b c))=true:=by kernel_rfl
def ags:(nB λa=>Nat.beq (gm a 1) a&&Nat.beq (gm 0 a) 0)=true:=by kernel_rfl
def ath:(nB λC=>nB λs1=>nB λs2=>
  (λy z=>(λx=>Nat.beq (gm x 1 ^^^ (gm y 1 ^^^ (gm z 1 ^^^ C))) 0&&Nat.beq (gm x 1 ^^^ (gm y 2 ^^^ (gm z 4 ^^^ s1))) 0&&Nat.beq (gm x 1 ^^^ (gm y 4 ^^^ (gm z 3 ^^^ s2))) 0) (C ^^^ y ^^^ z))
   (gm (gm 2 (C ^^^ s1) ^^^ gm 5 (C ^^^ s2)) 13) (gm (gm 3 (C ^^^ s2) ^^^ gm 5 (C ^^^ s1)) 13))=true:=by kernel_rfl
def ati:wW 4=some 13:=by kernel_rfl
def Dw{a b:Nat}(C:a<16)(hb:b<16):iB (a:Int) (b:Int)=some (gm a b:Int):=by
 have h:=jY (jY atd C) hb;exact eq_of_beq h
def atj{n:Nat}(h:n<31):Jx 2 (n:Int)=some (pw n:Int):=eq_of_beq (bT.1 ate n (fS.2 h))
def uk{a b:Nat}(C:a<16)(hb:b<16):bits .xor .i64 (a:Int) (b:Int)=((a ^^^ b:Nat):Int):=by
 have h:=jY (jY agr C) hb;simp_all
def lE{a b:Nat}(C:a<16)(hb:b<16):a ^^^ b<16:=by
 have h:=jY (jY agr C) hb;simp_all
def atk{a b c:Nat}(C:a<16)(hb:b<16)(D:c<16):gm (a ^^^ b) c=gm a c ^^^ gm b c:=cJ (jY (jY (jY atg C) hb) D)
def atl{a:Nat}(C:a<16):gm a 1=a:=by
 have h:=jY ags C;rw[aM]at h;exact cJ h.1
def atm{a:Nat}(C:a<16):gm 0 a=0:=by
 have h:=jY ags C;rw[aM]at h;exact cJ h.2
abbrev bI (w:aa Nat):aa Int:=w.map λ(n:Nat)=>(n:Int)
def ig(w:aa Nat):Prop:=∀x∈w,x<16
def qL(w:aa Nat):(bI w).length=w.length:=by simp[bI]
def FY{w:aa Nat}{k:Nat}(h:k<(bI w).length):(bI w)[k]=((w.getD k 0:Nat):Int):=by grind
def ig.get{w:aa Nat}(h:ig w)(k:Nat):w.getD k 0<16:=by
 by_cases C:k<w.length
 ·simp[cK,bK C];exact h _ (cX C)
 ·simp_all
def W5{w:aa Nat}(E:ig w)(hl:w.length<1000)(n:Int):wV (bI w) n=some ((w.length:Int)==n):=by
 unfold wV bY;have e:=KH (step:=A4) (λi=>((bI w,n,bI w,((bI w).length),i,()),())) (z:=.inr (.inl ((bI w,n,()),()))) w.length 0 bq (λk _ C=>?_) ?_ (by unfold bq;omega)
 ·simp_all
 ·have C:k<(bI w).length:=by rw[qL];omega
  unfold A4 aE bk xG xI;dsimp only;have I:decide ((k:Int)<((bI w).length:Int))=true:=bf;have D:0 <= (k:Int)/\(k:Int).toNat<(bI w).length:=⟨by omega,by simpa using C⟩
  rw[I,aq,aK D];have O:(bI w)[(k:Int).toNat]'D.2=((w.getD k 0:Nat):Int):=FY C;rw[O];have:=E.get k;unfold sK;rw[atc (by omega) (by omega),au,au,Bt];rfl
 ·unfold A4 aE bk xG xI;simp_all
def dy(w:aa Nat)(j:Nat):Nat->Nat
 |0=>0
 |i+1=>dy w j i ^^^ gm (w.getD i 0) (pw (i*j))
def zu(w:aa Nat)(j:Nat):∀ i,dy w j i<16
 |0=>Nat.zero_lt_succ _
 |i+1=>lE (zu w j i) (iC _ _)
def atn{w:aa Nat}(O:ig w)(hl:w.length=11)(j:Nat)(hj:j<3)(a b:Int)(o:aa Int)(T:j<o.length)(U:o.set j 0=o):
  iter C5 bq ((bI w,(),(j:Int),a,b,bI w,((bI w).length:Int),(0:Int),()),(o,()))=some (.inl ((bI w,(),a,b,()),(o.set j (dy w j 11:Int),()))):=by
 have e:=KH (step:=C5) (λi=>((bI w,(),(j:Int),a,b,bI w,((bI w).length:Int),(i:Int),()),(o.set j (dy w j i:Int),()))) (z:=.inl ((bI w,(),a,b,()),(o.set j (dy w j 11:Int),()))) 11 0 bq (λk _ D=>?_) ?_ (by unfold bq;omega)
 ·have e:iter C5 bq ((bI w,(),(j:Int),a,b,bI w,((bI w).length:Int),(0:Int),()),(o.set j 0,()))=_:=e;rw[U]at e;exact e
 ·have D:k<(bI w).length:=by rw[qL];omega
  unfold C5 aE xG xI xL;dsimp only;have E:decide ((k:Int)<((bI w).length:Int))=true:=bf;have I:0<=(k:Int)/\(k:Int).toNat<(bI w).length:=⟨by omega,by simpa using D⟩
  have C:0<=(j:Int)/\(j:Int).toNat<(o.set j (dy w j k:Int)).length:=⟨by omega,by simpa using T⟩
  have Y:(bI w)[(k:Int).toNat]'I.2=((w.getD k 0:Nat):Int):=FY D;have Z:(o.set j (dy w j k:Int))[(j:Int).toNat]'C.2=(dy w j k:Int):=List.getElem_set_self _;rw[E,aq,aK I,aK C,aK C.2,Y,Z];have ZJ:k*j<=20:=Nat.le_trans (Nat.mul_le_mul (show k<=10 by omega) (show j<=2 by omega)) (by decide);have c6:W6 ((k:Int)*(j:Int))=((k*j:Nat):Int):=by
   rw[<-Int.natCast_mul,aZ]
  rw[c6,atj (by omega),au,Dw (O.get k) (W4 _),au,aK C,aK C.2,uk (zu _ _ _) (iC _ _),Bt];have c7:(o.set j (dy w j k:Int)).set (j:Int).toNat ((dy w j k ^^^ gm (w.getD k 0) (pw (k*j)):Nat):Int)=o.set j (dy w j (k+1):Int):=List.set_set ..;rw[c7]
 ·unfold C5 aE xG xI xL;dsimp only;have E:decide (((0+11:Nat):Int)<((bI w).length:Int))=false:=br (by rw[qL];omega);rw[E,av]
def um(w:aa Nat):Nat->aa Int
 |0=>[0,0,0]
 |1=>[(dy w 0 11:Int),0,0]
 |2=>[(dy w 0 11:Int),(dy w 1 11:Int),0]
 |_=>[(dy w 0 11:Int),(dy w 1 11:Int),(dy w 2 11:Int)]
def Qf{w:aa Nat}(D:ig w)(hl:w.length=11):A5 (bI w)=some [(dy w 0 11:Int),(dy w 1 11:Int),(dy w 2 11:Int)]:=by
 unfold A5 bR;have c0:((w.length:Int)==(11:Int))=true:=by rw[hl];rfl
 rw[W5 D (by omega),c0,au];have e:=KH (step:=Ff) (λj=>((bI w,(),(3:Int),(j:Int),()),(um w j,()))) (z:=.inl (((),()),(um w 3,()))) 3 0 bq (λk _ I=>?_) ?_ (by unfold bq;omega)
 ·have e:iter Ff bq ((bI w,(),((List.replicate (3:Int).toNat (0:Int)).length:Int),(0:Int),()),(List.replicate (3:Int).toNat (0:Int),()))=_:=e;rw[show (!true)=false from rfl,av,aW (by decide),e];rfl
 ·unfold Ff aE xG bR;dsimp only;have E:decide ((k:Int)<(3:Int))=true:=bf;have C:um w k=(um w k).set k 0/\k<(um w k).length/\(um w k).set k (dy w k 11:Int)=um w (k+1):=by
   have:k=0\/k=1\/k=2:=by omega
   rcases this with rfl|rfl|rfl
   ·exact⟨rfl,by simp[um],rfl⟩
   ·exact⟨rfl,by simp[um],rfl⟩
   ·exact⟨rfl,by simp[um],rfl⟩
  rw[E,aq,atn D hl k (by omega) (3:Int) (k:Int) (um w k) C.2.1 C.1.symm,C.2.2];show some (Sum.inl ((bI w,(),(3:Int),W6 ((k:Int)+1),()),(um w (k+1),())))=_;rw[Bt]
 ·unfold Ff aE xG bR;dsimp only;rfl
def agt{w:aa Nat}(C:ig w)(hl:w.length=11):J6 (bI w)=some (Nat.beq (dy w 0 11) 0&&(Nat.beq (dy w 1 11) 0&&Nat.beq (dy w 2 11) 0)):=by
 unfold J6 xL;rw[Qf C hl,au];generalize dy w 0 11=a;generalize dy w 1 11=b;generalize dy w 2 11=c;have q:∀ n:Nat,((n:Int)==(0:Int))=Nat.beq n 0:=by
  intro n;cases n with
  |zero=>rfl
  |succ n=>rfl
 show (bif ((a:Int)==(0:Int))then (bif ((b:Int)==(0:Int))then some ((c:Int)==(0:Int))else some false)else some false)=_
 grind
def ato(C D E:Nat)(I:C<16)(O:D<16)(T:E<16):
  (λy z=>(λx=>(gm x 1 ^^^ (gm y 1 ^^^ (gm z 1 ^^^ C)))=0/\(gm x 1 ^^^ (gm y 2 ^^^ (gm z 4 ^^^ D)))=0/\(gm x 1 ^^^ (gm y 4 ^^^ (gm z 3 ^^^ E)))=0) (C ^^^ y ^^^ z))
   (gm (gm 2 (C ^^^ D) ^^^ gm 5 (C ^^^ E)) 13) (gm (gm 3 (C ^^^ E) ^^^ gm 5 (C ^^^ D)) 13):=by
 have h:=jY (jY (jY ath I) O) T;simp_all
def atp{d:aa Nat}(U:ig d)(hl:d.length=8):∃ w,Jy (bI d)=some (bI w)/\w.length=11/\ig w/\w.drop 3=d/\dy w 0 11=0/\dy w 1 11=0/\dy w 2 11=0:=by
 have Z:ig (0 :: 0 :: 0 :: d):=by
  intro x hx;simp only[gU]at hx;rcases hx with rfl|rfl|rfl|hx
  ·decide
  ·decide
  ·decide
  ·exact U x hx
 have key:∀ j x y z,j<3->x<16->y<16->z<16->dy (x :: y :: z :: d) j 11=gm x (pw (0*j)) ^^^ (gm y (pw (1*j)) ^^^ (gm z (pw (2*j)) ^^^ dy (0 :: 0 :: 0 :: d) j 11)):=by
  intro j x y z hj hx hy Z;simp only[dy,List.getD_cons_zero,List.getD_cons_succ,Nat.xor_assoc,Nat.zero_xor,atm (W4 _)]
 have e0:∀ C E I:Nat,C<16->E<16->I<16->A5 (bI (0 :: 0 :: 0 :: d))=some [(C:Int),(E:Int),(I:Int)]->
   Jy (bI d)=some (bI ((C ^^^ gm (gm 2 (C ^^^ E) ^^^ gm 5 (C ^^^ I)) 13 ^^^ gm (gm 3 (C ^^^ I) ^^^ gm 5 (C ^^^ E)) 13)::gm (gm 2 (C ^^^ E) ^^^ gm 5 (C ^^^ I)) 13::gm (gm 3 (C ^^^ I) ^^^ gm 5 (C ^^^ E)) 13::d)):=by
  intro C E I D O T hs;unfold Jy xL;have c0:((d.length:Int)==(8:Int))=true:=by rw[hl];rfl
  have c1:bX ((List.replicate (3:Int).toNat (0:Int)).length+(bI d).length)=true:=by
   rw[qL,hl];rfl
  rw[W5 U (by omega),au,c0,show (!true)=false from rfl,av,aW (by decide),c1,aq];have Y:A5 (List.replicate (3:Int).toNat (0:Int)++bI d)=some [(C:Int),(E:Int),(I:Int)]:=hs;rw[Y,au];show (wW (4:Int)).bind (λkI=>(iB (2:Int) (bits .xor .i64 (C:Int) (E:Int))).bind λmG=>(iB (5:Int) (bits .xor .i64 (C:Int) (I:Int))).bind λqH=>(iB (bits .xor .i64 mG qH) kI).bind λwR=>(iB (3:Int) (bits .xor .i64 (C:Int) (I:Int))).bind λkJ=>(iB (5:Int) (bits .xor .i64 (C:Int) (E:Int))).bind λsL=>(iB (bits .xor .i64 kJ sL) kI).bind λoe=>some (bits .xor .i64 (bits .xor .i64 (C:Int) wR) oe::wR::oe::bI d))=_;have m2:∀b:Nat,b<16->iB (2:Int) (b:Int)=some (gm 2 b:Int):=λb hb=>Dw (a:=2) (by decide) hb
  have m3:∀b:Nat,b<16->iB (3:Int) (b:Int)=some (gm 3 b:Int):=λb hb=>Dw (a:=3) (by decide) hb
  have m5:∀b:Nat,b<16->iB (5:Int) (b:Int)=some (gm 5 b:Int):=λb hb=>Dw (a:=5) (by decide) hb
  have m13:∀b:Nat,b<16->iB (b:Int) (13:Int)=some (gm b 13:Int):=λb hb=>Dw (b:=13) hb (by decide)
  rw[ati,au,uk D O,uk D T,m2 _ (lE D O),au,m5 _ (lE D T),au,uk (iC _ _) (iC _ _),m13 _ (lE (iC _ _) (iC _ _)),au,m3 _ (lE D T),au,m5 _ (lE D O),au,uk (iC _ _) (iC _ _),m13 _ (lE (iC _ _) (iC _ _)),au,uk D (iC _ _),uk (lE D (iC _ _)) (iC _ _)];rfl
 have D:=zu (0::0::0::d) 0 11;have O:=zu (0::0::0::d) 1 11;have T:=zu (0::0::0::d) 2 11;have Y:=e0 _ _ _ D O T (Qf Z (by simp[hl]));have f:=ato _ _ _ D O T;dsimp only at f;refine⟨_,Y,by simp[hl],?_,rfl,?_,?_,?_⟩
 ·intro x hx;simp only[gU]at hx;rcases hx with rfl | rfl | rfl | hx
  ·exact lE (lE D (iC _ _)) (iC _ _)
  ·exact iC _ _
  ·exact iC _ _
  ·exact U x hx
 ·rw[key 0 _ _ _ (by decide) (lE (lE D (iC _ _)) (iC _ _)) (iC _ _) (iC _ _)];exact f.1
 ·rw[key 1 _ _ _ (by decide) (lE (lE D (iC _ _)) (iC _ _)) (iC _ _) (iC _ _)];exact f.2.1
 ·rw[key 2 _ _ _ (by decide) (lE (lE D (iC _ _)) (iC _ _)) (iC _ _) (iC _ _)];exact f.2.2
def Qg{w:aa Nat}(C:ig w){k e:Nat}(D:e<16)(I:k<w.length)(j:Nat):∀ i,dy (w.set k (w.getD k 0 ^^^ e)) j i=if i <= k then dy w j i else dy w j i ^^^ gm e (pw (k*j))
 |0=>by rw[aW (Nat.zero_le _)];rfl
 | i+1=>by
  have O:=Qg C D I j i;have T:(w.set k (w.getD k 0 ^^^ e)).getD i 0=if i=k then w.getD k 0 ^^^ e else w.getD i 0:=by
   grind
  show dy _ j i ^^^ gm _ (pw (i*j))=_;rw[O,T];by_cases U:i<k
  ·rw[aW,aX,aW];rfl
  ·by_cases E:i=k
   ·subst E;rw[aW (dg _),aW rfl,aX,atk (C.get _) D (W4 _),<- Nat.xor_assoc];rfl
   ·rw[aX,aX E,aX];show _=dy w j i ^^^ gm _ _ ^^^ gm e _
    grind
def ig.set{w:aa Nat}(h:ig w){k v:Nat}(D:v<16):ig (w.set k v):=by
 intro x C;rcases List.mem_or_eq_of_mem_set C with C|rfl
 ·exact h x C
 ·exact D
def atq{e k:Nat}(O:e<16)(T:e≠0)(U:k<11):∃ y x,wW (e:Int)=some y/\iB ((gm e (pw k):Nat):Int) y=some x/\Dd x=some (k:Int)/\iB ((gm e (pw k):Nat):Int) x=some ((gm e (pw (k*2)):Nat):Int)/\gm e (pw k)≠0:=by
 have h:=jY atf O;rw[dY]at h;rcases h with h|h
 ·exact absurd (cJ h) T
 ·have h:=bT.1 h k (fS.2 U);split at h
  ·rename_i y Y;split at h
   ·rename_i x Z;rw[aM,aM]at h;obtain⟨⟨C,D⟩,I⟩:=h;refine⟨y,x,Y,Z,?_,?_,?_⟩
    ·split at C
     next n E=>rw[E,oD C];rfl
     ·cases C
    ·split at D
     next n E=>exact E.trans (bB some (oD D))
     ·cases D
    ·intro h;rw[h]at I;cases I
   ·cases h
  ·cases h
def atr{w:aa Nat}(E:ig w)(hl:w.length=11)(s0:dy w 0 11=0)(s1:dy w 1 11=0)(s2:dy w 2 11=0){e k:Nat}(D:e<16)(h0:e≠0)(hk:k<11):
  De (bI (w.set k (w.getD k 0 ^^^ e)))=some (bI w,1,(k:Int)):=by
 obtain⟨y,x,f1,f2,f3,f4,f5⟩:=atq D h0 hk;have Qh:=E.set (k:=k) (lE (E.get k) D);have I:(w.set k (w.getD k 0 ^^^ e)).length=11:=by rw[gR,hl]
 have t0:dy (w.set k (w.getD k 0 ^^^ e)) 0 11=e:=by
  rw[Qg E D (by omega) 0 11,aX,s0,Nat.zero_xor,Nat.mul_zero];exact atl D
 have t1:dy (w.set k (w.getD k 0 ^^^ e)) 1 11=gm e (pw k):=by
  rw[Qg E D (by omega) 1 11,aX,s1,Nat.zero_xor,Nat.mul_one]
 have t2:dy (w.set k (w.getD k 0 ^^^ e)) 2 11=gm e (pw (k*2)):=by
  rw[Qg E D (by omega) 2 11,aX,s2,Nat.zero_xor]
 have hb:J6 (bI (w.set k (w.getD k 0 ^^^ e)))=some false:=by
  rw[agt Qh I,t0];cases e with
  |zero=>exact absurd rfl h0
  |succ e=>rfl
 have U:=Qf Qh I;rw[t0,t1,t2]at U;have hx:w.getD k 0 ^^^ e<16:=lE (E.get k) D;have att:(w.getD k 0 ^^^ e) ^^^ e=w.getD k 0:=by rw[Nat.xor_assoc,Nat.xor_self,Nat.xor_zero]
 have O:(w.set k (w.getD k 0 ^^^ e)).set k (w.getD k 0)=w:=by
  rw[List.set_set];have Y:k<w.length:=by omega
  have:w.getD k 0=w[k]:=by simp[cK,bK Y]
  rw[this];exact List.set_getElem_self Y
 have Z:(w.set k (w.getD k 0 ^^^ e)).getD k 0=w.getD k 0 ^^^ e:=by
  have Y:k<w.length:=by omega
  simp[cK,Y]
 revert U hb I O Z;generalize w.set k (w.getD k 0 ^^^ e)=u;intro I hb U O Z;unfold De xA xC xL xZ;have c1:bX (([]:aa Int).length+(bI u).length)=true:=by rw[qL,I];rfl
 rw[U,au,show jG [(e:Int),(gm e (pw k):Int),(gm e (pw (k*2)):Int)]=false from rfl,av,c1,aq,hb,au,av];have n0:((e:Int) != (0:Int))=true:=by
  rw[bne_iff_ne];omega
 have n1:(((gm e (pw k):Nat):Int) != (0:Int))=true:=by
  rw[bne_iff_ne];omega
 have hku:k<(bI u).length:=by rw[qL];omega
 have T:0<=(k:Int)/\(k:Int).toNat<(bI u).length:=⟨by omega,by simpa using hku⟩
 have c3:(bI u)[(k:Int).toNat]'T.2=((w.getD k 0 ^^^ e:Nat):Int):=(FY hku).trans (by rw[Z]);show (bif ((e:Int) != (0:Int))then (bif (((gm e (pw k):Nat):Int) != (0:Int))then (wW (e:Int)).bind λkI=>(iB ((gm e (pw k):Nat):Int) kI).bind λmG=>(Dd mG).bind λC=>bif (decide (C<(11:Int)))then (iB ((gm e (pw k):Nat):Int) mG).bind λoe=>bif (oe==((gm e (pw (k*2)):Nat):Int))then if Qa:0<=C/\C.toNat<(bI u).length then if Wr:C.toNat<(bI u).length then if WW:0<=C/\C.toNat<(bI u).length then if h32:C.toNat<(bI u).length then some ((bI u).set C.toNat (bits .xor .i64 ((bI u)[C.toNat]'Wr) (e:Int)),(1:Int),C)else none else none else none else none else some (bI u,(2:Int),(-1:Int))else some (bI u,(2:Int),(-1:Int))else some (bI u,(2:Int),(-1:Int)))else some (bI u,(2:Int),(-1:Int)))=_;rw[n0,aq,n1,aq,f1,au,f2,au,f3,au,bf,aq,f4,au,iQ,aq,aK T,aK T.2,aK T,aK T.2,c3,uk hx D,att];have:(bI u).set (k:Int).toNat ((w.getD k 0:Nat):Int)=bI w:=by
  show (bI u).set k ((w.getD k 0:Nat):Int)=bI w;rw[<-O,O,<-List.map_set,O]
 rw[this]
def ivT:Nat:=9460475325918865680
def iv(a:Nat):Nat:=(ivT / 2 ^ (4*a)) % 16
def atu(a:Nat):iv a<16:=Nat.mod_lt _ (by decide)
def atv:(nB λa=>Nat.beq a 0 ||wW (Int.ofNat a)==some (Int.ofNat (iv a)))=true:=by kernel_rfl
def atw(w:aa Nat)(k v:Nat):(bI w).set k (v:Int)=bI (w.set k v):=(List.map_set ..).symm
def xe(s:Int):Bool:=aP s 0 15
def sN(l:aa Int)(n:Int):Bool:=l.all xe&&decide ((l.length:Int)=n)
def agu(l:aa Int)(n:Int)(hl:l.length<1073741824):wV l n=some (sN l n):=by
 unfold wV sN bY;have e:=gF (step:=A4) l xe (λi=>((l,n,l,l.length,i,()),())) _ (.inr (.inl ((l,n,()),()))) bq (λk h=>by
  unfold A4 sK aE bk xG xI;simp (disch:=omega) [h,bN,cV,xe];cases aP l[k] 0 15<;>rfl) (by unfold A4 aE bk xG xI;simp) (bS hl)
 rw[cY]at e;rw[e];cases l.all xe<;>simp;rfl
def atx(l:aa Int)(n:Int)(hl:l.length<1073741824):Oq l n=some (sN l n):=by
 unfold Oq sN bY;have e:=gF (step:=Jc) l xe (λi=>((l,n,i,()),())) _ (.inr (.inl ((l,n,()),()))) bq (λk h=>by
  unfold Jc VU aE bk xG xI;simp (disch:=omega) [h,bN,ic,xe];cases aP l[k] 0 15<;>rfl) (by unfold Jc aE bk xG xI;simp) (bS hl)
 rw[cY]at e;rw[e];cases l.all xe<;>simp;rfl
def Sy(l:aa Int):Prop:=l.length=11/\∀s∈l,0<=s/\s<=15
def Sy.ok{l:aa Int}(h:Sy l):sN l 11=true:=by
 simp[sN,aM,bT,xe,bu];exact⟨λx C=>h.2 x C,by rw[h.1];rfl⟩
def Sy.of{l:aa Int}(h:sN l 11=true):Sy l:=by
 simp[sN,aM,bT,gB,xe,bu]at h;exact⟨by omega,h.1⟩
def Qi{a b:Int}(E:0 <= a/\a <= 15)(hb:0 <= b/\b <= 15):0 <= bits .xor .i64 a b/\bits .xor .i64 a b <= 15/\bits .xor .i64 (bits .xor .i64 a b) b=a:=by
 obtain⟨x,rfl⟩:=dH E.1;obtain⟨y,rfl⟩:=dH hb.1;have D:x<16:=by omega
 have C:y<16:=by omega
 have:=lE D C;rw[uk D C];rw[uk this C]
 grind
def Sy.set{l:aa Int}(h:Sy l){k:Nat}{v:Int}(D:0<=v/\v<=15):Sy (l.set k v):=by
 refine⟨by simp[h.1],λs C=>?_⟩
 rcases List.mem_or_eq_of_mem_set C with C|rfl
 ·exact h.2 s C
 ·exact D
def Sy.get{l:aa Int}(h:Sy l){k:Nat}(C:k<l.length):0<=l[k]/\l[k]<=15:=h.2 _ (cX C)
structure eY (g:aF) (B:Int) (a:cL):Prop where
 cells:(a.cells.length:Int)=dB g
 syms:∀c∈a.cells,Sy c.symbols
 bh:(a.bh.length:Int)=fM g
 aY:(a.aY.length:Int)=fM g
 FZ:∀x∈a.bh,0<=x/\x<=B
 hit:∀x∈a.aY,0<=x/\x<=100000
def agv(c:bO)(h:c.symbols.length<1073741824):JB c=some c:=by
 unfold JB xA xZ;simp[bX,h]
def agw(a:cL)(T:a.cells.length<1073741823)(C:a.bh.length<1073741824)(D:a.aY.length<1073741824)(E:∀ c∈a.cells,c.symbols.length<1073741824):C6 a=some a:=by
 unfold C6 xA bR xZ;have e:=eV (step:=JC) a.cells.length (λi=>(((),(),a.cells,(a.cells.length:Int),(i:Int),()),(((),(),(),()),((),(),(),()),([]:aa bO),([]:aa Int),([]:aa Int),a.cells.take i,(([]:aa Int)++a.bh),(([]:aa Int)++a.aY),())))
  (.inl (((),(),()),(((),(),(),()),((),(),(),()),([]:aa bO),([]:aa Int),([]:aa Int),a.cells,(([]:aa Int)++a.bh),(([]:aa Int)++a.aY),()))) bq (λk h=>by
  unfold JC aE xG xI;have I:min k a.cells.length=k:=by omega
  have O:bX (k+1)=true:=eE;simp (disch:=omega) [h,bN,agv _ (E _ (cX h)),I,O]) (by unfold JC aE xG xI;simp) (bS)
 rw[cY,List.take_zero]at e;rw[e];simp[bX,C,D]
def eY.lens{g:aF}{B:Int}{a:cL}(h:eY g B a):a.cells.length<1073741823/\a.bh.length<1073741824/\a.aY.length<1073741824/\∀ c∈a.cells,c.symbols.length<1073741824:=by
 have D:=h.cells;have E:=h.bh;have I:=h.aY;have O:=lD g;have T:=rD g;exact⟨by omega,by omega,by omega,λc C=>by rw[(h.syms c C).1];omega⟩
def eY.copy{g:aF}{B:Int}{a:cL}(h:eY g B a):C6 a=some a:=
 let ⟨C,D,E,I⟩:=h.lens;agw a C D E I
def Bu(c:bO):Bool:=sN c.symbols 11
def uo(p:Int×Int):Bool:=aP p.1 0 100000&&aP p.2 0 100000
def lX(g:aF)(a:cL):Bool:=cq g&&(decide ((a.cells.length:Int)=dB g)&&(decide ((a.bh.length:Int)=fM g)&&(decide ((a.aY.length:Int)=fM g)&&(a.cells.all Bu&&(a.bh.zip a.aY).all uo))))
def agx(g:aF)(a:cL)(I:∀ c∈a.cells,c.symbols.length<1073741824):C9 g a=some (lX g a):=by
 unfold C9 lX bY;rw[kM,au,uj,au,Bn];cases O:cq g with
 |false=>rfl
 | true=>
  have Y:=lD g;have Z:=rD g;have er:aJ g*g.rows=fM g:=by simp[fM,O]
  simp only[bE,av,au,cw,er];rw[aZ];by_cases C:(a.cells.length:Int)=dB g
  ·by_cases D:(a.bh.length:Int)=fM g
   ·by_cases E:(a.aY.length:Int)=fM g
    ·have hl:a.bh.length=a.aY.length:=by omega
     have l1:=gF (step:=JL) a.cells Bu (λi=>(((),a.cells,(a.cells.length:Int),(i:Int),()),((a.cells,a.bh,a.aY,()),()))) (.inl ((false,()),())) (.inr (.inl (((),()),((a.cells,a.bh,a.aY,()),())))) bq (λk h=>by
      unfold JL aE bk xG xI;simp (disch:=omega) [h,bN,agu _ 11 (I _ (cX h)),Bu];cases sN a.cells[k].symbols 11<;>rfl) (by unfold JL aE bk xG xI;simp) (bS)
     have l2:=gF (step:=JM) (a.bh.zip a.aY) uo (λi=>(((),(a.bh.length:Int),(i:Int),()),((a.cells,a.bh,a.aY,()),()))) (.inl ((false,()),())) (.inr (.inl ((),()))) bq (λk h=>by
      have T:k<a.bh.length:=by simp at h;omega
      have U:k<a.aY.length:=by omega
      unfold JM aE bk xG xI;simp (disch:=omega) [T,U,bN,cV,uo];cases aP a.bh[k] 0 100000<;>cases aP a.aY[k] 0 100000<;>rfl) (by unfold JM aE bk xG xI;simp[hl]) (bS (by simp;omega))
     rw[cY]at l1 l2;simp only[C,D,E,mU,av,decide_true,cw];rw[<-C,l1];cases h1:a.cells.all Bu with
     |false=>simp
     | true=>
      simp only[aq,Option.bind_some,Sum.elim_inr,gq];rw[l2];cases (a.bh.zip a.aY).all uo<;>simp
    ·simp[C,D,fR E,E]
   ·simp[C,fR D,D]
  ·simp[fR C,C]
def eY.ok{g:aF}{B:Int}{a:cL}(h:eY g B a)(E:cq g=true)(hB:B <= 100000):C9 g a=some true:=by
 rw[agx g a (λc C=>by rw[(h.syms c C).1];omega)];have I:=h.cells;have O:=h.bh;have T:=h.aY;have U:a.cells.all Bu=true:=bT.2 λc C=>(h.syms c C).ok
 have Y:(a.bh.zip _).all uo=true:=bT.2 λp Z=>by
  obtain⟨x,y⟩:=p;have D:=List.of_mem_zip Z;have a1:=h.FZ x D.1;have a2:=h.hit y D.2;simp[uo,aM,bu];omega
 simp[lX,E,I,O,T,U,Y]
def Qj{b:aa Int}{c:bC}(C:kN b c)(l:aa Int)(hl:0<l.length):Dr b (AZ c l) λx=>x∈l:=by
 unfold AZ xI;rw[C.eq]
 refine(fC C _).bind λI O E D=>?_
 rw[aK ⟨E.1,by dsimp only;omega⟩];rw[D.eta];exact Dr.pure D (cX _)
def Ql{b:aa Int}{c:bC}(C:kN b c)(n:Int):Dr b (CZ c n) λ_=>True:=by
 unfold CZ;rw[C.eq]
 refine(fC C _).bind λE I O D=>?_
 rw[D.eta];exact Dr.pure D trivial
def mH(g:aF):(⟨g.cm,g.aI,g.rows,g.aQ⟩:aF)=g:=rfl
def aty{b:aa Int}{c:bC}(D:kN b c){g:aF}(C:cq g=true):Dr b (NV c g) λa=>dU g a=true:=by
 have Z:=FW C;have⟨_,_,_,_,g5,g6,g7,g8⟩:=fL C;unfold NV;rw[og,au,D.eq]
 refine(fC D _).bind λx1 k1 E I=>?_
 dsimp only;rw[I.eta]
 refine(fC I _).bind λx2 k2 O T=>?_
 dsimp only;rw[T.eta]
 refine(fC T _).bind λx3 k3 U Y=>?_
 dsimp only;rw[Y.eta];exact Dr.pure Y (xd C E.1 (E.2.2 (by omega)) O.1 (O.2.2 (by omega)) U.1 (U.2.2 (by omega)))
def oh(n x:Int):Int:=if 100000<x+n then 100000 else x+n
def agy(l:aa Int)(h:∀ s∈l,0 <= s/\s <= 15):bI (l.map Int.toNat)=l/\ig (l.map Int.toNat):=by
 constructor
 ·induction l with
  |nil=>rfl
  | cons x l C=>
   have D:=h x (.head _);have:=C λs E=>h s (.tail _ E)
   grind
 ·intro x D
  grind
def agz{w:aa Nat}(D:ig w)(hl:w.length=11):Sy (bI w):=by
 refine⟨by rw[qL,hl],λs C=>?_⟩
 simp at C;obtain⟨x,E,rfl⟩:=C;have:=D x E;omega
def Sy.mem{l:aa bO}(h:∀c∈l,Sy c.symbols){k:Nat}(C:k<l.length):Sy l[k].symbols:=h _ (cX C)
def Sy.bJ{l:aa bO}(h:∀c∈l,Sy c.symbols){k:Nat}{d:bO}(C:Sy d.symbols):∀c∈l.set k d,Sy c.symbols:=by grind
def Qm{l:aa Int}{B C:Int}(h:∀x∈l,B <= x/\x <= C){k:Nat}{v:Int}(D:B <= v/\v <= C):∀x∈l.set k v,B <= x/\x <= C:=by grind
def Bv(l:ko)(a:cL)(i:Nat):Bool:=decide (a.bh.getD i 0 > l.bh) ||decide (a.aY.getD i 0 > l.aY)
def atz{l:aa Int}{B C:Int}(h:∀ x∈l,B<=x/\x<=C)(k:Nat)(D:B<=0/\0<=C):B<=l.getD k 0/\l.getD k 0<=C:=by
 rw[cK];cases E:l[k]? with
 |none=>exact D
 |some x=>exact h x (gT E)
def agA{x:Int}(h:0<=x/\x<=100000){n:Int}(C:0<=n):0<=oh n x/\oh n x<=100000:=by
 unfold oh;split<;>omega
def oY(k:Nat)(h:aa Int):aa Int:=h.set k (oh 1 (h.getD k 0))
def W7(k:Nat)(h:aa Int):(oY k h).length=h.length:=by simp[oY]
def W8{k:Nat}{h:aa Int}(hb:∀ x∈h,0<=x/\x<=100000):∀ x∈oY k h,0<=x/\x<=100000:=
 Qm hb (agA (atz hb k ⟨by omega,by omega⟩) (by omega))
def atA{k:Nat}{h:aa Int}(C:k<h.length):oY k h=h.set k (oh 1 h[k]):=by
 unfold oY;rw[cK,bK C];rfl
def xg(row:Int)(i:Nat)(h:aa Int):aa Int:=bif decide (0<row)then oY (i-1) (h.set i 0)else h.set i 0
def oZ(R row:Int)(i:Nat)(h:aa Int):aa Int:=bif decide (row<R-1)then oY (i+1) (xg row i h)else xg row i h
def atB(row:Int)(i:Nat)(h:aa Int):(xg row i h).length=h.length:=by
 unfold xg;cases decide (0<row)<;>simp[W7]
def atC(R row:Int)(i:Nat)(h:aa Int):(oZ R row i h).length=h.length:=by
 unfold oZ;cases decide (row<R-1)<;>simp[W7,atB]
def atD{row:Int}{i:Nat}{h:aa Int}(hb:∀ x∈h,0<=x/\x<=100000):∀ x∈xg row i h,0<=x/\x<=100000:=by
 have C:=Qm hb (k:=i) (v:=0) ⟨by omega,by omega⟩;unfold xg;cases decide (0<row)
 ·exact C
 ·exact W8 C
def atE{R row:Int}{i:Nat}{h:aa Int}(hb:∀ x∈h,0<=x/\x<=100000):∀ x∈oZ R row i h,0<=x/\x<=100000:=by
 have C:=atD (row:=row) (i:=i) hb;unfold oZ;cases decide (row<R-1)
 ·exact C
 ·exact W8 C
def o6(t:c8):aa Int:=[t.p7,t.rp,t.ji,t.rV,t.nS,t.mg,t.rW,t.rX,t.mV,t.wr,t.rY,t.rZ,t.v5,t.sY,t.sZ,t.xp,t.xs]
def zv(x:Int):Bool:=aP x 1 64
def jN(t:c8):Bool:=(o6 t).all zv&&(decide (t.p7<=t.ji)&&(decide (t.rV<=t.nS)&&(decide (t.rW<=t.rX)&&decide (t.rY<=t.rZ))))
def KM(t:c8):Fa t=some (jN t):=by
 unfold Fa jN bY;change (iter E9 bq (((),(),((o6 t).length:Int),(0:Int),()),(t,o6 t,()))).bind _=_;have C:(o6 t).length=17:=rfl;generalize o6 t=l at *
 have e:=gF (step:=E9) l zv (λi=>(((),(),(l.length:Int),(i:Int),()),(t,l,()))) _ (.inr (.inl (((),()),(t,())))) bq (λk h=>by
  unfold E9 aE bk xG xL;simp (disch:=omega) [h,bN,cV,zv];cases aP l[k] 1 64<;>rfl) (by unfold E9 aE bk xG xL;simp) (bS)
 rw[cY]at e;rw[e];cases l.all zv<;>simp
 grind
def agB(t:c8):IY t=some (jN t):=by
 unfold IY jN VR bY;rw[au];change (iter E2 bq (((),(),(0:Int),()),(t,o6 t,()))).bind _=_;have C:(o6 t).length=17:=rfl;generalize o6 t=l at *
 have e:=gF (step:=E2) l zv (λi=>(((),(),(i:Int),()),(t,l,()))) (.inl ((false,()),())) (.inr (.inl (((),()),(t,())))) bq (λk h=>by
  unfold E2 aE bk xG xL;simp (disch:=omega) [h,bN,ic,zv];cases aP l[k] 1 64<;>rfl) (by unfold E2 aE bk xG xL;simp) (bS)
 rw[cY]at e;rw[e];cases l.all zv<;>simp
 grind
def atF(t:c8):IZ t=zf t:=by
 unfold IZ zf;rw[KM,agB]
def atG(t:c8):∃ y,zf t=some y:=by
 unfold zf;rw[KM];cases jN t<;>exact⟨_,rfl⟩
def KN(R i:Nat):Int:=((i % R:Nat):Int)
def mI(n R:Nat):aa Int:=(List.range n).map (KN R)
def W9(n R:Nat):(mI n R).length=n:=by simp[mI]
def atH(n R:Nat):mI (n+1) R=mI n R++[KN R n]:=by simp[mI,List.range_succ]
def jO(g:aF)(n:Int):Bool:=cq g&&(aP n 0 2&&decide (2<=g.rows-n))
def uq(g:aF)(n:Int):eP×Bool:=bif jO g n then (⟨n,mI ((aJ g).toNat*(g.rows-n).toNat) (g.rows-n).toNat⟩,true)else (⟨0,[]⟩,false)
def Qn{g:aF}{n:Int}(h:jO g n=true):cq g=true/\0 <= n/\n <= 2/\2 <= g.rows-n/\g.rows <= 16:=by
 simp[jO,aM,bu,gB]at h;have⟨C,⟨D,E⟩,I⟩:=h;have:=fL C;simp_all
def Xa(g:aF)(n:Int):E0 g n=some (uq g n):=by
 unfold E0 uq bR;rw[Bm,au];cases D:cq g with
 |false=>simp[jO,D]
 | true=>
  simp only[bE,av,ic,au];cases E:aP n 0 2 with
  |false=>simp[jO,E]
  | true=>
   have uQ:=bu.1 E;have gb:=fL D;simp only[bE,av];rw[aZ];by_cases I:g.rows-n<2
   ·have:decide (2<=g.rows-n)=false:=br;rw[bf I,aq];simp[jO,this]
   ·have T:jO g n=true:=by simp[jO,D,E];omega
    rw[br I,av,T,aq];have U:=eI g;obtain⟨C,hb⟩:=dH U.1;obtain⟨R,hR⟩:=dH (show 0<=g.rows-n by omega);have hm:C*R<=8*16:=Nat.mul_le_mul (by omega) (by omega);have hmul:W6 ((C:Int)*(R:Int))=((C*R:Nat):Int):=by
     rw[<-Int.natCast_mul];exact aZ
    have O:W6 (g.rows-n)=(R:Int):=by rw[hR];exact aZ
    have e:=eV (step:=IU) (C*R) (λi=>((n,(),(),(),(i:Int),()),((g.cm,g.aI,g.rows,g.aQ,()),((0:Int),(),()),(n,(),()),([]:aa Int),mI i R,())))
     (.inl (((),(),()),(((0:Int),(),()),(n,(),()),([]:aa Int),mI (C*R) R,()))) bq (λk h=>by
     unfold IU aE xG;have Y:bX ((mI k R).length+1)=true:=eE (by rw[W9];omega);have Z:(k:Int).tmod (R:Int)=KN R k:=by unfold KN;exact(Int.ofNat_tmod k R).symm
     dsimp only;rw[mH,og,au,O,hb,hmul,bf,aq,aX,Z];simp only[List.length_cons,List.length_nil,fO];rw[Y,aq,bN,atH]) (by
     unfold IU aE xG;dsimp only;rw[mH,og,au,O,hb,hmul,br,av]) (bS)
    rw[cY]at e
    refine(bB (λo=>Option.bind o _) e).trans ?_
    rw[hb,hR];rfl
def atI(b R:Nat)(hR:0<R)(j:Nat)(C:j <= R):mI (b*R+j) R=mI (b*R) R++(List.range j).map (λi:Nat=>(i:Int)):=by
 unfold mI;rw[List.range_add,List.map_append,List.map_map];congr 1
 refine pW λi hi=>?_
 have hi:=fS.1 hi;simp only[Function.comp,KN];rw[Nat.mul_comm,Nat.mul_add_mod,Nat.mod_eq_of_lt (by omega)]
def Xb(g:aF)(n:Int):E8 g n=some (uq g n):=by
 unfold E8 uq bR;rw[uj,au];cases C:cq g with
 |false=>simp[jO,C]
 | true=>
  simp only[bE,av,cV,au];cases D:aP n 0 2 with
  |false=>simp[jO,D]
  | true=>
   have Z:=bu.1 D;have gb:=fL C;simp only[bE,av];rw[aZ];by_cases I:g.rows-n<2
   ·have:decide (2<=g.rows-n)=false:=br;rw[bf I,aq];simp[jO,this]
   ·have T:jO g n=true:=by simp[jO,C,D];omega
    rw[br I,av,T,aq];have U:=eI g;obtain⟨E,hb⟩:=dH U.1;obtain⟨R,hR⟩:=dH (show 0<=g.rows-n by omega);have O:W6 (g.rows-n)=(R:Int):=by rw[hR];exact aZ
    have inner:∀ b:Nat,b<E->iter E7 bq ((n,(),(),(),(b:Int),(0:Int),()),((g.cm,g.aI,g.rows,g.aQ,()),((0:Int),(),()),(n,(),()),([]:aa Int),mI (b*R) R,()))=some (.inl ((n,(),(),(),(b:Int),()),((g.cm,g.aI,g.rows,g.aQ,()),((0:Int),(),()),(n,(),()),([]:aa Int),mI ((b+1)*R) R,()))):=by
     intro b Dy;have hm:b*R<=8*16:=Nat.mul_le_mul (by omega) (by omega);have e:=eV (step:=E7) R (λj=>((n,(),(),(),(b:Int),(j:Int),()),((g.cm,g.aI,g.rows,g.aQ,()),((0:Int),(),()),(n,(),()),([]:aa Int),mI (b*R) R++(List.range j).map (λi:Nat=>(i:Int)),())))
      (.inl ((n,(),(),(),(b:Int),()),((g.cm,g.aI,g.rows,g.aQ,()),((0:Int),(),()),(n,(),()),([]:aa Int),mI (b*R) R++(List.range R).map (λi:Nat=>(i:Int)),()))) bq (λk h=>by
      unfold E7 aE xG;have Y:bX ((mI (b*R) R++(List.range k).map (λi:Nat=>(i:Int))).length+1)=true:=eE (by simp[W9];omega);dsimp only;rw[O,bf,aq];simp only[List.length_cons,List.length_nil,fO];rw[Y,aq,bN,List.range_succ,List.map_append,List.append_assoc];rfl) (by
      unfold E7 aE xG;dsimp only;rw[O,br,av]) (bS)
     rw[cY,List.range_zero,List.map_nil,List.append_nil]at e;rw[e,<-atI b R (by omega) R (dg _),iZ]
    have e:=eV (step:=Jo) E (λi=>((n,(),(),(),(i:Int),()),((g.cm,g.aI,g.rows,g.aQ,()),((0:Int),(),()),(n,(),()),([]:aa Int),mI (i*R) R,())))
     (.inl (((),(),()),(((0:Int),(),()),(n,(),()),([]:aa Int),mI (E*R) R,()))) bq (λk h=>by
     unfold Jo aE xG bR;dsimp only;rw[mH,kM,au,hb,bf,aq]
     refine(bB (λo=>Option.bind o _) (inner k h)).trans ?_
     rw[au];simp only[gq];rw[bN]) (by
     unfold Jo aE xG bR;dsimp only;rw[mH,kM,au,hb,br,av]) (bS)
    rw[cY,Nat.zero_mul]at e
    refine(bB (λo=>Option.bind o _) e).trans ?_
    rw[hb,hR];rfl
def By(t:c8):Int:=(zf t).getD 0
def Xc(t:c8):zf t=some (By t):=by
 obtain⟨y,e⟩:=atG t;unfold By;rw[e];rfl
def atJ(t:c8):IZ t=some (By t):=by rw[atF,Xc]
def Xd(m:nR):Jp m=some (aP m.order 0 2):=by
 unfold Jp;rw[cV];rfl
def atK(m:nR):E3 m=some (aP m.order 0 2):=by
 unfold E3;rw[ic];rfl
def nD(c:eo):Bool:=cq c.ak&&(jN c.bQ&&(aP c.mapping.order 0 2&&(jO c.ak c.bL&&(aP c.interval (By c.bQ) 10000&&(aP c.gV 1 16&&(aP c.di.bh (W6 ((6:Int)*c.interval)) 100000&&aP c.di.aY 0 100000))))))
def Qo(g:aF)(n:Int):(uq g n).2=jO g n:=by
 unfold uq;cases jO g n<;>rfl
def KO(c:eo):OI c=some (nD c):=by
 unfold OI nD;simp only[Xb,uj,KM,Xd,Xc,cV,au,Qo];cases cq c.ak<;>cases jN c.bQ<;>cases aP c.mapping.order 0 2<;>cases jO c.ak c.bL<;>cases aP c.interval (By c.bQ) 10000<;>cases aP c.gV 1 16<;>cases aP c.di.bh (W6 ((6:Int)*c.interval)) 100000<;>rfl
def atM(c:eo):Oc c=some (nD c):=by
 unfold Oc nD;simp only[Xa,agB,atK,atJ,ic,au,Qo];cases h:jO c.ak c.bL with
 |false=>cases cq c.ak<;>cases jN c.bQ<;>cases aP c.mapping.order 0 2<;>rfl
 | true=>
  rw[(Qn h).1];cases jN c.bQ<;>cases aP c.mapping.order 0 2<;>cases aP c.interval (By c.bQ) 10000<;>cases aP c.gV 1 16<;>cases aP c.di.bh (W6 ((6:Int)*c.interval)) 100000<;>rfl
def Xe{c:eo}(h:nD c=true):cq c.ak=true/\jN c.bQ=true/\jO c.ak c.bL=true/\aP c.gV 1 16=true:=by
 simp[nD,aM]at h;simp_all
def agC{t:c8}(h:jN t=true):(1 <= t.ji/\t.ji <= 64)/\1 <= t.rp/\t.rp <= 64:=by
 simp[jN,aM,bT]at h;have C:=h.1 t.ji (by simp[o6]);have D:=h.1 t.rp (by simp[o6]);simp[zv,bu]at C D;simp_all
def om(s:cQ):Bool:=aP s.weight 1 9&&aP s.fP 0 s.weight
def iM(l:aa cQ):Bool:=l.all om&&aP (l.length:Int) 1 4
def KP(l:aa cQ)(hl:l.length<1073741824):Fb l=some (iM l):=by
 unfold Fb iM bY;have e:=gF (step:=Jq) l om (λi=>((l,l,l.length,i,()),())) _ (.inr (.inl ((l,()),()))) bq (λk h=>by
  unfold Jq aE bk xG xI;simp (disch:=omega) [h,bN,cV,om];cases aP l[k].weight 1 9<;>cases aP l[k].fP 0 l[k].weight<;>rfl) (by unfold Jq aE bk xG xI;simp) (bS hl)
 rw[cY]at e;rw[e];cases l.all om<;>simp[cV]
def agD(l:aa cQ)(hl:l.length<1073741824):I1 l=some (iM l):=by
 unfold I1 iM bY;have e:=gF (step:=I0) l om (λi=>((l,i,()),())) _ (.inr (.inl ((l,()),()))) bq (λk h=>by
  unfold I0 aE bk xG xI;simp (disch:=omega) [h,bN,ic,om];cases aP l[k].weight 1 9<;>cases aP l[k].fP 0 l[k].weight<;>rfl) (by unfold I0 aE bk xG xI;simp) (bS hl)
 rw[cY]at e;rw[e];cases l.all om<;>simp[ic]
def jP(w:Int):cQ:=⟨w,w⟩
def vG(l:aa Int):aa cQ×Bool:=bif iM (l.map jP)then (l.map jP,true)else ([],false)
def agE{l:aa Int}{k:Nat}(h:k<l.length):(l.take (k+1)).map jP=(l.take k).map jP++[⟨l[k],l[k]⟩]:=by
 rw[List.take_succ_eq_append_getElem h,List.map_append];rfl
def Xf(l:aa Int)(hl:l.length<1073741823):zg l=some (vG l):=by
 unfold zg vG bR;have e:=eV (step:=Jr) l.length (λi=>(((),l,(l.length:Int),(i:Int),()),((l.take i).map jP,()))) _ bq (λk h=>by
  unfold Jr aE xG xI;have C:bX (((l.take k).map jP).length+1)=true:=eE (by simp;omega);dsimp only;rw[bf,aq,aK ⟨by omega,by omega⟩];simp only[List.length_cons,List.length_nil,fO,bz];rw[C,aq,bN,agE h]) (by
  unfold Jr aE xG xI;dsimp only;rw[br,av,List.take_length]) (bS)
 refine(bB (λo=>Option.bind o _) e).trans ?_
 rw[au];simp only[gq];rw[KP _ (by simp;omega),au]
 grind
def agF(l:aa Int)(hl:l.length<1073741823):I3 l=some (vG l):=by
 unfold I3 vG bR;have e:=eV (step:=I2) (min l.length 5) (λi=>((l,(),(i:Int),()),((l.take i).map jP,()))) (.inl (((),()),((l.take 5).map jP,()))) bq (λk h=>by
  have C:k<l.length:=by omega
  unfold I2 aE xG xI;have D:bX (((l.take k).map jP).length+1)=true:=eE (by simp;omega);dsimp only;rw[bf,aq,bf,aq,aK ⟨by omega,by omega⟩,aK ⟨by omega,by omega⟩];simp only[List.length_cons,List.length_nil,fO,bz];rw[D,aq,bN,agE C]) (by
  unfold I2 aE xG xI;dsimp only;by_cases c:l.length <= 5
  ·rw[Nat.min_eq_left c,List.take_length,List.take_of_length_le c];by_cases O:l.length=5
   ·rw[br,av]
   ·rw[br,av]
  ·rw[Nat.min_eq_right (by omega),bf,aq,br,av]) (bS)
 rw[cY,List.take_zero,List.map_nil]at e
 refine(bB (λo=>Option.bind o _) e).trans ?_
 rw[au];simp only[gq];rw[agD _ (by simp;omega),au];by_cases c:l.length <= 5
 ·rw[List.take_of_length_le c];cases iM _<;>rfl
 ·have E:iM (l.map jP)=false:=by
   unfold iM;have:aP ((l.map jP).length:Int) 1 4=false:=by
    rw[Bool.eq_false_iff];intro h;have:=(bu.1 h).2
    grind
   rw[this,Bool.and_false]
  have I:iM ((l.take 5).map jP)=false:=by
   unfold iM;have:aP (((l.take 5).map jP).length:Int) 1 4=false:=by
    rw[Bool.eq_false_iff];intro h;have:=(bu.1 h).2
    grind
   rw[this,Bool.and_false]
  rw[E,I];rfl
def agG(l:aa Int):(vG l).2=iM (l.map jP):=by
 unfold vG;cases iM (l.map jP)<;>rfl
def o7(d:lM):Bool:=decide (d.low >= 0)&&(decide (d.low<d.high)&&decide (d.high<=12))
def Qp(d:lM):C3 d=some (o7 d):=by
 unfold C3 o7
 grind
def agH(d:lM):I4 d=some (o7 d):=by
 unfold I4 o7
 grind
def Bz(r:uK):Bool:=aP r.down 1 10000&&(decide (r.sleep > r.down)&&decide (r.sleep<=20000))
def agI(r:uK):Js r=some (Bz r):=by
 unfold Js Bz;rw[cV]
 grind
def atO(r:uK):Od r=some (Bz r):=by
 unfold Od Bz;rw[ic]
 grind
def qM(p:cR):Bool:=aP p.eK 0 1&&(aP p.cap 0 100000&&(aP p.dn 3 1000&&(o7 ⟨false,p.low,p.high⟩&&((p.weights.length:Int)==4&&(iM (p.weights.map jP)&&Bz p.cZ)))))
def agJ(p:cR)(hl:p.weights.length<1073741823):I5 p=some (qM p):=by
 unfold I5 qM;simp[agF _ hl,au,ic,agH,atO,agG]
 grind
def atP(x:Int):aP x 0 1=(x==0 || x==1):=by
 rw[Bool.eq_iff_iff];simp[aP];omega
def Dz(p:cR)(hl:p.weights.length<1073741823):Fc p=some (qM p):=by
 unfold Fc qM;simp[Xf _ hl,au,cV,Qp,agI,agG,atP]
 grind
def atQ(x:Int):Oe x=wU x:=by
 unfold Oe wU;rw[ic,cV]
def Xg(x:Int):∃ y,wU x=some y:=by
 unfold wU;rw[cV];cases aP x 3 1000<;>exact⟨_,rfl⟩
def Xh(c:eo)(p:cR)(hl:p.weights.length<1073741823):∃ b,qJ c p=some b/\(b=true->nD c=true):=by
 unfold qJ;obtain⟨y,e⟩:=Xg p.dn;simp only[KO,Dz _ hl,e,au];cases C:nD c with
 |false=>exact⟨false,rfl,λh=>by cases h⟩
 | true=>
  have E:=agC (Xe C).2.1;have D:¬ W6 (c.bQ.ji+c.bQ.rp)=0:=by
   rw[aZ];omega
  cases qM p with
  |false=>exact⟨false,rfl,λ_=>rfl⟩
  | true=>
   simp only[aX D,bE,av,aq];cases decide (W6 (y+2)<=c.di.aY)<;>exact⟨_,rfl,λ_=>by first|rfl|trivial⟩
def atT(c:eo)(p:cR)(hl:p.weights.length<1073741823):∃ b,qJ c p=some b/\A3 c p=some b/\(b=true->nD c=true):=by
 unfold qJ A3;obtain⟨y,e⟩:=Xg p.dn;simp only[KO,atM,Dz _ hl,agJ _ hl,atQ,e,au];cases C:nD c with
 |false=>exact⟨false,rfl,rfl,λh=>by cases h⟩
 | true=>
  have E:=agC (Xe C).2.1;have D:¬ W6 (c.bQ.ji+c.bQ.rp)=0:=by
   rw[aZ];omega
  cases qM p with
  |false=>exact⟨false,rfl,rfl,λ_=>rfl⟩
  | true=>
   simp only[aX D,bE,av,aq];cases decide (W6 (y+2)<=c.di.aY)<;>exact⟨_,rfl,rfl,λ_=>by first|rfl|trivial⟩
def agK(i:Nat)(l:aa gN):((opens i l).length==0)=l.all λb=>!b.open_:=by
 induction l generalizing i with
 |nil=>rfl
 | cons x a C=>
  simp[opens,List.all_cons]
  grind
def sO(g:aF)(b:gN):Bool:=aP b.row 0 (g.rows-1)&&(b.open_ ||b.row==0)
def lF(g:aF)(r:cg):Bool:=cq g&&(((r.aI.length:Int)==aJ g)&&(aP r.aR 0 2&&(r.aI.all (sO g)&&(r.aR != 2 ||r.aI.all λb=>!b.open_))))
def agL(g:aF)(r:cg):JI g r=some (lF g r):=by
 unfold JI lF bY;rw[uj,au,kM];cases D:cq g with
 |false=>rfl
 | true=>
  simp only[bE,av,au,cw];by_cases C:(r.aI.length:Int)=aJ g
  ·have I:=eI g;have gb:=fL D;simp only[C,mU,av,iQ,cw,cV,au];cases O:aP r.aR 0 2 with
   |false=>rfl
   | true=>
    have e:=gF (step:=JH) r.aI (sO g) (λi=>(((),(),r.aI,(r.aI.length:Int),(i:Int),()),((g.cm,g.aI,g.rows,g.aQ,()),(r.aI,r.aR,()),()))) (.inl ((false,()),())) (.inr (.inl (((),()),((r.aI,r.aR,()),())))) bq (λk h=>by
     unfold JH aE bk xG xI;dsimp only;rw[bf,aq,aK ⟨by omega,by omega⟩];simp only[bz,cV,au];rw[aZ (n:=g.rows-1),bN];unfold sO;cases aP r.aI[k].row 0 (g.rows-1)with
     |false=>rfl
     | true=>
      cases r.aI[k].open_ with
      |true=>rfl
      | false=>
       simp[bne];cases r.aI[k].row==0<;>rfl) (by
     unfold JH aE bk xG xI;dsimp only;rw[br,av]) (bS)
    rw[cY,C]at e;simp only[bE,av,cw]
    refine(bB (λo=>Option.bind o _) e).trans ?_
    rw[au];cases r.aI.all (sO g)with
    |false=>rfl
    | true=>
     simp only[aq,Sum.elim_inr,gq,cw];cases T:r.aR != 2 with
     |true=>rfl
     | false=>
      simp;rw[Qe ⟨r.aI,r.aR⟩ (by show r.aI.length<_;omega),au,<- agK 0 r.aI];congr 1
      grind
  ·have E:((r.aI.length:Int)==aJ g)=false:=by simp[C]
   rw[fR C,E];rfl
def atU(g:aF)(r:cg):Om g r=some (lF g r):=by
 unfold Om lF bY;rw[Bm,au,og];cases E:cq g with
 |false=>rfl
 | true=>
  simp only[bE,av,au,cw];by_cases D:(r.aI.length:Int)=aJ g
  ·have T:=eI g;have gb:=fL E;simp only[D,mU,av,iQ,cw,ic,au];cases U:aP r.aR 0 2 with
   |false=>rfl
   | true=>
    have e:=gF (step:=I9) r.aI (λb=>sO g b&&(r.aR != 2 || !b.open_)) (λi=>(((),(),(i:Int),()),((g.cm,g.aI,g.rows,g.aQ,()),(r.aI,r.aR,()),()))) (.inl ((false,()),())) (.inr (.inl ((),()))) bq (λk h=>by
     unfold I9 aE bk xG xI;dsimp only;rw[bf,aq,aK ⟨by omega,by omega⟩];simp only[bz,ic,au];rw[aZ (n:=g.rows-1),bN];unfold sO;simp only[bne];cases aP r.aI[k].row 0 (g.rows-1)with
     |false=>rfl
     |true=>cases r.aI[k].open_<;>cases r.aI[k].row==0<;>cases r.aR==2<;>rfl) (by
     unfold I9 aE bk xG xI;dsimp only;rw[br,av]) (bS)
    rw[cY]at e;simp only[bE,av,cw]
    refine(bB (λo=>Option.bind o _) e).trans ?_
    rw[au];have I:(r.aI.all λb=>sO g b&&(r.aR != 2 || !b.open_))=(r.aI.all (sO g)&&(r.aR != 2 || r.aI.all λb=>!b.open_)):=by
     cases r.aR != 2 with
     |true=>simp
     | false=>
      simp only[Bool.false_or];rw[Bool.eq_iff_iff];simp only[bT,aM];exact⟨λh=>⟨λx C=>(h x C).1,λx C=>(h x C).2⟩,λh x C=>⟨h.1 x C,h.2 x C⟩⟩
    rw[I];cases (r.aI.all (sO g)&&(r.aR != 2 ||r.aI.all λb=>!b.open_))<;>rfl
  ·have O:((r.aI.length:Int)==aJ g)=false:=by simp[D]
   rw[fR D,O];rfl
def BA(d:Int):Bool:=aP d (-2) 5
def fD(r:dI):Bool:=r.aB.all BA&&(aP (r.aB.length:Int) 1 8&&aP r.wait 1 10000)
def F0(r:dI)(hl:r.aB.length<1073741824):zl r=some (fD r):=by
 unfold zl fD bY;have e:=gF (step:=JO) _ BA (λi=>(((),r.aB,r.aB.length,i,()),((r.aB,r.wait,r.dP,()),()))) _ (.inr (.inl (((),()),((r.aB,r.wait,r.dP,()),())))) bq (λk h=>by
  unfold JO aE bk xG xI;simp (disch:=omega) [h,bN,cV,BA];cases aP r.aB[k] _ 5<;>rfl) (by unfold JO aE bk xG xI;simp) (bS hl)
 rw[cY]at e;rw[e];cases r.aB.all BA<;>simp[cV]
 grind
def atV(r:dI)(hl:r.aB.length<1073741824):Ou r=some (fD r):=by
 unfold Ou fD bY;have e:=gF (step:=Jf) _ BA (λi=>(((),i,()),((r.aB,r.wait,r.dP,()),()))) _ (.inr (.inl (((),()),((r.aB,r.wait,r.dP,()),())))) bq (λk h=>by
  unfold Jf aE bk xG xI;simp (disch:=omega) [h,bN,ic,BA];cases aP r.aB[k] _ 5<;>rfl) (by unfold Jf aE bk xG xI;simp) (bS hl)
 rw[cY]at e;rw[e];cases r.aB.all BA<;>simp[ic]
 grind
def gP{T:Type}(p:T->Bool)(l:aa T):Int:=match l.findIdx? p with
 |some i=>(i:Int)
 |none=>-1
def zw{α β T:Type}{step:α -> aj (α⊕β)}(l:aa T)(p:T -> Bool)(S:Nat -> α)(D:Nat -> β)(z:β)(fuel:Nat)(E:∀ k (h:k<l.length),step (S k)=some (bif p l[k]then .inr (D k)else .inl (S (k+1))))(I:step (S l.length)=some (.inr z))(C:l.length<fuel):
  iter step fuel (S 0)=some (match l.findIdx? p with|some i=>D i|none=>z):=by
 have key:∀ (n i fuel:Nat),i+n=l.length -> n<fuel -> (∀ j (h:j<l.length),j<i -> p l[j]=false) -> iter step fuel (S i)=some (match l.findIdx? p with | some i=>D i | none=>z):=by
  intro n
  induction n with
  | zero=>
   intro i fuel hi C O
   match fuel,C with
   | f+1,_=>
    have:i=l.length:=by omega
    subst this;have e:l.findIdx? p=none:=by
     rw[List.findIdx?_eq_none_iff];intro x U;obtain⟨j,Y,rfl⟩:=ki.1 U
     grind
    unfold iter;rw[I,e]
  | succ n Z=>
   intro i fuel hi C O
   match fuel,C with
   | f+1,C=>
    have dK:i<l.length:=by omega
    unfold iter;rw[E i dK];cases hp:p l[i]with
    | true=>
     have e:l.findIdx? p=some i:=by
      rw[rU]
      grind
     rw[e];rfl
    | false=>
     simp only[av]
     refine Z (i+1) f (by omega) (by omega) λj Y Ij=>?_
     by_cases e:j=i
     ·grind
     ·grind
 exact key l.length 0 fuel (by omega) C λj _ h=>by omega
def F1{T:Type}{p:T -> Bool}{l:aa T}{i:Nat}(h:i<l.length)(E:p l[i]=true):(gP p l != (i:Int))=(l.take i).any p:=by
 unfold gP;cases C:(l.take i).any p with
 | false=>
  have e:l.findIdx? p=some i:=by
   rw[rU]
   refine⟨h,E,λj D=>?_⟩
   have:=l8.1 C l[j] (ki.2 ⟨j,by simp;omega,by simp⟩);exact this
  rw[e];simp
 | true=>
  have⟨x,I,U⟩:=List.any_eq_true.1 C;obtain⟨j,D,rfl⟩:=ki.1 I;rw[kU]at D;cases O:l.findIdx? p with
  |none=>simp
  | some k=>
   have⟨Y,Z,k3⟩:=rU.1 O;have:k≠i:=by
    grind
   simp only;simp;omega
def KQ(x:Int):Bool:=aP x 0 4294967295
def mJ(n:Int)(r:aU):Bool:=aP r.id 1 100000&&(aP r.eG 0 3&&(decide (r.line >= 0)&&(decide (r.line<n)&&(KQ r.data&&((r.write ||r.data==0)&&aP r.at_ 0 1000000)))))
def atW(n:Int)(r:aU):O4 n r=some (mJ n r):=by
 unfold O4 mJ C4 KQ;simp[cV]
 grind
def atX(n:Int)(r:aU):Oy n r=some (mJ n r):=by
 unfold Oy mJ VV KQ;simp[ic]
 grind
def fF(x y:aU):Bool:=decide (x.at_<y.at_) ||(x.at_==y.at_&&decide (x.id<y.id))
def Qq(x y:aU):JS x y=some (fF x y):=by
 unfold JS fF
 grind
def atY(x y:aU):VW x y=some (fF x y):=Qq x y
def agM(l:aa aU)(id:Int)(hl:l.length<1073741824):Oz l id=some (gP (λr=>r.id==id) l):=by
 unfold Oz gP bY;have e:=zw (step:=Jk) l (λr=>r.id==id) (λi=>((l,id,i,()),())) _ (.inr (.inl ((),()))) bq (λk h=>by
  unfold Jk aE bk xG xI;simp (disch:=omega) [h,bN];cases l[k].id==id<;>rfl) (by unfold Jk aE bk xG xI;simp) (bS hl)
 rw[cY]at e;rw[e];cases l.findIdx? _<;>rfl
def qN(n:Int)(q:aa aU)(i:Nat):Bool:=match q[i]? with
 |some r=>mJ n r&&((i==0 ||(match q[i-1]? with|some x=>fF x r|none=>false)) && !((q.take i).any λx=>x.id==r.id))
 |none=>false
def Xi{n:Int}{q:aa aU}(h:0<q.length):qN n q 0=mJ n q[0]:=by
 unfold qN;rw[bK h];simp
def KR{n:Int}{q:aa aU}{i:Nat}(h:i+1<q.length):qN n q (i+1)=(mJ n q[i+1]&&(fF q[i] q[i+1] && !((q.take (i+1)).any λx=>x.id==q[i+1].id))):=by
 unfold qN
 grind
def gK(n:Int)(q:aa aU):Bool:=(List.range q.length).all (qN n q)&&decide ((q.length:Int)<=12)
def atZ(n:Int)(q:aa aU):OA n q=some (gK n q):=by
 unfold OA gK bY;by_cases c:(q.length:Int)<=12
 ·rw[br (show ¬ (q.length:Int) > 12 by omega),av,bf c,Bool.and_true];have e:=gF (step:=Jl) (List.range q.length) (qN n q) (λi=>((n,q,(i:Int),()),())) (.inl ((false,()),())) (.inr (.inl ((),()))) bq (λk h=>by
   rw[dw]at h;rw[jD];unfold Jl aE bk xG xI;dsimp only;rw[bf,aq,aK ⟨by omega,by omega⟩];simp only[bz,atX,au];cases k with
   | zero=>
    rw[Xi h];cases mJ n q[0]with
    |false=>rfl
    | true=>
     simp only[bE,av,aq];rw[br,av,aK ⟨by omega,h⟩,agM _ _ (by omega),au,F1 h (by simp)];simp;rfl
   | succ k=>
    rw[KR h];cases mJ n q[k+1]with
    |false=>rfl
    | true=>
     simp only[bE,av,cw];have C:W6 (((k+1:Nat):Int)-1)=(k:Int):=by rw[aZ];omega
     simp only[C,bz];rw[bf,aq,aK ⟨by omega,by omega⟩,aK ⟨by omega,h⟩,atY,au];cases fF q[k] q[k+1]with
     |false=>rfl
     | true=>
      simp only[bE,av,cw];rw[aK ⟨by omega,h⟩,agM _ _ (by omega),au,F1 h (by simp),bN];cases (q.take (k+1)).any λx=>x.id==q[k+1].id<;>rfl) (by
   rw[dw];unfold Jl aE bk xG xI;dsimp only;rw[br,av]) (by rw[dw];exact bS)
  rw[cY]at e
  refine(bB (λo=>Option.bind o _) e).trans ?_
  rw[au];cases (List.range q.length).all (qN n q)<;>rfl
 ·rw[bf (show (q.length:Int) > 12 by omega),aq,br c,Bool.and_false]
def at0(n:Int)(q:aa aU){i:Nat}(h:i<q.length)(hl:q.length<1073741824):
  iter Fv bq ((n,q,(),q,(q.length:Int),(i:Int),((q.take i).drop 0),(((q.take i).drop 0).length:Int),(0:Int),()),((q[i].id,q[i].eG,q[i].line,q[i].write,q[i].data,q[i].at_,()),()))=some (bif (q.take i).any (λx=>x.id==q[i].id)then .inl ((false,()),())else .inr (.inl ((n,q,q,(q.length:Int),(i:Int),()),()))):=by
 rw[List.drop_zero];have hlen:(q.take i).length=i:=by rw[kU];omega
 generalize C:q[i]=r;generalize D:q.take i=t at *
 have e:=gF (step:=Fv) t (λx=>!(x.id==r.id)) (λj=>((n,q,(),q,(q.length:Int),(i:Int),t,(t.length:Int),(j:Int),()),((r.id,r.eG,r.line,r.write,r.data,r.at_,()),()))) (.inl ((false,()),())) _ bq (λk h=>by
  unfold Fv aE bk xG xI;dsimp only;rw[bf,aq,aK ⟨by omega,by omega⟩];simp only[bz];rw[bN];cases t[k].id==r.id<;>rfl) (by
  unfold Fv aE bk xG xI;dsimp only;rw[br,av]) (bS)
 grind
def Xj(n:Int)(q:aa aU)(hl:q.length<1073741824):Db n q=some (gK n q):=by
 unfold Db gK bY;have e:=gF (step:=JT) (List.range q.length) (qN n q) (λi=>((n,q,q,(q.length:Int),(i:Int),()),())) (.inl ((false,()),())) (.inr (.inl ((q,()),()))) bq (λk h=>by
   rw[dw]at h;rw[jD];unfold JT aE bk xG xI bY;dsimp only;rw[bf,aq,aK ⟨by omega,by omega⟩];simp only[bz,atW,au];have C:=at0 n q h hl;cases k with
   | zero=>
    rw[Xi h];cases mJ n q[0]with
    |false=>rfl
    | true=>
     simp only[bE,av,aq];rw[br,av,aW ⟨by omega,by omega,by omega⟩]
     refine(bB (λo=>Option.bind o _) C).trans ?_
     simp;rfl
   | succ k=>
    rw[KR h];cases mJ n q[k+1]with
    |false=>rfl
    | true=>
     simp only[bE,av,cw];have D:W6 (((k+1:Nat):Int)-1)=(k:Int):=by rw[aZ];omega
     simp only[D,bz];rw[bf,aq,aK ⟨by omega,by omega⟩,Qq,au];cases fF q[k] q[k+1]with
     |false=>rfl
     | true=>
      simp only[bE,av,cw];rw[aW ⟨by omega,by omega,by omega⟩]
      refine(bB (λo=>Option.bind o _) C).trans ?_
      rw[au];cases (q.take (k+1)).any λx=>x.id==q[k+1].id with
      |true=>rfl
      | false=>
       simp only[av,Sum.elim_inr,gq];rw[bN];rfl) (by
   rw[dw];unfold JT aE bk xG xI bY;dsimp only;rw[br,av]) (by rw[dw];exact bS)
 rw[cY]at e
 refine(bB (λo=>Option.bind o _) e).trans ?_
 rw[au];cases (List.range q.length).all (qN n q)<;>rfl
def kO(p:iF):Bool:=aP p.state 0 2&&(aP p.since 0 1000000&&aP p.idle 0 1000000)
def Qr(p:iF):Dc p=some (kO p):=by
 unfold Dc kO;simp[cV]
 grind
def at3(p:iF):OB p=some (kO p):=by
 unfold OB kO;simp[ic]
 grind
def zx(e:cr):Bool:=aP e.line 0 1023&&((e.code==1 ||e.code==2)&&aP e.times 1 999)
def mK(e x:cr):Bool:=x.line==e.line&&x.code==e.code
def F2(l:aa cr)(i:Nat):Bool:=match l[i]? with
 |some e=>zx e && !((l.take i).any (mK e))
 |none=>false
def Qt{l:aa cr}{i:Nat}(h:i<l.length):F2 l i=(zx l[i] && !((l.take i).any (mK l[i]))):=by
 unfold F2;rw[bK h]
def nE(l:aa cr):Bool:=(List.range l.length).all (F2 l)&&decide ((l.length:Int)<=6)
def at4(l:aa cr)(e:cr)(hl:l.length<1073741824):OC l e.line e.code=some (gP (mK e) l):=by
 unfold OC gP bY;have e:=zw (step:=Jm) l (mK e) (λi=>((l,e.line,e.code,i,()),())) _ _ bq (λk h=>by
  unfold Jm mK aE bk xG xI;dsimp only;rw[bf,aq,aK ⟨by omega,by omega⟩,aK ⟨by omega,by omega⟩];simp only[bz];rw[bN];cases l[k].line==e.line<;>cases l[k].code==e.code<;>rfl) (by
  unfold Jm aE bk xG xI;dsimp only;rw[br,av]) (bS hl)
 rw[cY]at e;rw[e];cases l.findIdx? _<;>rfl
def at5(l:aa cr):OD l=some (nE l):=by
 unfold OD nE bY;by_cases c:(l.length:Int) <= 6
 ·rw[br (show ¬ (l.length:Int) > 6 by omega),av,bf c,Bool.and_true];have e:=gF (step:=Jn) _ (F2 l) (λi=>((l,(i:Int),()),())) _ _ bq (λk h=>by
   rw[dw]at h;rw[jD,Qt h];unfold Jn VX zx aE bk xG xI;dsimp only;rw[bf,aq,aK ⟨by omega,by omega⟩,aK ⟨by omega,by omega⟩,aK ⟨by omega,by omega⟩];simp only[bz,ic,au];rw[at4 _ _ (by omega),au,F1 h (by simp[mK]),bN];cases aP l[k].line 0 1023<;>cases l[k].code==1<;>cases l[k].code==2<;>cases aP l[k].times 1 999<;>cases (l.take k).any (mK l[k])<;>rfl) (by
   rw[dw];unfold Jn aE bk xG xI;dsimp only;rw[br,av]) (by rw[dw];exact bS)
  refine(bB (λo=>Option.bind o _) e).trans ?_
  rw[au];cases (List.range l.length).all (F2 l)<;>rfl
 ·rw[bf (show (l.length:Int) > 6 by omega),aq,br c,Bool.and_false]
def at6(l:aa cr){i:Nat}(h:i<l.length)(hl:l.length<1073741824):
  iter Fw bq ((l,(),l,(l.length:Int),(i:Int),((l.take i).drop 0),(((l.take i).drop 0).length:Int),(0:Int),()),((l[i].line,l[i].code,l[i].times,()),()))=some (bif (l.take i).any (mK l[i])then .inl ((false,()),())else .inr (.inl ((l,l,(l.length:Int),(i:Int),()),()))):=by
 rw[List.drop_zero];have hlen:(l.take i).length=i:=by rw[kU];omega
 generalize C:l[i]=r;generalize D:l.take i=t at *
 have e:=gF (step:=Fw) t (λx=>!(mK r x)) (λj=>((l,(),l,(l.length:Int),(i:Int),t,(t.length:Int),(j:Int),()),((r.line,r.code,r.times,()),()))) _ _ bq (λk h=>by
  unfold Fw mK aE bk xG xI;dsimp only;rw[bf,aq,aK ⟨by omega,by omega⟩];simp only[bz];rw[bN,BEq.comm (a:=r.line),BEq.comm (a:=r.code)];cases t[k].line==r.line<;>cases t[k].code==r.code<;>rfl) (by
  unfold Fw aE bk xG xI;dsimp only;rw[br,av]) (bS)
 grind
def agN(l:aa cr)(hl:l.length<1073741824):JV l=some (nE l):=by
 unfold JV nE bY;have e:=gF (step:=JU) _ (F2 l) (λi=>((l,l,l.length,i,()),())) _ _ bq (λk h=>by
   rw[dw]at h;rw[jD,Qt h];have C:=at6 l h hl;unfold JU zx aE bk xG xI bY;dsimp only;rw[bf,aq,aK ⟨by omega,by omega⟩];simp only[bz,cV,au,bne];rw[aW ⟨by omega,by omega,by omega⟩];rw[show (0:Int).toNat=0 from rfl,C];cases aP l[k].line 0 1023<;>cases l[k].code==1<;>cases l[k].code==2<;>cases aP l[k].times 1 999<;>cases (l.take k).any (mK l[k])<;>first|rfl|(simp only[aq,av,bE,Bool.not_false,au,Sum.elim_inr,gq];rw[bN];rfl)) (by
   rw[dw];unfold JU aE bk xG xI bY;dsimp only;rw[br,av]) (by rw[dw];exact bS)
 refine(bB (λo=>Option.bind o _) e).trans ?_
 cases (List.range _).all _<;>rfl
def Qu(l:aa Int)(x:Int)(hl:l.length<1073741824):Da l x=some (gP (λe=>x==e) l):=by
 unfold Da gP;have e:=zw (step:=JP) l (λe=>x==e) (λi=>((l,x,l.length,i,()),())) _ _ bq (λk h=>by
  unfold JP aE bk xG xI;dsimp only;rw[bf,aq,aK ⟨by omega,by omega⟩];simp only[bz];rw[bN];cases x==l[k]<;>rfl) (by
  unfold JP aE bk xG xI;dsimp only;rw[br,av]) (bS hl)
 rw[cY]at e;rw[e];cases l.findIdx? _<;>rfl
def DA(t:cI)(i:Nat):Bool:=match t.rows[i]?,t.counts[i]? with
 |some r,some c=>aP r (-1) 15&&(aP c t.eJ 100000&&((r != -1 ||c==0)&&(r == -1 ||!((t.rows.take i).any λx=>r==x))))
 |_,_=>false
def KS{t:cI}{i:Nat}(h:i<t.rows.length)(C:i<t.counts.length):DA t i=(aP t.rows[i] (-1) 15&&(aP t.counts[i] t.eJ 100000&&((t.rows[i] != -1 || t.counts[i]==0)&&(t.rows[i] == -1 || !((t.rows.take i).any λx=>t.rows[i]==x))))):=by
 unfold DA;rw[bK h,bK C]
def kP(t:cI):Bool:=aP (t.rows.length:Int) 1 16&&((t.rows.length:Int)==(t.counts.length:Int)&&(aP t.eJ 0 100000&&(List.range t.rows.length).all (DA t)))
def Xk(t:cI):A9 t=some (kP t):=by
 unfold A9 kP bY;simp only[cV,au];cases D:aP (t.rows.length:Int) 1 16 with
 |false=>rfl
 | true=>
  have D:=bu.1 D;by_cases C:(t.rows.length:Int)=(t.counts.length:Int)
  ·simp only[C,mU,iQ,bE,av,cw];cases T:aP t.eJ 0 100000 with
   |false=>rfl
   | true=>
    have e:=gF (step:=JQ) (List.range t.rows.length) (DA t) (λi=>(((),t.rows,(t.rows.length:Int),(i:Int),()),((t.rows,t.counts,t.eJ,()),()))) (.inl ((false,()),())) (.inr (.inl ((),()))) bq (λk h=>by
     rw[dw]at h;have E:k<t.counts.length:=by omega
     rw[jD,KS h E];unfold JQ aE bk xG xI;dsimp only;rw[bf,aq,aK ⟨by omega,by omega⟩,aK ⟨by omega,by omega⟩,aK ⟨by omega,by omega⟩];simp only[bz,cV,au,Qu _ _ (show t.rows.length<1073741824 by omega)];rw[F1 (p:=λe=>t.rows[k]==e) h (by simp),bN];simp only[bne];cases aP t.rows[k] (-1) 15<;>cases aP t.counts[k] t.eJ 100000<;>cases t.rows[k] == -1<;>cases t.counts[k]==0<;>cases (t.rows.take k).any (λe=>t.rows[k]==e)<;>rfl) (by
     rw[dw];unfold JQ aE bk xG xI;dsimp only;rw[br,av]) (by rw[dw];exact bS)
    rw[cY,C]at e;simp only[bE,av,cw]
    refine(bB (λo=>Option.bind o _) e).trans ?_
    rw[au];cases (List.range t.rows.length).all (DA t)<;>rfl
  ·have I:((t.rows.length:Int)==(t.counts.length:Int))=false:=by simp[C]
   have O:((t.counts.length:Int) != (t.rows.length:Int))=true:=fR λh=>C h.symm
   rw[I,O];rfl
def at7(t:cI){i:Nat}(h:i<t.rows.length)(hl:t.rows.length<1073741824):
  iter E6 bq (((),(i:Int),(0:Int),()),((t.rows,t.counts,t.eJ,()),()))=some (bif decide (t.rows[i] >= 0)&&(t.rows.take i).any (λx=>t.rows[i]==x)then .inl ((false,()),())else .inr (.inl (((),(i:Int),()),((t.rows,t.counts,t.eJ,()),())))):=by
 have hlen:(t.rows.take i).length=i:=by rw[kU];omega
 have e:=gF (step:=E6) (t.rows.take i) (λx=>!(decide (t.rows[i] >= 0)&&t.rows[i]==x)) (λj=>(((),(i:Int),(j:Int),()),((t.rows,t.counts,t.eJ,()),()))) _ _ bq (λk C=>by
  unfold E6 aE bk xG xI;dsimp only;rw[bf,aq,aK ⟨by omega,by omega⟩,aK ⟨by omega,by omega⟩,aK ⟨by omega,by omega⟩];simp only[bz,List.getElem_take];rw[bN,BEq.comm (a:=t.rows[k])];cases decide (t.rows[i] >= 0)<;>cases t.rows[i]==t.rows[k]<;>rfl) (by
  rw[hlen];unfold E6 aE bk xG xI;dsimp only;rw[br,av]) (bS)
 grind
def at8(t:cI):Jh t=some (kP t):=by
 unfold Jh kP bY;simp only[ic,au];cases D:aP (t.rows.length:Int) 1 16 with
 |false=>rfl
 | true=>
  have D:=bu.1 D;by_cases C:(t.rows.length:Int)=(t.counts.length:Int)
  ·simp only[C,mU,iQ,bE,av,cw];cases Y:aP t.eJ 0 100000 with
   |false=>rfl
   | true=>
    have e:=gF (step:=Jg) (List.range t.rows.length) (DA t) (λi=>(((),(i:Int),()),((t.rows,t.counts,t.eJ,()),()))) (.inl ((false,()),())) (.inr (.inl ((),()))) bq (λk h=>by
     rw[dw]at h;have O:k<t.counts.length:=by omega
     have T:=at7 t h (by omega);rw[jD,KS h O];unfold Jg aE bk xG xI bY;dsimp only;rw[bf,aq,aK ⟨by omega,by omega⟩,aK ⟨by omega,by omega⟩,aK ⟨by omega,by omega⟩,aK ⟨by omega,by omega⟩];simp only[bz,ic,au];rw[T,au];cases E:aP t.rows[k] (-1) 15 with
     |false=>rfl
     | true=>
      have E:=bu.1 E;cases aP t.counts[k] t.eJ 100000 with
      |false=>rfl
      | true=>
       simp only[bE,av,cw,bne];by_cases I:t.rows[k] = -1
       ·rw[bf (show t.rows[k]<0 by omega),br (show ¬ t.rows[k] >= 0 by omega),show (t.rows[k] == -1)=true by simp[I]];simp;rw[bN]
        grind
       ·rw[br (show ¬ t.rows[k]<0 by omega),bf (show t.rows[k] >= 0 by omega),show (t.rows[k] == -1)=false by simp[I]];simp only[aq,av,cw];cases (t.rows.take k).any λx=>t.rows[k]==x with
        |true=>rfl
        | false=>
         simp;rw[bN];rfl) (by
     rw[dw];unfold Jg aE bk xG xI bY;dsimp only;rw[br,av]) (by rw[dw];exact bS)
    rw[cY]at e;simp only[bE,av,cw]
    refine(bB (λo=>Option.bind o _) e).trans ?_
    rw[au];cases (List.range t.rows.length).all (DA t)<;>rfl
  ·have U:((t.rows.length:Int)==(t.counts.length:Int))=false:=by simp[C]
   rw[U,fR C];rfl
def w9(g:aF):W6 ((9:Int)*(W6 (aJ g+(1:Int))))=9*(aJ g+1):=by
 have:=eI g;rw[aZ (n:=aJ g+1),aZ]
def KT(k:Int):zj k=some (aP k 1 5):=by
 unfold zj;rw[cV];rfl
def at9(n:Int)(u:Bool)(k:Int):Df n u k=some (bif u then aP n 0 (W6 (k-1))else n==0):=by
 unfold Df;rw[cV];cases u<;>rfl
def oq(g:aF)(i:Nat):Bool:=decide ((i:Int) / 9<aJ g)==decide ((i:Int) % 9+1<=5)
def aua(g:aF){i:Nat}(hi:i<1000):On g (i:Int)=some (oq g i):=by
 unfold On oq;rw[og,au,sX (by omega),rT (by omega),aZ,aZ,BEq.comm]
def aub(g:aF){i:Nat}(hi:i<1000):∃ c,C8 g (i:Int)=some (c,oq g i):=by
 unfold C8 oq;rw[kM,au,sX (by omega),rT (by omega),aZ,aZ,KT];have:aP (i % 9+1) 1 5=decide ((i:Int) % 9+1 <= 5):=by
  simp[aP];omega
 rw[this];cases decide (i / 9<aJ g)<;>exact⟨_,rfl⟩
def DB(g:aF)(l:aa Int)(i:Nat):Bool:=match l[i]? with
 |some e=>aP e (-1) 1000000&&(oq g i ||e == -1)
 |none=>false
def KU{g:aF}{l:aa Int}{i:Nat}(h:i<l.length):DB g l i=(aP l[i] (-1) 1000000&&(oq g i || l[i] == -1)):=by
 unfold DB;rw[bK h]
def o8(l:aa Int)(i:Nat):Bool:=match l[i]? with
 |some e=>aP e 0 1000000&&(i==0 ||(match l[i-1]? with|some x=>!(decide (x >= e))|none=>false))
 |none=>false
def KV{l:aa Int}(h:0<l.length):o8 l 0=aP l[0] 0 1000000:=by
 unfold o8;rw[bK h];simp
def F3{l:aa Int}{i:Nat}(h:i+1<l.length):o8 l (i+1)=(aP l[i+1] 0 1000000 && !(decide (l[i] >= l[i+1]))):=by
 unfold o8
 grind
def jo(g:aF)(r:ef):Bool:=cq g&&((r.last.length:Int)==9*(aJ g+1)&&(!(decide ((r.bg.length:Int) > 4))&&((List.range r.last.length).all (DB g r.last)&&(List.range r.bg.length).all (o8 r.bg))))
def Xl(g:aF)(r:ef):Fs g r=some (jo g r):=by
 unfold Fs jo bY;rw[uj,au,kM];cases T:cq g with
 |false=>rfl
 | true=>
  simp only[bE,av,au,cw,w9];by_cases C:(r.last.length:Int)=9*(aJ g+1)
  ·have U:=eI g;rw[C,mU,av,iQ,cw,<-C];cases D:decide ((r.bg.length:Int) > 4)with
   |true=>rfl
   | false=>
    have D:=of_decide_eq_false D;have l1:=gF (step:=JJ) (List.range r.last.length) (DB g r.last) (λi=>(((),(),r.last,(r.last.length:Int),(i:Int),()),((g.cm,g.aI,g.rows,g.aQ,()),(r.last,r.bg,()),()))) (.inl ((false,()),())) (.inr (.inl (((),()),((r.last,r.bg,()),())))) bq (λk h=>by
     rw[dw]at h;obtain⟨c,E⟩:=aub g (i:=k) (by omega);rw[jD,KU h];unfold JJ aE bk xG xI;dsimp only;rw[bf,aq,aK ⟨by omega,by omega⟩];simp only[bz,cV,au,mH,E,bne];rw[bN];cases aP r.last[k] (-1) 1000000<;>cases oq g k<;>cases r.last[k] == -1<;>rfl) (by
     rw[dw];unfold JJ aE bk xG xI;dsimp only;rw[br,av]) (by rw[dw];exact bS)
    have l2:=gF (step:=JK) (List.range r.bg.length) (o8 r.bg) (λi=>(((),r.bg,(r.bg.length:Int),(i:Int),()),((r.last,r.bg,()),()))) (.inl ((false,()),())) (.inr (.inl ((),()))) bq (λk h=>by
     rw[dw]at h;rw[jD];unfold JK aE bk xG xI;dsimp only;rw[bf,aq,aK ⟨by omega,by omega⟩];simp only[bz,cV,au];cases k with
     | zero=>
      rw[KV h];cases aP r.bg[0] 0 1000000 with
      |false=>rfl
      | true=>
       rw[br];rfl
     | succ k=>
      rw[F3 h];have I:W6 (((k+1:Nat):Int)-1)=(k:Int):=by rw[aZ];omega
      simp only[I,bz];rw[bf (show ((k+1:Nat):Int) > 0 by omega),aK ⟨by omega,by omega⟩,bN];cases aP r.bg[k+1] 0 1000000<;>cases decide (r.bg[k] >= r.bg[k+1])<;>rfl) (by
     rw[dw];unfold JK aE bk xG xI;dsimp only;rw[br,av]) (by rw[dw];exact bS)
    rw[cY]at l1 l2;simp only[Bool.not_false,av,cw]
    refine(bB (λo=>Option.bind o _) l1).trans ?_
    rw[au];cases (List.range r.last.length).all (DB g r.last)with
    |false=>rfl
    | true=>
     simp only[aq,Sum.elim_inr,gq,cw]
     refine(bB (λo=>Option.bind o _) l2).trans ?_
     rw[au];cases (List.range r.bg.length).all (o8 r.bg)<;>rfl
  ·have O:((r.last.length:Int)==9*(aJ g+1))=false:=by simp[C]
   rw[fR C,O];rfl
def auc(g:aF)(r:ef):Oo g r=some (jo g r):=by
 unfold Oo jo bY;rw[Bm,au,og];cases O:cq g with
 |false=>rfl
 | true=>
  simp only[bE,av,au,cw,w9];by_cases C:(r.last.length:Int)=9*(aJ g+1)
  ·have T:=eI g;rw[C,mU,av,iQ,cw];cases D:decide ((r.bg.length:Int) > 4)with
   |true=>rfl
   | false=>
    have D:=of_decide_eq_false D;have l1:=gF (step:=Ja) (List.range r.last.length) (DB g r.last) (λi=>(((),(),(i:Int),()),((g.cm,g.aI,g.rows,g.aQ,()),(r.last,r.bg,()),()))) (.inl ((false,()),())) (.inr (.inl (((),()),((r.last,r.bg,()),())))) bq (λk h=>by
     rw[dw]at h;rw[jD,KU h];unfold Ja aE bk xG xI;dsimp only;rw[bf,aq,aK ⟨by omega,by omega⟩,aK ⟨by omega,by omega⟩];simp only[bz,ic,au,mH,aua g (show k<1000 by omega),bne];rw[bN];cases aP r.last[k] (-1) 1000000<;>cases oq g k<;>cases r.last[k] == -1<;>rfl) (by
     rw[dw];unfold Ja aE bk xG xI;dsimp only;rw[br,av]) (by rw[dw];exact bS)
    have l2:=gF (step:=Jb) (List.range r.bg.length) (o8 r.bg) (λi=>(((),(i:Int),()),((r.last,r.bg,()),()))) (.inl ((false,()),())) (.inr (.inl ((),()))) bq (λk h=>by
     rw[dw]at h;rw[jD];unfold Jb aE bk xG xI;dsimp only;rw[bf,aq,aK ⟨by omega,by omega⟩];simp only[bz,ic,au];cases k with
     | zero=>
      rw[KV h];cases aP r.bg[0] 0 1000000 with
      |false=>rfl
      | true=>
       rw[br];rfl
     | succ k=>
      rw[F3 h];have E:W6 (((k+1:Nat):Int)-1)=(k:Int):=by rw[aZ];omega
      simp only[E,bz];rw[bf (show ((k+1:Nat):Int) > 0 by omega),aK ⟨by omega,by omega⟩,aK ⟨by omega,by omega⟩,bN];cases aP r.bg[k+1] 0 1000000<;>cases decide (r.bg[k] >= r.bg[k+1])<;>rfl) (by
     rw[dw];unfold Jb aE bk xG xI;dsimp only;rw[br,av]) (by rw[dw];exact bS)
    rw[cY]at l1 l2;simp only[Bool.not_false,av,cw]
    refine(bB (λo=>Option.bind o _) l1).trans ?_
    rw[au];cases (List.range r.last.length).all (DB g r.last)with
    |false=>rfl
    | true=>
     simp only[aq,Sum.elim_inr,gq,cw]
     refine(bB (λo=>Option.bind o _) l2).trans ?_
     rw[au];cases (List.range r.bg.length).all (o8 r.bg)<;>rfl
  ·have I:((r.last.length:Int)==9*(aJ g+1))=false:=by simp[C]
   rw[fR C,I];rfl
def aud(l:aa Int)(x:Int)(hl:l.length<1073741824):Ob l x=some (l.any λe=>e==x):=by
 unfold Ob bY;have e:=gF (step:=IV) l (λe=>!(e==x)) (λi=>((l,x,i,()),())) _ _ bq (λk h=>by
  unfold IV aE bk xG xI;dsimp only;rw[bf,aq,aK ⟨by omega,by omega⟩];simp only[bz];rw[bN];cases l[k]==x<;>rfl) (by
  unfold IV aE bk xG xI;dsimp only;rw[br,av]) (bS hl)
 rw[cY]at e;rw[e];have:l.all (λe=>!(e==x)) = !l.any λe=>e==x:=by rw[List.any_eq_not_all_not,Bool.not_not]
 rw[this];cases l.any λe=>e==x<;>rfl
def aue(l:aa Int)(x:Int)(hl:l.length<1073741824):OY l x=some (l.count x:Int):=by
 unfold OY bR;have e:=eV (step:=JE) _ (λi=>((x,((l.take i).count x),l,l.length,i,()),())) _ bq (λk h=>by
  unfold JE aE xG xI;have C:(l.take k).count x <= k:=Nat.le_trans List.count_le_length (by rw[kU];omega);dsimp only;rw[bf,aq,aK ⟨by omega,by omega⟩];simp only[bz];rw[List.take_succ_eq_append_getElem h,List.count_append,List.count_singleton,bN,bN];cases l[k]==x<;>rfl) (by
  unfold JE aE xG xI;dsimp only;rw[br,av,List.take_length]) (bS hl)
 simp_all
def agO{x:Int}:∀ (l:aa Int),(∀ j (h:j<l.length),l[j]=x -> x ∉ l.take j) -> l.count x <= 1
 |[],_=>by simp
 | y :: ys,h=>by
  rw[List.count_cons];by_cases e:y=x
  ·have:x ∉ ys:=by
    intro C;have⟨j,E,D⟩:=ki.1 C;refine h (j+1) (by simp;omega) (by simpa using D) ?_;simp_all
   grind
  ·have:=agO ys λj E D C=>h (j+1) (by simp;omega) (by simpa using D) (by rw[List.take_succ_cons];exact List.mem_cons_of_mem _ C)
   simp_all
def auf{x:Int}:∀ (l:aa Int) (j:Nat) (h:j<l.length),l[j]=x -> x∈l.take j -> 2 <= l.count x:=by
 intro l j h e C;have D:=List.count_pos_iff.2 C;have E:1 <= (l.drop j).count x:=List.count_pos_iff.2 (by rw[<- e];exact ki.2 ⟨0,by simp;omega,by simp⟩);have:l.count x=(l.take j).count x+(l.drop j).count x:=by rw[<- List.count_append,List.take_append_drop]
 omega
def sP(R M:Int)(L:aa Int)(j:Nat):Bool:=match L[j]? with
 |some e=>e==(j:Int) ||(aP e R M && !(decide ((L.count e:Int) > 1)))
 |none=>false
def xj(R M:Int)(L:aa Int)(j:Nat):Bool:=match L[j]? with
 |some e=>e==(j:Int) ||(aP e R M && !((L.take j).any λx=>x==e))
 |none=>false
def Xm(R M:Int)(L:aa Int)(hR:(L.length:Int)=R):(List.range L.length).all (sP R M L)=(List.range L.length).all (xj R M L):=by
 rw[Bool.eq_iff_iff,bT,bT];simp only[fS];constructor
 ·intro h j C;have:=h j C;unfold sP at this;unfold xj;rw[bK C]at *
  simp only[dY,aM,gd,pZ]at *
  rcases this with D|⟨D,U⟩
  ·simp_all
  ·refine .inr ⟨D,?_⟩;rw[l8];intro x O I;have I:x=L[j]:=by simpa using I
   have:=auf L j C rfl (I ▸ O);omega
 ·intro h j C;have:=h j C;unfold xj at this;unfold sP;rw[bK C]at *
  simp only[dY,aM,gd,pZ]at *
  rcases this with D|⟨D,U⟩
  ·simp_all
  ·refine .inr ⟨D,?_⟩;have Y:=(bu.1 D).1;have:=agO (x:=L[j]) L λk T e O=>by
    have E:=h k T;unfold xj at E;rw[bK T]at E;simp only[dY,aM,gd]at E;rcases E with Z|⟨_,h4⟩
    ·grind
    ·grind
   omega
def fG(m:aa Int)(R b:Nat):aa Int:=(m.take ((b+1)*R)).drop (b*R)
def F4(m:aa Int)(R b:Nat):fG m R b=(m.drop (b*R)).take R:=by
 unfold fG;rw[List.drop_take,iZ,Nat.add_sub_cancel_left]
def F5{m:aa Int}{R b:Nat}(h:(b+1)*R<=m.length):(fG m R b).length=R:=by
 rw[F4,kU,List.length_drop];rw[iZ]at h;omega
def BB{C R b j:Nat}(hb:b<C)(D:j <= R):b*R+j <= C*R:=by
 have:=iP R hb
 grind
def KW(R:Nat)(M:Int)(m:aa Int)(i:Nat):Bool:=match m[i]? with
 |some e=>e==((i % R:Nat):Int) ||(aP e (R:Int) M && !(((m.take i).drop (i / R*R)).any λx=>x==e))
 |none=>false
def agP{R:Nat}{M:Int}{m:aa Int}{b j:Nat}(C:j<R):KW R M m (b*R+j)=xj (R:Int) M (fG m R b) j:=by
 unfold KW xj;have D:(b*R+j) % R=j:=by rw[Nat.mul_comm,Nat.mul_add_mod,Nat.mod_eq_of_lt C]
 have E:(b*R+j) / R=b:=by rw[Nat.mul_comm,Nat.mul_add_div (by omega),Nat.div_eq_of_lt C,Nat.add_zero]
 have I:(fG m R b)[j]?=m[b*R+j]?:=by rw[F4,List.getElem?_take_of_lt C,List.getElem?_drop]
 have O:(fG m R b).take j=(m.take (b*R+j)).drop (b*R):=by rw[F4,List.take_take,List.drop_take,Nat.add_sub_cancel_left,Nat.min_eq_left (Nat.le_of_lt C)]
 simp_all
def agQ{n:Nat}(h:n<4611686018427387904):W6 (n:Int)=(n:Int):=aZ
def aug(R D:Nat)(hR:0<R)(M:Int)(m:aa Int):(List.range (D*R)).all (KW R M m)=(List.range D).all λb=>(List.range R).all (xj (R:Int) M (fG m R b)):=by
 rw[Bool.eq_iff_iff,bT];simp;constructor
 ·intro h b hb j C;rw[<- agP C];refine h _ ?_;have:=BB hb (show j+1 <= R from C);omega
 ·intro h i hi;have hb:i / R<D:=Nat.div_lt_of_lt_mul (by rw[Nat.mul_comm];exact hi);have C:i % R<R:=Nat.mod_lt _ hR;have e:i / R*R+i % R=i:=by rw[Nat.mul_comm];exact Nat.div_add_mod i R
  have:=h _ hb _ C;rw[<- agP C,e]at this;exact this
def kQ(g:aF)(s:eP):Bool:=jO g s.bL&&((s.map.length:Int)==((aJ g).toNat*(g.rows-s.bL).toNat:Nat)&&(List.range (aJ g).toNat).all λb=>(List.range (g.rows-s.bL).toNat).all (sP (g.rows-s.bL) (g.rows-1) (fG s.map (g.rows-s.bL).toNat b)))
def Qv{g:aF}{s:eP}{R C b:Nat}(hR:g.rows-s.bL=(R:Int))(D:R<=16)(E:C<=8)(hb:b<C)(hl:s.map.length=C*R):C7 g s (b:Int)=some (b*R,(b+1)*R):=by
 have U:C*R<=8*16:=Nat.mul_le_mul E D;have Y:b*R+R<=C*R:=BB hb (dg R);have I:W6 (g.rows-s.bL)=(R:Int):=by rw[hR];exact aZ
 have O:W6 ((b:Int)*(R:Int))=((b*R:Nat):Int):=by rw[<-Int.natCast_mul];exact aZ
 have T:W6 (((b+1:Nat):Int)*(R:Int))=(((b+1)*R:Nat):Int):=by
  rw[<-Int.natCast_mul];exact aZ (by omega) (by rw[iZ];omega)
 unfold C7;rw[I,bN,O,T,iZ,aW ⟨by omega,by omega,by omega⟩];simp only[bz]
def auh{g:aF}{s:eP}(R b:Int)(L:aa Int)(C:cq g=true)(D:L.length<1073741824):
  iter Fo bq (((),(),R,b,L,L,(L.length:Int),(0:Int),()),((g.cm,g.aI,g.rows,g.aQ,()),(s.bL,s.map,()),()))=some (bif (List.range L.length).all (sP R (g.rows-1) L)then .inr (.inl (((),(),R,b,()),((g.cm,g.aI,g.rows,g.aQ,()),(s.bL,s.map,()),())))else .inl ((false,()),())):=by
 have gb:=fL C;have e:=gF (step:=Fo) (List.range L.length) (sP R _ L) (λi=>(((),(),R,b,L,L,L.length,i,()),((g.cm,g.aI,g.rows,g.aQ,()),(s.bL,s.map,()),()))) _ _ bq (λk h=>by
  rw[dw]at h;rw[jD];unfold Fo sP aE bk xG xI;dsimp only;rw[bf,aq,aK ⟨by omega,by omega⟩,bK h];simp only[bz,cV,au,aue _ _ D,bne];rw[bN,aZ (n:=g.rows-1)];cases L[k]==(k:Int)<;>cases aP L[k] R (g.rows-1)<;>cases decide ((L.count L[k]:Int) > 1)<;>rfl) (by
  rw[dw];unfold Fo aE bk xG xI;dsimp only;rw[br,av]) (by rw[dw];exact bS)
 simp_all
def agR(g:aF)(s:eP):JG g s=some (kQ g s):=by
 unfold JG kQ bY;rw[Xb,au,Qo];cases D:jO g s.bL with
 |false=>rfl
 | true=>
  obtain⟨I,s0,s2,kY,KZ⟩:=Qn D;have O:=eI g;have T:((uq g s.bL).1.map.length:Int)=(((aJ g).toNat*(g.rows-s.bL).toNat:Nat):Int):=by
   unfold uq;rw[D,aq,W9]
  rw[T];obtain⟨C,hb⟩:=dH O.1;obtain⟨R,hR⟩:=dH (show 0<=g.rows-s.bL by omega);rw[hb,hR];simp only[bz,bE,av,cw];by_cases hl:(s.map.length:Int)=((C*R:Nat):Int)
  ·have E:s.map.length=C*R:=by omega
   rw[hl,mU,av,iQ,cw];have U:W6 (R:Int)=(R:Int):=aZ;have e:=gF (step:=JF) (List.range C) (λb=>(List.range R).all (sP (R:Int) (g.rows-1) (fG s.map R b))) (λi=>(((),(),(R:Int),(i:Int),()),((g.cm,g.aI,g.rows,g.aQ,()),(s.bL,s.map,()),()))) (.inl ((false,()),())) (.inr (.inl ((),()))) bq (λk h=>by
    rw[dw]at h;rw[jD];have Y:=BB (R:=R) h (dg R);have hlen:(fG s.map R k).length=R:=F5 (by rw[iZ,E];exact Y);have Z:=auh (g:=g) (s:=s) (R:Int) (k:Int) (fG s.map R k) I (by omega);unfold JF aE bk xG bY;dsimp only;rw[mH,kM,au,hb,bf,aq];have hbr:C7 g (⟨s.bL,s.map⟩:eP) (k:Int)=some (k*R,(k+1)*R):=Qv (s:=⟨s.bL,s.map⟩) hR (by omega) (by omega) h E;rw[hbr,au];have hc:(Nat.ble (k*R) ((k+1)*R)&&Nat.ble ((k+1)*R) s.map.length)=true:=by
     rw[aM];exact⟨ja (by rw[iZ];omega),ja (by rw[iZ];omega)⟩
    rw[hc,aq]
    refine(bB (λo=>Option.bind o _) Z).trans ?_
    rw[au,hlen];cases (List.range R).all (sP (R:Int) (g.rows-1) (fG s.map R k))with
    |false=>rfl
    | true=>
     simp only[aq,Sum.elim_inr,gq];rw[bN]) (by
    rw[dw];unfold JF aE bk xG bY;dsimp only;rw[mH,kM,au,hb,br,av]) (by rw[dw];exact bS)
   rw[cY]at e;rw[U]
   refine(bB (λo=>Option.bind o _) e).trans ?_
   rw[au];cases (List.range C).all λb=>(List.range R).all (sP (R:Int) (g.rows-1) (fG s.map R b))<;>rfl
  ·have e2:((s.map.length:Int)==((C*R:Nat):Int))=false:=by simp only[beq_eq_false_iff_ne];exact hl
   rw[fR hl,e2];rfl
def agS(g:aF)(s:eP):IX g s=some (kQ g s):=by
 unfold IX kQ bY;rw[Xa,au,Qo];cases I:jO g s.bL with
 |false=>rfl
 | true=>
  obtain⟨O,s0,s2,kY,KZ⟩:=Qn I;have T:=eI g;have gb:=fL O;obtain⟨C,hb⟩:=dH T.1;obtain⟨R,hR⟩:=dH (show 0<=g.rows-s.bL by omega);have hm:C*R<=8*16:=Nat.mul_le_mul (by omega) (by omega);have U:W6 (R:Int)=(R:Int):=aZ;have hmul:W6 ((C:Int)*(R:Int))=((C*R:Nat):Int):=by rw[<-Int.natCast_mul];exact aZ
  rw[og,au,hb,hR,U,hmul];simp only[bz,bE,av,cw];by_cases hl:(s.map.length:Int)=((C*R:Nat):Int)
  ·have Y:s.map.length=C*R:=by omega
   rw[hl,mU,av,iQ,cw];have e:=gF (step:=IW) (List.range (C*R)) (KW R (g.rows-1) s.map) (λi=>(((),(),(R:Int),(i:Int),()),((g.cm,g.aI,g.rows,g.aQ,()),(s.bL,s.map,()),()))) (.inl ((false,()),())) (.inr (.inl ((),()))) bq (λk h=>by
    rw[dw]at h;rw[jD];have Z:k<s.map.length:=by omega
    have ht:(k:Int).tmod (R:Int)=((k % R:Nat):Int):=(Int.ofNat_tmod k R).symm;have hd:(k:Int).tdiv (R:Int)=((k / R:Nat):Int):=(Int.ofNat_tdiv k R).symm;have K0:k / R<=k:=Nat.div_le_self k R;have E:k / R*R<=k:=Nat.div_mul_le_self k R;have w1:W6 (((k / R:Nat):Int))=((k / R:Nat):Int):=agQ (Nat.lt_of_le_of_lt K0 (by omega));have w2:W6 (((k / R:Nat):Int)*(R:Int))=((k / R*R:Nat):Int):=by rw[<-Int.natCast_mul];exact agQ (Nat.lt_of_le_of_lt E (by omega))
    unfold IW KW aE bk xG xI;rw[bK Z];dsimp only;rw[bf,aq,aK ⟨by omega,by omega⟩,aX,aK ⟨by omega,by omega⟩,aX,ht,hd,w1,w2,aW ⟨Int.natCast_nonneg _,Int.ofNat_le.2 E,by omega⟩,aK ⟨by omega,by omega⟩];simp only[bz,ic,au];rw[aud _ _ (by rw[List.length_drop,kU];omega),au,bN,aZ (n:=g.rows-1)];cases s.map[k]==((k % R:Nat):Int)<;>cases aP s.map[k] (R:Int) (g.rows-1)<;>cases ((s.map.take k).drop (k / R*R)).any (λx=>x==s.map[k])<;>rfl) (by
    rw[dw];unfold IW aE bk xG xI;dsimp only;rw[br,av]) (by rw[dw];exact bS)
   rw[cY]at e
   refine(bB (λo=>Option.bind o _) e).trans ?_
   rw[au,aug R C (by omega)];have hAB:((List.range C).all λb=>(List.range R).all (xj (R:Int) (g.rows-1) (fG s.map R b)))=(List.range C).all λb=>(List.range R).all (sP (R:Int) (g.rows-1) (fG s.map R b)):=by
    rw[Bool.eq_iff_iff,bT,bT]
    refine forall_congr' λb=>?_
    refine imp_congr_right λD=>?_
    have D:=fS.1 D;have hk:=BB (R:=R) D (dg R);have hlen:(fG s.map R b).length=R:=F5 (by rw[iZ,Y];exact hk);have:=Xm (R:Int) (g.rows-1) (fG s.map R b) (by rw[hlen]);rw[hlen]at this;rw[this]
   rw[hAB];cases (List.range C).all λb=>(List.range R).all (sP (R:Int) (g.rows-1) (fG s.map R b))<;>rfl
  ·have e2:((s.map.length:Int)==((C*R:Nat):Int))=false:=by simp only[beq_eq_false_iff_ne];exact hl
   rw[fR hl,e2];rfl
def dN(g:aF)(s:eP):aF:=bif kQ g s then ⟨g.cm,g.aI,W6 (g.rows-s.bL),g.aQ⟩else ⟨0,0,0,0⟩
def DC(g:aF)(s:eP):zi g s=some (dN g s):=by
 unfold zi dN;rw[agR,au];cases kQ g s<;>rfl
def Xn(g:aF)(s:eP):E1 g s=some (dN g s):=by
 unfold E1 dN;rw[agS,au];cases kQ g s<;>rfl
def o9(c:ax):ax:=c
def eF(a x:aO):Bool:=x.ay==a.ay&&(x.row==a.row&&(x.bZ==a.bZ&&true))
def aui(l:aa aO)(a:aO)(hl:l.length<1073741824):Jj l a=some (gP (eF a) l):=by
 unfold Jj gP bY;have e:=zw (step:=Ji) l (eF a) (λi=>((l,(),i,()),((a.ay,a.row,a.bZ,()),()))) _ _ bq (λk h=>by
  unfold Ji eF aE bk xG xI;dsimp only;rw[bf,aq,aK ⟨by omega,by omega⟩];simp only[bz];rw[bN];cases (l[k].ay==a.ay&&(l[k].row==a.row&&(l[k].bZ==a.bZ&&true)))<;>rfl) (by
  unfold Ji aE bk xG xI;dsimp only;rw[br,av]) (bS hl)
 rw[cY]at e;rw[e];cases l.findIdx? _<;>rfl
def agT(l:aa aO)(a:aO)(hl:l.length<1073741824):Fu l a=some (gP (eF a) l):=by
 unfold Fu gP;have e:=zw (step:=JR) l (eF a) (λi=>((l,(),l.length,i,()),((a.ay,a.row,a.bZ,()),()))) _ _ bq (λk h=>by
  unfold JR eF aE bk xG xI;dsimp only;rw[bf,aq,aK ⟨by omega,by omega⟩];simp only[bz];rw[bN,BEq.comm (a:=a.ay),BEq.comm (a:=a.row),BEq.comm (a:=a.bZ)];cases (l[k].ay==a.ay&&(l[k].row==a.row&&(l[k].bZ==a.bZ&&true)))<;>rfl) (by
  unfold JR aE bk xG xI;dsimp only;rw[br,av]) (bS hl)
 rw[cY]at e;rw[e];cases l.findIdx? _<;>rfl
def partAt(c:ax)(i:Nat):Bool:=match c.bA[i]?,c.guard[i]? with
 |some t,some x=>kP t&&aP x 3 1000
 |_,_=>false
def vH(c:ax)(i:Nat):Bool:=match c.pending[i]? with
 |some a=>dU c.config.ak a&&(a.bZ==0 && !((c.pending.take i).any (eF a)))
 |none=>false
def rE(c:ax):Bool:=(c.aD.aB.length:Int)==aJ c.config.ak&&((c.bA.length:Int)==aJ c.config.ak&&((c.guard.length:Int)==aJ c.config.ak&&(!(decide ((c.pending.length:Int) > 128))&&((List.range c.bA.length).all (partAt c)&&(List.range c.pending.length).all (vH c)))))
def agU(c:ax)(n i:Int):Ov (((),n,i,()),(o9 c,()))=(bif (decide (i<n))then if C:0<=i/\i.toNat<c.bA.length then (Jh (c.bA[i.toNat]'C.2)).bind λD=>bif (!D)then some (.inr (.inl ((false,()),())))else if E:0<=i/\i.toNat<c.guard.length then (dD (c.guard[i.toNat]'E.2) (3:Int) (1000:Int)).bind λI=>bif (!I)then some (.inr (.inl ((false,()),())))else some (.inl (((),n,(W6 (i+(1:Int))),()),(o9 c,())))else none else none else some (.inr (.inr (.inl (((),()),(o9 c,())))))):=rfl
def agV(c:ax)(i:Int):Ow (((),i,()),(o9 c,()))=(bif (decide (i<(c.pending.length:Int)))then if C:0<=i/\i.toNat<c.pending.length then (E5 c.config.ak (c.pending[i.toNat]'C.2)).bind λD=>bif (!D)then some (.inr (.inl ((false,()),())))else bif ((c.pending[i.toNat]'C.2).bZ != (0:Int))then some (.inr (.inl ((false,()),())))else (Jj c.pending (c.pending[i.toNat]'C.2)).bind λE=>bif (E != i)then some (.inr (.inl ((false,()),())))else some (.inl (((),(W6 (i+(1:Int))),()),(o9 c,())))else none else some (.inr (.inr (.inl ((),()))))):=rfl
def agW(c:ax)(G:(Int×Int×Int×Int×ah))(n i:Int):O1 (((),(),n,i,()),(o9 c,G,()))=(bif (decide (i<n))then if C:0<=i/\i.toNat<c.bA.length then (A9 (c.bA[i.toNat]'C.2)).bind λD=>bif (!D)then some (.inr (.inl ((false,()),())))else if E:0<=i/\i.toNat<c.guard.length then (cc (c.guard[i.toNat]'E.2) (3:Int) (1000:Int)).bind λI=>bif (!I)then some (.inr (.inl ((false,()),())))else some (.inl (((),(),n,(W6 (i+(1:Int))),()),(o9 c,G,())))else none else none else some (.inr (.inr (.inl (((),(),()),(o9 c,G,())))))):=rfl
def agX(c:ax)(g:aF)(l:aa aO)(n i:Int):O2 (((),(),l,n,i,()),(o9 c,(g.cm,g.aI,g.rows,g.aQ,()),()))=(bif (decide (i<n))then if C:0<=i/\i.toNat<l.length then (zk g (l[i.toNat]'C.2)).bind λD=>bif (!D)then some (.inr (.inl ((false,()),())))else bif ((l[i.toNat]'C.2).bZ != (0:Int))then some (.inr (.inl ((false,()),())))else (Fu c.pending (l[i.toNat]'C.2)).bind λE=>bif (E != i)then some (.inr (.inl ((false,()),())))else some (.inl (((),(),l,n,(W6 (i+(1:Int))),()),(o9 c,(g.cm,g.aI,g.rows,g.aQ,()),())))else none else some (.inr (.inr (.inl ((),()))))):=rfl
def auj(c:ax):Ox c=some (rE c):=by
 unfold Ox rE bY;rw[og,au];have T:=eI c.config.ak;by_cases C:(c.aD.aB.length:Int)=aJ c.config.ak
 ·by_cases D:(c.bA.length:Int)=aJ c.config.ak
  ·by_cases E:(c.guard.length:Int)=aJ c.config.ak
   ·rw[C,D,E,mU,iQ,av,cw,cw,cw,av,av];cases I:decide ((c.pending.length:Int) > 128)with
    |true=>rfl
    | false=>
     have I:=of_decide_eq_false I;have l1:=gF (step:=Ov) (List.range c.bA.length) (partAt c) (λi=>(((),aJ c.config.ak,(i:Int),()),(o9 c,()))) (.inl ((false,()),())) (.inr (.inl (((),()),(o9 c,())))) bq (λk h=>by
      rw[dw]at h;rw[jD,agU,bf,aq,aK ⟨by omega,by omega⟩,aK ⟨by omega,by omega⟩];simp only[bz,at8,ic,au];unfold partAt;rw[bK h,bK (show k<c.guard.length by omega),bN];simp only;cases kP c.bA[k]<;>cases aP (c.guard[k]'(by omega)) 3 1000<;>rfl) (by
      rw[dw,agU,br,av]) (by rw[dw];exact bS)
     have l2:=gF (step:=Ow) (List.range c.pending.length) (vH c) (λi=>(((),(i:Int),()),(o9 c,()))) (.inl ((false,()),())) (.inr (.inl ((),()))) bq (λk h=>by
      rw[dw]at h;rw[jD,agV,bf,aq,aK ⟨by omega,by omega⟩];simp only[bz,agl,au,aui _ _ (show c.pending.length<1073741824 by omega),bne];have O:=F1 (p:=eF c.pending[k]) h (by simp[eF]);rw[bne]at O;rw[O];unfold vH;rw[bK h,bN];simp only;cases dU c.config.ak c.pending[k]<;>cases c.pending[k].bZ==0<;>cases (c.pending.take k).any (eF c.pending[k])<;>rfl) (by
      rw[dw,agV,br,av]) (by rw[dw];exact bS)
     rw[cY]at l1 l2;simp only[Bool.not_false,av,cw]
     refine(bB (λo=>Option.bind o _) l1).trans ?_
     rw[au];cases (List.range c.bA.length).all (partAt c)with
     |false=>rfl
     | true=>
      simp only[aq,Sum.elim_inr,gq,cw]
      refine(bB (λo=>Option.bind o _) l2).trans ?_
      rw[au];cases (List.range c.pending.length).all (vH c)<;>rfl
   ·simp[C,D,fR E,E]
  ·simp[C,fR D,D]
 ·simp[fR C,C]
def auk(c:ax)(T:c.aD.aB.length<1073741824):O3 c=some (fD c.aD&&rE c):=by
 unfold O3 rE bY;rw[kM,au,F0 _ T,au];cases fD c.aD with
 |false=>rfl
 |true=>
 simp only[bE,av,cw];have b1:=eI c.config.ak;by_cases C:(c.aD.aB.length:Int)=aJ c.config.ak
 ·by_cases D:(c.bA.length:Int)=aJ c.config.ak
  ·by_cases E:(c.guard.length:Int)=aJ c.config.ak
   ·have U:((c.aD.aB.length:Int) != aJ c.config.ak)=false:=by simp[C]
    have Y:((c.bA.length:Int) != aJ c.config.ak)=false:=by simp[D]
    have Z:((c.guard.length:Int) != aJ c.config.ak)=false:=by simp[E]
    have q1:((c.aD.aB.length:Int)==aJ c.config.ak)=true:=by simp[C]
    have q2:((c.bA.length:Int)==aJ c.config.ak)=true:=by simp[D]
    have q3:((c.guard.length:Int)==aJ c.config.ak)=true:=by simp[E]
    rw[U,Y,Z,q1,q2,q3];simp only[av,cw];cases I:decide ((c.pending.length:Int) > 128)with
    |true=>rfl
    | false=>
     have I:=of_decide_eq_false I;have l1:=gF (step:=O1) (List.range c.bA.length) (partAt c) (λi=>(((),(),(c.bA.length:Int),(i:Int),()),(o9 c,(c.config.ak.cm,c.config.ak.aI,c.config.ak.rows,c.config.ak.aQ,()),()))) (.inl ((false,()),())) (.inr (.inl (((),(),()),(o9 c,(c.config.ak.cm,c.config.ak.aI,c.config.ak.rows,c.config.ak.aQ,()),())))) bq (λk h=>by
      rw[dw]at h;rw[jD,agW,bf,aq,aK ⟨by omega,by omega⟩,aK ⟨by omega,by omega⟩];simp only[bz,Xk,cV,au];unfold partAt;rw[bK h,bK (show k<c.guard.length by omega),bN];simp only;cases kP c.bA[k]<;>cases aP (c.guard[k]'(by omega)) 3 1000<;>rfl) (by
      rw[dw,agW,br,av]) (by rw[dw];exact bS)
     have l2:=gF (step:=O2) (List.range c.pending.length) (vH c) (λi=>(((),(),c.pending,(c.pending.length:Int),(i:Int),()),(o9 c,(c.config.ak.cm,c.config.ak.aI,c.config.ak.rows,c.config.ak.aQ,()),()))) (.inl ((false,()),())) (.inr (.inl ((),()))) bq (λk h=>by
      rw[dw]at h;rw[jD,agX,bf,aq,aK ⟨by omega,by omega⟩];simp only[bz,Bq,au,agT _ _ (show c.pending.length<1073741824 by omega),bne];have O:=F1 (p:=eF c.pending[k]) h (by simp[eF]);rw[bne]at O;rw[O];unfold vH;rw[bK h,bN];simp only;cases dU c.config.ak c.pending[k]<;>cases c.pending[k].bZ==0<;>cases (c.pending.take k).any (eF c.pending[k])<;>rfl) (by
      rw[dw,agX,br,av]) (by rw[dw];exact bS)
     rw[cY]at l1 l2;simp only[Bool.not_false,av,cw]
     refine(bB (λo=>Option.bind o _) l1).trans ?_
     rw[au];cases (List.range c.bA.length).all (partAt c)with
     |false=>rfl
     | true=>
      simp only[aq,Sum.elim_inr,gq,cw]
      refine(bB (λo=>Option.bind o _) l2).trans ?_
      rw[au];cases (List.range c.pending.length).all (vH c)<;>rfl
   ·simp[C,D,fR E,E]
  ·simp[C,fR D,D]
 ·simp[fR C,C]
def vI(n:Int)(u:Bool)(k:Int):Bool:=bif u then aP n 0 (k-1)else n==0
def dz(g:aF)(c:aT):Bool:=cq g&&(aP c.kind 1 9&&(vI c.ay (aP c.kind 1 5) (aJ g)&&(vI c.row (c.kind==1) g.rows&&vI c.bZ (c.kind==2 ||c.kind==3) g.aQ)))
def aul(k:Int):Pg k=some (k==1):=by
 unfold Pg;rfl
def aum(k:Int):Pj k=some (k==2 || k==3):=by
 unfold Pj;cases k==2<;>rfl
def Xo{n k:Int}(u:Bool)(h:-1000<k/\k<1000):Df n u k=some (vI n u k):=by
 rw[at9,aZ];rfl
def Xp(g:aF)(c:aT):FB g c=some (dz g c):=by
 unfold FB dz;rw[uj];cases C:cq g with
 |false=>rfl
 | true=>
  have D:=eI g;have gb:=fL C;unfold Wt;simp only[aq,kM,au,cV,KT,aul,aum,Xo _ (show -1000<aJ g/\aJ g<1000 by omega),Xo _ (show -1000<g.rows/\g.rows<1000 by omega),Xo _ (show -1000<g.aQ/\g.aQ<1000 by omega),cw]
  grind
def ur{g:aF}{c:aT}(h:dz g c=true):cq g=true/\(1 <= c.kind/\c.kind <= 9)/\(c.kind <= 5 -> 0 <= c.ay/\c.ay<aJ g)/\(5<c.kind -> c.ay=0):=by
 simp[dz,aM,bu]at h
 refine⟨h.1,h.2.1,λD=>?_,λD=>?_⟩
 ·have:=h.2.2.1;rw[vI,show aP _ 1 5=true from bu.2 ⟨h.2.1.1,D⟩,aq,bu]at this;omega
 ·have:=h.2.2.1;have C:aP c.kind 1 5=false:=by
   cases C:aP _ 1 5 with
   |false=>rfl
   |true=>have:=bu.1 C;omega
  rwa [vI,C,av,eZ]at this
def kinds{k:Int}(h:1<=k/\k<=9):k=1\/k=2\/k=3\/k=4\/k=5\/k=6\/k=7\/k=8\/k=9:=by omega
def cu(r:cg)(b:Int):gN:=r.aI.getD b.toNat ⟨false,0⟩
def lG(r:cg)(c:aT):Bool:=
 bif c.kind==1 ||c.kind==5 then r.aR==0 && !(cu r c.ay).open_ else
 bif c.kind==2 ||c.kind==3 ||c.kind==4 then r.aR==0&&(cu r c.ay).open_ else
 bif c.kind==6 then r.aR==0 else
 bif c.kind==8 then r.aR==0&&r.aI.all (λb=>!b.open_)else
 bif c.kind==7 then r.aR==1 else r.aR==2
def cH(r:cg)(c:aT):cg:=
 bif c.kind==1 then ⟨r.aI.set c.ay.toNat ⟨true,c.row⟩,r.aR⟩else
 bif c.kind==4 then ⟨r.aI.set c.ay.toNat ⟨false,0⟩,r.aR⟩else
 bif c.kind==6 then ⟨r.aI,1⟩else
 bif c.kind==8 then ⟨r.aI,2⟩else
 bif c.kind==7 ||c.kind==9 then ⟨r.aI,0⟩else r
def aun{r:cg}{b:Int}(h:b.toNat<r.aI.length):r.aI[b.toNat]=cu r b:=by
 simp[cu,h]
def auo(r:cg):(((opens 0 r.aI).length:Int)==0)=r.aI.all λb=>!b.open_:=by
 rw[<-agK 0 r.aI,Bool.eq_iff_iff];simp only[eZ];omega
def Xq(g:aF)(r:cg)(c:aT):Ka g r c=some (lF g r&&(dz g c&&lG r c)):=by
 unfold Ka xI;rw[agL,au];cases C:lF g r with
 |false=>rfl
 | true=>
  rw[Xp,au];cases D:dz g c with
  |false=>rfl
  | true=>
   have⟨I,E,hb,_⟩:=ur D;have hlen:(r.aI.length:Int)=aJ g:=by
    simp[lF,aM,eZ]at C;simp_all
   have O:=eI g;have hb:c.kind <= 5 -> 0 <= c.ay/\c.ay.toNat<r.aI.length:=λh=>by have:=hb h;omega
   have hl:r.aI.length<1073741823:=by omega
   simp only[bE,av,cw];unfold lG;rcases kinds E with h|h|h|h|h|h|h|h|h
   case inr.inr.inr.inr.inr.inr.inr.inl=>simp[h,Qe r hl,auo];cases r.aR==0<;>rfl
   all_goals (try (have hb:=hb (by omega)))<;>simp[h,hb,aun]<;>(cases r.aR==0<;>rfl)
def nG(g:aF)(r:cg)(c:aT):Bool:=lF g r&&(dz g c&&lG r c)
def Xr(g:aF)(r:cg)(c:aT):cg×Bool:=bif nG g r c then (cH r c,true)else (r,false)
def uv{g:aF}{r:cg}{c:aT}(h:nG g r c=true):cq g=true/\(r.aI.length:Int)=aJ g/\(1 <= c.kind/\c.kind <= 9)/\(c.kind <= 5 -> 0 <= c.ay/\c.ay.toNat<r.aI.length):=by
 simp[nG,aM]at h;have⟨D,E,hb,_⟩:=ur h.2.1;have C:=h.1;simp[lF,aM,eZ]at C;simp_all
def aup(r:cg)(h:r.aI.length<1073741824):Fj r=some r:=by
 unfold Fj xA xZ;rw[show ([]).length+r.aI.length=r.aI.length by simp,eE h];rfl
def auq(g:aF)(r:cg)(c:aT)(h:r.aI.length<1073741824):Kp g r c=some (Xr g r c):=by
 unfold Kp Xr xL;rw[aup r h,Xq];change (bif !(nG g r c)then _ else _)=_;cases C:nG g r c with
 |false=>rfl
 | true=>
  have⟨D,hlen,E,hb⟩:=uv C;unfold cH
  grind
def xk(g:aF):cg:=⟨List.replicate (aJ g).toNat ⟨false,0⟩,0⟩
def aur(g:aF):OL g=some (xk g):=by
 have D:=eI g;unfold OL xk;rw[uj,au];cases C:cq g with
 | false=>
  have:aJ g=0:=by simp[aJ,C]
  rw[this];rfl
 | true=>
  simp only[bE,av,kM,au];rw[aW ⟨by omega,by omega,by omega⟩]
def aus(g:aF):Of g=some (xk g):=by
 have C:=eI g;unfold Of xk;rw[og,au,aW ⟨by omega,by omega,by omega⟩]
def aut(r:cg)(c:aT):(cH r c).aI.length=r.aI.length:=by
 unfold cH
 grind
def sQ(t:c8)(a b:Int):Int:=
 bif a==1 then (bif b==2 ||b==3 then t.p7 else bif b==4 then t.ji else bif b==1 ||b==5 then W6 (t.ji+t.rp)else 0)else
 bif a==2 then (bif b==4 then t.mV else bif b==1 ||b==5 then W6 (t.mV+t.rp)else 0)else
 bif a==3 then (bif b==4 then t.wr else bif b==1 ||b==5 then W6 (t.wr+t.rp)else 0)else
 bif a==4 then (bif b==1 ||b==5 then t.rp else 0)else
 bif a==5 then (bif b==1 ||b==5 then t.sY else 0)else 0
def xl(t:c8)(a b:Int)(C:Bool):Int:=
 bif a==7 then t.xp else bif a==9 then t.xs else
 bif (a==6&&b==7) ||(a==8&&b==9)then t.sZ else
 bif a==1&&b==1 then (bif C then t.nS else t.rV)else
 bif (a==2&&b==2) ||(a==3&&b==3)then (bif C then t.rX else t.rW)else
 bif a==3&&b==2 then (bif C then t.rZ else t.rY)else
 bif a==2&&b==3 then t.v5 else
 bif a==5&&b==5 then t.nS else
 bif a==2&&b==6 then t.mV else bif a==3&&b==6 then t.wr else
 bif b==8 then sQ t a 1 else 0
def auu(t:c8){a b:Int}(C:1<=a/\a<=9)(hb:1<=b/\b<=9):Pm t a b=some (sQ t a b):=by
 rcases kinds C with rfl|rfl|rfl|rfl|rfl|rfl|rfl|rfl|rfl<;>rcases kinds hb with rfl|rfl|rfl|rfl|rfl|rfl|rfl|rfl|rfl<;>kernel_rfl
def Xs(t:c8){a b:Int}(C:Bool)(D:1<=a/\a<=9)(hb:1<=b/\b<=9):Pn t a b C=some (xl t a b C):=by
 cases C<;>rcases kinds D with rfl|rfl|rfl|rfl|rfl|rfl|rfl|rfl|rfl<;>rcases kinds hb with rfl|rfl|rfl|rfl|rfl|rfl|rfl|rfl|rfl<;>kernel_rfl
def sR(a b:aT):Bool:=aP a.kind 1 5&&aP b.kind 1 5
def zy(g:aF)(a b:aT):Bool:=sR a b&&(W6 (a.ay.tdiv g.aI)==W6 (b.ay.tdiv g.aI))
def ij(g:aF)(t:c8)(a b:aT):Int:=
 bif sR a b&&a.ay==b.ay then max (max 1 (xl t a.kind b.kind (zy g a b))) (sQ t a.kind b.kind)else max 1 (xl t a.kind b.kind (zy g a b))
def agY(x y:Int):(if x > y then x else y)=max x y:=by
 rw[Int.max_def];split<;>split<;>omega
def agZ{g:aF}{b:Int}(h:0<=b/\b<aJ g)(C:cq g=true):Kc g b=some (W6 (b.tdiv g.aI)):=by
 have D:=eI g;have gb:=fL C;unfold Kc;rw[kM,au,cV,au,aZ,bu.2 ⟨h.1,by omega⟩,bE,av,aX]
def auv{k:Int}(h:1<=k/\k<=9):aP k 1 5=decide (k<=5):=by
 unfold aP;rw[bf h.1,cw]
def auw{g:aF}(t:c8){a b:aT}(D:cq g=true)(ka:1 <= a.kind/\a.kind <= 9)(C:1 <= b.kind/\b.kind <= 9)(E:a.kind <= 5 -> 0 <= a.ay/\a.ay<aJ g)(I:b.kind <= 5 -> 0 <= b.ay/\b.ay<aJ g):Kd g t a b=some (ij g t a b):=by
 unfold Kd ij zy sR;simp only[KT,au];cases O:aP a.kind 1 5 with
 | false=>
  simp;rw[Xs t false ka C,au,agY,Int.max_comm]
 | true=>
  cases T:aP b.kind 1 5 with
  | false=>
   simp;rw[Xs t false ka C,au,agY,Int.max_comm]
  | true=>
   have U:=bu.1 O;have Y:=bu.1 T;simp only[aq,cw];rw[agZ (E U.2) D,au,agZ (I Y.2) D,au,Xs t _ ka C,au,auu t ka C];cases a.ay==b.ay with
   |false=>grind
   |true =>grind
def auy(g:aF)(t:c8)(a b:aT):1<=ij g t a b:=by
 unfold ij;cases sR a b&&a.ay==b.ay<;>simp only[aq,av]<;>omega
def Xt{t:c8}(h:jN t=true):∀ x∈o6 t,1 <= x/\x <= 64:=by
 simp[jN,aM,bT]at h;exact λx C=>bu.1 (h.1 x C)
def ag0{t:c8}(h:jN t=true)(a b:Int):0 <= sQ t a b/\sQ t a b <= 128:=by
 have hb:=Xt h;simp only[o6,gU,List.not_mem_nil,or_false,forall_eq_or_imp,forall_eq]at hb;have⟨C,D,E,I,O,T,U,Y,Z,F6,zq,qz,rF,vE,vF,sJ,Bk⟩:=hb;unfold sQ;rw[aZ (n:=t.ji+t.rp),aZ (n:=t.mV+t.rp),aZ (n:=t.wr+t.rp)]
 grind
def qO{c:Bool}{x y a b:Int}(C:a<=x/\x<=b)(D:a<=y/\y<=b):a<=(bif c then x else y)/\(bif c then x else y)<=b:=by
 cases c
 ·exact D
 ·exact C
def auz{t:c8}(h:jN t=true)(a b:Int)(n:Bool):0 <= xl t a b n/\xl t a b n <= 128:=by
 have hb:=Xt h;simp[o6,gU,forall_eq_or_imp,forall_eq]at hb;have C:=ag0 h a 1
 repeat' (first|exact C|refine qO ?_ ?_|omega)
def iq(g:aF)(c:aT):Int:=9*(bif aP c.kind 1 5 then c.ay else aJ g)+c.kind-1
def F7{g:aF}{c:aT}(h:dz g c=true):0 <= iq g c/\iq g c<9*(aJ g+1):=by
 have⟨C,D,hb,_⟩:=ur h;have E:=eI g;unfold iq
 grind
def auA{g:aF}{c:aT}(h:dz g c=true):PJ g c=some (iq g c):=by
 have⟨C,D,hb,_⟩:=ur h;have E:=eI g;unfold PJ iq;simp[kM,au,KT];cases hu:aP _ 1 5 with
 | true=>
  have:=bu.1 hu;simp;rw[aZ (n:=9*c.ay),aZ (n:=9*c.ay+c.kind),aZ]
 | false=>
  simp;rw[aZ (n:=9*aJ g),aZ (n:=9*aJ g+c.kind),aZ]
def auB(r:ef)(C:r.last.length<1073741824)(D:r.bg.length<1073741824):Fk r=some r:=by
 unfold Fk xA xZ;rw[show ([]).length+r.last.length=r.last.length by simp,eE C,show ([]).length+r.bg.length=r.bg.length by simp,eE D];rfl
def uw(r:ef)(x:Int):Bool:=match r.bg.getLast? with
 |some y=>decide (x<=y)
 |none=>false
def BE(l:aa Int)(x:Int):aa Int:=(l++[x]).drop (l.length+1-4)
def gG(g:aF)(r:ef)(e:dO):ef:=
 bif jo g r&&(dz g e.cmd&&(aP e.at_ 0 1000000 && !(e.cmd.kind==1&&uw r e.at_)))then ⟨r.last.set (iq g e.cmd).toNat e.at_,bif e.cmd.kind==1 then BE r.bg e.at_ else r.bg⟩else r
def F8{g:aF}{r:ef}(h:jo g r=true):cq g=true/\(r.last.length:Int)=9*(aJ g+1)/\r.bg.length <= 4:=by
 simp[jo,aM,eZ,gd,pZ]at h
 grind
def auC{l:aa Int}(h:0<l.length)(C:(W6 ((l.length:Int)-1)).toNat<l.length)(hl:l.length<1073741824):l.getLast?=some (l[(W6 ((l.length:Int)-1)).toNat]'C):=by
 have e:(W6 ((l.length:Int)-1)).toNat=l.length-1:=by rw[aZ];omega
 simp only[e];rw[List.getLast?_eq_getElem?,bK (by omega)]
def auD(g:aF)(r:ef)(e:dO)(T:r.last.length<1073741824)(U:r.bg.length<1073741824):PL g r e=some (gG g r e):=by
 unfold PL gG xA xI xL xZ;rw[auB r T U,au,Xl,au];cases Y:jo g r with
 |false=>rfl
 | true=>
  simp only[bE,av,cw];rw[Xp,au];cases D:dz g e.cmd with
  |false=>rfl
  | true=>
   simp only[bE,av,cw];rw[cV,au];cases ha:aP e.at_ 0 1000000 with
   |false=>rfl
   | true=>
    obtain⟨hg,hl,h4⟩:=F8 Y;have E:=F7 D;have b1:=eI g;simp only[bE,av,cw,auA D,au];cases hk:(e.cmd.kind==1)with
    | false=>
     simp only[av,Bool.false_and,Bool.not_false,aq];rw[aK ⟨E.1,by omega⟩,aK]
    | true=>
     have tl:∀ (A B:aj ef),(if qz:0<=iq g e.cmd/\(iq g e.cmd).toNat<r.last.length then if rF:(iq g e.cmd).toNat<r.last.length then (bif bX (r.bg.length+([e.at_]:aa Int).length)then if 0<=(if W6 (((r.bg++[e.at_]).length:Int)-4) > 0 then W6 (((r.bg++[e.at_]).length:Int)-4)else 0)/\(if W6 (((r.bg++[e.at_]).length:Int)-4) > 0 then W6 (((r.bg++[e.at_]).length:Int)-4)else 0)<=((r.bg++[e.at_]).length:Int)/\((r.bg++[e.at_]).length:Int)<=((r.bg++[e.at_]).length:Int)then bif bX (([]:aa Int).length+(((r.bg++[e.at_]).take (((r.bg++[e.at_]).length:Int).toNat)).drop ((if W6 (((r.bg++[e.at_]).length:Int)-4) > 0 then W6 (((r.bg++[e.at_]).length:Int)-4)else 0).toNat)).length)then some (⟨(r.last.set (iq g e.cmd).toNat e.at_),(([]:aa Int)++(((r.bg++[e.at_]).take (((r.bg++[e.at_]).length:Int).toNat)).drop ((if W6 (((r.bg++[e.at_]).length:Int)-4) > 0 then W6 (((r.bg++[e.at_]).length:Int)-4)else 0).toNat)))⟩:ef)else none else none else none)else A else B)=some ⟨r.last.set (iq g e.cmd).toNat e.at_,BE r.bg e.at_⟩:=by
      intro A B;have I:(r.bg++[e.at_]).length=r.bg.length+1:=by simp
      have Z:(if W6 (((r.bg.length+1:Nat):Int)-4) > 0 then W6 (((r.bg.length+1:Nat):Int)-4)else 0)=((r.bg.length+1-4:Nat):Int):=by
       rw[aZ];split<;>omega
      rw[aK ⟨E.1,by omega⟩,aK,eE (by simp;omega),aq,I,Z,aW ⟨by omega,by omega,by omega⟩,eE (by simp;omega),aq];unfold BE;simp only[bz,List.nil_append];rw[<-I,List.take_length]
     simp only[aq,cw];unfold uw;by_cases C:0<r.bg.length
     ·have O:(W6 ((r.bg.length:Int)-1))=((r.bg.length-1:Nat):Int):=by rw[aZ];omega
      have hi:(W6 ((r.bg.length:Int)-1)).toNat<r.bg.length:=by rw[O];omega
      rw[bf (show (r.bg.length:Int) > 0 by omega),aq,aK ⟨by rw[O];omega,hi⟩,auC C hi (by omega)];dsimp only;cases decide (e.at_<=r.bg[(W6 ((r.bg.length:Int)-1)).toNat])with
      |true=>rfl
      | false=>
       simp only[av,Bool.not_false,aq];exact tl _ _
     ·have C:r.bg=[]:=List.eq_nil_of_length_eq_zero (by omega);rw[br (by rw[C];simp),av];rw[show r.bg.getLast?=none by rw[C];rfl];simp only[Bool.not_false,aq];exact tl _ _
def vJ{A T:Type}(f:Nat->A->T->aj A):Nat->aa T->A->aj A
 |_,[],a=>some a
 | k,x :: l,a=>match f k a x with
  |some C=>vJ f (k+1) l C
  |none=>none
def pg(l:aa dO):aa Int:=(l.filter λe=>e.cmd.kind==1).map (·.at_)
def Qx(g:aF)(e:dO):Bool:=dz g e.cmd&&aP e.at_ 0 1000000
def auE{g:aF}{e:dO}(h:Qx g e=true):dz g e.cmd=true/\0<=e.at_/\e.at_<=1000000:=by
 simp only[Qx,aM,bu]at h;exact h
def ag1{t:c8}(C:jN t=true)(g:aF)(a b:aT):1 <= ij g t a b/\ij g t a b <= 128:=by
 have D:=auz C a.kind b.kind (zy g a b);have E:=ag0 C a.kind b.kind;unfold ij
 grind
def Xu(g:aF)(t:c8)(l:aa dO)(e:dO):Bool:=l.any λx=>decide (e.at_-x.at_<ij g t x.cmd e.cmd)
def Xv(t:c8)(A:aa Int)(x:Int):Bool:=decide (4<=A.length)&&decide (x-A.getD (A.length-4) 0<t.mg)
def auF{t:c8}(C:jN t=true):1<=t.mg/\t.mg<=64:=Xt C _ (by simp[o6])
def Xw{T:Type}{p:T -> Bool}{l:aa T}{i:Nat}{x:T}(h:l.all p=true)(C:p x=true):(l.set i x).all p=true:=by grind
def xm{g:aF}{r:cg}(h:lF g r=true):cq g=true/\(r.aI.length:Int)=aJ g/\(0 <= r.aR/\r.aR <= 2)/\r.aI.all (sO g)=true/\(r.aR=2 -> (r.aI.all λb=>!b.open_)=true):=by
 simp only[lF,aM,eZ,bu,dY,bne_iff_ne]at h
 grind
def F9{g:aF}{r:cg}(C:cq g=true)(D:(r.aI.length:Int)=aJ g)(E:0 <= r.aR/\r.aR <= 2)(I:r.aI.all (sO g)=true)(O:r.aR=2 -> (r.aI.all λb=>!b.open_)=true):lF g r=true:=by
 simp only[lF,aM,eZ,bu,dY,bne_iff_ne]
 grind
def ag2{g:aF}{r:cg}{c:aT}(O:lF g r=true)(I:dz g c=true)(D:lG r c=true):lF g (cH r c)=true:=by
 have⟨C,hlen,Z,E,hz⟩:=xm O;have⟨_,T,hb,_⟩:=ur I;have gb:=fL C;have U:c.kind=1 -> 0 <= c.row/\c.row <= g.rows-1:=by
  intro h;simp[dz,aM]at I;have:=I.2.2.2.1;rw[vI,h]at this
  simpa [bu]using this
 rcases kinds T with h|h|h|h|h|h|h|h|h
 ·have e:cH r c=⟨r.aI.set c.ay.toNat ⟨true,c.row⟩,r.aR⟩:=by simp[cH,h]
  have Y:r.aR=0:=by simp[lG,h]at D;exact D.1
  rw[e];exact F9 C (by simpa using hlen) (by omega) (Xw E (by simp only[sO,aM,bu];exact⟨U h,by simp⟩)) (λe=>by simp only at e;omega)
 ·have e:cH r c=r:=by simp[cH,h]
  simp_all
 ·have e:cH r c=r:=by simp[cH,h]
  simp_all
 ·have e:cH r c=⟨r.aI.set c.ay.toNat ⟨false,0⟩,r.aR⟩:=by simp[cH,h]
  have Y:r.aR=0:=by simp[lG,h]at D;exact D.1
  rw[e];exact F9 C (by simpa using hlen) (by omega) (Xw E (by simp only[sO,aM,bu];exact⟨by omega,by simp⟩)) (λe=>by simp only at e;omega)
 ·have e:cH r c=r:=by simp[cH,h]
  simp_all
 ·have e:cH r c=⟨r.aI,1⟩:=by simp[cH,h]
  rw[e];exact F9 C hlen (by simp) E (λe=>by simp at e)
 ·have e:cH r c=⟨r.aI,0⟩:=by simp[cH,h]
  rw[e];exact F9 C hlen (by simp) E (λe=>by simp at e)
 ·have e:cH r c=⟨r.aI,2⟩:=by simp[cH,h]
  rw[e];exact F9 C hlen (by simp) E (λ_=>by simp[lG,h]at D;simpa using D.2)
 ·have e:cH r c=⟨r.aI,0⟩:=by simp[cH,h]
  rw[e];exact F9 C hlen (by simp) E (λe=>by simp at e)
def Ga(l:aa dO)(k:Nat)(e:dO):Bool:=match k with
 |0=>true
 | k+1=>match l[k]? with
  |some x=>decide (x.at_<e.at_)
  |none=>true
def fT(g:aF)(t:c8)(l:aa dO)(k:Nat)(r:cg)(e:dO):aj cg:=
 bif !dz g e.cmd then none else bif !aP e.at_ 0 1000000 then none else bif !Ga l k e then none else bif !lG r e.cmd then none else
 bif Xu g t (l.take k) e then none else bif e.cmd.kind==1&&Xv t (pg (l.take k)) e.at_ then none else some (cH r e.cmd)
def runT(g:aF)(t:c8)(l:aa dO):aj cg:=vJ (fT g t l) 0 l (xk g)
def uy(n k:Nat):aa Int:=List.replicate k (-1)++List.replicate (n-k) 0
def ag3{n k:Nat}(h:k<=n):(uy n k).length=n:=by
 unfold uy;simp;omega
def ag4{n k:Nat}(h:k<n):(uy n k).set k (-1)=uy n (k+1):=by
 obtain⟨m,rfl⟩:∃m,n=k+1+m:=⟨n-k-1,by omega⟩
 unfold uy;rw[show k+1+m-k=m+1 by omega,show k+1+m-(k+1)=m by omega,List.set_append_right _ _ (by simp),mT,Nat.sub_self,List.replicate_succ,List.replicate_succ',List.append_assoc];rfl
def ag5(n:Nat):uy n 0=List.replicate n 0:=by simp[uy]
def ag6(n:Nat):uy n n=List.replicate n (-1):=by simp[uy]
def auG(n:Nat)(C:n<1073741824):I7 (n:Int)=some (List.replicate n (-1)):=by
 have e:=eV (step:=I6) n (λi=>((n,(),i,()),(uy n i,()))) _ bq (λk h=>by
  have hl:=ag3 (show k <= n by omega);unfold I6 aE xG xL;dsimp only;rw[bf,aq,aK ⟨by omega,by omega⟩,aK,bN,bz,ag4 h]) (by
  unfold I6 aE xG xL;dsimp only;rw[br,av]) (bS)
 unfold I7 bR;rw[aW ⟨by omega,by omega,by omega⟩];rw[ag5,ag6]at e;simp_all
def BF(g:aF):ef:=⟨List.replicate (9*(aJ g+1)).toNat (-1),[]⟩
def auH{g:aF}(C:cq g=true):OM g=some (BF g):=by
 have hb:=eI g;obtain⟨n,D⟩:∃n:Nat,9*(aJ g+1)=(n:Int):=⟨(9*(aJ g+1)).toNat,by omega⟩
 have E:n<1073741824:=by omega
 have e:=eV (step:=Jt) n (λi=>(((),(),(n:Int),(i:Int),()),(((),(),()),((),(),()),([]:aa Int),([]:aa Int),uy n i,([]:aa Int),()))) (.inl (((),(),()),(((),(),()),((),(),()),([]:aa Int),([]:aa Int),uy n n,([]:aa Int),()))) bq (λk h=>by
  have hl:=ag3 (show k<=n by omega);unfold Jt aE xG xL;dsimp only;rw[bf,aq,aK ⟨by omega,by omega⟩,aK,bN,bz,ag4 h]) (by
  unfold Jt aE xG xL;dsimp only;rw[br,av]) (bS)
 rw[ag5,ag6,cY]at e;unfold OM BF bR;rw[uj,au,C,bE,av,kM,au,w9,D,aW ⟨by omega,by omega,by omega⟩,bz,mT];exact(bB (λo=>Option.bind o _) e).trans rfl
def auI{g:aF}(C:cq g=true):Og g=some (BF g):=by
 have hb:=eI g;obtain⟨n,D⟩:∃n:Nat,9*(aJ g+1)=n:=⟨(9*(aJ g+1)).toNat,by omega⟩
 unfold Og BF;rw[Bm,au,C,bE,av,og,au,w9,D,auG n (by omega),au,bz]
def auJ(g:aF)(r:ef)(e:dO):(gG g r e).last.length=r.last.length/\(r.bg.length <= 4 -> (gG g r e).bg.length <= 4):=by
 unfold gG;cases (jo g r&&(dz g e.cmd&&(aP e.at_ 0 1000000 && !(e.cmd.kind==1&&uw r e.at_))))with
 |false=>simp_all
 | true=>
  refine⟨by simp,λh=>?_⟩
  cases e.cmd.kind==1 with
  |false=>exact h
  | true=>
   simp[aq,BE,List.length_drop,List.length_append,List.length_singleton];omega
def ag7(g:aF)(l:aa dO):ef:=l.foldl (gG g) (BF g)
def fE(g:aF)(_:Nat)(r:cg)(e:dO):aj cg:=bif nG g r e.cmd then some (cH r e.cmd)else none
def ag8(g:aF)(l:aa dO):aj cg:=vJ (fE g) 0 l (xk g)
def auK(a b:aa Int):Bool:=((a.length:Int)==(b.length:Int))&&(a.zip b).all λp=>p.1==p.2
def Gb(x:cR):Prop:=(x.weights.length<=1048576)
def pE(x y:cR):Bool:=(x.eK==y.eK)&&((x.cap==y.cap)&&((x.dn==y.dn)&&((x.low==y.low)&&((x.high==y.high)&&(auK x.weights y.weights&&((x.cZ.down==y.cZ.down)&&((x.cZ.sleep==y.cZ.sleep)&&true)))))))
def iE(u a:fY):Bool:=((u.request.id==a.request.id)&&((u.request.eG==a.request.eG)&&((u.request.line==a.request.line)&&((u.request.write==a.request.write)&&((u.request.data==a.request.data)&&((u.request.at_==a.request.at_)&&true))))))&&((u.n==a.n)&&((u.xO==a.xO)&&(((u.addr.ay==a.addr.ay)&&((u.addr.row==a.addr.row)&&((u.addr.bZ==a.addr.bZ)&&true)))&&pE u.eD a.eD)))
def place(l:aa aU)(id:Int):Int:=match l.findIdx? (λr=>r.id==id)with
 |some i=>(i:Int)
 |none=>-1
def auL(l:aa (Int×Bool))(k j:Int):m9 (oa l k true) j=(j==k || m9 l j):=by
 induction l with
 |nil =>rfl
 | cons p ps D=>
  simp only[oa];cases C:(k==p.1)with
  | true=>
   have e:k=p.1:=by simpa using C
   rw[aq];simp[m9]
   grind
  | false=>
   rw[av];simp only[m9]
   grind
def auM(x y:Int):(x==y)=(y==x):=Bool.eq_iff_iff.2 ⟨λh=>by simpa using (by simpa using h:x=y).symm,λh=>by simpa using (by simpa using h:y=x).symm⟩
def auN(g:aF)(a:cL)(I:∀ c∈a.cells,c.symbols.length<1073741824):Ot g a=some (lX g a):=by
 unfold Ot lX bY;rw[Bm,au,Bp,og];cases O:cq g with
 |false=>rfl
 | true=>
  have Y:=lD g;have Z:=rD g;have er:aJ g*g.rows=fM g:=by simp[fM,O]
  simp only[bE,av,au,cw,er];rw[aZ];by_cases C:(a.cells.length:Int)=dB g
  ·by_cases D:(a.bh.length:Int)=fM g
   ·by_cases E:(a.aY.length:Int)=fM g
    ·have hl:a.bh.length=a.aY.length:=by omega
     have l1:=gF (step:=Jd) a.cells Bu (λi=>(((),(i:Int),()),((a.cells,a.bh,a.aY,()),()))) (.inl ((false,()),())) (.inr (.inl (((),()),((a.cells,a.bh,a.aY,()),())))) bq (λk h=>by
      unfold Jd aE bk xG xI;simp (disch:=omega) [h,bN,atx _ 11 (I _ (cX h)),Bu];cases sN a.cells[k].symbols 11<;>rfl) (by unfold Jd aE bk xG xI;simp) (bS)
     have l2:=gF (step:=Je) (a.bh.zip a.aY) uo (λi=>(((),(i:Int),()),((a.cells,a.bh,a.aY,()),()))) (.inl ((false,()),())) (.inr (.inl ((),()))) bq (λk h=>by
      have T:k<a.bh.length:=by simp at h;omega
      have U:k<a.aY.length:=by omega
      unfold Je aE bk xG xI;simp (disch:=omega) [T,U,bN,ic,uo];cases aP a.bh[k] 0 100000<;>cases aP a.aY[k] 0 100000<;>rfl) (by unfold Je aE bk xG xI;simp[hl]) (bS (by simp;omega))
     rw[cY]at l1 l2;simp only[C,D,E,mU,av,decide_true,cw];rw[l1];cases h1:a.cells.all Bu with
     |false=>simp
     | true=>
      simp only[aq,Option.bind_some,Sum.elim_inr,gq];rw[l2];cases (a.bh.zip a.aY).all uo<;>simp
    ·simp[C,D,fR E,E]
   ·have e4:¬ (a.aY.length:Int)=(a.bh.length:Int)\/True:=.inr trivial;simp[C,fR D,D]
  ·simp[fR C,C]
def dG(g:aF)(a:aO):Nat:=(qK g a).toNat
def Gc{g:aF}{a:aO}(h:dU g a=true):qK g a=(dG g a:Int)/\(dG g a:Int)<dB g:=by
 have:=W3 h;unfold dG;omega
def eY.lt{g:aF}{B:Int}{a:cL}(C:eY g B a){at_:aO}(h:dU g at_=true):dG g at_<a.cells.length:=by
 have:=Gc h;have:=C.cells;omega
def eY.DD{g:aF}{B:Int}{a:cL}(C:eY g B a)(k:Nat){c:bO}(D:Sy c.symbols):eY g B ⟨a.cells.set k c,a.bh,a.aY⟩:=
 ⟨by simp[C.cells],Sy.bJ C.syms D,C.bh,C.aY,C.FZ,C.hit⟩
def ag9{g:aF}{B:Int}{a:cL}(C:eY g B a)(hB:B<=100000){at_:aO}(h:dU g at_=true)(hl:dG g at_<a.cells.length){k:Nat}(Y:k<11)(D:k<a.cells[dG g at_].symbols.length){x:Int}(E:0<=x/\x<=15):
  FU g a at_ (k:Int) x=some ⟨a.cells.set (dG g at_) ⟨a.cells[dG g at_].symbols.set k (bits .xor .i64 a.cells[dG g at_].symbols[k] x),a.cells[dG g at_].kj⟩,a.bh,a.aY⟩:=by
 obtain⟨I,_⟩:=oX h;obtain⟨O,Z⟩:=Gc h;have T:aP (k:Int) 0 10=true:=by rw[bu];omega
 have U:aP x 0 15=true:=bu.2 E;unfold FU sK xC xL xM;simp[C.copy,C.ok I hB,Bq,h,cV,T,U,FX,O,hl,D]
def iN(R row:Int):aa Int:=(bif decide (0<row)then [row-1]else [])++(bif decide (row<R-1)then [row+1]else [])
def aha{R row:Int}(O:2<=R)(T:R<=16)(U:0<=row)(Y:row<R):FP R row=some (iN R row):=by
 unfold FP iN xA xZ;have C:aP R 2 16=true:=by rw[bu];omega
 have D:aP row 0 (R-1)=true:=by rw[bu];omega
 rw[cV,au,C,aZ (n:=R-1),cV,aZ (n:=row-1),aZ (n:=row+1)];by_cases E:0<row<;>by_cases I:row<R-1<;>simp[D,E,I,bX]
def ahb{R row:Int}(D:0 <= row)(E:row<R):∀ n∈iN R row,0 <= n/\n<R:=by
 intro n C;unfold iN at C
 grind
def auO(R row:Int):(iN R row).length <= 2:=by
 unfold iN
 grind
def auP{R row k:Int}{i:Nat}(hi:k+row=(i:Int))(C:0 <= k)(D:0 <= row)(H:aa Int):(iN R row).foldl (λh n=>oY (k+n).toNat h) (H.set i 0)=oZ R row i H:=by
 unfold iN oZ xg
 grind
def ahc(k:Int):∀ (l:aa Int) (H:aa Int),(l.foldl (λh n=>oY (k+n).toNat h) H).length=H.length
 |[],H=>rfl
 |x::l,H=>by rw[List.foldl_cons,ahc k l,W7]
def ahd(k:Int):∀ (l:aa Int) (H:aa Int),(∀ x∈H,0<=x/\x<=100000)->∀ x∈l.foldl (λh n=>oY (k+n).toNat h) H,0<=x/\x<=100000
 |[],H,h=>h
 |x::l,H,h=>by rw[List.foldl_cons];exact ahd k l _ (W8 h)
def auQ{g:aF}(D:cq g=true){B:Int}{a:cL}(C:eY g B a)(hB:B <= 100000){n:Int}(O:0 <= n)(T:n <= 100000):J2 g a n=some ⟨a.cells,a.bh.map (oh n),a.aY⟩:=by
 have U:=rD g;have Y:=C.bh;have E:aP n 0 100000=true:=by rw[bu];omega
 unfold J2 bR;rw[C.copy,au,C.ok D hB,au,cV,au,E];have e:=eV (step:=J1) _ (λi=>((n,(),(),(a.bh.length:Int),(i:Int),()),(((),(),(),()),((),(),(),()),([]:aa bO),([]:aa Int),([]:aa Int),a.cells,upto (oh n) a.bh i,a.aY,()))) (.inl (((),(),()),(((),(),(),()),((),(),(),()),([]:aa bO),([]:aa Int),([]),a.cells,a.bh.map (oh n),a.aY,()))) bq (λk h=>by
  unfold J1 aE xG xL;have Z:=C.FZ _ (cX h);have I:=W2 (oh n) a.bh k h;have D:=W0 (oh n) a.bh k h (by rw[Qb];exact h);simp (disch:=omega) [Qb,h,D,aZ];rw[<- I];rfl) (by unfold J1 aE xG xL;simp[WZ]) (bS)
 rw[cY,agk]at e;simp_all
def auR(y:Int):0 <= bits .and .i64 y 15/\bits .and .i64 y 15 <= 15:=by
 have e:bits .and .i64 y 15=IntKind.wrap .i64 ((BitVec.ofInt 64 y &&& BitVec.ofInt 64 15).toNat):=rfl;have h:(BitVec.ofInt 64 y &&& BitVec.ofInt 64 15).toNat <= 15:=by
  exact Nat.le_trans Nat.and_le_right (by decide)
 rw[e,IntKind.wrap_i64];omega
def lg(a:Nat):Nat:=(14688061253356765440 / 2 ^ (4*a)) % 16
def okB(C s1 s2 i:Nat):Bool:=!Nat.beq C 0&&(Nat.beq (gm C (pw i)) s1&&Nat.beq (gm s1 (pw i)) s2)
def loc(C s1 s2:Nat):aj Nat:=(List.range 11).find? (okB C s1 s2)
def Gd:aj Nat->Nat
 |some n=>n
 |none=>99
def auS:(nB λa=>Nat.beq a 0 ||Dd (Int.ofNat a)==some (Int.ofNat (lg a)))=true:=by kernel_rfl
def ahe:(nB λC=>nB λs1=>nB λs2=>bif Nat.beq C 0 || Nat.beq s1 0 then Nat.beq (Gd (loc C s1 s2)) 99 else
  (λx=>!Nat.beq x 0&&Nat.beq (Gd (loc C s1 s2)) (bif Nat.blt (lg x) 11&&Nat.beq (gm s1 x) s2 then lg x else 99)) (gm s1 (iv C)))=true:=by kernel_rfl
def BG(w:aa Nat):Bool:=Nat.beq (dy w 0 11) 0&&(Nat.beq (dy w 1 11) 0&&Nat.beq (dy w 2 11) 0)
def jx(w:aa Nat):aa Nat×Int×Int:=bif BG w then (w,0,-1)else match loc (dy w 0 11) (dy w 1 11) (dy w 2 11)with
 |some k=>(w.set k (w.getD k 0 ^^^ dy w 0 11),1,(k:Int))
 |none=>(w,2,-1)
def ahf(n m:Nat):((n:Int)==(m:Int))=Nat.beq n m:=by
 cases h:Nat.beq n m with
 |true=>simp_all
 | false=>
  have:n≠m:=by rintro rfl;simp at h
  grind
def ahg{D s1 s2 k:Nat}(h:loc D s1 s2=some k):k<11/\okB D s1 s2 k=true /\ ∀ i,i<k -> okB D s1 s2 i=false:=by
 refine⟨fS.1 (List.mem_of_find?_eq_some h),List.find?_some h,λi hi=>?_⟩
 have⟨O,l1,l2,E,T⟩:=List.find?_eq_some_iff_append.1 h;have U:l1.length=k/\l1=List.range k:=by
  have C:(List.range 11)[l1.length]?=some k:=by rw[E];simp
  have I:l1.length<11:=by have:=bB List.length E;simp at this;omega
  rw[List.getElem?_range I]at C;injection C with C;refine⟨C,?_⟩;have Y:(List.range 11).take l1.length=l1:=by rw[E];simp
  grind
 simp_all
def ahh{C s1 s2:Nat}(D:C<16)(E:s1<16)(I:s2<16)(h:C=0 \/ s1=0):loc C s1 s2=none:=by
 have t:=jY (jY (jY ahe D) E) I;have O:(Nat.beq C 0 ||Nat.beq s1 0)=true:=by rcases h with rfl|rfl<;>simp
 rw[O]at t;have t:=cJ t;cases hl:loc C s1 s2 with
 |none=>rfl
 | some k=>
  rw[hl]at t;have:=(ahg hl).1;simp[Gd]at t;omega
def auT{C s1 s2:Nat}(E:C<16)(I:s1<16)(O:s2<16)(T:C≠0)(U:s1≠0):gm s1 (iv C)≠0/\loc C s1 s2=bif Nat.blt (lg (gm s1 (iv C))) 11&&Nat.beq (gm s1 (gm s1 (iv C))) s2 then some (lg (gm s1 (iv C)))else none:=by
 have t:=jY (jY (jY ahe E) I) O;have c0:Nat.beq C 0=false:=by cases h:Nat.beq C 0 with|false=>rfl|true=>exact absurd (cJ h) T
 have Y:Nat.beq s1 0=false:=by cases h:Nat.beq s1 0 with|false=>rfl|true=>exact absurd (cJ h) U
 dsimp only at t;rw[c0,Y,Bool.or_false,av,aM]at t;have⟨t1,D⟩:=t;have D:=cJ D;refine⟨(by rintro e;rw[e]at t1;cases t1),?_⟩;cases hb:(Nat.blt (lg (gm s1 (iv C))) 11&&Nat.beq (gm s1 (gm s1 (iv C))) s2)with
 | true=>
  rw[hb,aq]at D;rw[aM]at hb;have Z:lg (gm s1 (iv C))<11:=cE hb.1;cases hl:loc C s1 s2 with
  |none=>rw[hl]at D;simp[Gd]at D;omega
  |some k=>rw[hl]at D;simp[Gd]at D;rw[D];rfl
 | false=>
  rw[hb,av]at D;cases hl:loc C s1 s2 with
  |none=>rfl
  | some k=>
   have:=(ahg hl).1;rw[hl]at D;simp[Gd]at D;omega
def auU{a:Nat}(h:a<16)(C:a≠0):wW (a:Int)=some (iv a:Int):=by
 have t:=jY atv h;simp_all
def auV{a:Nat}(h:a<16)(C:a≠0):Dd (a:Int)=some (lg a:Int):=by
 have t:=jY auS h;simp_all
def Xx{w:aa Nat}(U:ig w)(hl:w.length=11):De (bI w)=some (bI (jx w).1,(jx w).2.1,(jx w).2.2):=by
 have ho:bX (([]:aa Int).length+(bI w).length)=true:=eE (by simp[qL,hl]);have h0:∀n:Nat,((n:Int)==(0:Int))=Nat.beq n 0:=λn=>ahf n 0
 have C:=zu w 0 11;have D:=zu w 1 11;have Y:=zu w 2 11;have O:∀i (h:i<(bI w).length),(bI w)[i]=((w.getD i 0:Nat):Int):=λi h=>FY h
 have T:∀ k,(bI w).set k (bits .xor .i64 ((w.getD k 0:Nat):Int) ((dy w 0 11:Nat):Int))=bI (w.set k (w.getD k 0 ^^^ dy w 0 11)):=λk=>by
  rw[uk (U.get k) C,atw]
 have hlen:(bI w).length=11:=by rw[qL,hl]
 unfold De xA xC xL xZ;rw[Qf U hl,au,agt U hl,ho];have auW:jG [((dy w 0 11:Nat):Int),((dy w 1 11:Nat):Int),((dy w 2 11:Nat):Int)]=false:=rfl;rw[auW,av,aq,au];unfold jx BG;cases hz:(Nat.beq (dy w 0 11) 0&&(Nat.beq (dy w 1 11) 0&&Nat.beq (dy w 2 11) 0))with
 |true=>simp
 | false=>
  simp only[av,List.nil_append];generalize Z:bI w=W at O T hlen ⊢;generalize hg0:dy w 0 11=E at *
  generalize hg1:dy w 1 11=s1 at *
  generalize uR:dy w 2 11=s2 at *
  have cA:∀n:Nat,((n:Int) != (0:Int)) = !Nat.beq n 0:=λn=>by rw[bne,h0]
  by_cases I:E=0
  ·rw[ahh C D Y (.inl I)];subst I;simp[Z]
  ·have c0:Nat.beq E 0=false:=by cases h:Nat.beq E 0 with | false=>rfl | true=>exact absurd (cJ h) I
   by_cases n1:s1=0
   ·rw[ahh C D Y (.inr n1)];simp_all
   ·have c1:Nat.beq s1 0=false:=by cases h:Nat.beq s1 0 with | false=>rfl | true=>exact absurd (cJ h) n1
    have⟨nx,SU⟩:=auT C D Y I n1;have e1:=auU C I;have e2:=Dw D (atu E);rw[SU];generalize hx:gm s1 (iv E)=x at *
    have ahi:x<16:=by rw[<- hx];exact iC _ _
    have e3:=auV ahi nx;have e4:=Dw D ahi;generalize hn:lg x=n at *
    by_cases q1:n<11
    ·have d1:Nat.blt n 11=true:=ja q1;have d2:(n:Int)<11:=by omega
     have dK:n<W.length:=by omega
     have O:=O n dK;have T:=T n;cases q2:Nat.beq (gm s1 x) s2 with
     | true=>
      simp only[d1,cw,aq];generalize w.getD n 0=c at O T ⊢;simp_all
     | false=>
      simp[ e1,e2,e3,e4,ahf,q2,Z]
    ·have d1:Nat.blt n 11=false:=by
      cases h:Nat.blt n 11 with
      |false=>rfl
      |true=>exact absurd (cE h) (by omega)
     have d2:¬ (n:Int)<11:=by omega
     simp only[d1,Bool.false_and,av];simp[cA,c0,c1,e1,e2,e3,d2,Z]
def Qy{w:aa Nat}(C:ig w)(hl:w.length=11):(jx w).1.length=11/\ig (jx w).1/\((jx w).2.1=0 \/ (jx w).2.1=1 \/ (jx w).2.1=2):=by
 have D:=zu w 0 11;unfold jx;cases BG w with
 |true=>simp_all
 | false=>
  cases loc _ _ _ with
  |none=>simp_all
  |some k=>exact⟨by simp[hl],C.set (lE (C.get k) D),.inr (.inl rfl)⟩
def ahj{w:aa Nat}(h:BG w=true):jx w=(w,0,-1):=by simp[jx,h]
def auX{w:aa Nat}(C:ig w)(hl:w.length=11):Pb (bI w)=some (bI (w.drop 3)):=by
 unfold Pb xA xZ;have c0:((w.length:Int)==(11:Int))=true:=by rw[hl];rfl
 have D:(bI w).length=11:=by rw[qL,hl]
 rw[W5 C (by omega),au,c0,show (!true)=false from rfl,av,D];have e:((bI w).take ((11:Nat):Int).toNat).drop (3:Int).toNat=bI (w.drop 3):=by
  rw[List.take_of_length_le (by omega)];simp_all
 have E:bX (([]:aa Int).length+(bI (w.drop 3)).length)=true:=by
  rw[qL,List.length_drop,hl];rfl
 simp_all
def K3(x:jE):Prop:=Gb x.bW/\Gb x.next
def ahk(x:cg):Prop:=(x.aI.length<=1048576)
def auY(x:ef):Prop:=(x.last.length<=1048576)/\(x.bg.length<=1048576)
def Qz(x:bO):Prop:=(x.symbols.length<=1048576)
def QA(x:cL):Prop:=(x.cells.length<=1048576/\∀y∈x.cells,Qz y)/\(x.bh.length<=1048576)/\(x.aY.length<=1048576)
def auZ(x:eP):Prop:=(x.map.length<=1048576)
def BH(x:dI):Prop:=(x.aB.length<=1048576)
def nH(x:cI):Prop:=(x.rows.length<=1048576)/\(x.counts.length<=1048576)
def cv(x:ax):Prop:=K3 x.box/\ahk x.aN/\auY x.ready/\QA x.array/\auZ x.spare/\BH x.aD/\(x.bA.length<=1048576/\∀y∈x.bA,nH y)/\(x.guard.length<=1048576)/\(x.pending.length<=1048576)/\(x.queue.length<=1048576)/\(x.shares.length<=1048576)/\(x.errors.length<=1048576)/\(x.trace.length<=1048576)/\(x.bF.length<=1048576)
def mL(c:eo)(p:cR):Bool:=(qJ c p).getD false
def DE(c:eo)(p:cR)(hl:p.weights.length<1073741823):qJ c p=some (mL c p):=by
 obtain⟨b,e,_⟩:=Xh c p hl;unfold mL;rw[e];rfl
def Xy(c:eo)(p:cR)(hl:p.weights.length<1073741823):A3 c p=some (mL c p):=by
 have⟨b,e,C,_⟩:=atT c p hl;unfold mL;simp_all
def ba1(a x:Bool):(bif a then some x else some false)=some (a&&x):=by cases a<;>rfl
def ba2(a x:Bool):(bif !a then some false else some x)=some (a&&x):=by cases a<;>rfl
def ba3(a b:Int)(x:Bool):(bif a != b then some false else some x)=some (a==b&&x):=by
 rw[bne];cases a==b<;>rfl
theorem ba4(p:Prop)[Decidable p](x:Bool):(bif decide p then some false else some x)=some (!decide p&&x):=by cases decide p<;>rfl
def cz(c:ax):Bool:=
 mL c.config c.box.bW&&(mL c.config c.box.next&&(aP c.now 0 1000000&&(lF c.config.ak c.aN&&(jo c.config.ak c.ready&&(lX c.config.ak c.array&&(kQ c.config.ak c.spare&&(c.spare.bL==c.config.bL&&((fD c.aD&&rE c)&&(gK (dB (dN c.config.ak c.spare)) c.queue&&(iM c.shares&&((c.shares.length:Int)==4&&(o7 c.drain&&(kO c.aR&&(c.aR.state==c.aN.aR&&(!decide (c.aR.since > c.now)&&(aP c.dJ.every 1 100000&&(aP c.dJ.wait 1 c.dJ.every&&(aP c.dJ.next 0 (W6 (dB c.config.ak-1))&&(nE c.errors&&(decide ((c.trace.length:Int)<=2000)&&decide ((c.bF.length:Int)<=400)))))))))))))))))))))
def BI(c:ax)(C:cv c):Ba c=some (cz c):=by
 have⟨⟨D,E⟩,Y,⟨Z,z5⟩,⟨⟨z6,I⟩,z7,z8⟩,z9,O,⟨lH,au0⟩,lY,kK,lZ,ot,z16,z17,z18⟩:=C;unfold Gb at D E;have T:∀ x∈c.array.cells,x.symbols.length<1073741824:=λx U=>by
  have:=I x U;unfold Qz at this;omega
 unfold BH at O;unfold Ba cz;simp only[DE _ _ (show c.box.bW.weights.length<1073741823 by omega),DE _ _ (show c.box.next.weights.length<1073741823 by omega),cV,agL,Xl,agx _ _ T,agR,auk _ (show c.aD.aB.length<1073741824 by omega),DC,Bn,Xj _ _ (show c.queue.length<1073741824 by omega),KP _ (show c.shares.length<1073741824 by omega),Qp,Qr,agN _ (show c.errors.length<1073741824 by omega),au,ba1,ba2,ba3,ba4]
def au1(c:ax)(C:cv c):OE c=some (cz c):=by
 obtain⟨⟨D,E⟩,Y,⟨Z,z5⟩,⟨⟨z6,I⟩,z7,z8⟩,z9,O,⟨lH,au0⟩,lY,kK,lZ,ot,z16,z17,z18⟩:=C;unfold Gb at D E;have T:∀ x∈c.array.cells,x.symbols.length<1073741824:=λx U=>by
  have:=I x U;unfold Qz at this;omega
 unfold BH at O;unfold OE cz;simp only[Xy _ _ (show c.box.bW.weights.length<1073741823 by omega),Xy _ _ (show c.box.next.weights.length<1073741823 by omega),ic,atU,auc,auN _ _ T,agS,atV _ (show c.aD.aB.length<1073741824 by omega),auj,Xn,Bp,atZ,agD _ (show c.shares.length<1073741824 by omega),agH,at3,at5,au,ba1,ba2,ba3,ba4,Bool.and_assoc]
def Xz{g:aF}{a:cL}(h:lX g a=true):cq g=true/\(a.bh.length:Int)=fM g/\(a.aY.length:Int)=fM g:=by
 simp[lX,aM,gB]at h;simp_all
def ahl(p:cR):Prop:=(0<=p.eK/\p.eK<=1)/\(0<=p.cap/\p.cap<=200)/\(0<=p.low/\p.low<=2)/\(p.low<p.high/\p.high<=6)/\(∃(i:Nat) (w:Int),i<4/\1<=w/\w<=4/\p.weights=[1,1,1,1].set i w)/\(5<=p.cZ.down/\p.cZ.down<=24)/\(60<=p.cZ.sleep/\p.cZ.sleep<=119)
def rG(p:cR):Prop:=ahl p/\8<=p.dn/\p.dn<=17
def au2{b:aa Int}{c:bC}(T:kN b c):Dr b (NU c) ahl:=by
 unfold NU xL;rw[T.eq];show Dr b (Option.bind (some _) _) _;rw[au]
 refine(fC T 2).bind λx1 k1 U Y=>?_
 dsimp only;rw[Y.eta]
 refine(Qj Y _ (by decide)).bind λZ k2 h2 mC=>?_
 dsimp only;rw[mC.eta]
 refine(fC mC 6).bind λx3 k3 h3 qF=>?_
 dsimp only;rw[qF.eta]
 refine(fC qF 3).bind λC k4 D tY=>?_
 dsimp only;rw[tY.eta]
 refine(fC tY 4).bind λE k5 h5 yT=>?_
 dsimp only;rw[yT.eta]
 refine(fC yT 4).bind λx6 k6 h6 BJ=>?_
 dsimp only;rw[BJ.eta]
 refine(fC BJ 4).bind λx7 k7 h7 BM=>?_
 have a1:=U.2.2 (by omega);have a3:=h3.2.2 (by omega);have a4:=D.2.2 (by omega);have a5:=h5.2.2 (by omega);have a6:=h6.2.2 (by omega);have a7:=h7.2.2 (by omega);have b3:=h3.1;have b4:=D.1;have b5:=h5.1;have b6:=h6.1;have b7:=h7.1;have hl:x6.toNat<([1,1,1,1]:aa Int).length:=by simp only[List.length_cons,List.length_nil];omega
 dsimp only;rw[aK ⟨b6,hl⟩,aK hl,BM.eta]
 refine(fC BM 20).bind λI k8 h8 K4=>?_
 dsimp only;rw[K4.eta]
 refine(fC K4 60).bind λO k9 h9 K5=>?_
 dsimp only;rw[K5.eta];have a8:=h8.2.2 (by omega);have a9:=h9.2.2 (by omega);have b8:=h8.1;have b9:=h9.1;rw[aZ (n:=3+x3),aZ (n:=C+1),aZ (n:=C+1+E),aZ (n:=1+x7),aZ (n:=5+I),aZ (n:=60+O)];simp only[gU,List.not_mem_nil,or_false]at h2;refine Dr.pure K5 ⟨⟨U.1,by show x1<=_;omega⟩,⟨by show 0<=Z;omega,by show Z<=_;omega⟩,⟨D.1,by show C<=_;omega⟩,⟨by show C<C+1+E;omega,by show C+1+E<=_;omega⟩,⟨x6.toNat,1+x7,by omega,by omega,by omega,rfl⟩,⟨by show 5<=5+I;omega,by show 5+I<=_;omega⟩,⟨by show 60<=60+O;omega,by show 60+O<=_;omega⟩⟩
def ahm{b:aa Int}{c:bC}(C:kN b c):Dr b (IN c) rG:=by
 unfold IN;rw[C.eq]
 refine(au2 C).bind λT U O D=>?_
 dsimp only;rw[D.eta]
 refine(fC D 10).bind λE Y Z I=>?_
 dsimp only;rw[I.eta];rw[aZ];exact Dr.pure I ⟨O,by show 8 <= 8+E;omega,by show 8+E <= _;omega⟩
def au3{b:aa Int}{c:bC}(C:kN b c):Dr b (NR c) λg=>g.cm=1/\1<=g.aI/\g.aI<=2/\1<=g.aQ/\g.aQ<=2:=by
 unfold NR;rw[C.eq]
 refine(fC C 2).bind λD k1 E I=>?_
 dsimp only;rw[I.eta]
 refine(fC I 3).bind λx2 k2 O T=>?_
 dsimp only;rw[T.eta]
 refine(fC T 2).bind λU k3 Y Z=>?_
 dsimp only;rw[Z.eta];have a1:=E.2.2 (by omega);have a2:=O.2.2 (by omega);have a3:=Y.2.2 (by omega);have b1:=E.1;have b2:=O.1;have b3:=Y.1;rw[aZ,aZ,aZ];exact Dr.pure Z ⟨rfl,by show 1<=1+D;omega,by show 1+D<=_;omega,by show 1<=1+U;omega,by show 1+U<=_;omega⟩
def au4{b:aa Int}{c:bC}(C:kN b c):Dr b (NT c) λm=>0 <= m.order/\m.order <= 2:=by
 unfold NT;rw[C.eq]
 refine(fC C 3).bind λI T O D=>?_
 rw[D.eta]
 refine(Ql D 2).bind λU Y Z E=>?_
 rw[E.eta];exact Dr.pure E ⟨O.1,by show I <= 2;omega⟩
def lI(mV wr:Int):c8:=⟨3,3,7,2,3,10,2,3,mV,wr,4,5,4,12,3,4,16⟩
def QB(g:aF):Prop:=(1<=g.cm/\g.cm<=2)/\(1<=g.aI/\g.aI<=2)/\(4<=g.rows/\g.rows<=6)/\(1<=g.aQ/\g.aQ<=2)
def jq(x:eo):Prop:=QB x.ak/\(∃r w:Int,1<=r/\r<=4/\4<=w/\w<=8/\x.bQ=lI r w)/\(0<=x.mapping.order/\x.mapping.order<=2)/\(0<=x.bL/\x.bL<=2)/\(200<=x.interval/\x.interval<=259)/\x.gV=16/\x.di=⟨6*x.interval,40⟩
def ahn{b:aa Int}{c:bC}(O:kN b c):Dr b (IM c) jq:=by
 unfold IM;rw[O.eq]
 refine(au3 O).bind λg kg hg T=>?_
 dsimp only;rw[T.eta];obtain⟨g1,g2,g3,g4,g5⟩:=hg;show Dr b (Option.bind (some _) _) _;rw[au]
 refine(au4 T).bind λm km U Y=>?_
 dsimp only;rw[Y.eta]
 refine(fC Y 60).bind λC k1 Z AP=>?_
 dsimp only;rw[AP.eta]
 refine(fC AP 3).bind λD k2 h2 mC=>?_
 dsimp only;rw[mC.eta]
 refine(fC mC 2).bind λE k3 h3 qF=>?_
 dsimp only;rw[qF.eta]
 refine(fC qF 3).bind λx4 k4 h4 tY=>?_
 dsimp only;rw[tY.eta]
 refine(Ql tY 3).bind λx5 k5 h5 I=>?_
 dsimp only;rw[I.eta];have a1:=Z.2.2 (by omega);have a2:=h2.2.2 (by omega);have a3:=h3.2.2 (by omega);have a4:=h4.2.2 (by omega);have b1:=Z.1;have b2:=h2.1;have b3:=h3.1;have b4:=h4.1;have e1:W6 (200+C)=200+C:=aZ;have e2:W6 (6*(200+C))=6*(200+C):=aZ;have e3:W6 (4+D)=4+D:=aZ;have e4:W6 (1+E)=1+E:=aZ;rw[e1,e2,e3,e4];have hG:QB ⟨1+E,g.aI,4+D,g.aQ⟩:=⟨⟨by show 1<=1+E;omega,by show 1+E<=2;omega⟩,⟨g2,g3⟩,⟨by show 4<=4+D;omega,by show 4+D<=6;omega⟩,⟨g4,g5⟩⟩
 cases x5 with
 | true=>
  rw[aq]
  refine(fC I 5).bind λx6 k6 h6 BJ=>?_
  dsimp only;rw[BJ.eta]
  refine(fC BJ 4).bind λx7 k7 h7 BM=>?_
  dsimp only;rw[BM.eta];have a6:=h6.2.2 (by omega);have a7:=h7.2.2 (by omega);have b6:=h6.1;have b7:=h7.1;rw[aZ (n:=1+x7),aZ (n:=4+x6)];exact Dr.pure BM ⟨hG,⟨1+x7,4+x6,by omega,by omega,by omega,by omega,rfl⟩,U,⟨b4,by show x4<=2;omega⟩,⟨by show 200<=200+C;omega,by show 200+C<=259;omega⟩,rfl,rfl⟩
 |false=>exact Dr.pure I ⟨hG,⟨3,6,by omega,by omega,by omega,by omega,rfl⟩,U,⟨b4,by show x4<=2;omega⟩,⟨by show 200<=200+C;omega,by show 200+C<=259;omega⟩,rfl,rfl⟩
def jZ(p:aU->Bool)(q:aa aU):Nat:=(q.findIdx? p).getD q.length
def XA(p:aU -> Bool)(q:aa aU):jZ p q <= q.length:=by
 unfold jZ;cases h:q.findIdx? p with
 |none=>simp_all
 | some k=>
  have⟨C,_⟩:=rU.1 h
  grind
def jQ(p:aU->Bool)(q:aa aU)(r:aU):aa aU:=(q.take (jZ p q)++[r])++q.drop (jZ p q)
def XB(p:aU->Bool)(q:aa aU)(r:aU):(jQ p q r).length=q.length+1:=by
 have:=XA p q;simp[jQ];omega
def au5{p:aU -> Bool}{q:aa aU}{i:Nat}(h:i<jZ p q)(hi:i<q.length):p q[i]=false:=by
 unfold jZ at h;cases C:q.findIdx? p with
 |none =>simp_all
 | some k=>
  rw[C]at h;have⟨_,_,D⟩:=rU.1 C;simp_all
def au6{p:aU -> Bool}{q:aa aU}(h:jZ p q<q.length):p q[jZ p q]=true:=by
 unfold jZ at h;cases C:q.findIdx? p with
 |none=>grind
 | some k=>
  have⟨D,E,_⟩:=rU.1 C;have e:jZ p q=k:=by unfold jZ;rw[C];rfl
  simp_all
def XC{n:Int}{l:aa aU}(h:gK n l=true){i j:Nat}(E:i<j)(D:j<l.length):(l[i].id==l[j].id)=false:=by
 unfold gK at h;rw[aM,bT]at h;have C:=h.1 j (fS.2 D);unfold qN at C;rw[bK D]at C;simp at C;have:=C.2.2 l[i] (ki.2 ⟨i,by simp;omega,by simp⟩);simp_all
def aho{n:Int}{p:aU->Bool}{q:aa aU}{r:aU}(h:gK n (jQ p q r)=true):∀ x∈q,(x.id==r.id)=false:=by
 intro x D;have E:=XA p q;have hl:=XB p q r;obtain⟨i,hi,rfl⟩:=ki.1 D;have C:(jQ p q r)[jZ p q]'(by omega)=r:=by
  unfold jQ;rw[List.getElem_append_left (by simp;omega),List.getElem_append_right (by simp;omega)];simp
 by_cases c:i<jZ p q
 ·have e:(jQ p q r)[i]'(by omega)=q[i]:=by
   unfold jQ;rw[List.getElem_append_left (by simp;omega),List.getElem_append_left (by simp;omega),List.getElem_take]
  have:=XC h c (by omega);rw[e,C]at this;exact this
 ·have e:(jQ p q r)[i+1]'(by omega)=q[i]:=by
   unfold jQ;rw[List.getElem_append_right (by simp;omega),List.getElem_drop];congr 1;simp;omega
  have:=XC h (show jZ p q<i+1 by omega) (by omega);rw[e,C]at this;rw[auM];exact this
def ahp{p C:aU->Bool}:∀ {q:aa aU},(∀ x∈q,p x=C x)->q.findIdx? p=q.findIdx? C
 |[],_=>rfl
 | y :: q,h=>by
  rw[List.findIdx?_cons,List.findIdx?_cons,h y (.head _),ahp λx D=>h x (.tail _ D)]
def ahq{n:Int}{q:aa aU}{r:aU}(h:gK n (jQ (λx=>!fF x r) q r)=true\/gK n (jQ (λx=>fF r x) q r)=true):jQ (λx=>!fF x r) q r=jQ (λx=>fF r x) q r:=by
 have E:∀ x∈q,(x.id==r.id)=false:=by
  rcases h with h|h
  ·exact aho h
  ·exact aho h
 have C:∀ x∈q,(!fF x r)=fF r x:=by
  intro x C;have D:=E x C;have D:¬ x.id=r.id:=by simpa using D
  unfold fF;rw[Bool.eq_iff_iff];simp only[gd,nQ,Bool.and_eq_false_iff,pZ,beq_eq_false_iff_ne,dY,aM,gB,eZ];omega
 have e:jZ (λx=>!fF x r) q=jZ (λx=>fF r x) q:=by
  unfold jZ;rw[ahp C]
 unfold jQ;rw[e]
def DF(n:Int)(q:aa aU)(r:aU):aa aU×Bool:=bif gK n q&&gK n (jQ (λx=>fF r x) q r)then (jQ (λx=>fF r x) q r,true)else (q,false)
def XD(q:aa aU)(h:q.length<1073741824):JX q=some q:=by
 unfold JX xA xZ;rw[eE (by simpa using h)];rfl
def XE(r:aU):(⟨r.id,r.eG,r.line,r.write,r.data,r.at_⟩:aU)=r:=rfl
def au7(n:Int)(q:aa aU)(r:aU)(hl:q.length<1000000000):O6 n q r=some (DF n q r):=by
 have E:=XA (λx=>!fF x r) q;unfold O6 bR;have e:=eV (step:=JY) (jZ (λx=>!fF x r) q) (λi=>((n,q,(),(i:Int),()),((r.id,r.eG,r.line,r.write,r.data,r.at_,()),()))) (.inl ((n,q,(),((jZ (λx=>!fF x r) q:Nat):Int),()),((r.id,r.eG,r.line,r.write,r.data,r.at_,()),()))) bq (λk h=>by
  have C:=au5 h (by omega);have C:fF q[k] r=true:=by simpa using C
  unfold JY aE xG xI;dsimp only;rw[bf,aq,aK ⟨by omega,by omega⟩];simp only[bz];rw[XE,Qq,au,C,aq,bN]) (by
  unfold JY aE xG xI;dsimp only;by_cases c:jZ (λx=>!fF x r) q<q.length
  ·have C:=au6 c;have C:fF q[jZ (λx=>!fF x r) q] r=false:=by simpa using C
   rw[bf,aq,aK ⟨by omega,by omega⟩];simp only[bz];rw[XE,Qq,au,C,av]
  ·rw[br,av]) (bS)
 rw[cY]at e;rw[e,au];simp only[gq];rw[aW ⟨by omega,by omega,by omega⟩,aW ⟨by omega,by omega,by omega⟩];simp only[bz,Int.toNat_zero,List.drop_zero,List.take_length];rw[XE,XD _ (by simp;omega),au,eE (by simp;omega),aq,eE (by simp;omega),aq,Xj n q (by omega),au];unfold DF;have I:=XB (λx=>!fF x r) q r;cases O:gK n q with
 | false=>
  rw[Bool.not_false,aq,XD _ (by omega),au];rfl
 | true=>
  rw[bE,av];show (Db n (jQ (λx=>!fF x r) q r)).bind _=_;rw[Xj n _ (by omega),au,cw];cases C:gK n (jQ (λx=>!fF x r) q r)with
  | false=>
   have D:gK n (jQ (λx=>fF r x) q r)=false:=by
    cases D:gK n (jQ (λx=>fF r x) q r)with
    |false=>rfl
    |true=>rw[ahq (.inr D),D]at C;cases C
   rw[D,Bool.not_false,aq,XD _ (by omega),au];rfl
  | true=>
   have D:=ahq (.inl C);rw[<-D,C,bE,av,aq];rfl
abbrev au8:=((ah×ah×ah×(aa cI)×Int×Int×ah)×(ax×ax×(Int×Int×Int×Int×Int×Int×Int×Int×Int×Int×Int×Int×Int×Int×Int×Int×Int×Int×Int×Int×Int×Int×Bool×Int×Int×Int×Int×Int×Int×Int×Int×Int×Int×ah×Int×Int×Int×Int×Int×Int×Int×ah×Int×Int×Bool×Int×ah×Int×ah×ah×ah×ah×ah×Int×ah×ah×Int×Bool×ah×(aa Int)×(aa aO)×(aa aU)×(aa cQ)×Bool×Int×Int×Int×Int×Int×Int×Int×Int×(aa cr)×(aa dO)×(aa ey)×ah)×(aa Int)×(aa Int)×(aa gN)×(aa Int)×(aa Int)×(aa bO)×(aa Int)×(aa Int)×(aa Int)×(aa Int)×(aa cI)×ah))
def ou{α:Type}(l:aa α)(h:l.length<=1048577:=by omega):bX (([]:aa α).length+l.length)=true:=eE (by simp;omega)
def ahr(t:cI)(h:nH t):Fl t=some t:=by
 unfold Fl xA xZ;have C:=h.1;have D:=h.2;rw[ou _,ou _];rfl
def au9(s:au8)(D:s.1.2.2.2.2.2.1=0)(E:s.1.2.2.2.2.1=(s.1.2.2.2.1.length:Int))(I:s.2.2.2.2.2.2.2.2.2.2.2.2.2.2.1=[])(C:s.1.2.2.2.1.length <= 1048576 /\ ∀ y∈s.1.2.2.2.1,nH y):iter Fm bq s=some (.inl (((),(),(),()),(s.2.1,s.2.2.1,s.2.2.2.1,s.2.2.2.2.1,s.2.2.2.2.2.1,s.2.2.2.2.2.2.1,s.2.2.2.2.2.2.2.1,s.2.2.2.2.2.2.2.2.1,s.2.2.2.2.2.2.2.2.2.1,s.2.2.2.2.2.2.2.2.2.2.1,s.2.2.2.2.2.2.2.2.2.2.2.1,s.2.2.2.2.2.2.2.2.2.2.2.2.1,s.2.2.2.2.2.2.2.2.2.2.2.2.2.1,s.1.2.2.2.1,s.2.2.2.2.2.2.2.2.2.2.2.2.2.2.2))):=by
 have e:=eV (step:=Fm) s.1.2.2.2.1.length (λi=>(((),(),(),s.1.2.2.2.1,s.1.2.2.2.1.length,i,()),(s.2.1,s.2.2.1,s.2.2.2.1,s.2.2.2.2.1,s.2.2.2.2.2.1,s.2.2.2.2.2.2.1,s.2.2.2.2.2.2.2.1,s.2.2.2.2.2.2.2.2.1,s.2.2.2.2.2.2.2.2.2.1,s.2.2.2.2.2.2.2.2.2.2.1,s.2.2.2.2.2.2.2.2.2.2.2.1,s.2.2.2.2.2.2.2.2.2.2.2.2.1,s.2.2.2.2.2.2.2.2.2.2.2.2.2.1,s.1.2.2.2.1.take i,s.2.2.2.2.2.2.2.2.2.2.2.2.2.2.2))) _ bq (λk h=>by
  unfold Fm aE xG xI;dsimp only;rw[bf,aq,aK ⟨by omega,by omega⟩];simp only[bz];rw[ahr _ (C.2 _ (cX _)),au,eE (by simp;omega),aq,bN,Dv h]) (by
  unfold Fm aE xG xI;dsimp only;rw[br,av,List.take_length]) (bS)
 grind
def ahs(l:aa Int)(h:l.length <= 1048577):OU l=some l:=by
 cases l with
 |nil=>rfl
 | cons a l=>
  show (bif bX _ then some _ else none)=_;rw[ou _ h];rfl
def ava(l:aa aO)(h:l.length <= 1048577):Wb l=some l:=by
 cases l with
 |nil=>rfl
 | cons a l=>
  show (bif bX _ then some _ else none)=_;rw[ou _ h];rfl
def avb(l:aa aU)(h:l.length <= 1048577):Wc l=some l:=by
 cases l with
 |nil=>rfl
 | cons a l=>
  show (bif bX _ then some _ else none)=_;rw[ou _ h];rfl
def avc(l:aa cQ)(h:l.length <= 1048577):We l=some l:=by
 cases l with
 |nil=>rfl
 | cons a l=>
  show (bif bX _ then some _ else none)=_;rw[ou _ h];rfl
def avd(l:aa cr)(h:l.length <= 1048577):Wf l=some l:=by
 cases l with
 |nil=>rfl
 | cons a l=>
  show (bif bX _ then some _ else none)=_;rw[ou _ h];rfl
def ave(l:aa dO)(h:l.length <= 1048577):Wg l=some l:=by
 cases l with
 |nil=>rfl
 | cons a l=>
  show (bif bX _ then some _ else none)=_;rw[ou _ h];rfl
def avf(l:aa ey)(h:l.length <= 1048577):Wh l=some l:=by
 cases l with
 |nil=>rfl
 | cons a l=>
  show (bif bX _ then some _ else none)=_;rw[ou _ h];rfl
def XF(b:jE)(h:K3 b):Fi b=some b:=by
 have C:b.bW.weights.length <= 1048576:=h.1;have D:b.next.weights.length <= 1048576:=h.2
 unfold Fi ue xA xZ;rw[ou _,aq,ou _];rfl
def BN(c:ax)(D:cv c):A7 c=some c:=by
 obtain⟨E,I,O,C,T,U,Y,z8,z9,kL,lH,lY,kK,lZ⟩:=D;have y2:c.aN.aI.length<=1048576:=I;obtain⟨y3,y3'⟩:=O;have y5:c.spare.map.length<=1048576:=T;have y6:c.aD.aB.length<=1048576:=U;unfold A7 bR;rw[XF _ E,au];unfold Fj Fk zh xA xZ;rw[ou _,aq,au,ou _,aq,ou _,aq,au,agw _ (by have:=C.1.1;omega) (by have:=C.2.1;omega) (by have:=C.2.2;omega) (λx Z=>by have:x.symbols.length<=1048576:=C.1.2 x Z;omega),au,ahs _ (by omega),au,ou _,aq,au]
 refine(bB (λo=>Option.bind o _) (au9 _ rfl rfl rfl Y)).trans ?_
 rw[au];simp only[gq];rw[ahs c.guard (by omega),au,ava c.pending (by omega),au,avb c.queue (by omega),au,avc c.shares (by omega),au,avd c.errors (by omega),au,ave c.trace (by omega),au,avf c.bF (by omega),au];rfl
def fH{α:Type}(p:α->Bool)(q:aa α):Nat:=(q.findIdx? p).getD q.length
def Ge{α:Type}(p:α -> Bool)(q:aa α):fH p q <= q.length:=by
 unfold fH;cases h:q.findIdx? p with
 |none=>simp_all
 | some k=>
  have⟨C,_⟩:=rU.1 h
  grind
def vL{α:Type}{p:α -> Bool}{q:aa α}{i:Nat}(h:i<fH p q)(hi:i<q.length):p q[i]=false:=by
 unfold fH at h;cases C:q.findIdx? p with
 |none =>simp_all
 | some k=>
  rw[C]at h;have⟨_,_,D⟩:=rU.1 C;simp_all
def BO{α:Type}{p:α -> Bool}{q:aa α}(h:fH p q<q.length):p q[fH p q]=true:=by
 unfold fH at h;cases C:q.findIdx? p with
 |none=>grind
 | some k=>
  have⟨D,E,_⟩:=rU.1 C;have e:fH p q=k:=by unfold fH;rw[C];rfl
  simp_all
def XG{α:Type}(p:α -> Bool)(q:aa α):q.any p=decide (fH p q<q.length):=by
 by_cases c:fH p q<q.length
 ·rw[bf c,List.any_eq_true];exact⟨_,cX c,BO c⟩
 ·rw[br c,l8];intro x C;obtain⟨i,hi,rfl⟩:=ki.1 C;rw[vL (p:=p) (by omega) hi];simp
def avg(l:aa ey)(r:aU)(hl:l.length<=1048576):O7 l r=some (l.any λx=>x.id==r.id):=by
 have D:=Ge (λx:ey=>x.id==r.id) l;unfold O7 Wo;rw[XG];have e:=eV (step:=JZ) (fH (λx:ey=>x.id==r.id) l) (λi=>((l,r,(l.length:Int),(i:Int),()),())) (if fH (λx:ey=>x.id==r.id) l<l.length then .inl ((((fH (λx:ey=>x.id==r.id) l:Nat):Int),()),())else .inr (.inl ((),()))) bq (λk h=>by
  have C:=vL h (by omega);unfold JZ aE bk xG xI;dsimp only;rw[bf,aq,aK ⟨by omega,by omega⟩];simp only[bz];rw[C,av,bN]) (by
  unfold JZ aE bk xG xI;dsimp only;by_cases c:fH (λx:ey=>x.id==r.id) l<l.length
  ·rw[bf,aq,aK ⟨by omega,by omega⟩,aW c];simp only[bz];rw[BO c,aq]
  ·rw[br,av,aX c]) (bS)
 rw[cY]at e;rw[e,au];by_cases c:fH (λx:ey=>x.id==r.id) l<l.length
 ·rw[aW c,bf c,gq,au];dsimp only;rw[bf]
 ·rw[aX c,br c,Sum.elim_inr,gq,au];rfl
def nI(c:ax)(r:aU):aU:=⟨r.id,r.eG,r.line,r.write,r.data,c.now⟩
def ov(c:ax)(r:aU):aa aU×Bool:=DF (dB (dN c.config.ak c.spare)) c.queue (nI c r)
def mM(c:ax)(r:aU):ax×Bool:=bif (!cz c) ||((!(ov c r).2) ||(c.bF.any λx=>x.id==r.id))then (c,false)else ({ c with queue:=(ov c r).1 },true)
def aht(c:ax)(r:aU)(C:cv c):O8 c r=some (mM c r):=by
 unfold O8 mM;rw[BN c C,au,BI c C,au];obtain⟨E,I,O,T,U,Y,Z,z8,z9,kL,lH,lY,kK,D⟩:=C;cases h:cz c with
 |false=>rfl
 | true=>
  rw[bE,av,Bool.false_or,DC,au,Bn,au,au7 _ _ _ (by omega),au,avg _ _ D,au];show (bif !(ov c r).2 then some (c,false)else bif (c.bF.any λx=>x.id==r.id)then some (c,false)else some ({ c with queue:=(ov c r).1 },true))=_;cases (ov c r).2<;>cases (c.bF.any λx=>x.id==r.id)<;>rfl
def avh(c:ax)(r:aU)(h:c.queue.length <= 1048576):(ov c r).1.length <= 1048576:=by
 unfold ov DF;cases C:(gK _ _&&gK _ _)with
 |false=>exact h
 | true=>
  rw[aq];rw[aM]at C;have:=C.2;unfold gK at this
  grind
def avi(c:ax)(r:aU)(C:cv c):cv (mM c r).1:=by
 unfold mM;cases hb:((!cz c) ||((!(ov c r).2) ||(c.bF.any λx=>x.id==r.id)))with
 |true=>exact C
 | false=>
  have⟨D,E,I,O,T,U,Y,Z,z9,kL,lH,lY,kK,lZ⟩:=C;exact⟨D,E,I,O,T,U,Y,Z,z9,avh c r kL,lH,lY,kK,lZ⟩
def nb(l:aa UInt8):aa Int:=l.map λb=>(b.toNat:Int)
def dX(c:ax)(a:cL):ax:=⟨c.config,c.box,c.now,c.aN,c.ready,a,c.spare,c.aD,c.bA,c.guard,c.pending,c.queue,c.shares,c.drain,c.aR,c.dJ,c.errors,c.trace,c.bF⟩
def vM:bO:=⟨[],false⟩
def K6(d:bO):bO:=⟨(d.symbols.set 0 (bits .xor .i64 (d.symbols.getD 0 0) 5)).set 1 (bits .xor .i64 (d.symbols.getD 1 0) 10),d.kj⟩
def rH(base:Nat):Nat->aa bO->aa bO
 |0,cs=>cs
 |n+1,cs=>(rH base n cs).set (base+n) (K6 ((rH base n cs).getD (base+n) vM))
def QC(base:Nat):∀ (n:Nat) (cs:aa bO),(rH base n cs).length=cs.length
 |0,_=>rfl
 | n+1,cs=>by
  show ((rH base n cs).set _ _).length=_;rw[gR,QC]
def avj{d:bO}(h:Sy d.symbols):Sy (K6 d).symbols:=by
 have C:0<d.symbols.length:=by rw[h.1];omega
 have l1:1<d.symbols.length:=by rw[h.1];omega
 have I:d.symbols.getD 0 0=d.symbols[0]:=by rw[cK,bK C];rfl
 have O:d.symbols.getD 1 0=d.symbols[1]:=by rw[cK,bK l1];rfl
 have D:=Qi (h.get (k:=0) C) (b:=5) ⟨by omega,by omega⟩;have E:=Qi (h.get l1) (b:=10) ⟨by omega,by omega⟩;unfold K6;rw[I,O];exact(h.set ⟨D.1,D.2.1⟩).set ⟨E.1,E.2.1⟩
def XH{base:Nat}:∀ (n:Nat) {cs:aa bO},base+n <= cs.length -> (∀ c∈cs,Sy c.symbols) -> ∀ c∈rH base n cs,Sy c.symbols
 |0,cs,_,h=>h
 | n+1,cs,hl,h=>by
  have C:=XH (base:=base) n (by omega) h;have hlen:=QC base n cs;refine Sy.bJ C (avj ?_)
  grind
def rI(g:aF)(l:ko)(a:cL)(b r:Int):cL:=
 ⟨bif Bv l a (b*g.rows+r).toNat then rH ((b*g.rows+r)*g.aQ).toNat g.aQ.toNat a.cells else a.cells,a.bh.set (b*g.rows+r).toNat 0,oZ g.rows r (b*g.rows+r).toNat a.aY⟩
def XI{g:aF}(C:cq g=true){b r k:Int}(E:0 <= b)(I:b<aJ g)(O:0 <= r)(T:r<g.rows)(U:0 <= k)(Y:k<g.aQ):0 <= (b*g.rows+r)*g.aQ/\(b*g.rows+r)*g.aQ+k<dB g/\0 <= b*g.rows+r/\b*g.rows+r<fM g:=by
 have er:aJ g*g.rows=fM g:=by simp[fM,C]
 have⟨r0,Z,D⟩:=Br E I O T;rw[er]at D;have⟨q0,q1,q2⟩:=Br Z D U Y;have el:fM g*g.aQ=dB g:=by simp[fM,dB,C]
 simp_all
def avk{g:aF}(C:cq g=true)(c:ax){b r:Int}(hc:(c.array.cells.length:Int)=dB g)(Y:∀ x∈c.array.cells,Sy x.symbols)(E:0<=b)(I:b<aJ g)(O:0<=r)(T:r<g.rows):
  iter Ds bq (((),b,r,(),(0:Int),()),(c,(g.cm,g.aI,g.rows,g.aQ,()),()))=some (.inl (((),b,r,(),()),(dX c ⟨rH ((b*g.rows+r)*g.aQ).toNat g.aQ.toNat c.array.cells,c.array.bh,c.array.aY⟩,(g.cm,g.aI,g.rows,g.aQ,()),()))):=by
 obtain⟨_,_,_,_,g5,g6,g7,g8⟩:=fL C;have b1:=lD g;obtain⟨n,Z⟩:=dH (show 0<=g.aQ by omega);obtain⟨B,hB⟩:∃B,B=((b*g.rows+r)*g.aQ).toNat:=⟨_,rfl⟩
 have uQ:g.aQ.toNat=n:=by omega
 rw[<-hB,uQ];have mY:B+n<=c.array.cells.length:=by
  have:=XI C E I O T (show 0<=g.aQ-1 by omega) (by omega);omega
 have e:=eV (step:=Ds) n (λk=>(((),b,r,(),(k:Int),()),(dX c ⟨rH B k c.array.cells,c.array.bh,c.array.aY⟩,(g.cm,g.aI,g.rows,g.aQ,()),()))) (.inl (((),b,r,(),()),(dX c ⟨rH B n c.array.cells,c.array.bh,c.array.aY⟩,(g.cm,g.aI,g.rows,g.aQ,()),()))) bq (λk hk=>by
  have QD:dU g ⟨b,r,(k:Int)⟩=true:=xd C E I O T (by dsimp only;omega) (by dsimp only;omega);have hix:qK g ⟨b,r,(k:Int)⟩=((B+k:Nat):Int):=by
   have:=XI C E I O T (show 0<=(k:Int) by omega) (by omega);unfold qK;rw[QD,aq];dsimp only;omega
  have hlen:=QC B k c.array.cells;have U:=XH k (by omega:B+k<=c.array.cells.length) Y;show Ds (((),b,r,(),(k:Int),()),(dX c ⟨rH B k c.array.cells,c.array.bh,c.array.aY⟩,(g.cm,g.aI,g.rows,g.aQ,()),()))=some (.inl (((),b,r,(),((k+1:Nat):Int),()),(dX c ⟨(rH B k c.array.cells).set (B+k) (K6 ((rH B k c.array.cells).getD (B+k) vM)),c.array.bh,c.array.aY⟩,(g.cm,g.aI,g.rows,g.aQ,()),())));generalize rH B k c.array.cells=cs at hlen U;have D:B+k<cs.length:=by omega
  have s1:=Sy.mem U D;have l1:(0:Nat)<cs[B+k].symbols.length:=by rw[s1.1];omega
  have l2:(1:Nat)<cs[B+k].symbols.length:=by rw[s1.1];omega
  have c2:decide ((k:Int)<g.aQ)=true:=bf;have AN:cs.getD (B+k) vM=cs[B+k]:=by rw[cK,bK D];rfl
  have f0:cs[B+k].symbols.getD 0 0=cs[B+k].symbols[0]:=by rw[cK,bK l1];rfl
  have f1:cs[B+k].symbols.getD 1 0=cs[B+k].symbols[1]:=by rw[cK,bK l2];rfl
  rw[AN];unfold K6;rw[f0,f1];unfold Ds dX xC aE xG xL xM;dsimp only;rw[c2,aq,mH g,FX,au,hix];generalize B+k=j at D s1 l1 l2;simp (disch:=omega) [D,bN,l1,l2]) (by unfold Ds xC aE xG xL xM;simp[Z]) (bS)
 exact e
def avl(c:ax){R k:Int}{nb:aa Int}(hl:nb.length<1000)(E:∀ n∈nb,0<=n/\n<R)(U:0<=k)(Y:k+R<=(c.array.aY.length:Int))(Z:c.array.aY.length<1000000)(hb:∀ x∈c.array.aY,0<=x/\x<=100000):
  iter Bj bq (((),k,(),(nb.length:Int),(0:Int),()),(c,nb,()))=some (.inl ((),(dX c ⟨c.array.cells,c.array.bh,nb.foldl (λh n=>oY (k+n).toNat h) c.array.aY⟩,()))):=by
 have e:=eV (step:=Bj) nb.length (λi=>(((),k,(),(nb.length:Int),(i:Int),()),(dX c ⟨c.array.cells,c.array.bh,(nb.take i).foldl (λh n=>oY (k+n).toNat h) c.array.aY⟩,nb,()))) (.inl ((),(dX c ⟨c.array.cells,c.array.bh,nb.foldl (λh n=>oY (k+n).toNat h) c.array.aY⟩,()))) bq (λj h=>by
  have hx:=E _ (cX h);have I:=ahc k (nb.take j) c.array.aY;have hB:=ahd k (nb.take j) c.array.aY hb;rw[List.take_succ_eq_append_getElem h,List.foldl_append];simp only[List.foldl_cons,List.foldl_nil];generalize (nb.take j).foldl (λh n=>oY (k+n).toNat h) c.array.aY=G at I hB;obtain⟨q,D⟩:=dH (show 0<=k+nb[j] by omega);have C:q<G.length:=by omega
  have hg:=hB _ (cX C);have O:W6 (k+nb[j])=(q:Int):=by rw[D];exact aZ
  have T:W6 (G[q]+1)=G[q]+1:=aZ;rw[D,bz,atA C];unfold Bj dX aE xG xL;simp (disch:=omega) [h,O,C,T,bN,oh]) (by unfold Bj aE xG xL;simp) (bS)
 rw[cY,List.take_zero,List.foldl_nil]at e;exact e
def XJ{g:aF}(D:cq g=true)(l:ko){B:Int}(hB:0 <= B){a:cL}(C:eY g B a){b r:Int}(E:0 <= b)(I:b<aJ g)(O:0 <= r)(T:r<g.rows):eY g B (rI g l a b r):=by
 have⟨_,_,_,_,Y,Z,g7,g8⟩:=fL D;have U:((b*g.rows+r)*g.aQ).toNat+g.aQ.toNat <= a.cells.length:=by
  have:=XI D E I O T (show 0 <= g.aQ-1 by omega) (by omega);have:=C.cells;omega
 unfold rI;refine⟨?_,?_,by simp[C.bh],by simp[atC,C.aY],Qm C.FZ ⟨by omega,by omega⟩,atE C.hit⟩
 ·dsimp only;cases Bv l a (b*g.rows+r).toNat with
  |false=>exact C.cells
  |true=>rw[aq,QC];exact C.cells
 ·dsimp only;cases Bv l a (b*g.rows+r).toNat with
  |false=>exact C.syms
  |true=>rw[aq];exact XH _ U C.syms
def ahu{g:aF}(Y:cq g=true)(l:ko){B:Int}(c:ax)(C:eY g B c.array){b r:Int}(Z:0<=b)(h2:b<aJ g)(D:0<=r)(E:r<g.rows):Kr g l c b r=some ((),(dX c (rI g l c.array b r),())):=by
 obtain⟨_,_,_,_,g5,g6,g7,g8⟩:=fL Y;have b2:=rD g;have er:aJ g*g.rows=fM g:=by simp[fM,Y]
 obtain⟨r0,r1,r2⟩:=Br Z h2 D E;rw[er]at r2;have hk:b*g.rows+g.rows<=fM g:=by
  have:=(Br Z h2 (show 0<=g.rows-1 by omega) (show g.rows-1<g.rows by omega)).2.2;omega
 have a1:=C.bh;have a2:=C.aY;have I:W6 (b*g.rows)=b*g.rows:=aZ;have e2:W6 (b*g.rows+r)=b*g.rows+r:=aZ;have eL:=avk Y c C.cells C.syms Z h2 D E;unfold rI;generalize rH ((b*g.rows+r)*g.aQ).toNat g.aQ.toNat c.array.cells=cs at eL;obtain⟨i,hi⟩:=dH r1;obtain⟨k,O⟩:∃k,k=b*g.rows:=⟨_,rfl⟩
 rw[<-O]at hi hk I e2 r0 r1 r2;unfold Kr bR xL;rw[<-O,I,e2];rw[hi]at r2;rw[hi,bz];have T:i<c.array.bh.length:=by omega
 have U:i<c.array.aY.length:=by omega
 have Tz:PN g l c.array b r=some (Bv l c.array i):=by
  unfold PN xI;have XK:W6 (i:Int)=i:=aZ;simp only[<-O,I,hi,XK];unfold Bv;simp only[cK,bK T,bK U,Option.getD_some];by_cases h:c.array.bh[i] > l.bh<;>simp[T,U,h]
 rw[Tz,au];have b1:=Qm C.hit (k:=i) (v:=0) ⟨by omega,by omega⟩;have Ex:=aha g5 g6 D E;have tG:=auO g.rows r;have XL:∀ cells:aa bO,iter Bj bq (((),k,(),((iN g.rows r).length:Int),(0:Int),()),(dX c ⟨cells,c.array.bh.set i 0,c.array.aY.set i 0⟩,iN g.rows r,()))=some (.inl ((),(dX c ⟨cells,c.array.bh.set i 0,oZ g.rows r i c.array.aY⟩,()))):=λcells=>by
  have:=avl (dX c ⟨cells,c.array.bh.set i 0,c.array.aY.set i 0⟩) (R:=g.rows) (k:=k) (nb:=iN g.rows r) (by omega) (ahb D E) r0 (by simp[dX];omega) (by simp[dX];omega) b1;simp only[dX]at this ⊢;rw[auP hi r0 D]at this;exact this
 have h2x:WM=Bj:=rfl;unfold dX at XL eL ⊢;cases Bv l c.array i with
 | false=>
  simp[T,U,Ex,h2x,XL]
 | true=>
  rw[aq,eL];have XK:W6 (i:Int)=i:=aZ;simp[<-O,I,XK,hi,T,U,Ex,XL]
def avm{c:eo}{p:cR}(hl:p.weights.length<1073741823)(h:mL c p=true):jN c.bQ=true:=by
 have⟨b,e,C⟩:=Xh c p hl;have hb:b=true:=by
  rw[DE c p hl]at e;simp_all
 have:=C hb;simp[nD,aM]at this;simp_all
def kR(i:Nat):aT:=⟨(i:Int) % 9+1,if (i:Int) % 9+1<=5 then (i:Int) / 9 else 0,0,0⟩
def uz(n m:Int):Int:=if n > m then n else m
def QE(g:aF)(t:c8)(l:aa Int)(c:aT)(m:Int)(i:Nat):Int:=match l[i]? with
 |some n=>bif decide (n<0)then m else uz (n+ij g t (kR i) c) m
 |none=>m
def uA(g:aF)(t:c8)(l:aa Int)(c:aT)(k:Nat):Int:=(List.range k).foldl (QE g t l c) 0
def mN(g:aF)(t:c8)(r:ef)(c:aT):Int:=
 bif c.kind==1&&(r.bg.length:Int)==4 then uz (r.bg.getD 0 0+t.mg) (uA g t r.last c r.last.length)else uA g t r.last c r.last.length
def QF(g:aF)(t:c8)(l:aa Int)(c:aT)(k:Nat):uA g t l c (k+1)=QE g t l c (uA g t l c k) k:=by
 unfold uA;rw[List.range_succ,List.foldl_append];rfl
def QG{g:aF}{t:c8}{l:aa Int}{c:aT}{m:Int}{i:Nat}(h:i<l.length):QE g t l c m i=bif decide (l[i]<0)then m else uz (l[i]+ij g t (kR i) c) m:=by
 unfold QE;rw[bK h]
def avn{a b C:Int}(D:a<=C)(hb:0<=b/\b<=C):0<=uz a b/\uz a b<=C:=by
 unfold uz;split<;>omega
structure K7 (g:aF) (t:c8) (r:ef):Prop where
 uC:cq g=true
 QH:jN t=true
 len:r.last.length<1000
 last:∀(i:Nat) (h:i<r.last.length),(-1<=r.last[i]/\r.last[i]<=1000000)/\(r.last[i] = -1\/oq g i=true)
 a4:r.bg.length<=4
 act:∀x∈r.bg,0<=x/\x<=1000000
def avo{g:aF}{t:c8}{r:ef}(E:jN t=true)(h:jo g r=true):K7 g t r:=by
 have hb:=eI g;simp only[jo,aM,bT,fS]at h;have⟨I,C,D,O,T⟩:=h;have C:(r.last.length:Int)=9*(aJ g+1):=by simpa using C
 have D:¬ (r.bg.length:Int) > 4:=by simpa using D
 refine⟨I,E,by omega,λi hi=>?_,by omega,λx U=>?_⟩
 ·have e:=O i hi;rw[KU hi]at e;simp only[aM,dY]at e;refine⟨bu.1 e.1,?_⟩
  grind
 ·obtain⟨i,hi,rfl⟩:=ki.1 U;have e:=T i hi;cases i with
  |zero=>rw[KV hi]at e;exact bu.1 e
  |succ i=>rw[F3 hi]at e;simp at e;exact bu.1 e.1
def avp(i:Nat):1<=(kR i).kind/\(kR i).kind<=9:=by
 unfold kR;dsimp only;omega
def avq{g:aF}{i:Nat}(C:oq g i=true):(kR i).kind <= 5 -> 0 <= (kR i).ay/\(kR i).ay<aJ g:=by
 unfold oq at C;unfold kR
 grind
def avr{g:aF}{i:Nat}(hi:i<1000)(C:oq g i=true):∃ b,C8 g (i:Int)=some (kR i,b):=by
 have E:=C;unfold oq at C;unfold C8 kR;rw[kM,au,sX (by omega),rT (by omega),aZ,aZ,KT,au];cases D:decide ((i:Int) / 9<aJ g)with
 |true =>simp_all
 | false=>
  rw[D]at C;have I:¬ (i:Int) % 9+1 <= 5:=by
   simp_all
  simp[*]
def XM{g:aF}{t:c8}{r:ef}(h:K7 g t r)(c:aT):∀ k,k <= r.last.length -> 0 <= uA g t r.last c k/\uA g t r.last c k <= 1000128
 |0,_=>⟨eW _,by show 0 <= _;omega⟩
 | k+1,D=>by
  have C:=XM h c k (by omega);rw[QF,QG (by omega)];have E:=ag1 h.QH g (kR k) c;have hl:=(h.last k (by omega)).1;cases decide (r.last[k]<0)with
  |true=>exact C
  |false=>exact avn (by omega) C
def avs{g:aF}{t:c8}{r:ef}(h:K7 g t r)(c:aT):0 <= mN g t r c:=by
 have C:=XM h c _ (dg _);unfold mN uz
 grind
def avt{g:aF}{t:c8}{r:ef}{c:aT}(h:K7 g t r)(Z:jo g r=true)(C:dz g c=true):Po g t r c=some (bif decide (mN g t r c > 1000000)then -1 else mN g t r c):=by
 have hb:=λk D=>XM h c k D
 have T:(1<=c.kind/\c.kind<=9)/\(c.kind<=5->0<=c.ay/\c.ay<aJ g):=by
  simp only[dz,aM]at C
  refine⟨bu.1 C.2.1,λh5=>?_⟩
  have E:=C.2.2.1;rw[auv (bu.1 C.2.1),bf h5]at E;have:=bu.1 E;omega
 have e:=eV (step:=Kg) r.last.length (λi=>(((),(),(),(),uA g t r.last c i,r.last,(r.last.length:Int),(i:Int),()),((g.cm,g.aI,g.rows,g.aQ,()),t,(r.last,r.bg,()),(c.kind,c.ay,c.row,c.bZ,()),()))) (.inl (((),(),(),uA g t r.last c r.last.length,()),(t,(r.last,r.bg,()),(c.kind,c.ay,c.row,c.bZ,()),()))) bq (λk D=>by
  have E:=h.len;have h2:=(h.last k D).1;have h3:=hb k (by omega);have hg:=ag1 h.QH g (kR k) c;unfold Kg aE xG xI;dsimp only;rw[bf,aq,aK ⟨by omega,by omega⟩,bN];simp only[bz];rw[QF,QG D];cases hd:decide (r.last[k]<0)with
  |true=>rfl
  | false=>
   have ayV:¬ r.last[k]<0:=by simpa using hd
   have U:oq g k=true:=by
    rcases(h.last k D).2 with h9|h9
    ·omega
    ·exact h9
   obtain⟨b,eb⟩:=avr (g:=g) (i:=k) (by omega) U;rw[av,av,mH,eb,au];show Option.bind (Kd g t (kR k) c) _=_;rw[auw t h.uC (avp k) T.1 (avq U) T.2,au,aZ (n:=r.last[k]+_)];rfl) (by
  unfold Kg aE xG xI;dsimp only;rw[br,av]) (bS (by have:=h.len;omega))
 rw[cY]at e;unfold Po mN xI bR;rw[KM,au,h.QH,bE,av,Xl,au,Z,bE,av,Xp,au,C,bE,av]
 refine(bB (λo=>Option.bind o _) e).trans ?_
 rw[au];simp only[gq];have hL:=hb r.last.length (dg _);have hf:=auF h.QH;have I:∀m:Int,(bif decide (m > 1000000)then some (-1:Int)else some m)=some (bif decide (m > 1000000)then -1 else m):=λm=>by cases decide (m > 1000000)<;>rfl
 cases c.kind==(1:Int)with
 |false=>exact I _
 | true=>
  cases Y:(r.bg.length:Int)==(4:Int)with
  |false=>exact I _
  | true=>
   have Y:(r.bg.length:Int)=4:=by simpa using Y
   have O:0<r.bg.length:=by omega
   have ha:=h.act _ (cX O);rw[aq,aq,aK ⟨by omega,O⟩];show (bif decide ((if W6 (r.bg[0]+t.mg) > _ then W6 (r.bg[0]+t.mg)else _) > 1000000)then _ else some (if W6 (r.bg[0]+t.mg) > _ then W6 (r.bg[0]+t.mg)else _))=_;rw[aZ,cK,bK O];exact I _
def de(c:ax)(x:aT):Bool:=lG c.aN x&&(decide (mN c.config.ak c.config.bQ c.ready x<=1000000)&&decide (mN c.config.ak c.config.bQ c.ready x<=c.now))
structure Pk (c:ax):Prop where
 z:cv c
 ok:cz c=true
 rk:lF c.config.ak c.aN=true
 XN:jo c.config.ak c.ready=true
 R:K7 c.config.ak c.config.bQ c.ready
 bl:(c.aN.aI.length:Int)=aJ c.config.ak
def Pk.of{c:ax}(C:cv c)(h:cz c=true):Pk c:=by
 have T:c.box.bW.weights.length <= 1048576:=C.1.1;have I:=h;simp[cz,aM]at h;have⟨O,U,Y,D,E,Z,h7,h8,h9,F6,zq,qz,rF,vE,vF,sJ,Bk,Bl,Gf,K8,Bg,Dt⟩:=h;have hb:c.aN.aI.length=aJ c.config.ak:=by
  simp[lF,aM]at D;simp_all
 exact⟨C,I,D,E,avo (avm (by omega) O) E,hb⟩
def zz{c:ax}(h:Pk c){x:aT}(C:dz c.config.ak x=true):jn c x=some (de c x):=by
 have D:=avs h.R x;unfold jn de;rw[Xq,au,h.rk,C,cw,cw,avt h.R h.XN C,au]
 grind
def bV(i:Nat):aa Int->aa Int
 |[]=>[]
 |d::l=>bif decide (d >= 4)then (i:Int)::bV (i+1) l else bV (i+1) l
def avu(i:Nat)(a b:aa Int):bV i (a++b)=bV i a++bV (i+a.length) b:=by
 induction a generalizing i with
 |nil=>rfl
 | cons d a C=>
  rw[List.cons_append,bV,bV,C,show i+1+a.length=i+(a.length+1) by omega]
  grind
def XO(i:Nat)(l:aa Int):(bV i l).length <= l.length:=by
 induction l generalizing i with
 |nil=>exact dg _
 | cons d l C=>
  have:=C (i+1);unfold bV
  grind
def avv{l:aa Int}{i:Nat}(h:i<l.length):bV 0 (l.take (i+1))=bif decide (l[i] >= 4)then bV 0 (l.take i)++[(i:Int)]else bV 0 (l.take i):=by
 rw[Dv h,avu,kU,Nat.min_eq_left (by omega),fO];show _++(bif decide _ then _::bV _ []else bV _ [])=_;cases decide (l[i] >= 4)with
 |true=>rfl
 |false=>exact List.append_nil _
def ahv{l:aa Int}{i:Nat}{b:Int}(h:b∈bV i l):∃ j:Nat,b=((i+j:Nat):Int)/\j<l.length/\l.getD j 0 >= 4:=by
 induction l generalizing i with
 |nil=>cases h
 | cons d l D=>
  unfold bV at h;have tl:b∈bV (i+1) l -> ∃ j:Nat,b=((i+j):Int)/\j<(d :: l).length/\(d :: l).getD j 0 >= 4:=λh=>by
   have⟨j,E,I,O⟩:=D h;exact⟨j+1,by rw[E];omega,by simpa using I,by simpa using O⟩
  cases C:decide (d >= 4)with
  | true=>
   rw[C]at h;rcases gU.1 h with rfl|h
   ·exact⟨0,rfl,by simp,by simpa using C⟩
   ·exact tl h
  |false =>grind
def vN{r:dI}(h:fD r=true):r.aB.length<=8/\1<=r.aB.length:=by
 simp only[fD,aM]at h;have:=bu.1 h.2.1;omega
def XP{r:dI}(C:fD r=true):FA r=some (bV 0 r.aB):=by
 have hl:=vN C;unfold FA bR;rw[F0 _ (by omega),au,C,bE,av];have e:=eV (step:=J4) r.aB.length (λi=>(((),r.aB,(r.aB.length:Int),(i:Int),()),(bV 0 (r.aB.take i),()))) (.inl (((),()),(bV 0 r.aB,()))) bq (λi h=>by
  have D:=XO 0 (r.aB.take i);rw[kU]at D;unfold J4 aE xG xI;dsimp only;rw[bf,aq,aK ⟨by omega,by omega⟩,bN,avv h];simp only[bz];cases decide (r.aB[i] >= 4)with
  |true=>rw[aq,aq,List.length_singleton,eE,aq]
  |false=>rfl) (by
  unfold J4 aE xG xI;dsimp only;rw[br,av,List.take_length]) (bS)
 rw[cY]at e
 refine(bB (λo=>Option.bind o _) e).trans ?_
 rfl
def mO(c:ax):Bool:=decide ((c.queue.length:Int) > 0) ||(decide ((c.pending.length:Int) > 0) ||decide (((bV 0 c.aD.aB).length:Int) > 0))
def ahw{c:ax}(C:fD c.aD=true):Bb c=some (mO c):=by
 unfold Bb mO;rw[XP C]
 grind
def xo(r:uK)(p:iF)(b:Bool):Int:=
 bif b then (bif p.state==1 then 7 else bif p.state==2 then 9 else 0)else bif p.state==0&&decide (p.idle >= r.sleep)then 8 else bif p.state==0&&decide (p.idle >= r.down)then 6 else bif p.state==1&&decide (p.idle >= r.sleep)then 7 else 0
def avw(r:uK)(p:iF)(b:Bool)(C:Bz r=true)(D:kO p=true):Pu r p b=some (xo r p b):=by
 unfold Pu xo;rw[agI,au,C,bE,Qr,au,D,bE]
 grind
def avx(r:uK)(p:iF)(b:Bool):xo r p b=0 \/ 6 <= xo r p b/\xo r p b <= 9:=by
 unfold xo
 grind
def DG(may:Nat->Bool)(v:Nat->Int)(C:Int)(i:Nat):Int:=bif may i&&(decide (C<0) ||decide (v i > v C.toNat))then (i:Int)else C
def mP(may:Nat->Bool)(v:Nat->Int)(k:Nat):Int:=(List.range k).foldl (DG may v) (-1)
def K9(may:Nat->Bool)(v:Nat->Int)(k:Nat):mP may v (k+1)=DG may v (mP may v k) k:=by
 unfold mP;rw[List.range_succ,List.foldl_append];rfl
def vO(may:Nat -> Bool)(v:Nat -> Int):∀ k,-1 <= mP may v k/\mP may v k<k
 |0=>⟨eW _,by show (-1)<0;omega⟩
 | k+1=>by
  have C:=vO may v k;rw[K9];unfold DG
  grind
def DH(may:Nat -> Bool)(v:Nat -> Int):∀ k,mP may v k = -1 \/ may (mP may v k).toNat=true
 |0=>.inl rfl
 | k+1=>by
  have C:=DH may v k;rw[K9];unfold DG
  grind
def Lb{may:Nat -> Bool}(v:Nat -> Int){i:Nat}(h:may i=true):∀ k,i<k -> 0 <= mP may v k
 |0,C=>by omega
 | k+1,C=>by
  have hb:=vO may v k;rw[K9];unfold DG;by_cases D:i=k
  ·grind
  ·have E:=Lb v h k (by omega)
   grind
def pn(l:aa cQ)(w:aa Bool):Int:=mP (λi=>w.getD i false) (λi=>(l.getD i ⟨0,0⟩).fP) (min l.length w.length)
def Gg(l:aa cQ)(w:aa Bool)(hl:l.length<1073741824):Kj l w=some (pn l w):=by
 unfold Kj pn bR;generalize T:min l.length w.length=n;have e:=eV (step:=Ki) n (λi=>((l,w,mP (λi=>w.getD i false) (λi=>(l.getD i ⟨0,0⟩).fP) i,(i:Int),()),())) (.inl ((mP (λi=>w.getD i false) (λi=>(l.getD i ⟨0,0⟩).fP) n,()),())) bq (λi h=>by
  have C:i<l.length:=by omega
  have O:i<w.length:=by omega
  have hb:=vO (λi=>w.getD i false) (λi=>(l.getD i ⟨0,0⟩).fP) i;rw[K9];generalize mP (λi=>w.getD i false) (λi=>(l.getD i ⟨0,0⟩).fP) i=D at hb;unfold Ki DG aE xG xI;dsimp only;rw[bf,aq,bf,aq,aK ⟨by omega,by omega⟩,bN];simp only[bz,cK,bK O,bK C,Option.getD_some];cases w[i]with
  |false=>rfl
  | true=>
   rw[aq,cw];by_cases E:D<0
   ·rw[bf E];rfl
   ·have I:D.toNat<l.length:=by omega
    rw[br E,aK ⟨by omega,C⟩,aK ⟨by omega,I⟩,bK I,Option.getD_some];cases decide (l[i].fP > l[D.toNat].fP)<;>rfl) (by
  unfold Ki aE xG xI;dsimp only;by_cases C:n<l.length
  ·rw[bf,aq,br,av]
  ·rw[br,av]) (bS)
 rw[cY]at e
 refine(bB (λo=>Option.bind o _) e).trans ?_
 rfl
def DI(s:cQ):cQ:=⟨s.weight,s.weight⟩
def gy(l:aa cQ):aa cQ:=l.map DI
def XQ(l:aa cQ)(w:aa Bool)(hl:l.length<1073741824):iter FH bq ((w,(),(l.length:Int),(0:Int),()),(l,()))=some (.inl ((w,(),()),(gy l,()))):=by
 have e:=eV (step:=FH) _ (λi=>((w,(),l.length,i,()),(upto DI l i,()))) (.inl ((w,(),()),(gy l,()))) bq (λi h=>by
  have hlen:=Qb DI l i;unfold FH aE xG xL;dsimp only;rw[bf,aq,aK ⟨by omega,by omega⟩,aK,aK ⟨by omega,by omega⟩,aK,bN];simp only[bz];rw[W0 DI l i h,<- W2 DI l i h];rfl) (by
  unfold FH aE xG xL;dsimp only;rw[br,av,WZ];rfl) (bS hl)
 exact e
def XR{l:aa cQ}(w:aa Bool)(hl:l.length<1073741823)(D:iM l=true)(U:l.length=w.length):∃ y t,rC l w=some (y,t)/\y.length=l.length:=by
 unfold rC xA xC bR xL xZ;have hb:=vO (λi=>w.getD i false) (λi=>(l.getD i ⟨0,0⟩).fP) (min l.length w.length);have E:(gy l).length=l.length:=by simp[gy]
 have I:=vO (λi=>w.getD i false) (λi=>((gy l).getD i ⟨0,0⟩).fP) (min (gy l).length w.length);have O:=DH (λi=>w.getD i false) (λi=>(l.getD i ⟨0,0⟩).fP) (min l.length w.length);rw[List.nil_append,Gg l w (by omega),au,KP _ (by omega),au,D,bE,av,List.length_nil,fO,eE,aq];unfold pn;generalize Y:mP (λi=>w.getD i false) (λi=>(l.getD i ⟨0,0⟩).fP) (min l.length w.length)=b at *
 by_cases T:b<0
 ·simp_all
 ·have C:b.toNat<l.length:=by omega
  rw[br T,av,aK ⟨by omega,C⟩,aK C];dsimp only;cases l[b.toNat].fP==0 with
  |false =>simp_all
  | true=>
   rw[aq,XQ l w (by omega),au];simp only[gq];rw[Gg _ w (by omega),au];have Z:0 <= pn (gy l) w:=Lb _ (i:=b.toNat) (by rcases O with h|h;exact absurd h (by omega);exact h) _ (by rw[E];omega);have hq:pn (gy l) w<((min (gy l).length w.length:Nat):Int):=I.2;simp_all
def BP(m:nR)(n:Int)(a:aO):aO:=bif m.hash then ⟨(a.ay+a.row) % n,a.row,a.bZ⟩else a
def zB(g:aF)(m:nR)(l:Int):aO:=BP m (aJ g)
 (bif m.order==0 then ⟨l / g.aQ % aJ g,l / g.aQ / aJ g,l % g.aQ⟩else bif m.order==1 then ⟨l % aJ g,l / aJ g / g.aQ,l / aJ g % g.aQ⟩else ⟨l / g.aQ / g.rows,l / g.aQ % g.rows,l % g.aQ⟩)
def Gh{l a b:Int}(C:0<=l)(hb:0<b)(h:l<a*b):0<=l / b/\l / b<a/\l / b<=l:=by
 refine⟨Int.ediv_nonneg C (by omega),Int.ediv_lt_of_lt_mul hb h,?_⟩;exact Int.ediv_le_self _ C
def BQ{l b:Int}(hb:0<b):0<=l % b/\l % b<b:=⟨Int.emod_nonneg _ (by omega),Int.emod_lt_of_pos _ hb⟩
def XS{m:nR}{n:Int}{a:aO}(C:0<n)(hb:0 <= a.ay/\a.ay<n):0 <= (BP m n a).ay/\(BP m n a).ay<n/\(BP m n a).row=a.row/\(BP m n a).bZ=a.bZ:=by
 unfold BP;cases m.hash with
 |false=>simp_all
 |true=>exact⟨(BQ C).1,(BQ C).2,rfl,rfl⟩
def XT{m:nR}{n b r c:Int}(C:0<n)(D:n<=8)(E:0<=b/\b<=100000)(I:0<=r/\r<=100000):(bif m.hash then if n=0 then none else some ((⟨(W6 (b+r)).tmod n,r,c⟩:aO),true)else some ((⟨b,r,c⟩:aO),true))=some (BP m n ⟨b,r,c⟩,true):=by
 unfold BP;cases m.hash with
 |false=>rfl
 |true=>rw[aq,aX,aZ,rT (by omega),aq]
def ahx{g:aF}{m:nR}{l:Int}(T:cq g=true)(hm:aP m.order 0 2=true)(D:0<=l)(hl:l<dB g):∀ (f:aj (aO×Bool)),f=(bif (m.order==(0:Int))then if g.aQ=0 then none else if g.aQ=0 then none else if aJ g=0 then none else if g.aQ=0 then none else if aJ g=0 then none else bif m.hash then if aJ g=0 then none else some ((⟨((W6 (((W6 (l.tdiv g.aQ)).tmod (aJ g))+(W6 ((W6 (l.tdiv g.aQ)).tdiv (aJ g))))).tmod (aJ g)),(W6 ((W6 (l.tdiv g.aQ)).tdiv (aJ g))),(l.tmod g.aQ)⟩:aO),true)else some ((⟨((W6 (l.tdiv g.aQ)).tmod (aJ g)),(W6 ((W6 (l.tdiv g.aQ)).tdiv (aJ g))),(l.tmod g.aQ)⟩:aO),true)else bif (m.order==(1:Int))then if aJ g=0 then none else if aJ g=0 then none else if g.aQ=0 then none else if aJ g=0 then none else if g.aQ=0 then none else bif m.hash then if aJ g=0 then none else some ((⟨((W6 ((l.tmod (aJ g))+(W6 ((W6 (l.tdiv (aJ g))).tdiv g.aQ)))).tmod (aJ g)),(W6 ((W6 (l.tdiv (aJ g))).tdiv g.aQ)),((W6 (l.tdiv (aJ g))).tmod g.aQ)⟩:aO),true)else some ((⟨(l.tmod (aJ g)),(W6 ((W6 (l.tdiv (aJ g))).tdiv g.aQ)),((W6 (l.tdiv (aJ g))).tmod g.aQ)⟩:aO),true)else if g.aQ=0 then none else if g.aQ=0 then none else if g.rows=0 then none else if g.aQ=0 then none else if g.rows=0 then none else bif m.hash then if aJ g=0 then none else some ((⟨((W6 ((W6 ((W6 (l.tdiv g.aQ)).tdiv g.rows))+((W6 (l.tdiv g.aQ)).tmod g.rows))).tmod (aJ g)),((W6 (l.tdiv g.aQ)).tmod g.rows),(l.tmod g.aQ)⟩:aO),true)else some ((⟨(W6 ((W6 (l.tdiv g.aQ)).tdiv g.rows)),((W6 (l.tdiv g.aQ)).tmod g.rows),(l.tmod g.aQ)⟩:aO),true))->f=some (zB g m l,true)/\dU g (zB g m l)=true:=by
 have hb:=eI g;have hp:=FW T;have hL:=lD g;have gb:=fL T;have eL:dB g=aJ g*g.rows*g.aQ:=by simp[dB,T]
 have yc:aP l 0 (W6 (dB g-1))=true:=by rw[aZ];exact bu.2 ⟨D,by omega⟩
 have ho:=bu.1 hm;rw[eL]at hl;have QI:¬ aJ g=0:=by omega
 have su:¬ g.aQ=0:=by omega
 have jd:¬ g.rows=0:=by omega
 rintro f rfl;simp only[aX QI,aX su,aX jd];unfold zB;by_cases o0:m.order=0
 ·have C:=Gh (a:=aJ g*g.rows) D (show 0<g.aQ by omega) hl;have E:=Gh (l:=l / g.aQ) (a:=g.rows) (b:=aJ g) C.1 (by omega) (by rw[Int.mul_comm];exact C.2.1);have U:=BQ (l:=l / g.aQ) (b:=aJ g) (by omega);have a4:=BQ (l:=l) (b:=g.aQ) (by omega);rw[o0,iQ,aq,aq,sX D,rT D,aZ (n:=l / g.aQ),sX C.1,rT C.1,aZ (n:=l / g.aQ / aJ g)];obtain⟨Y,Z,I,O⟩:=XS (m:=m) (n:=aJ g) (a:=⟨l / g.aQ % aJ g,l / g.aQ / aJ g,l % g.aQ⟩) (by omega) U;refine⟨?_,xd T Y Z (by rw[I];exact E.1) (by rw[I];exact E.2.1) (by rw[O];exact a4.1) (by rw[O];exact a4.2)⟩;refine Eq.trans ?_ (XT (by omega) (by omega) (by omega) (by omega));rw[aX QI]
 ·rw[jw o0,av,av];by_cases o1:m.order=1
  ·have C:=Gh (a:=g.rows*g.aQ) D (show 0<aJ g by omega) (by rw[Int.mul_comm,<-Int.mul_assoc];exact hl);have E:=Gh (l:=l / aJ g) (a:=g.rows) (b:=g.aQ) C.1 (by omega) C.2.1;have U:=BQ (l:=l) (b:=aJ g) (by omega);have a4:=BQ (l:=l / aJ g) (b:=g.aQ) (by omega);rw[o1,iQ,aq,aq,sX D,rT D,aZ (n:=l / aJ g),sX C.1,rT C.1,aZ (n:=l / aJ g / g.aQ)];obtain⟨Y,Z,I,O⟩:=XS (m:=m) (n:=aJ g) (a:=⟨l % aJ g,l / aJ g / g.aQ,l / aJ g % g.aQ⟩) (by omega) U;refine⟨?_,xd T Y Z (by rw[I];exact E.1) (by rw[I];exact E.2.1) (by rw[O];exact a4.1) (by rw[O];exact a4.2)⟩;refine Eq.trans ?_ (XT (by omega) (by omega) (by omega) (by omega));rw[aX QI]
  ·have C:=Gh (a:=aJ g*g.rows) D (show 0<g.aQ by omega) hl;have E:=Gh (l:=l / g.aQ) (a:=aJ g) (b:=g.rows) C.1 (by omega) C.2.1;have U:=BQ (l:=l / g.aQ) (b:=g.rows) (by omega);have a4:=BQ (l:=l) (b:=g.aQ) (by omega);rw[jw o1,av,av,sX D,rT D,aZ (n:=l / g.aQ),sX C.1,rT C.1,aZ (n:=l / g.aQ / g.rows)];obtain⟨Y,Z,I,O⟩:=XS (m:=m) (n:=aJ g) (a:=⟨l / g.aQ / g.rows,l / g.aQ % g.rows,l % g.aQ⟩) (by omega) ⟨E.1,E.2.1⟩;refine⟨?_,xd T Y Z (by rw[I];exact U.1) (by rw[I];exact U.2) (by rw[O];exact a4.1) (by rw[O];exact a4.2)⟩;refine Eq.trans ?_ (XT (by omega) (by omega) (by omega) (by omega));rw[aX QI]
def ahy{g:aF}{m:nR}{l:Int}(C:cq g=true)(D:aP m.order 0 2=true)(E:0<=l)(hl:l<dB g):Pv g m l=some (zB g m l,true)/\dU g (zB g m l)=true:=by
 have O:=lD g;have I:aP l 0 (W6 (dB g-1))=true:=by rw[aZ];exact bu.2 ⟨E,by omega⟩
 refine ahx C D E hl _ ?_;unfold Pv;rw[uj,au,C,bE,av,Xd,au,D,bE,av,Bn,au,cV,au,I,bE,av,kM,au]
def avy{g:aF}{m:nR}{l:Int}(E:cq g=true)(C:aP m.order 0 2=true)(D:0<=l)(hl:l<dB g):OF g m l=some (zB g m l,true):=by
 have O:=lD g;have I:aP l 0 (W6 (dB g-1))=true:=by rw[aZ];exact bu.2 ⟨D,by omega⟩
 refine(ahx E C D hl _ ?_).1;unfold OF;rw[show E3 m=some (aP m.order 0 2)from Xd m,au,C,bE,av,Bp,au,ic,au,I,bE,av,og,au]
def cW(c:ax)(l:Int):aO:=
 let a:=zB (dN c.config.ak c.spare) c.config.mapping l
 ⟨a.ay,c.spare.map.getD (a.ay*(c.config.ak.rows-c.spare.bL)+a.row).toNat 0,a.bZ⟩
def Gi{g:aF}{s:eP}(h:kQ g s=true):dN g s=⟨g.cm,g.aI,g.rows-s.bL,g.aQ⟩/\cq g=true/\cq (dN g s)=true/\aJ (dN g s)=aJ g/\0 <= s.bL/\s.bL <= 2/\2 <= g.rows-s.bL/\g.rows <= 16:=by
 have D:=h;simp[kQ,aM]at h;have⟨C,E,I,O,T⟩:=Qn h.1;have gb:=fL C;have e:dN g s=⟨g.cm,g.aI,g.rows-s.bL,g.aQ⟩:=by
  unfold dN;rw[D,aq,aZ]
 have U:cq (dN g s)=true:=by
  rw[e];unfold cq;simp[aM,bu];omega
 refine⟨e,C,U,?_,E,I,O,T⟩;unfold aJ;simp_all
def ahz{g:aF}{s:eP}(h:kQ g s=true){b r:Int}(hb:0 <= b/\b<aJ g)(E:0 <= r/\r<g.rows-s.bL):(b*(g.rows-s.bL)+r).toNat<s.map.length/\0 <= s.map.getD (b*(g.rows-s.bL)+r).toNat 0/\s.map.getD (b*(g.rows-s.bL)+r).toNat 0<g.rows:=by
 have⟨_,Z,_,_,h1,h2,h3,h4⟩:=Gi h;have I:=eI g;simp only[kQ,aM,eZ,bT,fS]at h;have⟨_,hl,O⟩:=h;obtain⟨b,rfl⟩:=dH hb.1;obtain⟨r,rfl⟩:=dH E.1;have⟨R,hR⟩:=dH (show 0 <= g.rows-s.bL by omega);have⟨C,T⟩:=dH I.1;rw[hR,T,bz,bz]at hl;have hl:s.map.length=C*R:=by exact_mod_cast hl
 have U:b<C:=by omega
 have D:r<R:=by omega
 have e:((b:Int)*(g.rows-s.bL)+(r:Int)).toNat=b*R+r:=by rw[hR,<- Int.natCast_mul,<- Int.natCast_add,bz]
 have dK:=BB (R:=R) U (show r+1 <= R from D);have hi:b*R+r<s.map.length:=by omega
 have h5:=O b (by omega) r (by omega);rw[e];refine⟨hi,?_⟩;rw[cK,bK hi,Option.getD_some];have Y:(fG s.map R b)[r]?=some s.map[b*R+r]:=by rw[F4,List.getElem?_take_of_lt D,List.getElem?_drop,bK hi]
 rw[hR,bz]at h5;unfold sP at h5;rw[Y]at h5;simp only[dY,aM,eZ,bu]at h5;rcases h5 with h5|h5
 ·omega
 ·grind
def XU{c:ax}(h:Pk c)(E:kQ c.config.ak c.spare=true)(he:c.spare.bL=c.config.bL)(hm:aP c.config.mapping.order 0 2=true){l:Int}(h0:0 <= l)(hl:l<dB (dN c.config.ak c.spare)):wZ c l=some (cW c l,true)/\dU c.config.ak (cW c l)=true:=by
 have⟨Z,hg,uR,eb,s1,s2,s3,s4⟩:=Gi E;have⟨m1,m3⟩:=ahy uR hm h0 hl;have⟨_,C,D,I,O,b5,b6⟩:=oX m3;rw[eb]at D;have gb:=fL hg;have hb:=eI c.config.ak;have er:(dN c.config.ak c.spare).rows=c.config.ak.rows-c.spare.bL:=by rw[Z]
 have ec:(dN c.config.ak c.spare).aQ=c.config.ak.aQ:=by rw[Z]
 rw[er]at O;rw[ec]at b6;have⟨k1,k2,k3⟩:=ahz E ⟨C,D⟩ ⟨I,O⟩;have hmul:=Br C D I O;have hM:=Qc (a:=aJ c.config.ak) (b:=c.config.ak.rows-c.spare.bL) (A:=8) (B:=16) hb.1 hb.2 (by omega) (by omega);unfold cW;generalize hA:zB (dN c.config.ak c.spare) c.config.mapping l=A at *
 dsimp only;refine⟨?_,xd hg C D k2 k3 b5 b6⟩;unfold wZ;rw[DC,au,m1,au];dsimp only;rw[bE,av];unfold Dh xI;have hx:Be (dN c.config.ak c.spare) A.ay A.row=some true:=by
  unfold Be;rw[Bq,au,xd (a:=⟨A.ay,A.row,0⟩) uR C (by rw[eb];exact D) I (by rw[er];exact O) (eW 0) (by rw[ec];show 0<_;omega)]
 have⟨b,hbN⟩:=dH C;have⟨r,hrN⟩:=dH I;have⟨R,hR⟩:=dH (show 0 <= c.config.ak.rows-c.spare.bL by omega);have⟨bn,hn⟩:=dH hb.1;have U:c.spare.map.length=bn*R:=by
  simp only[kQ,aM,eZ]at E;have:=E.2.1
  grind
 have T:b<bn:=by omega
 have Y:r<R:=by omega
 have dK:=BB (R:=R) T (show r+1 <= R from Y);have ayW:=BB (R:=R) T (dg R);have hi:b*R+r<c.spare.map.length:=by omega
 rw[DC,au,hx,au,bE,av,hbN,Qv hR (by omega) (by omega) T U,au];have ht:((c.spare.map.take ((b+1)*R)).drop (b*R))=fG c.spare.map R b:=rfl;have jc:(fG c.spare.map R b).length=R:=F5 (by rw[U];exact iP R T);have hgx:(fG c.spare.map R b)[r]?=some c.spare.map[b*R+r]:=by rw[F4,List.getElem?_take_of_lt Y,List.getElem?_drop,bK hi]
 have XV:(fG c.spare.map R b)[r]'(by omega)=c.spare.map[b*R+r]:=by
  grind
 dsimp only;rw[ja (by rw[iZ];omega),ja (by rw[iZ,U];omega),cw,aq,hrN,aK ⟨by omega,by rw[ht,jc,bz];exact Y⟩];simp only[bz,ht,XV,au];rw[hR,<- Int.natCast_mul,<- Int.natCast_add,bz,cK,bK hi,Option.getD_some]
def avz{c:ax}(h:Pk c)(I:kQ c.config.ak c.spare=true)(he:c.spare.bL=c.config.bL)(O:aP c.config.mapping.order 0 2=true){l:Int}(T:0<=l)(hl:l<dB (dN c.config.ak c.spare)):OG c l=some (cW c l):=by
 obtain⟨C,hg,U,eb,s1,s2,s3,s4⟩:=Gi I;obtain⟨m1,m3⟩:=ahy U O T hl;have m2:=avy U O T hl;obtain⟨_,Y,D,Z,E,b5,b6⟩:=oX m3;rw[eb]at D;have gb:=fL hg;have hb:=eI c.config.ak;have er:(dN c.config.ak c.spare).rows=c.config.ak.rows-c.spare.bL:=by rw[C]
 have ec:(dN c.config.ak c.spare).aQ=c.config.ak.aQ:=by rw[C]
 rw[er]at E;rw[ec]at b6;obtain⟨k1,k2,k3⟩:=ahz I ⟨Y,D⟩ ⟨Z,E⟩;have hmul:=Br Y D Z E;have hM:=Qc (a:=aJ c.config.ak) (b:=c.config.ak.rows-c.spare.bL) (A:=8) (B:=16) hb.1 hb.2 (by omega) (by omega);unfold cW;generalize hA:zB (dN c.config.ak c.spare) c.config.mapping l=A at *
 dsimp only;unfold OG xI;have hw:W6 (c.config.ak.rows-c.config.bL)=c.config.ak.rows-c.spare.bL:=by rw[<-he];exact aZ
 have Lc:W6 (A.ay*(c.config.ak.rows-c.spare.bL))=A.ay*(c.config.ak.rows-c.spare.bL):=aZ;have Ld:W6 (A.ay*(c.config.ak.rows-c.spare.bL)+A.row)=A.ay*(c.config.ak.rows-c.spare.bL)+A.row:=aZ;simp only[hw];rw[<-C,m2,au];simp only[Lc,Ld];rw[aK ⟨hmul.2.1,k1⟩,cK,bK k1,Option.getD_some]
def BR{c:eo}{p:cR}(hl:p.weights.length<1073741823)(h:mL c p=true):nD c=true/\qM p=true:=by
 have⟨b,e,D⟩:=Xh c p hl;have hb:b=true:=by
  rw[DE c p hl]at e;simp_all
 subst hb;have C:=D rfl;refine⟨C,?_⟩;unfold qJ at e;have⟨y,E⟩:=Xg p.dn;simp[KO,Dz _ hl,C]at e
 grind
structure Pq (c:ax):Prop where
 p:Pk c
 sp:kQ c.config.ak c.spare=true
 se:c.spare.bL=c.config.bL
 mo:aP c.config.mapping.order 0 2=true
 q:∀r∈c.queue,(0<=r.line/\r.line<dB (dN c.config.ak c.spare))/\(0<=r.eG/\r.eG<=3)/\(0<=r.at_/\r.at_<=1000000)
 ql:c.queue.length<=12
 pe:∀a∈c.pending,dU c.config.ak a=true
 pl:c.pending.length<=128
 rf:fD c.aD=true
 dl:(c.aD.aB.length:Int)=aJ c.config.ak
 sh:iM c.shares=true
 shl:c.shares.length=4
 dr:o7 c.drain=true
 pw:kO c.aR=true
 ps:c.aR.state=c.aN.aR
 nw:0<=c.now/\c.now<=1000000
 cap:0<=c.box.bW.cap/\c.box.bW.cap<=100000
 cZ:Bz c.box.bW.cZ=true
def Pq.of{c:ax}(D:cv c)(h:cz c=true):Pq c:=by
 have I:=Pk.of D h;have z1:c.box.bW.weights.length <= 1048576:=D.1.1;simp only[cz,aM]at h;have⟨O,h2,T,h4,h5,h6,U,Y,C,E,Z,qz,rF,vE,vF,sJ,Bk,Bl,Gf,K8,Bg,Dt⟩:=h;have⟨f1,f2⟩:=BR (by omega) O;simp only[nD,aM]at f1;simp only[qM,aM]at f2;have⟨f3,f4,f5,f6,f7,f8,f9⟩:=f2;simp only[rE,aM,eZ,gd,pZ,bT,fS]at C;have⟨C,g1,g2,g3,g4,g5,g6⟩:=C;simp only[gK,aM,bT,fS,gB]at E;have⟨q1,q2⟩:=E;have FO:c.shares.length=4:=by
  grind
 refine⟨I,U,by simpa using Y,f1.2.2.1,λr hr=>?_,by omega,λa ha=>?_,by omega,C,g1,Z,FO,rF,vE,by simpa using vF,bu.1 T,bu.1 f4,f9⟩
 ·obtain⟨i,hi,rfl⟩:=ki.1 hr;have hb:=q1 i hi;unfold qN at hb;rw[bK hi]at hb;simp[mJ,aM,gB]at hb;have⟨⟨k1,k2,k3,k4,k5,k6,k7⟩,_⟩:=hb;exact⟨⟨k3,k4⟩,bu.1 k2,bu.1 k7⟩
 ·obtain⟨i,hi,rfl⟩:=ki.1 ha;have hb:=g6 i hi;unfold vH at hb;simp_all
def Le(r:cg)(a:aO):Bool:=(cu r a.ay).open_&&((cu r a.ay).row==a.row)
def ow(r:cg)(a:aO)(w:Bool):aT:=
 bif !(cu r a.ay).open_ then ⟨1,a.ay,a.row,0⟩else bif (cu r a.ay).row != a.row then ⟨4,a.ay,0,0⟩else bif w then ⟨3,a.ay,0,a.bZ⟩else ⟨2,a.ay,0,a.bZ⟩
def Lg{r:cg}{b:Int}(h:b.toNat<r.aI.length):cu r b=r.aI[b.toNat]:=by
 unfold cu;rw[cK,bK h];rfl
def QJ{b:Int}{n:Nat}(C:0<=b)(h:b.toNat<n)(D:n<=1048576):aP b 0 (W6 ((n:Int)-1))=true:=by
 rw[aZ];exact bu.2 ⟨C,by omega⟩
def ahA{r:cg}{a:aO}(w:Bool)(C:0 <= a.ay)(h:a.ay.toNat<r.aI.length)(hl:r.aI.length <= 1048576):Di r a w=some (ow r a w):=by
 unfold Di ow xI;rw[cV,au,QJ C h hl,bE,aK ⟨C,h⟩,Lg h]
 grind
def avA{r:cg}{b:Int}(C:0 <= b)(h:b.toNat<r.aI.length)(hl:r.aI.length <= 1048576):Pz r b=some (bif (cu r b).open_ then (cu r b).row else -1):=by
 unfold Pz xI;rw[cV,au,QJ C h hl,bE,aK ⟨C,h⟩,Lg h]
 grind
def avB{r:cg}{a:aO}(D:0 <= a.row)(C:0 <= a.ay)(h:a.ay.toNat<r.aI.length)(hl:r.aI.length <= 1048576):FG r a=some (Le r a):=by
 unfold FG Le;rw[fR (by omega:¬ a.row = -1),avA C h hl,au];cases (cu r _).open_ with
 |false=>rw[av,jw (by omega:¬ (-1)=a.row)];rfl
 |true=>rfl
def avC{g:aF}{r:cg}{a:aO}(w:Bool)(h:dU g a=true):dz g (ow r a w)=true:=by
 have⟨D,E,Y,I,Z,O,b6⟩:=oX h;have T:aP _ 0 (aJ g-1)=true:=bu.2 ⟨E,by omega⟩;have C:aP a.row 0 (g.rows-1)=true:=bu.2 ⟨I,by omega⟩;have U:aP a.bZ 0 (g.aQ-1)=true:=bu.2 ⟨O,by omega⟩;unfold ow dz vI;cases (cu r _).open_<;>cases (cu r _).row != a.row<;>cases w<;>simp[D,aP,C]<;>simp[aP,gB]at T C U<;>omega
def zC{g:aF}{k b:Int}(C:cq g=true)(D:k=4 \/ k=5)(hb:0 <= b/\b<aJ g):dz g ⟨k,b,0,0⟩=true:=by
 have E:aP b 0 (aJ g-1)=true:=bu.2 ⟨hb.1,by omega⟩;unfold dz vI;rcases D with rfl|rfl<;>simp[C,aP]<;>simp[aP,gB]at E<;>omega
def ahB{g:aF}{a:aO}(h:dU g a=true):dz g ⟨1,a.ay,a.row,0⟩=true:=by
 have⟨C,D,E,I,O,T,U⟩:=oX h;unfold dz vI;simp[C,aP];omega
def QK{g:aF}{k:Int}(C:cq g=true)(D:6<=k/\k<=9):dz g ⟨k,0,0,0⟩=true:=by
 obtain⟨n,rfl⟩:=dH (show 0<=k by omega);have:n=6\/n=7\/n=8\/n=9:=by omega
 unfold dz;rw[C];rcases this with rfl|rfl|rfl|rfl<;>rfl
def XW(l:aa aO)(b:Int)(hl:l.length<=1048576):Dg l b=some (l.any λa=>a.ay==b):=by
 have E:=Ge (λa:aO=>a.ay==b) l;unfold Dg WC WB;rw[XG];have e:=eV (step:=FE) (fH (λa:aO=>a.ay==b) l) (λi=>((l,b,(l.length:Int),(i:Int),()),())) (if fH (λa:aO=>a.ay==b) l<l.length then .inl ((((fH (λa:aO=>a.ay==b) l:Nat):Int),()),())else .inr (.inl ((),()))) bq (λk h=>by
  have D:=vL h (by omega);unfold FE aE bk xG xI;dsimp only;rw[bf,aq,aK ⟨by omega,by omega⟩];simp only[bz];rw[D,av,bN]) (by
  by_cases C:fH (λa:aO=>a.ay==b) l<l.length
  ·have D:=BO C;unfold FE aE bk xG xI;dsimp only;rw[bf,aq,aK ⟨by omega,by omega⟩];simp only[bz];rw[D,aq,aW C]
  ·unfold FE aE bk xG xI;dsimp only;rw[br,av,aX C]) (bS)
 rw[cY]at e;rw[e];by_cases C:fH (λa:aO=>a.ay==b) l<l.length
 ·rw[aW C,bf C];simp
 ·rw[aX C,br C];rfl
def rJ(t:cI)(row:Int):aj Nat:=match t.rows.findIdx? (λe=>e==row)with
 |some i=>some i
 |none=>t.counts.findIdx? (λe=>e==t.eJ)
def jy(t:cI)(row:Int):cI:=match t.rows.findIdx? (λe=>e==row)with
 |some i=>⟨t.rows,t.counts.set i (t.counts.getD i 0+1),t.eJ⟩
 | none=>match t.counts.findIdx? (λe=>e==t.eJ)with
  |some i=>⟨t.rows.set i row,t.counts.set i (t.eJ+1),t.eJ⟩
  |none=>⟨t.rows,t.counts,t.eJ+1⟩
def nJ(t:cI)(row cS:Int):cI×Bool:=bif kP t&&(aP row 0 15&&aP cS 2 1000)then (bif kP (jy t row)then (jy t row,match rJ t row with
    |some i=>((jy t row).counts.getD i 0).tmod cS==0
    |none=>false)else (t,false))else (t,false)
structure Tk (t:cI):Prop where
 rl:t.rows.length<=16
 cl:t.counts.length=t.rows.length
 sp:0<=t.eJ/\t.eJ<=100000
 cs:∀i (h:i<t.counts.length),0<=t.counts[i]/\t.counts[i]<=100000
def Tk.of{t:cI}(h:kP t=true):Tk t:=by
 simp[kP,aM,eZ,bT,fS]at h;have⟨D,I,C,E⟩:=h;have D:=bu.1 D;have C:=bu.1 C
 refine⟨by omega,by omega,C,λi hi=>?_⟩
 have hb:=E i (by omega);rw[KS (by omega) hi,aM,aM]at hb;have:=bu.1 hb.2.1;omega
def DJ{T:Type}{p:T -> Bool}{l:aa T}{i:Nat}(h:l.findIdx? p=some i):∃ hi:i<l.length,p l[i]=true:=by
 have⟨hi,C,_⟩:=rU.1 h;simp_all
def ahC{t:cI}(row:Int):(jy t row).rows.length=t.rows.length/\(jy t row).counts.length=t.counts.length:=by
 unfold jy
 grind
def avD{t:cI}(h:Tk t){row:Int}{i:Nat}(hi:rJ t row=some i):i<t.counts.length:=by
 have:=h.cl;unfold rJ at hi;split at hi
 next j C=>cases hi;have⟨D,_⟩:=DJ C;omega
 ·exact(DJ hi).1
def avE(t:cI)(hz:nH t)(row cS:Int):PR t row cS=some (nJ t row cS):=by
 have sw:∀x:Int,(λe:Int=>x==e)=λe=>e==x:=λx=>funext λe=>by rw[Bool.eq_iff_iff,eZ,eZ];exact eq_comm
 unfold PR nJ xL;rw[ahr t hz,au,Xk,au];dsimp only;cases ht:kP t with
 |false=>rfl
 | true=>
  have tk:=Tk.of ht;have r1:=tk.rl;have r2:=tk.cl;have we:=tk.sp;rw[bE,av,cV,au,cw];cases h1:aP row 0 15 with
  |false=>rfl
  | true=>
   rw[bE,av,cV,au,cw];cases h2:aP cS 2 1000 with
   |false=>rfl
   | true=>
    have hl:=bu.1 h2;rw[bE,av,aq,Qu _ _ (by omega),au,sw row];have XX:∀ (E:Int) (D:cI),D=jy t row->(E=match rJ t row with | some i=>(i:Int) | none=>-1)->
      ((A9 D).bind λkJ=>bif (!kJ)then ((some t).bind λsL=>some (sL,false))else (bif (decide (E >= (0:Int)))then if WH:0<=E/\E.toNat<D.counts.length then if Qa:E.toNat<D.counts.length then (if cS=0 then none else some (D,(D.counts[E.toNat]'Qa).tmod cS==(0:Int)))else none else none else some (D,false)))=some (bif kP (jy t row)then (jy t row,match rJ t row with
        |some i=>((jy t row).counts.getD i 0).tmod cS==0
        |none=>false)else (t,false)):=by
     intro E D T e2;subst T;rw[Xk,au];cases h3:kP (jy t row)with
     |false=>rfl
     | true=>
      rw[bE,av,aq,e2];cases h4:rJ t row with
      |none=>rfl
      | some i=>
       have hi:i<(jy t row).counts.length:=by rw[(ahC row).2];exact avD tk h4
       simp only[bz];rw[bf,aq,aK ⟨by omega,hi⟩,aK hi,aX,cK,bK hi];rfl
    cases C:t.rows.findIdx? (λe=>e==row)with
    | some i=>
     obtain⟨hi,_⟩:=DJ C;have O:i<t.counts.length:=by omega
     have hc:=tk.cs i O;have U:rJ t row=some i:=by unfold rJ;rw[C]
     have Y:jy t row=⟨t.rows,t.counts.set i (t.counts[i]+1),t.eJ⟩:=by unfold jy;simp only[C];rw[cK,bK O];rfl
     have T:gP (λe=>e==row) t.rows=(i:Int):=by unfold gP;rw[C]
     rw[T,br,av];simp only[bz];rw[bf,aq,aK ⟨by omega,O⟩,aK O,aK ⟨by omega,O⟩,aK O];have Z:W6 (t.counts[i]+1)=t.counts[i]+1:=aZ;simp only[Z];exact XX (i:Int) ⟨t.rows,t.counts.set i (t.counts[i]+1),t.eJ⟩ Y.symm (by rw[U])
    | none=>
     have T:gP (λe=>e==row) t.rows = -1:=by unfold gP;rw[C]
     rw[T,bf,aq,Qu _ _ (by omega),au,sw t.eJ];cases I:t.counts.findIdx? (λe=>e==t.eJ)with
     | some i=>
      obtain⟨hi,hp⟩:=DJ I;have hir:i<t.rows.length:=by omega
      have hp:t.counts[i]=t.eJ:=by simpa using hp
      have U:rJ t row=some i:=by unfold rJ;rw[C];exact I
      have Y:jy t row=⟨t.rows.set i row,t.counts.set i (t.eJ+1),t.eJ⟩:=by unfold jy;rw[C];simp only[I]
      have e3:gP (λe=>e==t.eJ) t.counts=(i:Int):=by unfold gP;rw[I]
      rw[e3];simp only[bz];rw[bf,aq,aK ⟨by omega,hir⟩,aK hir,aq,aK ⟨by omega,hi⟩,aK hi,aK ⟨by omega,hi⟩,aK hi];have Z:W6 (t.eJ+1)=t.eJ+1:=aZ;simp only[hp,Z];exact XX (i:Int) ⟨t.rows.set i row,t.counts.set i (t.eJ+1),t.eJ⟩ Y.symm (by rw[U])
     | none=>
      have U:rJ t row=none:=by unfold rJ;rw[C];exact I
      have Y:jy t row=⟨t.rows,t.counts,t.eJ+1⟩:=by unfold jy;rw[C];simp only[I]
      have e3:gP (λe=>e==t.eJ) t.counts = -1:=by unfold gP;rw[I]
      have Z:W6 (t.eJ+1)=t.eJ+1:=aZ;rw[e3,br,av,av];simp only[Z];exact XX (-1) ⟨t.rows,t.counts,t.eJ+1⟩ Y.symm (by rw[U])
def pq(k:Int):cI:=⟨List.replicate k.toNat (-1),List.replicate k.toNat 0,0⟩
def avF{k:Int}(h:aP k 1 16=true):Fg k=some (pq k,true):=by
 have hb:=bu.1 h;unfold Fg;have e:CW ([(-1:Int)]) k=some (List.replicate k.toNat (-1)):=by
  unfold CW;simp_all
 rw[cV,au,h,bE,e,au,aW ⟨by omega,eW _,by omega⟩];rfl
def mQ(r:dI)(b:Int):dI:=bif decide (r.aB.getD b.toNat 0 = -2)then r else ⟨r.aB.set b.toNat (r.aB.getD b.toNat 0-1),r.wait,r.dP⟩
def Lh{r:dI}(h:fD r=true):∀ x∈r.aB,-2 <= x/\x <= 5:=by
 simp[fD,aM,bT]at h;exact λx C=>bu.1 (h.1 x C)
def avG{α β:Type}{o:aj (α×β)}{a:α}(h:o.map Prod.fst=some a):∃b,o=some (a,b):=by simp_all
def avH{r:dI}(h:fD r=true){b:Int}(D:0 <= b)(C:b.toNat<r.aB.length):∃ y,PX r b=some (mQ r b,y):=by
 have hl:=vN h;have O:=Lh h _ (cX C);have I:r.aB.getD b.toNat 0=r.aB[b.toNat]:=by rw[cK,bK C];rfl
 unfold PX zh mQ xI xL xA xZ;rw[eE (by simp;omega),aq,au,F0 _ (by omega),au,h,bE,av,cV,au,QJ D C (by omega),bE,av,aK ⟨D,C⟩,I];dsimp only;by_cases E:r.aB[b.toNat] = -2
 ·simp_all
 ·rw[jw E,br E,List.nil_append,aK ⟨D,C⟩,aK C,aK ⟨D,C⟩,aK C,aZ];simp_all
def zD(p:iF)(k now:Int):iF:=bif kO p&&aP now p.since 1000000 then
 (bif (k==6)&&(p.state==0)then ⟨1,now,p.idle⟩else bif (k==8)&&(p.state==0)then ⟨2,now,p.idle⟩else bif (k==7)&&(p.state==1)then ⟨0,now,p.idle⟩else bif (k==9)&&(p.state==2)then ⟨0,now,p.idle⟩else p)else p
def QL(p:iF){k:Int}(C:6 <= k/\k <= 9)(now:Int):∃ y,P0 p k now=some (zD p k now,y):=by
 refine avG ?_;unfold P0 zD;rw[Qr,au];cases kO p with
 |false=>rfl
 | true=>
  rw[bE,av,cV,au];cases aP now p.since 1000000 with
  |false=>rfl
  | true=>
   have:k=6 \/ k=7 \/ k=8 \/ k=9:=by omega
   grind
def ahD{α β T:Type}{step:α -> aj (α⊕β)}(p:T -> Bool)(S:Nat -> Nat -> aa T -> α)(Z:Nat -> aa T -> β)
  (hs:∀i j s (E:j<s.length),i <= j -> j<1073741824 -> step (S i j s)=some (.inl (bif p s[j]then S i (j+1) s else S (i+1) (j+1) (s.set i s[j]))))
  (hz:∀i s,i <= s.length -> step (S i s.length s)=some (.inr (Z i s))):
  ∀(n i j fuel:Nat) (s:aa T),j+n=s.length -> i <= j -> s.length<1073741824 -> n<fuel -> ∃C D,iter step fuel (S i j s)=some (Z D C)/\C.length=s.length/\D <= s.length/\C.take D=s.take i++(s.drop j).filter (λx=>!p x):=by
 intro n
 induction n with
 | zero=>
  intro i j fuel s hn hi hl hf;obtain⟨f,rfl⟩:∃f,fuel=f+1:=⟨fuel-1,by omega⟩
  have ej:j=s.length:=by omega
  subst ej;refine⟨s,i,?_,rfl,hi,by simp⟩;unfold iter;simp_all
 | succ n I=>
  intro i j fuel s hn hi hl hf;obtain⟨f,rfl⟩:∃f,fuel=f+1:=⟨fuel-1,by omega⟩
  have E:j<s.length:=by omega
  unfold iter;rw[hs i j s E hi (by omega)];have hd:=List.drop_eq_getElem_cons E;cases hp:p s[j]with
  | true=>
   have⟨C,D,O,U,Y,h4⟩:=I i (j+1) f s (by omega) (by omega) hl (by omega)
   grind
  | false=>
   have⟨C,D,O,U,Y,h4⟩:=I (i+1) (j+1) f (s.set i s[j]) (by simp;omega) (by omega) (by simp;omega) (by omega);refine⟨C,D,O,by simpa using U,by simpa using Y,?_⟩;rw[h4,hd,List.filter_cons_of_pos (by simp[hp]),List.drop_set_of_lt (by omega),List.take_add_one,List.getElem?_set_self (by omega),List.take_set_of_le (by omega)];simp
def ahE{T:Type}{p:T -> Bool}{l:aa T}{k:Nat}(h:l.findIdx? p=some k):l.filter (λx=>!p x)=l.take k++(l.drop (k+1)).filter (λx=>!p x):=by
 have⟨D,E,I⟩:=rU.1 h;have e:l=l.take k++l[k] :: l.drop (k+1):=by
  simp[*]
 have O:(l.take k).filter (λx=>!p x)=l.take k:=by
  rw[List.filter_eq_self];intro a C;obtain⟨i,hi,rfl⟩:=ki.1 C
  grind
 grind
def XY{T:Type}(s r:aa T)(i:Nat)(h:i <= s.length):(splice s i r).take i=s.take i:=by
 unfold splice;simp_all
def avI(l:aa aO)(a:aO)(hl:l.length<1073741824):PS l a=some (gP (eF a) l):=by
 unfold PS gP;have e:=zw (step:=Ks) l (eF a) (λi=>((l,a,(l.length:Int),(i:Int),()),())) (λi=>.inl (((i:Int),()),())) (.inr (.inl ((),()))) bq (λk h=>by
  unfold Ks eF aE bk xG xI;dsimp only;rw[bf,aq,aK ⟨by omega,by omega⟩];simp only[bz];rw[bN];cases (l[k].ay==a.ay&&(l[k].row==a.row&&(l[k].bZ==a.bZ&&true)))<;>rfl) (by
  unfold Ks aE bk xG xI;dsimp only;rw[br,av]) (bS hl)
 rw[cY]at e;rw[e];cases l.findIdx? (eF a)<;>rfl
def avJ(l:aa aO)(x:aT)(hl:l.length<1073741824):P1 l x=some (gP (λa=>a.ay==x.ay) l):=by
 unfold P1 gP;have e:=zw (step:=Kw) l (λa=>a.ay==x.ay) (λi=>((l,x,(l.length:Int),(i:Int),()),())) (λi=>.inl (((i:Int),()),())) (.inr (.inl ((),()))) bq (λk h=>by
  unfold Kw aE bk xG xI;dsimp only;rw[bf,aq,aK ⟨by omega,by omega⟩];simp only[bz];rw[bN];cases (l[k].ay==x.ay)<;>rfl) (by
  unfold Kw aE bk xG xI;dsimp only;rw[br,av]) (bS hl)
 rw[cY]at e;rw[e];cases l.findIdx? (λa=>a.ay==x.ay)<;>rfl
def avK(l:aa aO)(a:aO)(hl:l.length<1000000):PT l a=some (l.filter (λx=>!eF a x),([],())):=by
 unfold PT;rw[avI l a (by omega),au];unfold gP;cases C:l.findIdx? (eF a)with
 | none=>
  have e:l.filter (λx=>!eF a x)=l:=by
   rw[List.filter_eq_self];intro x D;have:=List.findIdx?_eq_none_iff.1 C x D;simp[this]
  rw[e];rfl
 | some k=>
  obtain⟨O,T,U⟩:=rU.1 C;rw[ahE C];simp only;rw[jw (show ¬ (k:Int) = -1 by omega),av,bN];obtain⟨Y,Z,E,h2,h3,I⟩:=ahD (step:=Kt) (eF a) (λi j s=>(((),a,(i:Int),(j:Int),()),(s,()))) (λi s=>.inl (((),(i:Int),()),(s,()))) (λi j s hj hi hb=>by
   unfold Kt eF aE xG xL;dsimp only;rw[bf,aq,aK ⟨by omega,by omega⟩,aK];simp only[bz];rw[bN,bN,aK ⟨by omega,by omega⟩,aK];cases (s[j].ay==a.ay&&(s[j].row==a.row&&(s[j].bZ==a.bZ&&true)))<;>rfl) (λi s hi=>by
   unfold Kt aE xG xL;dsimp only;rw[br,av]) (l.length-(k+1)) k (k+1) bq l (by omega) (by omega) (by omega) (by unfold bq;omega)
  rw[E,au,gq];dsimp only;rw[aW ⟨by omega,by omega,by omega⟩,aW ⟨by omega,by omega⟩,aW ⟨by omega,by omega,by
   rw[uM _ _ _ (by simp;omega)];omega⟩]
  rw[XY _ _ _ (by omega),bz,I]
def avL(l:aa aO)(c:aT)(hl:l.length<1000000):P2 l c=some (l.filter (λx=>!(x.ay==c.ay)),([],())):=by
 unfold P2;rw[avJ l c (by omega),au];unfold gP;cases C:l.findIdx? (λa=>a.ay==c.ay)with
 | none=>
  have e:l.filter (λx=>!(x.ay==c.ay))=l:=by
   rw[List.filter_eq_self];intro x D;have:=List.findIdx?_eq_none_iff.1 C x D;simp[this]
  rw[e];rfl
 | some k=>
  obtain⟨O,T,U⟩:=rU.1 C;rw[ahE C];simp only;rw[jw (show ¬ (k:Int) = -1 by omega),av,bN];obtain⟨Y,Z,E,h2,h3,I⟩:=ahD (step:=Kx) (λx=>x.ay==c.ay) (λi j s=>(((),c,(i:Int),(j:Int),()),(s,()))) (λi s=>.inl (((),(i:Int),()),(s,()))) (λi j s hj hi hb=>by
   unfold Kx aE xG xL;dsimp only;rw[bf,aq,aK ⟨by omega,by omega⟩,aK];simp only[bz];rw[bN,bN,aK ⟨by omega,by omega⟩,aK];cases (s[j].ay==c.ay)<;>rfl) (λi s hi=>by
   unfold Kx aE xG xL;dsimp only;rw[br,av]) (l.length-(k+1)) k (k+1) bq l (by omega) (by omega) (by omega) (by unfold bq;omega)
  rw[E,au,gq];dsimp only;rw[aW ⟨by omega,by omega,by omega⟩,aW ⟨by omega,by omega⟩,aW ⟨by omega,by omega,by
   rw[uM _ _ _ (by simp;omega)];omega⟩]
  rw[XY _ _ _ (by omega),bz,I]
def jz(b:Int)(pd:aa aO)(n:Int):aa aO:=bif pd.any (eF ⟨b,n,0⟩)then pd else pd++[⟨b,n,0⟩]
def xq(c:ax)(t:aa cI)(C:aa Int)(pd:aa aO):ax:=⟨c.config,c.box,c.now,c.aN,c.ready,c.array,c.spare,c.aD,t,C,pd,c.queue,c.shares,c.drain,c.aR,c.dJ,c.errors,c.trace,c.bF⟩
def ahF{T:Type}(p:T -> Bool)(l:aa T):decide (gP p l<0) = !l.any p/\decide (gP p l >= 0)=l.any p:=by
 unfold gP
 grind
def XZ(b:Int):∀ (ns:aa Int) (pd:aa aO),(ns.foldl (jz b) pd).length <= pd.length+ns.length
 |[],pd=>dg _
 | n :: ns,pd=>by
  have:=XZ b ns (jz b pd n);have C:(jz b pd n).length <= pd.length+1:=by
   unfold jz
   grind
  grind
def avM{T U:Type}(f:U->T->U)(l:aa T)(u:U){k:Nat}(h:k<l.length):(l.take (k+1)).foldl f u=f ((l.take k).foldl f u) l[k]:=by
 rw[List.take_add_one,bK h,List.foldl_append];rfl
def avN(c:ax)(x:aT)(ns:aa Int)(C:ns.length <= 1000)(D:c.pending.length <= 1000):iter FQ bq (((),(),(),(ns.length:Int),(0:Int),()),(c,(x.kind,x.ay,x.row,x.bZ,()),ns,()))=some (.inl ((),(xq c c.bA c.guard (ns.foldl (jz x.ay) c.pending),()))):=by
 have e:=eV (step:=FQ) _ (λi=>(((),(),(),ns.length,i,()),(xq c c.bA c.guard ((ns.take i).foldl _ _),(x.kind,x.ay,x.row,x.bZ,()),ns,()))) _ bq (λk h=>by
  have hl:=XZ x.ay (ns.take k) c.pending;rw[kU]at hl;rw[avM _ _ _ h];generalize (ns.take k).foldl (jz x.ay) c.pending=pd at hl;unfold FQ jz xq WL aE xG xL;dsimp only;rw[bf,aq,aK ⟨by omega,by omega⟩,aK];simp only[bz];rw[agT _ _ (by omega),au,au,(ahF _ _).2,bN,eE (by simp;omega)];cases pd.any (eF ⟨x.ay,ns[k],0⟩)<;>rfl) (by
  unfold FQ xq aE xG xL;dsimp only;rw[br,av]) (bS)
 rw[ List.take_length]at e;exact e
def zT:cI:=⟨[],[],0⟩
def sS(c:ax)(x:aT):cI×Bool:=nJ (c.bA.getD x.ay.toNat zT) x.row (c.guard.getD x.ay.toNat 0)
def rK(c:ax)(x:aT):aa aO:=c.pending.filter (λa=>!eF ⟨x.ay,x.row,0⟩ a)
def vP(c:ax)(x:aT):ax:=
 xq (dX c (rI c.config.ak c.config.di c.array x.ay x.row)) (c.bA.set x.ay.toNat (sS c x).1) c.guard (bif (sS c x).2 then (iN c.config.ak.rows x.row).foldl (jz x.ay) (rK c x)else rK c x)
def gQ{T:Type}{l:aa T}{i:Nat}(d:T)(h:i<l.length):l.getD i d=l[i]:=by
 rw[cK,bK h];rfl
def ahG(R r:Int):(iN R r).length <= 2:=by
 unfold iN
 grind
def avO{T:Type}(p:T->Bool)(l:aa T):(l.filter p).length<=l.length:=List.length_filter_le p l
def avP{B:Int}(c:ax)(x:aT)(I:cq c.config.ak=true)(Y:eY c.config.ak B c.array)(hp:c.pending.length <= 200)(Z:∀ t∈c.bA,nH t)(D:0 <= x.ay)(h2:x.ay<aJ c.config.ak)(O:0 <= x.row)(T:x.row<c.config.ak.rows)(C:x.ay.toNat<c.bA.length)(E:x.ay.toNat<c.guard.length):PU c x=some ((),(vP c x,())):=by
 have⟨_,_,_,_,g5,g6,g7,g8⟩:=fL I;have U:=ahu I c.config.di c Y D h2 O T;have e2:=avK c.pending ⟨x.ay,x.row,0⟩ (by omega);have hf:(rK c x).length <= c.pending.length:=List.length_filter_le _ _;have tG:=ahG c.config.ak.rows x.row;simp only[dX]at U;unfold PU bR xL xM
 refine(bB (λo=>Option.bind o _) U).trans ?_
 rw[au];dsimp only
 refine(bB (λo=>Option.bind o _) e2).trans ?_
 rw[au];dsimp only;rw[aK ⟨D,C⟩,aK C,aK ⟨D,E⟩,aK E,aK C,aK C];rw[avE _ (Z _ (cX C)),au,aK ⟨D,C⟩,aK C];unfold vP sS;rw[gQ _ C,gQ _ E];cases (nJ (c.bA[x.ay.toNat]'C) x.row (c.guard[x.ay.toNat]'E)).2 with
 |false=>rfl
 | true=>
  rw[bE,av,aha (by omega) (by omega) O T,au]
  refine(bB (λo=>Option.bind o _) (avN (xq (dX c (rI _ _ c.array x.ay x.row)) _ c.guard (rK c x)) x _ (by omega) (by unfold xq;dsimp only;omega))).trans ?_
  rfl
def DK(l:aa aO):Prop:=∀i (h:i<l.length),(l.take i).any (eF l[i])=false
def Li{a b:aO}:eF a b=true ↔ a=b:=by
 have⟨C,D,E⟩:=a;have⟨I,O,T⟩:=b;simp[eF,aM,eZ,and_true,aO.mk.injEq]
 grind
def pz{U:Type}(f:U->Nat->U)(u:U)(k:Nat):(List.range (k+1)).foldl f u=f ((List.range k).foldl f u) k:=by
 rw[List.range_succ,List.foldl_append];rfl
def fW(g:aF)(l:ko)(a:cL)(b:Int)(n:Nat):cL:=(List.range n).foldl (λa (r:Nat)=>rI g l a b (r:Int)) a
def Lj{g:aF}(C:cq g=true)(l:ko){B:Int}(hB:0<=B){a:cL}(D:eY g B a){b:Int}(E:0<=b)(I:b<aJ g):∀ n:Nat,(n:Int)<=g.rows->eY g B (fW g l a b n)
 |0,_=>D
 | n+1,h=>by
  unfold fW;rw[pz];exact XJ C l hB (Lj C l hB D E I n (by omega)) E I (by omega) (by omega)
def ahH{B:Int}(hB:0 <= B)(c:ax)(C:cq c.config.ak=true)(O:eY c.config.ak B c.array){b:Int}(D:0 <= b)(E:b<aJ c.config.ak):PW c b=some ((),(dX c (fW c.config.ak c.config.di c.array b c.config.ak.rows.toNat),())):=by
 have⟨_,_,_,_,T,U,Y,Z⟩:=fL C;have e:=eV (step:=Ku) c.config.ak.rows.toNat (λi=>(((),b,i,()),(dX c (fW _ _ _ b i),()))) _ bq (λk h=>by
  have I:=ahu C c.config.di (dX c (fW c.config.ak c.config.di c.array b k)) (Lj C c.config.di hB O D E k (by omega)) D E (show 0 <= (k:Int) by omega) (by omega);simp only[dX]at I;unfold Ku dX aE xG;dsimp only;rw[bf,aq,I,au,bN];dsimp only;unfold fW;rw[pz]) (by
  unfold Ku dX aE xG;dsimp only;rw[br,av]) (bS)
 refine(bB (λo=>Option.bind o _) e).trans ?_
 rfl
def QM(c:ax)(b:Int)(pd:aa aO):ax:=
 xq (dX c (fW c.config.ak c.config.di c.array b c.config.ak.rows.toNat)) (c.bA.set b.toNat (pq c.config.gV)) (c.guard.set b.toNat c.box.bW.dn) pd
def ahI(c:ax)(I:aP c.config.gV 1 16=true){b:Int}(C:0<=b)(D:b.toNat<c.bA.length)(E:b.toNat<c.guard.length):Kv c b=some ((),(xq c (c.bA.set b.toNat (pq c.config.gV)) (c.guard.set b.toNat c.box.bW.dn) c.pending,())):=by
 unfold Kv xL;rw[avF I,au,aK ⟨C,D⟩,aK D,aK ⟨C,E⟩,aK E];rfl
def jg(c:ax)(k:Nat)(pd:aa aO):ax:=
 ⟨c.config,c.box,c.now,c.aN,c.ready,(List.range k).foldl (λa (b:Nat)=>fW c.config.ak c.config.di a (b:Int) c.config.ak.rows.toNat) c.array,c.spare,⟨(List.range k).foldl (λd b=>d.set b 0) c.aD.aB,c.aD.wait,c.aD.dP⟩,(List.range k).foldl (λd b=>d.set b (pq c.config.gV)) c.bA,(List.range k).foldl (λd b=>d.set b c.box.bW.dn) c.guard,pd,c.queue,c.shares,c.drain,c.aR,c.dJ,c.errors,c.trace,c.bF⟩
def xu{T:Type}(x:T)(l:aa T):∀ k:Nat,((List.range k).foldl (λd b=>d.set b x) l).length=l.length
 |0=>rfl
 |k+1=>by rw[pz,gR,xu x l k]
def QN{g:aF}(C:cq g=true)(l:ko){B:Int}(hB:0 <= B){a:cL}(D:eY g B a):∀ k:Nat,(k:Int) <= aJ g -> eY g B ((List.range k).foldl (λa (b:Nat)=>fW g l a (b:Int) g.rows.toNat) a)
 |0,_=>D
 | k+1,h=>by
  have⟨_,_,_,_,E,I,O,T⟩:=fL C;rw[pz];exact Lj C l hB (QN C l hB D k (by omega)) (by omega) (by omega) _ (by omega)
structure xw (B:Int) (c:ax):Prop where
 hB:0<=B
 g:cq c.config.ak=true
 a:eY c.config.ak B c.array
 k:aP c.config.gV 1 16=true
 p:c.pending.length<=200
 t:(c.bA.length:Int)=aJ c.config.ak
 d:(c.guard.length:Int)=aJ c.config.ak
 r:(c.aD.aB.length:Int)=aJ c.config.ak
def xw.X0{B:Int}{c:ax}(h:xw B c)(k:Nat)(C:(k:Int)<=aJ c.config.ak)(pd:aa aO)(D:pd.length<=200):xw B (jg c k pd):=
 ⟨h.hB,h.g,QN h.g c.config.di h.hB h.a k C,h.k,D,(bB (λn:Nat=>(n:Int)) (xu _ _ k)).trans h.t,(bB (λn:Nat=>(n:Int)) (xu _ _ k)).trans h.d,(bB (λn:Nat=>(n:Int)) (xu _ _ k)).trans h.r⟩
def avQ(c:ax)(k:Nat)(pd C:aa aO):jg c (k+1) C=⟨c.config,c.box,c.now,c.aN,c.ready,(QM (jg c k pd) (k:Int) C).array,c.spare,⟨(jg c k pd).aD.aB.set k 0,c.aD.wait,c.aD.dP⟩,(QM (jg c k pd) (k:Int) C).bA,(QM (jg c k pd) (k:Int) C).guard,C,c.queue,c.shares,c.drain,c.aR,c.dJ,c.errors,c.trace,c.bF⟩:=by
 unfold jg;simp only[pz];rfl
def avR{B:Int}{c:ax}(h:xw B c):iter zp bq (((),(c.bA.length:Int),(0:Int),()),(jg c 0 [],()))=some (.inl ((),(jg c c.bA.length [],()))):=by
 have U:=eI c.config.ak;have Y:=h.t;have e:=eV (step:=zp) c.bA.length (λi=>(((),c.bA.length,i,()),(jg c i [],()))) _ bq (λk Z=>by
  have C:=h.X0 k (by omega) [] (by simp);have w1:=C.t;have E:=C.d;have I:=C.r;have D:aJ (jg c k []).config.ak=aJ c.config.ak:=rfl;rw[D]at w1 E I;have O:=ahH C.hB _ C.g C.a (b:=(k:Int)) (by omega) (by rw[D];omega);have T:=ahI (dX (jg c k []) (fW (jg c k []).config.ak (jg c k []).config.di (jg c k []).array (k:Int) (jg c k []).config.ak.rows.toNat)) C.k (b:=(k:Int)) (by omega) (by show (k:Int).toNat<(jg c k []).bA.length;omega) (by show (k:Int).toNat<(jg c k []).guard.length;omega);rw[avQ c k [] []];unfold zp aE xG xL;dsimp only;rw[bf,aq,O,au,T,au,bN];have w4:k<(jg c k []).aD.aB.length:=by omega
  rw[aK ⟨by omega,by show (k:Int).toNat<(jg c k []).aD.aB.length;omega⟩,aK (by show (k:Int).toNat<(jg c k []).aD.aB.length;omega)];rfl) (by
  unfold zp aE xG xL;dsimp only;rw[br,av]) (bS)
 simp_all
def wv(l:aa Int):Nat->Int
 |0=>0
 |i+1=>bits .or .i64 (wv l i) (W6 (l.getD i 0*2 ^ (min (4*(i:Int)).toNat IntKind.i64.bits)))
def avS{l:aa Int}(h:l.length=8)(C:∀ s∈l,0 <= s/\s <= 15):sN l 8=true:=by
 simp[sN,aM,bT,xe,bu];simp_all
def avT{l:aa Int}(h:l.length=8)(D:∀ s∈l,0<=s/\s<=15):Pa l=some (wv l 8,true):=by
 unfold Pa bR;rw[agu _ _ (by omega),avS h D,au];have e:=eV (step:=J7) 8 (λi=>((wv l i,l,(l.length:Int),(i:Int),()),())) (.inl ((wv l 8,()),())) bq (λi hi=>by
  have C:i<l.length:=by omega
  have E:W6 (4*(i:Int))=4*(i:Int):=aZ;have I:¬ 4*(i:Int)<0:=by omega
  have O:l.getD i 0=l[i]:=by rw[cK,bK C];rfl
  have T:wv l (i+1)=bits .or .i64 (wv l i) (W6 (l.getD i 0*2 ^ (min (4*(i:Int)).toNat IntKind.i64.bits))):=rfl;unfold J7 aE xG xI;rw[T,O];simp (disch:=omega) [C,E,I,bN]) (by unfold J7 aE xG xI;simp[h]) (bS)
 rw[cY]at e;simp only[bE,av];have U:wv l 0=0:=rfl;rw[U]at e;rw[e];rfl
def avU{w:aa Nat}(D:ig w)(hl:w.length=11):(bI (w.drop 3)).length=8 /\ ∀ s∈bI (w.drop 3),0 <= s/\s <= 15:=by
 refine⟨by rw[qL];simp[hl],λs C=>?_⟩
 simp only[ List.mem_map]at C;obtain⟨x,E,rfl⟩:=C;have:=D x (List.mem_of_mem_drop E);omega
def Gj(w:aa Nat):Int:=bif (jx w).2.1==2 then 0 else wv (bI ((jx w).1.drop 3)) 8
def avV{w:aa Nat}(C:ig w)(hl:w.length=11):Pc (bI w)=some (Gj w,(jx w).2.1,(jx w).2.2):=by
 have⟨D,E,_⟩:=Qy C hl;have⟨d1,d2⟩:=avU E D;unfold Pc Gj;rw[Xx C hl,au];cases h:(jx w).2.1==2 with
 |true=>simp
 | false=>
  rw[ auX E D,au,avT d1 d2];rfl
def nw(c:bO):aa Nat:=c.symbols.map Int.toNat
def Gk{c:bO}(h:Sy c.symbols):bI (nw c)=c.symbols/\ig (nw c)/\(nw c).length=11:=by
 have⟨C,D⟩:=agy _ h.2;exact⟨C,D,by simp[nw,h.1]⟩
def jh(c:bO):Int:=bif c.kj then 2 else (jx (nw c)).2.1
def kS(c:bO):bO:=bif c.kj then c else bif (jx (nw c)).2.1==1 then ⟨bI (jx (nw c)).1,c.kj⟩else bif (jx (nw c)).2.1==2 then ⟨c.symbols,true⟩else c
def avW{l:aa bO}{j:Nat}(h:j<l.length):l.set j l[j]=l:=List.set_getElem_self h
def X3{c:bO}(h:Sy c.symbols):Sy (kS c).symbols:=by
 have⟨O,C,D⟩:=Gk h;have⟨E,I,_⟩:=Qy C D;unfold kS;cases c.kj with
 |true=>exact h
 | false=>
  cases (jx _).2.1==1 with
  |true=>exact agz I E
  |false=>grind
def zE(x:Int)(k:Nat):Int:=bits .and .i64 (x.fdiv (2 ^ (min (4*(k:Int)).toNat IntKind.i64.bits))) 15
def lJ(x:Int):Nat->aa Int
 |0=>[]
 |k+1=>lJ x k++[zE x k]
def QO(x:Int):∀ k,(lJ x k).length=k
 |0=>rfl
 |k+1=>by simp[lJ,QO x k]
def ahJ(x:Int):∀ k,∀ s∈lJ x k,0<=s/\s<=15
 |0,s,h=>by cases h
 | k+1,s,h=>by
  rcases List.mem_append.1 h with h|h
  ·exact ahJ x k s h
  ·rw[iw.1 h];exact auR _
def avX{x:Int}(U:0<=x)(Y:x<=4294967295):OO x=some (lJ x 8):=by
 have C:aP x 0 4294967295=true:=by rw[bu];omega
 unfold OO C4 bR;rw[cV,au,au,C,bE,av];have e:=eV (step:=Jz) 8 (λk=>((x,(),(k:Int),()),(lJ x k,()))) (.inl (((),()),(lJ x 8,()))) bq (λk Z=>by
  have D:(k:Int)<8:=by omega
  have E:bX ((lJ x k).length+1)=true:=eE (by rw[QO];omega);have I:W6 (4*(k:Int))=4*(k:Int):=aZ;have O:¬ 4*(k:Int)<0:=by omega
  unfold Jz aE xG;simp (disch:=omega) [D,I,O,E,bN,lJ,zE]) (by
  unfold Jz aE xG;simp) (bS)
 rw[cY]at e;have T:lJ x 0=[]:=rfl;rw[T]at e;rw[e];rfl
def QS{a b:aa Nat}(h:bI a=bI b):a=b:=(List.map_inj_right (λx y h=>by
 omega)).1 h
def nK(x:Int):aa Int:=(A6 x).getD []
def Gl{x:Int}(E:0 <= x)(I:x <= 4294967295):A6 x=some (nK x)/\Sy (nK x) /\ ∃ w,nK x=bI w/\w.length=11/\ig w/\bI (w.drop 3)=lJ x 8/\BG w=true:=by
 have O:aP x 0 4294967295=true:=by rw[bu];omega
 have⟨t1,t2⟩:=agy _ (ahJ x 8);have tl:((lJ x 8).map Int.toNat).length=8:=by rw[fy,QO]
 have⟨w,C,l1,d1,T,U,Y,Z⟩:=atp t2 tl;have z1:BG w=true:=by simp[BG,U,Y,Z]
 rw[t1]at C;have D:A6 x=some (bI w):=by
  unfold A6 C4;rw[cV,au,au,O,bE,av,avX E I,au,C,au]
 have ee:nK x=bI w:=by unfold nK;rw[D];rfl
 rw[ee];exact⟨D,agz d1 l1,w,rfl,l1,d1,by rw[T,t1],z1⟩
def avY{a b:Nat}(E:a<9223372036854775808)(hb:b<9223372036854775808):bits .or .i64 (a:Int) (b:Int)=((a ||| b:Nat):Int):=by
 have e:bits .or .i64 (a:Int) (b:Int)=W6 ((BitVec.ofInt 64 (a:Int) |||BitVec.ofInt 64 (b:Int)).toNat:Int):=rfl;have h:a |||b<2 ^ 63:=Nat.or_lt_two_pow (by omega) (by omega);have C:BitVec.ofInt 64 (a:Int)=BitVec.ofNat 64 a:=BitVec.ofInt_natCast 64 a;have D:BitVec.ofInt 64 (b:Int)=BitVec.ofNat 64 b:=BitVec.ofInt_natCast 64 b;rw[e,C,D,BitVec.toNat_or,BitVec.toNat_ofNat,BitVec.toNat_ofNat,Nat.mod_eq_of_lt (by omega),Nat.mod_eq_of_lt (by omega),aZ]
def ahK(a:Nat)(I:a<9223372036854775808):bits .and .i64 (a:Int) 15=((a % 16:Nat):Int):=by
 have e:bits .and .i64 (a:Int) 15=W6 ((BitVec.ofInt 64 (a:Int) &&& BitVec.ofInt 64 15).toNat:Int):=rfl;have C:BitVec.ofInt 64 (a:Int)=BitVec.ofNat 64 a:=BitVec.ofInt_natCast 64 a;have D:(BitVec.ofInt 64 15).toNat=15:=rfl;have E:a &&& 15=a % 16:=Nat.and_two_pow_sub_one_eq_mod a 4;rw[e,C,BitVec.toNat_and,BitVec.toNat_ofNat,Nat.mod_eq_of_lt (by omega),D,E,aZ]
def nv(d:aa Nat):Nat->Nat
 |0=>0
 |k+1=>nv d k+d.getD k 0*16 ^ k
def Lk{d:aa Nat}(C:ig d):∀ k,nv d k<16 ^ k
 |0=>Nat.one_pos
 | k+1=>by
  have D:=Lk C k;have E:=C.get k;have I:d.getD k 0*16 ^ k <= 15*16 ^ k:=iP _ (by omega);show nv d k+d.getD k 0*16 ^ k<16 ^ (k+1)
  grind
def X4(k:Nat)(C:k<8):(min (4*(k:Int)).toNat IntKind.i64.bits)=4*k:=by
 have:IntKind.i64.bits=64:=rfl;rw[this];omega
def X5{d:aa Nat}(C:ig d)(hl:d.length=8):∀ k,k<=8->wv (bI d) k=(nv d k:Int)
 |0,_=>rfl
 | k+1,h=>by
  have E:=Lk C k;have T:=C.get k;have U:(16:Nat) ^ k<=16 ^ 7:=Nat.pow_le_pow_right (by decide) (by omega);have D:(2:Nat) ^ (4*k)=16 ^ k:=by rw[Nat.pow_mul]
  have Y:d.getD k 0*16 ^ k<=15*16 ^ k:=iP _ (by omega);have I:(bI d).getD k 0=((d.getD k 0:Nat):Int):=by
   rw[cK,bK (by rw[qL];omega)];exact FY (by rw[qL];omega)
  have O:((d.getD k 0:Nat):Int)*2 ^ (4*k)=((d.getD k 0*16 ^ k:Nat):Int):=by
   rw[<-D]
   push_cast
   rfl
  show bits .or .i64 (wv (bI d) k) (W6 ((bI d).getD k 0*2 ^ (min (4*(k:Int)).toNat IntKind.i64.bits)))=((nv d k+d.getD k 0*16 ^ k:Nat):Int)
  rw[X5 C hl k (by omega),X4 k (by omega),I,O,aZ,avY (by omega) (by omega)];congr 1;have:=Nat.two_pow_add_eq_or_of_lt (i:=4*k) (b:=nv d k) (by rw[D];exact E) (d.getD k 0);rw[D,Nat.mul_comm]at this;rw[Nat.or_comm,<-this];omega
def ahL{d:aa Nat}(C:ig d):∀ n k,k<n -> nv d n / 16 ^ k % 16=d.getD k 0
 |0,k,h=>by omega
 | n+1,k,h=>by
  have D:=Lk C n;have I:=C.get n;show (nv d n+d.getD n 0*16 ^ n) / 16 ^ k % 16=_;by_cases e:k=n
  ·subst e;rw[Nat.add_mul_div_right _ _ (Nat.pow_pos (by decide)),Nat.div_eq_of_lt D,fO];omega
  ·have O:n=(n-k-1)+1+k:=by omega
   have E:d.getD n 0*16 ^ n=(d.getD n 0*16 ^ (n-k-1)*16)*16 ^ k:=by
    grind
   rw[E,Nat.add_mul_div_right _ _ (Nat.pow_pos (by decide)),Nat.add_mul_mod_self_right,ahL C n k (by omega)]
def avZ{d:aa Nat}(C:ig d)(hl:d.length=8):lJ (wv (bI d) 8) 8=bI d:=by
 have O:nv d 8<16 ^ 8:=Lk C 8;rw[X5 C hl 8 (dg _)];have key:∀ k,k <= 8 -> lJ (nv d 8:Int) k=bI (d.take k):=by
  intro k
  induction k with
  |zero=>intro _;rfl
  | succ k D=>
   intro T;have U:(2:Nat) ^ (4*k)=16 ^ k:=by rw[Nat.pow_mul]
   have E:(nv d 8:Int).fdiv (2 ^ (4*k))=((nv d 8 / 16 ^ k:Nat):Int):=by
    grind
   have I:zE (nv d 8:Int) k=((d.getD k 0:Nat):Int):=by
    unfold zE;rw[X4 k (by omega),E,ahK _ (Nat.lt_of_le_of_lt (Nat.div_le_self _ _) (by omega)),ahL C 8 k (by omega)]
   show lJ (nv d 8:Int) k++[zE (nv d 8:Int) k]=_;rw[D (by omega),I,List.take_add_one,bK (by omega),cK,bK (by omega)];exact(List.map_append (f:=λn:Nat=>(n:Int)) (l₁:=d.take k) (l₂:=[d[k]])).symm
 rw[key 8 (dg _),<- hl,List.take_length]
def av0{d:aa Nat}(C:ig d)(hl:d.length=8):0 <= wv (bI d) 8/\wv (bI d) 8 <= 4294967295:=by
 have D:=Lk C 8;rw[X5 C hl 8 (dg _)];omega
def vQ(d:bO):Int:=bif d.kj then 0 else Gj (nw d)
def xx(c:ax)(j:Nat)(d:bO):ax:=dX c ⟨c.array.cells.set j d,c.array.bh,c.array.aY⟩
def av1{c:ax}{j:Nat}(h:j<c.array.cells.length):xx c j c.array.cells[j]=c:=by
 unfold xx dX;rw[avW h]
def ahM{c:ax}{j:Nat}(C:j<c.array.cells.length)(T:Sy c.array.cells[j].symbols):zo c (j:Int)=some ((vQ c.array.cells[j],jh c.array.cells[j]),(xx c j (kS c.array.cells[j]),())):=by
 have⟨U,D,E⟩:=Gk T;have I:=Xx D E;have O:=avV D E;rw[U]at I O;have Z:=av1 C;unfold zo jh kS vQ xL xM;rw[aK ⟨by omega,by omega⟩,aK];simp only[bz];cases Y:c.array.cells[j].kj with
 |true =>simp_all
 | false=>
  rw[av,av,av,av,aK C,aK C,I,au,aK C,aK C,O,au];dsimp only;rcases(Qy D E).2.2 with q|q|q
  ·grind
  ·rw[q,iQ,aK C,Y];rfl
  ·rw[q,jw (by omega),av,iQ,aK C];rfl
def BS(q:aa aU)(i:Nat):Bool:=match q[i]? with
 |some r=>(q.take i).any λx=>x.line==r.line
 |none=>false
def av2{q:aa aU}{i:Nat}(h:i<q.length):BS q i=(q.take i).any λx=>x.line==q[i].line:=by
 unfold BS;rw[bK h]
def av3{q:aa aU}{i:Nat}(h:i<q.length)(I:q.length <= 1000):Px q (i:Int)=some (BS q i):=by
 have O:=Ge (λx:aU=>x.line==q[i].line) (q.take i);have hlen:(q.take i).length=i:=by rw[kU];omega
 unfold Px bY;rw[cV,au,QJ (by omega) (by omega) (by omega),bE,av,aW ⟨by omega,by omega,by omega⟩,av2 h,XG];simp only[bz,Int.toNat_zero,List.drop_zero];generalize T:q.take i=t at *
 have e:=eV (step:=FF) (fH (λx:aU=>x.line==q[i].line) t) (λj=>((q,(i:Int),t,(t.length:Int),(j:Int),()),())) (if fH (λx:aU=>x.line==q[i].line) t<t.length then .inl ((true,()),())else .inr (.inl ((),()))) bq (λk E=>by
  have D:=vL E (by omega);unfold FF aE bk xG xI;dsimp only;rw[bf,aq,aK ⟨by omega,by omega⟩,aK ⟨by omega,by omega⟩];simp only[bz];rw[D,av,bN]) (by
  by_cases C:fH (λx:aU=>x.line==q[i].line) t<t.length
  ·have D:=BO C;unfold FF aE bk xG xI;dsimp only;rw[bf,aq,aK ⟨by omega,by omega⟩,aK ⟨by omega,by omega⟩]
   grind
  ·unfold FF aE bk xG xI;dsimp only;rw[br,av,aX C]) (bS)
 rw[cY]at e
 refine(bB (λo=>Option.bind o _) e).trans ?_
 by_cases C:fH (λx:aU=>x.line==q[i].line) t<t.length
 ·rw[aW C,bf C];rfl
 ·rw[aX C,br C];rfl
def Gm(d:lM)(n:Int)(w:Bool):Bool:=bif w then d.on ||decide (n<1)else !d.on
def av4{d:lM}(n:Int)(w:Bool)(h:o7 d=true):Py d n w=some (Gm d n w):=by
 unfold Py Gm;rw[Qp,h]
 grind
def xy(p:Nat->Bool)(k:Nat):Int:=((List.range k).countP p:Nat)
def ahN(p:Nat -> Bool)(k:Nat):xy p (k+1)=xy p k+(bif p k then 1 else 0):=by
 unfold xy;rw[List.range_succ,List.countP_append,List.countP_singleton]
 grind
def ahO(p:Nat -> Bool)(k:Nat):0 <= xy p k/\xy p k <= k:=by
 unfold xy;have:=List.countP_le_length (p:=p) (l:=List.range k);simp_all
def sU(f:Nat->Bool)(n k:Nat):aa Bool:=(List.range k).map f++List.replicate (n-k) false
def QT{f:Nat->Bool}{n k:Nat}(h:k<=n):(sU f n k).length=n:=by unfold sU;simp;omega
def QU{f:Nat -> Bool}{n k:Nat}(h:k<n):(sU f n k).set k (f k)=sU f n (k+1):=by
 unfold sU;rw[List.set_append_right _ _ (by simp),fy,dw,Nat.sub_self,show n-k=(n-(k+1))+1 by omega,List.replicate_succ,List.range_succ,List.map_append,List.append_assoc];rfl
def X6(f:Nat->Bool)(n:Nat):sU f n 0=List.replicate n false:=rfl
def QV(f:Nat->Bool)(n:Nat):sU f n n=(List.range n).map f:=by unfold sU;simp
def Ll{f:Nat->Bool}{n k:Nat}(h:k<n)(C:k<((List.range n).map f).length):((List.range n).map f)[k]=f k:=by simp
def rL(q:aa aU)(i:Nat):Bool:=match q[i]? with
 |some r=>r.write
 |none=>false
def Ln{q:aa aU}{i:Nat}(h:i<q.length):rL q i=q[i].write:=by
 unfold rL;rw[bK h]
def nL(q:aa aU)(i:Nat):Bool:=!BS q i
def xz(q:aa aU)(k:Nat):Int:=xy (λi=>nL q i && !rL q i) k
def xB(q:aa aU)(k:Nat):Int:=xy (λi=>nL q i&&rL q i) k
def ox(c:ax)(i:Nat):Bool:=nL c.queue i&&(Gm c.drain (xz c.queue c.queue.length) (rL c.queue i) ||(!rL c.queue i&&xB c.queue c.queue.length==0))
def ir(c:ax):aa aO:=c.queue.map λr=>cW c r.line
def DL(c:ax):(ir c).length=c.queue.length:=by unfold ir;rw[fy]
def ahP{c:ax}{i:Nat}(h:i<c.queue.length)(C:i<(ir c).length):(ir c)[i]=cW c c.queue[i].line:=by simp only[ir,List.getElem_map]
def QW{c:ax}(h:Pq c){r:aU}(C:r∈c.queue):wZ c r.line=some (cW c r.line,true)/\dU c.config.ak (cW c r.line)=true:=
 XU h.p h.sp h.se h.mo (h.q r C).1.1 (h.q r C).1.2
def av5{c:ax}(h:Pq c):Pw c=some (ir c):=by
 have D:=h.ql;have e:=eV (step:=Kh) c.queue.length (λi=>(((),(),c.queue,c.queue.length,i,()),(c,(c.queue.take i).map _,()))) (.inl (((),()),(ir c,()))) bq (λk C=>by
  have hl:((c.queue.take k).map (λr=>cW c r.line)).length=k:=by simp;omega
  unfold Kh aE xG xI;dsimp only;rw[bf,aq,aK ⟨by omega,by omega⟩];simp only[bz];rw[(QW h (cX C)).1,au,bN,hl,List.length_singleton,eE,aq,Dv C,List.map_append];rfl) (by
  unfold Kh aE xG xI;dsimp only;rw[br,av,List.take_length];rfl) (bS)
 unfold Pw bR;simp_all
def zA:aO:=⟨0,0,0⟩
def zQ:aU:=⟨0,0,0,false,0,0⟩
def cD(c:ax)(i:Nat):aO:=(ir c).getD i zA
def rM(c:ax)(i:Nat):aU:=c.queue.getD i zQ
def Lo{c:ax}{i:Nat}(h:i<(ir c).length):(ir c)[i]=cD c i:=by
 unfold cD;rw[cK,bK h];rfl
def Gq{c:ax}{i:Nat}(h:i<c.queue.length):c.queue[i]=rM c i:=by
 unfold rM;rw[cK,bK h];rfl
def Gr{c:ax}(h:Pq c){i:Nat}(hi:i<c.queue.length):dU c.config.ak (cD c i)=true/\0 <= (cD c i).ay/\(cD c i).ay.toNat<c.aN.aI.length/\(cD c i).ay.toNat<c.aD.aB.length/\(cD c i).ay<aJ c.config.ak/\0 <= (cD c i).row:=by
 have e:=ahP hi (by rw[DL];exact hi);rw[Lo]at e;have C:=(QW h (cX hi)).2;rw[<- e]at C;have⟨_,D,E,I,O,T,U⟩:=oX C;have:=h.p.bl;have:=h.dl;simp_all
def Gs{c:ax}(h:Pq c):c.aN.aI.length<=1048576:=by
 have:=h.p.bl;have:=eI c.config.ak;omega
def gz(c:ax)(i:Nat):Bool:=Le c.aN (cD c i)
def av6{c:ax}(h:Pq c)(C:aa Int)(D:aa aO)(Z:Int×Int×Int×Int×ah)(P:Int×Int×Int×Int×Int×(aa Int)×Int×Int×ah):iter FI bq ((C,D,(),(),(),(),(0:Int),(0:Int),c.queue,(c.queue.length:Int),(0:Int),()),(c,Z,P,List.replicate c.queue.length false,()))=some (.inl ((C,D,(),(),(),(),xz c.queue c.queue.length,xB c.queue c.queue.length,()),(c,Z,P,(List.range c.queue.length).map (nL c.queue),()))):=by
 have O:=h.ql;have e:=eV (step:=FI) c.queue.length (λi=>((C,D,(),(),(),(),xz c.queue i,xB c.queue i,c.queue,(c.queue.length:Int),(i:Int),()),(c,Z,P,sU (nL c.queue) c.queue.length i,()))) (.inl ((C,D,(),(),(),(),xz c.queue c.queue.length,xB c.queue c.queue.length,()),(c,Z,P,(List.range c.queue.length).map (nL c.queue),()))) bq (λk E=>by
  have T:=ahO (λi=>nL c.queue i && !rL c.queue i) k;have U:=ahO (λi=>nL c.queue i&&rL c.queue i) k;have I:nL c.queue k = !BS c.queue k:=rfl;have hl:=QT (f:=nL c.queue) (n:=c.queue.length) (k:=k) (by omega);have Y:((sU (nL c.queue) c.queue.length k).set k (!BS c.queue k)).length=c.queue.length:=by rw[gR,hl]
  rw[<- QU E];unfold FI aE xG xI xL;dsimp only;rw[bf,aq,aK ⟨by omega,by omega⟩,av3 E (by omega),au,aK ⟨by omega,by omega⟩,aK,aK ⟨by omega,by simp only[bz];omega⟩,aK (by simp only[bz];omega),bN];simp only[bz,List.getElem_set_self];unfold xz xB at *
  rw[ahN,ahN];simp only[I,Ln E];cases BS c.queue k with
  | true=>
   simp[*]
  | false=>
   rw[Bool.not_false,aq];cases c.queue[k].write with
   |true=>rw[ aZ];simp
   | false=>
    rw[av,aK ⟨by omega,by rw[gR];omega⟩,aK (by rw[gR];omega),aZ];simp) (by
  unfold FI aE xG xI xL;dsimp only;rw[br,av,QV]) (bS)
 rw[cY,X6]at e;exact e
def uD(c:ax):Nat->aa (Int×Bool)
 |0=>[]
 |k+1=>bif ox c k&&gz c k then oa (uD c k) (cD c k).ay true else uD c k
def Lp(c:ax)(k:Nat)(b:Int):Bool:=(List.range k).any λi=>ox c i&&gz c i&&b==(cD c i).ay
def ahQ(c:ax)(b:Int):∀ k,m9 (uD c k) b=Lp c k b
 |0=>rfl
 | k+1=>by
  have C:=ahQ c b k;have e:Lp c (k+1) b=(Lp c k b || (ox c k&&gz c k&&b==(cD c k).ay)):=by
   unfold Lp
   grind
  rw[e,<- C];show m9 (bif ox c k&&gz c k then oa _ (cD c k).ay true else uD c k) b=_;cases ox c k&&gz c k with
  |false=>simp
  |true=>rw[aq,auL,cw,Bool.or_comm]
def av7{c:ax}(h:Pq c)(D:aa Int)(Z:Int×Int×Int×Int×ah)(P:Int×Int×Int×Int×Int×(aa Int)×Int×Int×ah):iter FJ bq ((D,ir c,(),(),(),(),xz c.queue c.queue.length,xB c.queue c.queue.length,(),(),(),c.queue,(c.queue.length:Int),(0:Int),()),(c,Z,P,(List.range c.queue.length).map (nL c.queue),List.replicate c.queue.length false,List.replicate c.queue.length false,([]:aa (Int×Bool)),()))=some (.inl ((D,ir c,(),(),(),(),(),(),()),(c,Z,P,(List.range c.queue.length).map (ox c),(List.range c.queue.length).map (gz c),uD c c.queue.length,()))):=by
 have hq:=h.ql;have E:=Gs h;have e:=eV (step:=FJ) c.queue.length (λi=>((D,ir c,(),(),(),(),xz c.queue c.queue.length,xB c.queue c.queue.length,(),(),(),c.queue,(c.queue.length:Int),(i:Int),()),(c,Z,P,(List.range c.queue.length).map (nL c.queue),sU (ox c) c.queue.length i,sU (gz c) c.queue.length i,uD c i,()))) (.inl ((D,ir c,(),(),(),(),(),(),()),(c,Z,P,(List.range c.queue.length).map (ox c),(List.range c.queue.length).map (gz c),uD c c.queue.length,()))) bq (λk C=>by
  have hl:=QT (f:=ox c) (n:=c.queue.length) (k:=k) (by omega);have I:=QT (f:=gz c) (n:=c.queue.length) (k:=k) (by omega);have O:=DL c;have QX:((List.range c.queue.length).map (nL c.queue)).length=c.queue.length:=by simp
  obtain⟨ho,T,U,o3,o4,Y⟩:=Gr h C;have hh:=avB (r:=c.aN) (a:=cD c k) Y T U E;have hd:ox c k=(nL c.queue k&&(Gm c.drain (xz c.queue c.queue.length) c.queue[k].write ||(!c.queue[k].write&&xB c.queue c.queue.length==0))):=by unfold ox;rw[Ln C]
  have hhb:uD c (k+1)=bif ox c k&&gz c k then oa (uD c k) (cD c k).ay true else uD c k:=rfl;have hit:gz c k=Le c.aN (cD c k):=rfl;rw[<-QU C,<-QU C,hhb];unfold FJ aE xG xI xL;dsimp only;rw[bf,aq,aK ⟨by omega,by omega⟩,aK ⟨by omega,by omega⟩,aK];simp only[bz,Ll C,av4 _ _ h.dr,au,Lo,hh,bN (show k<4611686018427387904 by omega),List.getElem_set_self,gR,hl,I,O];rw[hd,hit];cases nL c.queue k<;>cases Gm c.drain (xz c.queue c.queue.length) c.queue[k].write<;>cases c.queue[k].write<;>cases Le c.aN (cD c k)<;>cases xB c.queue c.queue.length==0<;>simp[C]) (by
  unfold FJ aE xG xI xL;dsimp only;rw[br,av,QV,QV]) (bS)
 rw[cY,X6,X6]at e;exact e
def QY(e:cr):cr:=⟨e.line,e.code,(if (999:Int)<(W6 (e.times+(1:Int)))then (999:Int)else (W6 (e.times+(1:Int))))⟩
def zEE:cr:=⟨0,0,0⟩
def nM(l:aa cr)(line code:Int):aa cr:=match l.findIdx? (mK ⟨line,code,1⟩)with
 |some i=>l.set i (QY (l.getD i zEE))
 |none=>bif ((l.length:Int)==(6:Int))then l.drop 1++[⟨line,code,1⟩]else l++[⟨line,code,1⟩]
def av8{l:aa cr}(h:nE l=true){line code:Int}(D:0<=line/\line<=1023)(E:code=1\/code=2):Pe l line code=some (nM l line code,true):=by
 have hl:l.length<=6:=by
  simp only[nE,aM,gB]at h;omega
 have I:aP line 0 1023=true:=bu.2 D;unfold Pe J8 nM bY xA xZ;rw[eE (by simp;omega),aq,au,agN _ (by omega),au,h,bE,av,cV,au,I,bE,av,List.nil_append];have e:=zw (step:=J9) l (mK ⟨line,code,1⟩) (λk=>((line,code,(),(),(l.length:Int),(k:Int),()),(l,()))) (λi=>.inl (((),true,()),(l.set i (QY (l.getD i zEE)),()))) (.inr (.inl ((line,code,(),()),(l,())))) bq (λk O=>by
  unfold J9 mK aE bk xG xL;dsimp only;rw[bf,aq,aK ⟨by omega,by omega⟩,aK];simp only[bz];rw[aK ⟨by omega,by omega⟩,aK,bN,gQ _ O];cases l[k].line==line<;>cases l[k].code==code<;>rfl) (by
  unfold J9 aE bk xG xL;dsimp only;rw[br,av]) (bS)
 rw[cY]at e;have T:iter Ws bq ((line,code,(),(),(l.length:Int),(0:Int),()),(l,()))=_:=e;rcases E with rfl|rfl
 ·rw[mU,av,T];cases l.findIdx? (mK ⟨line,1,1⟩)with
  |some i=>rfl
  | none=>
   rw[au,Sum.elim_inr,gq];dsimp only;cases C:(l.length:Int)==(6:Int)with
   |false=>rw[av,av,eE (by simp;omega)];rfl
   | true=>
    have C:=eq_of_beq C;rw[aq,aq,aW ⟨by omega,by omega,by omega⟩,eE (by simp;omega),aq,au,eE (by simp;omega),aq];simp
 ·rw[fR (by omega),aq,mU,av,e];cases l.findIdx? (mK ⟨line,2,1⟩)with
  |some i=>rfl
  | none=>
   rw[au,Sum.elim_inr,gq];dsimp only;cases C:(l.length:Int)==(6:Int)with
   |false=>rw[av,av,eE (by simp;omega)];rfl
   | true=>
    have C:=eq_of_beq C;rw[aq,aq,aW ⟨by omega,by omega,by omega⟩,eE (by simp;omega),aq,au,eE (by simp;omega),aq];simp
def QZ(c:ax)(l:aa cr):ax:=⟨c.config,c.box,c.now,c.aN,c.ready,c.array,c.spare,c.aD,c.bA,c.guard,c.pending,c.queue,c.shares,c.drain,c.aR,c.dJ,l,c.trace,c.bF⟩
def Q0(c:ax)(n code:Int):ax:=bif code != 0 then QZ c (nM c.errors n code)else c
def ahR{c:ax}(h:nE c.errors=true){n code:Int}(C:0<=n/\n<=1023)(h2:code=0\/code=1\/code=2):zn c n code=some ((),(Q0 c n code,())):=by
 unfold zn Q0;rcases h2 with rfl|h2
 ·rfl
 ·rw[av8 h C h2,fR (by omega)];rfl
def av9(q:aa aU):Prop:=∀i (h:i<q.length),(q.take i).any (λx=>x.id==q[i].id)=false
def awa{q:aa aU}{i:Nat}(h:i<q.length)(hl:q.length<=12):PY q (i:Int) (W6 ((i:Int)+1))=some (q.take i++q.drop (i+1),([],())):=by
 have C:(splice q i ((q.take ((q.length:Int).toNat)).drop (i+1))).length=q.length:=by
  rw[uM _ _ _ (by simp;omega)]
 have E:((q.take ((q.length:Int).toNat)).drop (i+1))=q.drop (i+1):=by rw[bz,List.take_length]
 unfold PY;rw[bN,aW ⟨by omega,by omega,by omega,by omega⟩,jw (by omega),av,aW ⟨by omega,by omega,by omega⟩,aW ⟨by omega,by omega,by omega⟩];simp only[bz]at C ⊢;rw[aW ⟨by omega,by omega,by omega,by omega⟩,aW ⟨by omega,by omega,by omega⟩,aW ⟨by omega,by omega⟩];have D:i+(q.length-(i+1))-0=i+(q.length-(i+1)):=by omega
 rw[D,XY _ _ _ (by omega)];unfold splice;rw[List.take_length,List.take_append_of_le_length (by simp;omega),List.take_of_length_le (by simp;omega)]
def mR:aU:=⟨0,0,0,false,0,0⟩
def DM(s:aa cQ)(t:Int):aa cQ:=match rC s ((List.replicate 4 false).set t.toNat true)with
 |some (l,_)=>l
 |none=>[]
def rN(c:ax)(i:Nat)(a:cL)(e:aa cr)(x:ey):ax:=
 ⟨c.config,c.box,c.now,c.aN,c.ready,a,c.spare,c.aD,c.bA,c.guard,c.pending,c.queue.take i++c.queue.drop (i+1),DM c.shares (c.queue.getD i mR).eG,c.drain,c.aR,c.dJ,e,c.trace,c.bF++[x]⟩
def gH(c:ax)(i:Nat):ax:=
 let r:=c.queue.getD i mR
 let n:=dG c.config.ak (cW c r.line)
 bif r.write then rN c i ⟨c.array.cells.set n ⟨nK r.data,false⟩,c.array.bh,c.array.aY⟩ c.errors ⟨r.id,c.now,0,0⟩
 else rN c i ⟨c.array.cells.set n (kS (c.array.cells.getD n vM)),c.array.bh,c.array.aY⟩ (bif jh (c.array.cells.getD n vM) != 0 then nM c.errors (n:Int) (jh (c.array.cells.getD n vM))else c.errors) ⟨r.id,c.now,vQ (c.array.cells.getD n vM),jh (c.array.cells.getD n vM)⟩
def X7{d:bO}(h:Sy d.symbols):jh d=0 \/ jh d=1 \/ jh d=2:=by
 have⟨E,C,D⟩:=Gk h;unfold jh;cases d.kj with
 |true=>simp_all
 |false=>exact(Qy C D).2.2
structure qP (c:ax) (i:Nat) (B:Int):Prop where
 ad:∀r∈c.queue,wZ c r.line=some (cW c r.line,true)/\dU c.config.ak (cW c r.line)=true
 tn:∀r∈c.queue,0<=r.eG/\r.eG<=3
 ql:c.queue.length<=12
 sh:iM c.shares=true
 shl:c.shares.length=4
 u:av9 c.queue
 i:i<c.queue.length
 d:∀r∈c.queue,0<=r.data/\r.data<=4294967295
 a:eY c.config.ak B c.array
 e:nE c.errors=true
 r:c.bF.length<=1000
def qP.facts{c:ax}{i:Nat}{B:Int}(h:qP c i B){r:aU}(C:r∈c.queue):wZ c r.line=some (cW c r.line,true)/\qK c.config.ak (cW c r.line)=(dG c.config.ak (cW c r.line):Int)/\dG c.config.ak (cW c r.line)<c.array.cells.length/\(dG c.config.ak (cW c r.line):Int) <= 1023/\rC c.shares ((List.replicate 4 false).set r.eG.toNat true)=some (DM c.shares r.eG,(rC c.shares ((List.replicate 4 false).set r.eG.toNat true)).get!.2)/\0 <= r.eG/\r.eG.toNat<4:=by
 obtain⟨D,E⟩:=h.ad _ C;have I:=h.tn _ C;obtain⟨O,T⟩:=Gc E;have U:=h.a.cells;have hl:=lD c.config.ak;obtain⟨y,t,e,_⟩:=XR ((List.replicate 4 false).set _ true) (by have:=h.shl;omega) h.sh (by simp[h.shl]);refine⟨D,O,by omega,by omega,?_,I.1,by omega⟩;unfold DM;rw[e];rfl
def ahS{c:ax}{i:Nat}{B:Int}(h:qP c i B):PZ c (i:Int)=some ((),(gH c i,())):=by
 have hi:=h.i;have⟨f1,f3,f4,f5,f6,f7,f8⟩:=h.facts (cX hi);have C:=h.d _ (cX hi);have D:=h.a.syms _ (cX f4);have E:c.queue.getD i mR=c.queue[i]:=gQ _ hi;have O:=h.r;unfold PZ xL;rw[aK ⟨by omega,by omega⟩,aK];simp only[bz];rw[f1,au,awa hi h.ql,au,aW (by decide)];have I:(4:Int).toNat=4:=rfl;rw[I,aK ⟨f7,by simpa using f8⟩,aK (by simpa using f8)];dsimp only;rw[f6,au];dsimp only;unfold gH;rw[E];dsimp only;cases hw:c.queue[i].write with
 | true=>
  rw[ FX,au,(Gl C.1 C.2).1,au,aK ⟨by omega,by omega⟩,aK,eE (by simp;omega)];unfold rN;simp_all
 | false=>
  rw[av,av,FX,au,f3,gQ _ f4]
  refine(bB (λo=>Option.bind o _) (ahM (c:=⟨c.config,c.box,c.now,c.aN,c.ready,c.array,c.spare,c.aD,c.bA,c.guard,c.pending,c.queue.take i++c.queue.drop (i+1),DM c.shares c.queue[i].eG,c.drain,c.aR,c.dJ,c.errors,c.trace,c.bF⟩) f4 D)).trans ?_
  rw[au];unfold xx dX;dsimp only;rw[eE (by simp;omega),aq,au]
  refine(bB (λo=>Option.bind o _) (ahR (by exact h.e) ⟨by omega,f5⟩ (X7 D))).trans ?_
  rw[au];unfold Q0 rN QZ;rw[E];dsimp only;cases jh c.array.cells[dG c.config.ak (cW c c.queue[i].line)] != 0<;>rfl
def bU(c:ax)(x:aT):ax:=⟨c.config,c.box,c.now,cH c.aN x,gG c.config.ak c.ready ⟨c.now,x⟩,c.array,c.spare,c.aD,c.bA,c.guard,c.pending,c.queue,c.shares,c.drain,c.aR,c.dJ,c.errors,c.trace++[⟨c.now,x⟩],c.bF⟩
def ahT(c:ax)(p:iF):ax:=⟨c.config,c.box,c.now,c.aN,c.ready,c.array,c.spare,c.aD,c.bA,c.guard,c.pending,c.queue,c.shares,c.drain,p,c.dJ,c.errors,c.trace,c.bF⟩
def Q1(c:ax)(r:dI):ax:=⟨c.config,c.box,c.now,c.aN,c.ready,c.array,c.spare,r,c.bA,c.guard,c.pending,c.queue,c.shares,c.drain,c.aR,c.dJ,c.errors,c.trace,c.bF⟩
def BU(c:ax)(k:Int):ax:=ahT c (zD c.aR k c.now)
def Lq(c:ax)(b:Int):ax:=Q1 (QM c b (c.pending.filter (λa=>!(a.ay==b)))) (mQ c.aD b)
def cN(c:ax)(x:aT)(i:Int):ax:=
 bif x.kind==1 then vP (bU c x) x else
 bif x.kind==5 then Lq (bU c x) x.ay else
 bif x.kind==2 ||x.kind==3 then gH (bU c x) i.toNat else
 bif x.kind==4 then bU c x else
 bif x.kind==9 then jg (BU (bU c x) 9) c.bA.length []else BU (bU c x) x.kind
structure Bs (c:ax):Prop where
 w:xw 100000 c
 u:DK c.pending
 pk:∀a∈c.pending,0<=a.ay/\a.ay<aJ c.config.ak
 zt:∀t∈c.bA,nH t
 rf:fD c.aD=true
 bl:(c.aN.aI.length:Int)=aJ c.config.ak
 l1:c.ready.last.length<1073741824
 l2:c.ready.bg.length<1073741824
 tl:c.trace.length<10000
def Bs.bU{c:ax}(h:Bs c)(x:aT):xw 100000 (bU c x):=⟨h.w.hB,h.w.g,h.w.a,h.w.k,h.w.p,h.w.t,h.w.d,h.w.r⟩
def qP.bU{c:ax}{n:Nat}{B:Int}(h:qP c n B)(x:aT):qP (bU c x) n B:=⟨h.ad,h.tn,h.ql,h.sh,h.shl,h.u,h.i,h.d,h.a,h.e,h.r⟩
def awb{c:ax}(h:xw 100000 c):iter zp bq (((),(c.bA.length:Int),(0:Int),()),((⟨c.config,c.box,c.now,c.aN,c.ready,c.array,c.spare,c.aD,c.bA,c.guard,([]:aa aO),c.queue,c.shares,c.drain,c.aR,c.dJ,c.errors,c.trace,c.bF⟩:ax),()))=some (.inl ((),(jg c c.bA.length [],()))):=avR h
def Gt{g:aF}{x:aT}(h:dz g x=true)(C:x.kind=1):0 <= x.row/\x.row<g.rows:=by
 simp[dz,aM]at h;have D:=h.2.2.2.1;rw[vI,C,show ((1:Int)==1)=true from rfl,aq,bu]at D;omega
def awc{c:ax}(h:Bs c){x:aT}(E:nG c.config.ak c.aN x=true){i:Int}(I:x.kind=2 \/ x.kind=3 -> qP c i.toNat 100000/\0 <= i):Ky c x i=some ((),(cN c x i,())):=by
 have⟨hg,hlen,O,hb⟩:=uv E;have T:dz c.config.ak x=true:=by
  simp only[nG,aM]at E
  grind
 have b1:=eI c.config.ak;have w:=h.bU x;have ht:=h.w.t;have hd:=h.w.d;have hr:=h.w.r;have zF:=h.tl;have er:Kp c.config.ak c.aN x=some (cH c.aN x,true):=by
  rw[auq _ _ _ (by omega)];unfold Xr;simp_all
 unfold Ky cN bR;rw[eE (by simp;omega),aq,auD _ _ _ h.l1 h.l2,au,er,au];rcases kinds O with q|q|q|q|q|q|q|q|q<;>rw[q]<;>simp only[Int.reduceBEq,Int.reduceBNe,aq,av,Bool.or_true,Bool.or_false,Bool.true_or,Bool.false_or,Bool.or_self]
 ·have⟨C,U⟩:=hb (by omega);have⟨Y,Z⟩:=Gt T q
  refine(bB (λo=>Option.bind o _) (avP (c:=bU c x) x w.g w.a w.p h.zt C (by show x.ay<aJ c.config.ak;omega) Y Z (by show x.ay.toNat<c.bA.length;omega) (by show x.ay.toNat<c.guard.length;omega))).trans ?_
  rfl
 ·have⟨s,D⟩:=I (.inl q);have e:=ahS (s.bU x);rw[Int.toNat_of_nonneg D]at e
  refine(bB (λo=>Option.bind o _) e).trans ?_
  rfl
 ·have⟨s,D⟩:=I (.inr q);have e:=ahS (s.bU x);rw[Int.toNat_of_nonneg D]at e
  refine(bB (λo=>Option.bind o _) e).trans ?_
  rfl
 ·rfl
 ·have⟨C,U⟩:=hb (by omega);have⟨y,e4⟩:=avH h.rf (b:=x.ay) C (by omega)
  refine(bB (λo=>Option.bind o _) (ahH w.hB (bU c x) w.g w.a C (by show x.ay<aJ c.config.ak;omega))).trans ?_
  rw[au];unfold dX;dsimp only;rw[avL _ _ (by show c.pending.length<1000000;have:=h.w.p;omega),au];dsimp only
  refine(bB (λo=>Option.bind o _) (ahI _ (by exact w.k) C (by show x.ay.toNat<c.bA.length;omega) (by show x.ay.toNat<c.guard.length;omega))).trans ?_
  rw[au];unfold xq;dsimp only
  refine(bB (λo=>Option.bind o _) e4).trans ?_
  rfl
 ·have⟨y,e⟩:=QL c.aR (k:=6) (by omega) c.now;rw[e,au];rfl
 ·have⟨y,e⟩:=QL c.aR (k:=7) (by omega) c.now;rw[e,au];rfl
 ·have⟨y,e⟩:=QL c.aR (k:=8) (by omega) c.now;rw[e,au];rfl
 ·have⟨y,e⟩:=QL c.aR (k:=9) (by omega) c.now;rw[e,au]
  refine(bB (λo=>Option.bind o _) (awb (c:=BU (bU c x) 9) ⟨w.hB,w.g,w.a,w.k,w.p,w.t,w.d,w.r⟩)).trans ?_
  rfl
def awd{l m:aa Int}(h:l.length=m.length)(D:(l.zip m).all uo=true):(∀ x∈l,0 <= x/\x <= 100000) /\ ∀ x∈m,0 <= x/\x <= 100000:=by
 rw[bT]at D;have key:∀ i _ (E:i<m.length),(0 <= l[i]/\l[i] <= 100000)/\(0 <= m[i]/\m[i] <= 100000):=λi O E=>by
  have I:i<(l.zip m).length:=by rw[List.length_zip];omega
  have:=D _ (cX I);rw[List.getElem_zip]at this;simp[uo,aM,bu]at this;exact this
 constructor
 ·intro x C;obtain⟨i,hi,rfl⟩:=ki.1 C
  grind
 ·intro x C;obtain⟨i,hi,rfl⟩:=ki.1 C;simp_all
def eY.sV{g:aF}{a:cL}(h:lX g a=true):eY g 100000 a:=by
 simp only[lX,aM,gB]at h;have⟨Z,C,D,E,I,O⟩:=h;have⟨T,U⟩:=awd (by omega) O
 refine⟨C,λc Y=>?_,D,E,T,U⟩
 exact Sy.of (bT.1 I c Y)
def Bs.of{c:ax}(D:cv c)(h:cz c=true)(I:c.trace.length<10000):Bs c:=by
 have E:=Pq.of D h;have z1:c.box.bW.weights.length <= 1048576:=D.1.1;have h0:=h;simp only[cz,aM]at h;have⟨O,h2,h3,h4,T,U,h7,h8,C,F6,zq,qz,rF,vE,vF,sJ,Bk,Bl,Gf,K8,Bg,Dt⟩:=h;have⟨f1,f2⟩:=BR (by omega) O;simp only[nD,aM]at f1;simp only[rE,aM,eZ,gd,pZ,bT,fS]at C;have⟨C,Y,Z,g3,g4,g5,g6⟩:=C;have zV:=E.pl;have⟨hg,rl,ra⟩:=F8 T;have b1:=eI c.config.ak
 refine⟨⟨by decide,hg,eY.sV U,f1.2.2.2.2.2.1,by omega,Z,g3,Y⟩,λi hi=>?_,λa ha=>?_,D.2.2.2.2.2.2.1.2,C,E.p.bl,by omega,by omega,I⟩
 ·have hb:=g6 i hi;unfold vH at hb
  grind
 ·have⟨_,k1,k2,_⟩:=oX (E.pe a ha);simp_all
def qP.of{c:ax}(O:cv c)(h:cz c=true){n:Nat}(T:n<c.queue.length)(C:c.bF.length <= 1000):qP c n 100000:=by
 have D:=Pq.of O h;simp[cz,aM]at h;have⟨Z,h2,h3,h4,h5,U,h7,h8,h9,E,zq,qz,rF,vE,vF,sJ,Bk,Bl,Gf,Y,Bg,Dt⟩:=h;simp[gK,aM,bT,fS]at E;have⟨I,q2⟩:=E
 refine⟨λr C=>QW D C,λr C=>(D.q r C).2.1,D.ql,D.sh,D.shl,λi hi=>?_,T,λr C=>?_,eY.sV U,Y,C⟩
 ·cases i with
  |zero=>simp
  | succ i=>
   have hb:=I _ hi;rw[KR hi]at hb;simp_all
 ·obtain⟨i,hi,rfl⟩:=ki.1 C;have hb:=I i hi;unfold qN at hb;rw[bK hi]at hb;simp[mJ,KQ,aM,bu]at hb;simp_all
def xD{g:aF}{B:Int}{a:cL}(h:eY g B a):QA a:=by
 have D:=h.cells;have E:=h.bh;have I:=h.aY;have O:=lD g;have T:=rD g;exact⟨⟨by omega,λc C=>by unfold Qz;rw[(h.syms c C).1];omega⟩,by omega,by omega⟩
def X8{l:aa cI}(h:l.length <= 1048576 /\ ∀y∈l,nH y){t:cI}(C:nH t)(i:Nat):(l.set i t).length <= 1048576 /\ ∀y∈l.set i t,nH y:=by grind
def ahU{k:Int}(h:aP k 1 16=true):nH (pq k):=by
 have:=bu.1 h;unfold pq nH
 grind
def awe{t:cI}(h:nH t)(row cS:Int):nH (nJ t row cS).1:=by
 have hl:=ahC (t:=t) row;unfold nH at h ⊢;unfold nJ
 grind
def awf{c:ax}(E:cv c)(I:c.ready.bg.length <= 4)(ht:c.trace.length <= 10000)(x:aT):cv (bU c x):=by
 have⟨O,C,⟨T,z4⟩,U,Y,Z,z8,z9,kL,lH,lY,kK,lZ,ot⟩:=E;have D:=auJ c.config.ak c.ready ⟨c.now,x⟩;refine⟨O,by unfold ahk at C ⊢;show (cH _ x).aI.length <= _;rw[aut];exact C,⟨by show (gG _ _ _).last.length <= _;rw[D.1];exact T,Nat.le_trans (D.2 I) (by decide)⟩,U,Y,Z,z8,z9,kL,lH,lY,kK,by simp[bU];omega,ot⟩
def Q2{c:ax}(D:cv c){a:cL}(E:QA a){r:dI}(I:BH r){t:aa cI}(O:t.length <= 1048576 /\ ∀ y∈t,nH y){C:aa Int}(T:C.length <= 1048576){pd:aa aO}(U:pd.length <= 1048576)(pw:iF):cv ⟨c.config,c.box,c.now,c.aN,c.ready,a,c.spare,r,t,C,pd,c.queue,c.shares,c.drain,pw,c.dJ,c.errors,c.trace,c.bF⟩:=by
 have⟨Y,Z,z3,z5,z6,z7,z8,z9,kL,lH,lY,kK,lZ,ot⟩:=D;exact⟨Y,Z,z3,E,z6,I,O,T,U,lH,lY,kK,lZ,ot⟩
def awg{c:ax}(C:cv c)(h:xw 100000 c)(x:aT)(D:0 <= x.ay)(E:x.ay<aJ c.config.ak)(I:0 <= x.row)(O:x.row<c.config.ak.rows):cv (vP c x):=by
 have zt:=C.2.2.2.2.2.2.1;have hb:x.ay.toNat<c.bA.length:=by have:=h.t;omega
 have T:=h.p;refine Q2 C (xD (XJ h.g _ h.hB h.a D E I O)) C.2.2.2.2.2.1 (X8 zt ?_ _) C.2.2.2.2.2.2.2.1 ?_ _
 ·unfold sS;rw[gQ];exact awe (zt.2 _ (cX hb)) _ _
 ·have U:(rK c x).length <= c.pending.length:=List.length_filter_le _ _;have Y:=ahG c.config.ak.rows x.row;have Z:=XZ x.ay (iN c.config.ak.rows x.row) (rK c x)
  grind
def ahV(r:dI)(b:Int):(mQ r b).aB.length=r.aB.length:=by
 unfold mQ;cases decide (r.aB.getD b.toNat 0 = -2)<;>simp
def awh{c:ax}(C:cv c)(h:xw 100000 c){b:Int}(D:0 <= b)(E:b<aJ c.config.ak):cv (Lq c b):=by
 have⟨_,_,_,_,I,O,T,U⟩:=fL h.g;have zt:=C.2.2.2.2.2.2.1;have Y:=h.p;have Z:=avO (λa:aO=>!(a.ay==b)) c.pending;exact Q2 C (xD (Lj h.g _ h.hB h.a D E _ (by omega))) (by unfold BH;rw[ahV];exact C.2.2.2.2.2.1) (X8 zt (ahU h.k) _) (by show (c.guard.set _ _).length <= _;rw[gR];exact C.2.2.2.2.2.2.2.1) (by show (c.pending.filter _).length <= _;omega) _
def ahW{l:aa cI}(h:l.length<=1048576/\∀ y∈l,nH y){t:cI}(C:nH t):∀ k:Nat,((List.range k).foldl (λd b=>d.set b t) l).length<=1048576/\∀ y∈(List.range k).foldl (λd b=>d.set b t) l,nH y
 |0=>h
 |k+1=>by rw[pz];exact X8 (ahW h C k) C k
def awi{c:ax}(C:cv c)(h:xw 100000 c)(k:Nat)(D:(k:Int)<=aJ c.config.ak):cv (jg c k []):=
 Q2 C (xD (QN h.g c.config.di h.hB h.a k D)) (by unfold BH;rw[xu];exact C.2.2.2.2.2.1) (ahW C.2.2.2.2.2.2.1 (ahU h.k) k) (by rw[xu];exact C.2.2.2.2.2.2.2.1) (by simp) c.aR
def ahX{l:aa cr}(n code:Int):(nM l n code).length <= l.length+1:=by
 unfold nM
 grind
def ahY{c:ax}(I:cv c){i:Nat}(h:qP c i 100000):cv (gH c i):=by
 have⟨O,T,U,z5,Y,Z,z8,z9,kL,lH,lY,kK,lZ,ot⟩:=I;have hi:=h.i;have Lr:=h.ql;have hr:=h.r;have⟨f1,f3,f4,f5,f6,f7,f8⟩:=h.facts (cX hi);have C:c.queue.getD i mR=c.queue[i]:=gQ _ hi;have D:=h.d _ (cX hi);have Vd:(DM c.shares c.queue[i].eG).length <= 1048576:=by
  have⟨y,t,e,hl⟩:=XR ((List.replicate 4 false).set c.queue[i].eG.toNat true) (by have:=h.shl;omega) h.sh (by simp[h.shl])
  grind
 have hU:c.errors.length <= 6:=by
  have E:=h.e;simp only[nE,aM,gB]at E;omega
 have key:∀ (a:cL) (e:aa cr) (x:ey),QA a -> e.length <= 100 -> cv (rN c i a e x):=λa e x ha E=>
  ⟨O,T,U,ha,Y,Z,z8,z9,kL,by simp[rN];omega,by unfold rN;rw[C];exact Vd,by show e.length <= _;omega,lZ,by simp[rN];omega⟩
 unfold gH;rw[C];dsimp only;cases c.queue[i].write with
 |true=>exact key _ _ _ (xD (h.a.DD _ (c:=⟨_,false⟩) (Gl D.1 D.2).2.1)) (by omega)
 | false=>
  rw[av,gQ _ f4];refine key _ _ _ (xD (h.a.DD _ (X3 (h.a.syms _ (cX f4))))) ?_;have:=ahX (l:=c.errors) (dG c.config.ak (cW c c.queue[i].line):Int) (jh c.array.cells[dG c.config.ak (cW c c.queue[i].line)]);cases jh c.array.cells[dG c.config.ak (cW c c.queue[i].line)] != 0 with
  |true=>grind
  |false=>grind
def awj{c:ax}(O:cv c)(h:Bs c)(T:c.ready.bg.length <= 4){x:aT}(E:nG c.config.ak c.aN x=true){i:Int}(I:x.kind=2 \/ x.kind=3 -> qP c i.toNat 100000/\0 <= i):cv (cN c x i):=by
 have⟨hg,hlen,U,hb⟩:=uv E;have Y:dz c.config.ak x=true:=by
  simp[nG,aM]at E;simp_all
 have w:=h.bU x;have ht:=h.w.t;have zF:=h.tl;have z:=awf O T (by omega) x;have C:∀k,cv (BU (bU c x) k):=λk=>Q2 z z.2.2.2.1 z.2.2.2.2.2.1 z.2.2.2.2.2.2.1 z.2.2.2.2.2.2.2.1 z.2.2.2.2.2.2.2.2.1 _
 unfold cN;rcases kinds U with q|q|q|q|q|q|q|q|q<;>rw[q]<;>simp
 ·have⟨D,Z⟩:=hb (by omega);have⟨r0,r1⟩:=Gt Y q;exact awg z w x D (by show _<aJ c.config.ak;omega) r0 r1
 ·exact ahY z ((I (.inl q)).1.bU x)
 ·exact ahY z ((I (.inr q)).1.bU x)
 ·exact z
 ·have⟨D,Z⟩:=hb (by omega);exact awh z w D (by show x.ay<aJ c.config.ak;omega)
 ·exact C 6
 ·exact C 7
 ·exact C 8
 ·exact awi (C 9) ⟨w.hB,w.g,w.a,w.k,w.p,w.t,w.d,w.r⟩ _ (by show (c.bA.length:Int) <= aJ c.config.ak;omega)
def rO(c:ax)(b:Int):Bool:=decide (c.aD.aB.getD b.toNat 0 >= 4)
def Ls(c:ax)(b:Int):Bool:=c.pending.any λa=>a.ay==b
def gp(c:ax)(i:Nat):aT:=ow c.aN (cD c i) (rL c.queue i)
def awk(c:ax)(i:Nat):Bool:=decide (c.now-(rM c i).at_<c.box.bW.cap)
def l6(c:ax)(i:Nat):Bool:=
 ox c i&&(!rO c (cD c i).ay&&(de c (gp c i)&&(!(((gp c i).kind==1 ||(gp c i).kind==4)&&Ls c (cD c i).ay) && !((gp c i).kind==4&&(Lp c c.queue.length (cD c i).ay&&awk c i)))))
def X9{l:aa Int}{b:Int}(C:0 <= b)(h:b.toNat<l.length):∀ i:Nat,(((i:Int)+b)∈bV i l) ↔ l.getD b.toNat 0 >= 4:=by
 obtain⟨n,rfl⟩:=dH C;rw[bz]at *
 clear C
 induction l generalizing n with
 |nil=>simp at h
 | cons d l E=>
  intro i;have I:∀ x∈bV (i+1) l,(i:Int)+1 <= x:=λx D=>by
   have⟨j,O,_,_⟩:=ahv D;omega
  have e:bV i (d::l)=bif decide (d >= 4)then (i:Int)::bV (i+1) l else bV (i+1) l:=rfl
  grind
def Ya{c:ax}{b:Int}(hl:c.aD.aB.length <= 8)(C:0 <= b)(h:b.toNat<c.aD.aB.length):wY (bV 0 c.aD.aB) b=some (rO c b):=by
 have E:=XO 0 c.aD.aB;have D:=X9 C h 0;rw[cY,Int.zero_add]at D;unfold wY;rw[Qu _ _ (by omega),au];congr 1;unfold rO gP
 grind
def ahZ{c:ax}(h:Pq c){i:Nat}(hi:i<c.queue.length):dz c.config.ak (gp c i)=true:=avC _ (Gr h hi).1
def xE(c:ax):Nat->aa Bool
 |0=>List.replicate 4 false
 |k+1=>bif l6 c k then (xE c k).set (rM c k).eG.toNat true else xE c k
def Lt(c:ax):∀ k,(xE c k).length=4
 |0=>rfl
 | k+1=>by
  have C:=Lt c k;show (bif l6 c k then _ else _:aa Bool).length=4
  grind
def awl{c:ax}{U:aa Int}{T:aa aO}{Z:Int×Int×Int×Int×ah}{P:Int×Int×Int×Int×Int×(aa Int)×Int×Int×ah}{I hit fI wait:aa Bool}{hb:aa (Int×Bool)}{Y:aa aT}{k:Nat}{r:aU}{a:aO}{nd:aT}{ct rd ib:Bool}(hq:c.queue.length<=12)(hk:k<c.queue.length)(hr:c.queue[k]=r)(h2:k<T.length)(ha:T[k]=a)(h3:k<I.length)(C:k<fI.length)(h5:Y.length=k)(D:0<=r.eG)(E:r.eG.toNat<wait.length)(e1:Di c.aN a r.write=some nd)(e2:wY U a.ay=some ct)(e3:jn c nd=some rd)(e4:Dg c.pending a.ay=some ib)(b1:0<=r.at_/\r.at_<=1000000)(b2:0<=c.now/\c.now<=1000000):
  Dl ((U,T,(),(),(),(),(),(),(),(),(),c.queue,(c.queue.length:Int),(k:Int),()),(c,Z,P,I,hit,hb,Y,fI,wait,()))=some (.inl ((U,T,(),(),(),(),(),(),(),(),(),c.queue,(c.queue.length:Int),((k+1:Nat):Int),()),(c,Z,P,I,hit,hb,Y++[nd],fI.set k (I[k]&&(!ct&&(rd&&(!((nd.kind==1 ||nd.kind==4)&&ib) && !(nd.kind==4&&(m9 hb a.ay&&decide (c.now-r.at_<P.2.1))))))),(bif (I[k]&&(!ct&&(rd&&(!((nd.kind==1 ||nd.kind==4)&&ib) && !(nd.kind==4&&(m9 hb a.ay&&decide (c.now-r.at_<P.2.1)))))))then wait.set r.eG.toNat true else wait),()))):=by
 have hw:W6 (c.now-r.at_)=c.now-r.at_:=aZ;unfold Dl aE xG xI xL;dsimp only;rw[bf,aq,aK ⟨by omega,by omega⟩,aK ⟨by omega,by omega⟩,aK ⟨by omega,by omega⟩];simp only[bz,hr,ha,e1,au,h5,List.length_singleton,eE (show k+1<1073741824 by omega),aq,e2,e3,e4,hw,bN (show k<4611686018427387904 by omega)];by_cases O:nd.kind=1
 ·have k4:(nd.kind==(4:Int))=false:=by rw[O];rfl
  have O:(nd.kind==(1:Int))=true:=by rw[O];rfl
  simp only[O,k4,aq,av,Bool.true_or,cw,Bool.false_and,Bool.not_false,Bool.and_true];rw[aK ⟨by omega,by omega⟩,aK];cases I[k]<;>cases ct<;>cases rd<;>cases ib<;>simp[C,D,E]
 ·have O:(nd.kind==(1:Int))=false:=by simpa using O
  simp only[O,av,Bool.false_or];rw[aK ⟨by omega,by omega⟩,aK];cases nd.kind==(4:Int)with
  |false=>cases I[k]<;>cases ct<;>cases rd<;>cases ib<;>simp[C,D,E]
  | true=>
   cases I[k]with
   |false=>simp[C,D,E]
   | true=>
    cases ct with
    |true=>simp[C,D,E]
    | false=>
     cases rd with
     |false=>simp[C,D,E]
     | true=>
      cases ib with
      |true=>simp[C,D,E]
      | false=>
       cases m9 hb a.ay with
       |false=>simp[C,D,E]
       | true=>
        by_cases hc:c.now-r.at_<P.2.1
        ·simp[C,D,E,hc]
        ·simp[C,D,E,hc]
def Lu(y x:aT):Bool:=(y.kind==x.kind)&&((y.ay==x.ay)&&((y.row==x.row)&&((y.bZ==x.bZ)&&true)))
def Lv(c:ax)(x:aT)(i:Int):Bool:=aP i 0 ((c.queue.length:Int)-1)&&(decide ((c.bF.length:Int)<400)&&Lu (ow c.aN (cW c (c.queue.getD i.toNat mR).line) (c.queue.getD i.toNat mR).write) x)
def kT(c:ax)(x:aT)(i:Int):Bool:=dz c.config.ak x&&(de c x&&(!decide ((c.trace.length:Int) >= 2000)&&bif x.kind==2 ||x.kind==3 then Lv c x i else i == -1 ||aP i 0 ((c.queue.length:Int)-1)))
def ah0{c:ax}(h:Pq c){i:Int}(hi:aP i 0 ((c.queue.length:Int)-1)=true):∃ C:i.toNat<c.queue.length,0 <= i/\c.queue.getD i.toNat mR=c.queue[i.toNat]/\wZ c c.queue[i.toNat].line=some (cW c c.queue[i.toNat].line,true)/\Di c.aN (cW c c.queue[i.toNat].line) c.queue[i.toNat].write=some (ow c.aN (cW c c.queue[i.toNat].line) c.queue[i.toNat].write):=by
 have hb:=bu.1 hi;have C:i.toNat<c.queue.length:=by omega
 have⟨D,E⟩:=QW h (cX C);have⟨_,I,O,_⟩:=oX E;have T:=h.p.bl;have U:=eI c.config.ak;exact⟨C,hb.1,gQ _ C,D,ahA _ I (by omega) (by omega)⟩
def awm{c:ax}(T:cv c)(h:Pq c)(x:aT)(i:Int):uh c x i=bif kT c x i then (Ky c x i).bind (λy=>some (y.2.1,true))else some (c,false):=by
 have Z:=h.ql;unfold uh kT xI;rw[BN c T,au,BI c T,au,h.p.ok,bE,av];cases U:dz c.config.ak x with
 | false=>
  have e:jn c x=some false:=by
   unfold jn;rw[Xq,U,Bool.false_and,Bool.and_false];rfl
  rw[e];rfl
 |true=>
 rw[zz h.p U,au];cases de c x with
 |false=>rfl
 |true=>
 rw[bE,av];cases decide ((c.trace.length:Int) >= 2000)with
 |true=>rfl
 |false=>
 rw[av,cw,cw,Bool.not_false,cw,cV,aZ (n:=(c.queue.length:Int)-1),au];unfold Lv;cases hi:aP i 0 ((c.queue.length:Int)-1)with
 | true=>
  have⟨C,D,Y,f1,f3⟩:=ah0 h hi;rw[fR (show ¬ i = -1 by omega),bE,av,aq,av,cw,Bool.or_true,Y];by_cases E:x.kind=2
  ·rw[show (x.kind==2)=true by rw[E];rfl,aq,Bool.true_or,aq];by_cases I:(c.bF.length:Int)<400
   ·rw[bf I,br (show ¬ (c.bF.length:Int) >= 400 by omega),av,aK ⟨D,C⟩];dsimp only;rw[f1,au,aK ⟨D,C⟩,f3,au];unfold Lu
    grind
   ·grind
  ·rw[jw E,av,Bool.false_or];by_cases O:x.kind=3
   ·rw[show (x.kind==3)=true by rw[O];rfl,aq,aq];by_cases I:(c.bF.length:Int)<400
    ·rw[bf I,br (show ¬ (c.bF.length:Int) >= 400 by omega),av,aK ⟨D,C⟩];dsimp only;rw[f1,au,aK ⟨D,C⟩,f3,au];unfold Lu
     grind
    ·grind
   ·grind
 | false=>
  rw[Bool.false_and,Bool.not_false,aq,Bool.or_false];by_cases E:x.kind=2
  ·simp_all
  ·rw[jw E,av,Bool.false_or];by_cases O:x.kind=3
   ·simp_all
   ·rw[jw O,av,av];by_cases e:i = -1
    ·simp_all
    ·grind
def xF{c:ax}(D:cv c)(h:Pq c){x:aT}{i:Int}(E:kT c x i=true):Bs c/\nG c.config.ak c.aN x=true/\(x.kind=2 \/ x.kind=3 -> qP c i.toNat 100000/\0 <= i)/\c.ready.bg.length <= 4:=by
 simp only[kT,aM,gd,pZ]at E;have⟨O,I,Z,C⟩:=E;simp[de,aM]at I
 refine⟨Bs.of D h.p.ok (by omega),?_,λT=>?_,(F8 h.p.XN).2.2⟩
 ·unfold nG;rw[h.p.rk,O,I.1];rfl
 ·have e:(x.kind==2 || x.kind==3)=true:=by rcases T with q | q <;>rw[q] <;>rfl
  rw[e,aq]at C;simp[Lv,aM,gB]at C;have⟨U,Y,_⟩:=ah0 h C.1;exact⟨qP.of D h.p.ok U (by omega),Y⟩
structure Ck (c:ax):Prop where
 f1:mL c.config c.box.bW=true
 f2:mL c.config c.box.next=true
 nw:aP c.now 0 1000000=true
 rk:lF c.config.ak c.aN=true
 rd:jo c.config.ak c.ready=true
 ar:lX c.config.ak c.array=true
 sp:kQ c.config.ak c.spare=true
 se:c.spare.bL=c.config.bL
 rf:fD c.aD=true
 pa:rE c=true
 qu:gK (dB (dN c.config.ak c.spare)) c.queue=true
 sh:iM c.shares=true
 sl:(c.shares.length:Int)=4
 dr:o7 c.drain=true
 pw:kO c.aR=true
 ps:c.aR.state=c.aN.aR
 si:c.aR.since<=c.now
 s1:aP c.dJ.every 1 100000=true
 s2:aP c.dJ.wait 1 c.dJ.every=true
 s3:aP c.dJ.next 0 (W6 (dB c.config.ak-1))=true
 er:nE c.errors=true
 tr:c.trace.length<=2000
 rp:c.bF.length<=400
def Ck.of{c:ax}(h:cz c=true):Ck c:=by
 simp[cz,aM,eZ,gB,gd,pZ]at h;have⟨C,D,E,I,O,T,U,Y,⟨Z,h9'⟩,F6,zq,qz,rF,vE,vF,sJ,Bk,Bl,Gf,K8,Bg,Dt⟩:=h;exact⟨C,D,E,I,O,T,U,Y,Z,h9',F6,zq,qz,rF,vE,vF,by omega,Bk,Bl,Gf,K8,by omega,by omega⟩
def Ck.ok{c:ax}(h:Ck c):cz c=true:=by
 have⟨C,D,E,I,O,T,U,Y,Z,h9',F6,zq,qz,rF,vE,vF,sJ,Bk,Bl,Gf,K8,Bg,Dt⟩:=h;simp[cz,aM,eZ,gB,gd,pZ]
 grind
def ah1:∀ (l:aa Nat) (a:Nat),l.Pairwise (λx y=>x≠y) -> l.length <= (l.filter (λx=>decide (x≠a))).length+1
 |[],a,_=>by simp
 | x :: l,a,h=>by
  have⟨C,D⟩:=List.pairwise_cons.1 h;by_cases e:x=a
  ·subst e;have:(x :: l).filter (λy=>decide (y≠x))=l:=by
    rw[List.filter_cons_of_neg (by simp)];exact List.filter_eq_self.2 λy E=>by simpa using (C y E).symm
   grind
  ·rw[List.filter_cons_of_pos (by simpa using e)];have:=ah1 l a D;simp only[List.length_cons];omega
def Yb:∀ (n:Nat) (l:aa Nat),(∀ x∈l,x<n)->l.Pairwise (λx y=>x≠y)->l.length<=n
 | 0,l,h,_=>by
  cases l with
  |nil=>simp
  |cons x l=>exact absurd (h x (.head _)) (by omega)
 | n+1,l,h,C=>by
  have E:=ah1 l n C;have I:=Yb n (l.filter (λx=>decide (x≠n))) (λx D=>by
   have:=List.mem_filter.1 D;have O:=h x this.1;have T:x≠n:=by simpa using this.2
   omega) (C.filter _)
  omega
def DK.pw{l:aa aO}(h:DK l):l.Pairwise (λx y=>x≠y):=by
 rw[List.pairwise_iff_getElem];intro i j hi D I e;have C:=h j D;rw[l8]at C;have E:l[i]∈l.take j:=by
  rw[List.mem_take_iff_getElem]
  grind
 exact C _ E (Li.2 e.symm)
def DK.mk{l:aa aO}(h:l.Pairwise (λx y=>x≠y)):DK l:=by
 rw[List.pairwise_iff_getElem]at h;intro j C;rw[l8];intro x D e;obtain⟨i,hi,rfl⟩:=List.mem_take_iff_getElem.1 D;exact h i j _ C (by omega) (Li.1 e).symm
structure fN (c:ax):Prop where
 dl:(c.aD.aB.length:Int)=aJ c.config.ak
 tl:(c.bA.length:Int)=aJ c.config.ak
 gl:(c.guard.length:Int)=aJ c.config.ak
 t:∀x∈c.bA,kP x=true
 g:∀x∈c.guard,3<=x/\x<=1000
 pd:∀a∈c.pending,dU c.config.ak a=true/\a.bZ=0
 u:c.pending.Pairwise (λx y=>x≠y)
def fN.of{c:ax}(h:rE c=true):fN c:=by
 simp[rE,aM,eZ,bT,fS]at h;have⟨E,I,O,g4,T,U⟩:=h;have key:=λi C Y=>by
  have:=T i C;unfold partAt at this;rw[bK C,bK Y,aM,bu]at this;exact this
 have Z:∀ i _,dU _ c.pending[i]=true/\c.pending[i].bZ=0/\(c.pending.take i).any _=false:=λi C=>by
  have:=U i C;unfold vH at this;rw[bK C]at this
  simpa [aM]using this
 refine⟨E,I,O,λx D=>?_,λx D=>?_,λa ha=>?_,DK.pw λi hi=>(Z i hi).2.2⟩
 ·obtain⟨i,hi,rfl⟩:=ki.1 D
  grind
 ·obtain⟨i,hi,rfl⟩:=ki.1 D
  grind
 ·obtain⟨i,hi,rfl⟩:=ki.1 ha;simp[*]
def awn{g:aF}{l:aa aO}(D:∀ a∈l,dU g a=true/\a.bZ=0)(O:l.Pairwise (λx y=>x≠y)):l.length <= 128:=by
 have E:∀ a∈l,0 <= a.ay/\a.ay<8/\0 <= a.row/\a.row<16:=λa C=>by
  have⟨I,Y,Z,h4,h5,_⟩:=oX (D a C).1;have b1:=eI g;have b2:=fL I;omega
 have I:=Yb 128 (l.map λa=>(a.ay*16+a.row).toNat) (λx T=>by
  obtain⟨a,C,rfl⟩:=List.mem_map.1 T;have:=E a C;omega) (by
  rw[List.pairwise_map]
  refine O.imp_of_mem λ{a b} C hb U e=>U ?_
  have r1:=E a C;have r2:=E b hb;have c1:=(D a C).2;have c2:=(D b hb).2;cases a;cases b;simp only at *
  congr 1<;>omega)
 simp_all
def fN.ok{c:ax}(h:fN c):rE c=true:=by
 have⟨E,I,O,Y,Z,C,D⟩:=h;have hl:=awn C D;have T:=DK.mk D;simp[rE,aM,eZ,gd,pZ,bT,fS]
 refine⟨E,I,O,by omega,λi hi=>?_,λi hi=>?_⟩
 ·have U:i<c.guard.length:=by omega
  unfold partAt;rw[bK hi,bK U,aM,bu];simp_all
 ·unfold vH;rw[bK hi];simp only[aM,eZ,gd];exact⟨(C _ (cX hi)).1,(C _ (cX hi)).2,T i hi⟩
def awo{g:aF}{b n:Int}{l:aa aO}(I:dU g ⟨b,n,0⟩=true)(O:∀ a∈l,dU g a=true/\a.bZ=0)(C:l.Pairwise (λx y=>x≠y)):(∀ a∈jz b l n,dU g a=true/\a.bZ=0)/\(jz b l n).Pairwise (λx y=>x≠y):=by
 unfold jz;cases h:l.any _ with
 |true=>simp_all
 | false=>
  rw[av];rw[l8]at h
  refine⟨λa T=>?_,?_⟩
  ·grind
  ·rw[List.pairwise_append]
   refine⟨C,List.pairwise_singleton _ _,λx D y E e=>?_⟩
   rw[iw.1 E]at e;exact h x D (Li.2 e.symm)
def ah2{g:aF}{b:Int}:∀ (ns:aa Int) {l:aa aO},(∀ n∈ns,dU g ⟨b,n,0⟩=true) -> (∀ a∈l,dU g a=true/\a.bZ=0) -> l.Pairwise (λx y=>x≠y) -> (∀ a∈ns.foldl (jz b) l,dU g a=true/\a.bZ=0)/\(ns.foldl (jz b) l).Pairwise (λx y=>x≠y)
 |[],l,_,C,D=>⟨C,D⟩
 | n :: ns,l,E,C,D=>by
  have⟨I,O⟩:=awo (E n (.head _)) C D;exact ah2 ns (λm T=>E m (.tail _ T)) I O
def Gu{T:Type}{p:T -> Prop}{l:aa T}{i:Nat}{x:T}(h:∀y∈l,p y)(C:p x):∀y∈l.set i x,p y:=by grind
def awp{t:cI}(h:kP t=true)(row cS:Int):kP (nJ t row cS).1=true:=by
 unfold nJ
 grind
def ah3{k:Int}(h:aP k 1 16=true):kP (pq k)=true:=by
 have hb:=bu.1 h;simp only[kP,pq,aM,eZ,bT,mT,bu]
 refine⟨by omega,trivial,by omega,λi hi=>?_⟩
 rw[KS (by simpa using hi) (by simpa using hi)];simp[aP]
def Q3{c:eo}{p:cR}(hl:p.weights.length<1073741823)(h:mL c p=true):3 <= p.dn/\p.dn <= 1000:=by
 have⟨_,f2⟩:=BR hl h;simp[qM,aM,bu]at f2;simp_all
def zG{g:aF}{a:cL}(C:cq g=true)(h:eY g 100000 a):lX g a=true:=by
 simp only[lX,aM,gB,bT]
 refine⟨C,h.cells,h.bh,h.aY,λc D=>Sy.ok (h.syms c D),λp E=>?_⟩
 have⟨x,y⟩:=p;have⟨I,O⟩:=List.of_mem_zip E;simp[uo,aM,bu];exact⟨h.FZ x I,h.hit y O⟩
def awq{g:aF}{c:aT}(h:dz g c=true):oq g (iq g c).toNat=true:=by
 have⟨E,D,hb,_⟩:=ur h;have⟨I,O⟩:=F7 h;unfold oq;unfold iq at *
 cases C:aP _ 1 5 with
 | true=>
  have C:=bu.1 C
  grind
 | false=>
  have T:¬ c.kind <= 5:=λh=>by rw[bu.2 ⟨D.1,h⟩]at C;cases C
  grind
def ah4{l:aa Int}(h:∀ i,i<l.length -> o8 l i=true){i:Nat}(hi:i<l.length):aP l[i] 0 1000000=true:=by
 have:=h i hi;cases i with
 |zero=>rw[KV]at this;exact this
 |succ i=>rw[F3,aM]at this;exact this.1
def ah5{l:aa Int}(h:∀ i,i<l.length -> o8 l i=true){i:Nat}(hi:i+1<l.length):l[i]<l[i+1]:=by
 have:=h _ hi;rw[F3 hi,aM,gd,pZ]at this;omega
def ah6{l:aa Int}(C:∀ i (hi:i<l.length),aP l[i] 0 1000000=true)(D:∀ i (hi:i+1<l.length),l[i]<l[i+1]):∀ i,i<l.length -> o8 l i=true:=λi hi=>by
 cases i with
 |zero=>rw[KV];exact C 0 hi
 | succ i=>
  have:=D i hi;rw[F3 hi,aM,gd,pZ];simp_all
def awr{l:aa Int}(h:∀ i,i<l.length -> o8 l i=true){x:Int}(I:aP x 0 1000000=true)(hl:uw ⟨[],l⟩ x=false):∀ i,i<(l++[x]).length -> o8 (l++[x]) i=true:=by
 refine ah6 (λi hi=>?_) λi hi=>?_
 ·by_cases C:i<l.length
  ·rw[List.getElem_append_left];exact ah4 h C
  ·grind
 ·have D:i<l.length:=by simp at hi;omega
  by_cases C:i+1<l.length
  ·rw[List.getElem_append_left C,List.getElem_append_left];exact ah5 h C
  ·have e:i+1=l.length:=by omega
   have E:(l++[x])[i+1]=x:=by simp[e]
   rw[E,List.getElem_append_left D];unfold uw at hl
   grind
def aws{l:aa Int}(h:∀ i,i<l.length -> o8 l i=true)(k:Nat):∀ i,i<(l.drop k).length -> o8 (l.drop k) i=true:=by
 refine ah6 (λi hi=>?_) λi hi=>?_
 ·rw[List.getElem_drop];exact ah4 h _
 ·rw[List.getElem_drop,List.getElem_drop];rw[List.length_drop]at hi;exact ah5 h _
def ah7{g:aF}{r:ef}(e:dO)(h:jo g r=true):jo g (gG g r e)=true:=by
 unfold gG;cases C:jo g r&&(dz g e.cmd&&(aP e.at_ 0 1000000 && !(e.cmd.kind==1&&uw r e.at_)))with
 |false=>exact h
 | true=>
  rw[aq];simp only[aM,gd]at C;have⟨_,O,D,E⟩:=C;simp only[jo,aM,eZ,gd,pZ,bT,fS]at h ⊢;have⟨T,U,Y,Z,I⟩:=h
  refine⟨T,by rw[gR];exact U,?_,λi hi=>?_,?_⟩
  ·cases e.cmd.kind==1 with
   |false=>exact Y
   | true=>
    rw[aq];unfold BE
    grind
  ·rw[gR]at hi;have hb:=Z i hi;rw[KU hi]at hb;rw[KU (by rw[gR];exact hi)];by_cases e':(iq g e.cmd).toNat=i
   ·subst e';rw[List.getElem_set_self,awq O];have:=bu.1 D;rw[bu.2 ⟨by omega,by omega⟩];rfl
   ·simp_all
  ·cases hk:e.cmd.kind==1 with
   |false=>exact I
   | true=>
    rw[hk]at E;exact aws (awr I D E) _
structure Qk (n:Int) (q:List aU):Prop where
 r:∀x∈q,mJ n x=true
 b:q.Pairwise λx y=>fF x y=true
 i:q.Pairwise λx y=>x.id≠y.id
 l:q.length<=12
def awt{x y z:aU}(C:fF x y=true)(D:fF y z=true):fF x z=true:=by
 simp only[fF,dY,aM,gB,eZ]at *
 omega
def Qk.of{n:Int}{q:aa aU}(h:gK n q=true):Qk n q:=by
 have I:=h;simp only[gK,aM,bT,fS,gB]at h;have⟨E,Y⟩:=h;have O:∀ x∈q,mJ n x=true:=λx T=>by
  obtain⟨i,hi,rfl⟩:=ki.1 T;have:=E i hi;unfold qN at this;simp_all
 have hb:∀ j i (D:i<j) (C:j<q.length),fF q[i] q[j]=true:=by
  intro j
  induction j with
  |zero=>simp_all
  | succ j U=>
   intro i D C;have:=E (j+1) C;rw[KR C,aM,aM]at this;by_cases e:i=j
   ·simp_all
   ·exact awt (U i (by omega) _) this.2.1
 refine⟨O,?_,?_,by omega⟩
 ·rw[List.pairwise_iff_getElem]
  grind
 ·rw[List.pairwise_iff_getElem];intro i j hi C D e;have:=XC I D C;simp_all
def Qk.ok{n:Int}{q:aa aU}(h:Qk n q):gK n q=true:=by
 have⟨C,D,E,O⟩:=h;rw[List.pairwise_iff_getElem]at D E;simp[gK,aM,bT,fS,gB]
 refine⟨λi hi=>?_,by omega⟩
 cases i with
 |zero=>rw[Xi hi];exact C _ (cX hi)
 | succ i=>
  rw[KR hi,aM,aM,gd];refine⟨C _ (cX hi),D i (i+1) (by omega) hi (by omega),?_⟩;rw[l8];intro x I e;obtain⟨k,T,rfl⟩:=List.mem_take_iff_getElem.1 I
  grind
def Qk.sub{n:Int}{q s:aa aU}(h:Qk n q)(C:s.Sublist q):Qk n s:=
 ⟨λx D=>h.r x (C.subset D),h.b.sublist C,h.i.sublist C,Nat.le_trans C.length_le h.l⟩
def ah8{T:Type}(l:aa T)(i:Nat):(l.take i++l.drop (i+1)).Sublist l:=by
 rw[<-List.eraseIdx_eq_take_drop_succ];exact List.eraseIdx_sublist l i
def awu(e x:cr):Prop:=¬ (e.line=x.line/\e.code=x.code)
structure Ek (l:List cr):Prop where
 e:∀x∈l,zx x=true
 k:l.Pairwise awu
 l:l.length<=6
def Yc{e x:cr}:mK e x=true ↔ x.line=e.line/\x.code=e.code:=by
 simp only[mK,aM,eZ]
def Ek.of{l:aa cr}(h:nE l=true):Ek l:=by
 simp[nE,aM,bT,fS,gB]at h;have⟨D,O⟩:=h;have key:=λi hi=>by
  have:=D i hi
  rwa [Qt hi,aM,gd]at this
 refine⟨λx E=>?_,?_,by omega⟩
 ·obtain⟨i,hi,rfl⟩:=ki.1 E
  grind
 ·rw[List.pairwise_iff_getElem];intro i j hi I T e;have C:=(key j I).2;rw[l8]at C;exact C l[i] (List.mem_take_iff_getElem.2 ⟨i,by omega,rfl⟩) (Yc.2 e)
def Ek.ok{l:aa cr}(h:Ek l):nE l=true:=by
 have⟨D,C,I⟩:=h;rw[List.pairwise_iff_getElem]at C;simp only[nE,aM,bT,fS,gB]
 refine⟨λi hi=>?_,by omega⟩
 rw[Qt hi,aM,gd];refine⟨D _ (cX hi),?_⟩;rw[l8];intro x E e;obtain⟨k,O,rfl⟩:=List.mem_take_iff_getElem.1 E;exact C k i (by omega) hi (by omega) (Yc.1 e)
def ah9{l:aa cr}(h:nE l=true){n code:Int}(h1:0 <= n/\n <= 1023)(h2:code=1 \/ code=2):nE (nM l n code)=true:=by
 have C:=Ek.of h;have hl:=C.l;have ayX:zx ⟨n,code,1⟩=true:=by
  simp[zx,aM,dY,eZ,bu];omega
 refine Ek.ok ?_;unfold nM;cases D:l.findIdx? (mK ⟨n,code,1⟩)with
 | some i=>
  have⟨hi,hp⟩:=DJ D;dsimp only;rw[gQ _ hi];have U:=C.e _ (cX hi);have Y:zx (QY l[i])=true:=by
   simp only[zx,aM,bu]at U ⊢;unfold QY;dsimp only;rw[aZ]
   grind
  refine⟨Gu C.e Y,?_,by rw[gR];exact hl⟩;have E:=C.k;rw[List.pairwise_iff_getElem]at E ⊢;intro a b I hb Z;rw[gR]at I hb;have:=E a b I hb Z;rw[List.getElem_set,List.getElem_set];by_cases O:i=a
  ·subst O
   rwa [aW rfl,aX]
  ·rw[aX O];by_cases e2:i=b
   ·subst e2
    rwa [aW rfl]
   ·simp[*]
 | none=>
  have hn:∀ x∈l,¬ (x.line=n/\x.code=code):=λx hx e=>by
   have:=List.findIdx?_eq_none_iff.1 D x hx;rw[Yc.2 e]at this;cases this
  have app:∀ m:aa cr,m.Sublist l -> m.length <= 5 -> Ek (m++[⟨n,code,1⟩]):=λm T hml=>by
   refine⟨λx hx=>?_,?_,by rw[List.length_append,List.length_singleton];omega⟩
   ·rcases List.mem_append.1 hx with hx | hx
    ·exact C.e x (T.subset hx)
    ·rwa [iw.1 hx]
   ·rw[List.pairwise_append]
    refine⟨C.k.sublist T,List.pairwise_singleton _ _,λx hx y hy e=>?_⟩
    rw[iw.1 hy]at e
    grind
  dsimp only;by_cases e6:l.length=6
  ·grind
  ·rw[jw (show ¬ (l.length:Int)=6 by omega),av]
   grind
def aia{l:aa cQ}(h:∀ s∈l,om s=true){k:Nat}(C:k<l.length)(E:1<=l[k].fP):∀ s∈l.set k ⟨l[k].weight,W6 (l[k].fP-1)⟩,om s=true:=by
 have D:=h _ (cX C);simp only[om,aM,bu]at D;rw[aZ (n:=l[k].fP-1)];refine Gu h ?_;simp only[om,aM,bu];omega
end Go.Proofs.YtpigmalhjkekiaaGreat
