/-
  Plain laws. Nothing here is a claim.
-/
import Derived.Test.YtdfkhfiglknaoaaGreatVZ
import Derived.Test.YtdfkhfiglknaoaaGreatOpenV
import Derived.Test.YtdfkhfiglknaoaaGreatG1
import Derived.Test.YtdfkhfiglknaoaaGreatG2
import Derived.Test.YtdfkhfiglknaoaaGreatG3
import Derived.Test.YtdfkhfiglknaoaaGreatG4
import Derived.Test.YtdfkhfiglknaoaaGreatG5
import Derived.Test.YtdfkhfiglknaoaaGreatG6
import Derived.Test.YtdfkhfiglknaoaaGreatG7
import Derived.Test.YtdfkhfiglknaoaaGreatG8
import Derived.Test.YtdfkhfiglknaoaaGreatG9
import Derived.Test.YtdfkhfiglknaoaaGreatGX
namespace Go.Proofs.YtdfkhfiglknaoaaGreat
set_option linter.defProp false
open Go.RowKit
set_option linter.unusedVariables false
set_option linter.unusedSimpArgs false
set_option maxRecDepth 100000
def aY{n:Int}(C:-9223372036854775808<=n:=by omega)(D:n<9223372036854775808:=by omega):W6 n=n:=by
 exact(IntKind.wrap_i64 n).trans (by omega)
def ZT{α β:Type}{step:α -> ah (α⊕β)}(I:α -> Prop)(m:α -> Nat)(Q:β -> Prop)
  (h:∀x,I x -> (∃y,step x=some (.inl y)/\I y/\m y<m x) \/ ∃z,step x=some (.inr z)/\Q z):
  ∀(n:Nat) (x:α),I x -> m x<n -> ∃z,iter step n x=some z/\Q z
 |0,x,_,E=>by omega
 | n+1,x,O,E=>by
  unfold iter;rcases h x O with ⟨y,C,D,U⟩|⟨z,C,D⟩
  ·rw[C];exact ZT I m Q h n y D (by omega)
  ·simp_all
def ak{α β:Type}(x:α)(f:α->ah β):(some x).bind f=f x:=rfl
def iu{α β T:Type}{step:α -> ah (α⊕β)}(l:aa T)(q:T -> Bool)(S:Nat -> α)(D z:β)(fuel:Nat)(I:∀ k (h:k<l.length),step (S k)=some (bif q l[k]then .inl (S (k+1))else .inr D))(O:step (S l.length)=some (.inr z))(C:l.length<fuel):
  iter step fuel (S 0)=some (bif l.all q then z else D):=by
 have key:∀ (n i fuel:Nat),i+n=l.length -> n<fuel -> iter step fuel (S i)=some (bif (l.drop i).all q then z else D):=by
  intro n
  induction n with
  | zero=>
   intro i fuel hi C
   match fuel,C with
   | f+1,_=>
    have:i=l.length:=by omega
    subst this;unfold iter;simp_all
  | succ n U=>
   intro i fuel hi C
   match fuel,C with
   | f+1,C=>
    have E:i<l.length:=by omega
    unfold iter;rw[I i E,List.drop_eq_getElem_cons E,List.all_cons];cases q l[i]with
    |true=>grind
    |false=>rfl
 exact key l.length 0 fuel (by omega) C
def cI{α β:Type}{step:α -> ah (α⊕β)}(n:Nat)(S:Nat -> α)(z:β)(fuel:Nat)(E:∀ k,k<n -> step (S k)=some (.inl (S (k+1))))(D:step (S n)=some (.inr z))(C:n<fuel):iter step fuel (S 0)=some z:=by
 have key:∀ (m i fuel),i+m=n -> m<fuel -> iter step fuel (S i)=some z:=by
  intro m
  induction m with
  | zero=>
   intro i fuel hi C
   match fuel,C with
   | f+1,_=>
    have:i=n:=by omega
    subst this;unfold iter;rw[D]
  | succ m I=>
   intro i fuel hi C
   match fuel,C with
   | f+1,C=>
    unfold iter
    grind
 simp_all
def akp{α β:Type}{step:α -> ah (α⊕β)}(n:Nat)(I:Nat -> α -> Prop)(Q:β -> Prop){x:α}(fuel:Nat)(E:I 0 x)(U:∀ k,k<n -> ∀ x,I k x -> (∃ y,step x=some (.inl y)/\I (k+1) y) \/ ∃ z,step x=some (.inr z)/\Q z)(O:∀ x,I n x -> ∃ z,step x=some (.inr z)/\Q z)(C:n<fuel):∃ z,iter step fuel x=some z/\Q z:=by
 have key:∀ (m i fuel:Nat) (x:α),i+m=n -> m<fuel -> I i x -> ∃ z,iter step fuel x=some z/\Q z:=by
  intro m
  induction m with
  | zero=>
   intro i fuel x hi C D
   match fuel,C with
   | f+1,_=>
    have:i=n:=by omega
    subst this;have⟨z,Y,h2⟩:=O x D;unfold iter;simp_all
  | succ m ih=>
   intro i fuel x hi C D
   match fuel,C with
   | f+1,C=>
    unfold iter
    grind
 exact key n 0 fuel x (by omega) C E
def upto{α:Type}(f:α->α)(l:aa α)(i:Nat):aa α:=(l.take i).map f++l.drop i
def BM{α:Type}(f:α->α)(l:aa α)(i:Nat):(upto f l i).length=l.length:=by
 simp[upto];omega
def Tc{α:Type}(f:α->α)(l:aa α):upto f l 0=l:=by simp[upto]
def HA{α:Type}(f:α->α)(l:aa α):upto f l l.length=l.map f:=by simp[upto]
def HB{α:Type}(f:α -> α)(l:aa α)(i:Nat)(h:i<l.length)(C:i<(upto f l i).length):(upto f l i)[i]=l[i]:=by
 simp[upto]
 grind
def HC{α:Type}(f:α -> α)(l:aa α)(i:Nat)(h:i<l.length):(upto f l i).set i (f l[i])=upto f l (i+1):=by
 have C:min i l.length=i:=by omega
 have e:=List.drop_eq_getElem_cons h;simp only[upto];rw[List.set_append_right _ _ (by simp;omega),e,List.take_succ_eq_append_getElem h];simp only[List.map_append,List.map_cons,List.map_nil,fN,jf,C,Nat.sub_self,List.set_cons_zero,List.append_assoc,List.cons_append,kJ]
def iw{x y:Int}(h:¬ x=y):(x==y)=false:=by simp[h]
def gI{x y:Int}(h:¬ x=y):(x != y)=true:=by simp[h]
def cF{n:Nat}(h:n<1073741824:=by omega):bE n=true:=aW h
def bI{i:Nat}(h:i<4611686018427387904:=by omega):W6 ((i:Int)+1)=((i+1:Nat):Int):=by
 rw[aY];simp
def bM{n:Nat}(h:n<1073741824:=by omega):n<aV:=by unfold aV;omega
def aQ(x a b:Int):Bool:=decide (a<=x)&&decide (x<=b)
def bA{x a b:Int}:aQ x a b=true ↔ a<=x/\x<=b:=by simp[aQ]
def dy(x a b:Int):cz x a b=some (aQ x a b):=by
 unfold cz aQ;by_cases h:a<=x<;>simp[h]
def fm(x a b:Int):cO x a b=some (aQ x a b):=dy x a b
def ct(g:aG):Bool:=aQ g.bK 1 2&&aQ g.aA 1 4&&aQ g.rows 2 16&&aQ g.aK 1 8
def rU(g:aG):oN g=some (ct g):=by
 unfold oN ct;simp[dy]
 grind
def HD(g:aG):za g=some (ct g):=by
 unfold za ct;simp[fm]
 grind
def fJ{g:aG}(h:ct g=true):1<=g.bK/\g.bK<=2/\1<=g.aA/\g.aA<=4/\2<=g.rows/\g.rows<=16/\1<=g.aK/\g.aK<=8:=by
 simp only[ct,aQ,aP,fU]at h;omega
def aU(g:aG):Int:=bif ct g then g.bK*g.aA else 0
def eM(g:aG):0 <= aU g/\aU g <= 8:=by
 unfold aU;cases h:ct g with
 |false=>simp
 | true=>
  have⟨C,D,E,I,_⟩:=fJ h;simp;rcases(by omega:g.bK=1 \/ g.bK=2)with e|e<;>rw[e]<;>omega
def Ed{g:aG}(h:ct g=true):1 <= aU g:=by
 have⟨C,D,E,I,_⟩:=fJ h;simp[aU,h,aq];rcases(by omega:g.bK=1 \/ g.bK=2)with e|e<;>rw[e]<;>omega
def lM(g:aG):me g=some (aU g):=by
 have hb:=eM g;unfold me;rw[rU,ak];unfold aU at hb ⊢;cases h:ct g with
 |false=>rfl
 | true=>
  rw[h]at hb;simp at hb;simp;rw[aY]
def pW(g:aG):n9 g=some (aU g):=by
 have hb:=eM g;unfold n9;rw[HD,ak];unfold aU at hb ⊢;cases h:ct g with
 |false=>rfl
 | true=>
  rw[h]at hb;simp at hb;simp;rw[aY]
def gn(g:aG):Int:=bif ct g then aU g*g.rows else 0
def dU(g:aG):Int:=bif ct g then aU g*g.rows*g.aK else 0
def Td{a b A B:Int}(D:0<=a)(E:a<=A)(C:0<=b)(I:b<=B):0<=a*b/\a*b<=A*B:=
 ⟨Int.mul_nonneg D C,Int.le_trans (Int.mul_le_mul_of_nonneg_right E C) (Int.mul_le_mul_of_nonneg_left I (by omega))⟩
def pX(g:aG):0 <= gn g/\gn g <= 128:=by
 unfold gn;cases h:ct g with
 |false=>simp
 | true=>
  have⟨_,_,_,_,D,C,_⟩:=fJ h;have:=eM g;exact Td this.1 this.2 (by omega) C
def mN(g:aG):0 <= dU g/\dU g <= 1024:=by
 have C:=pX g;unfold dU gn at *
 cases h:ct g with
 |false=>simp
 | true=>
  rw[h]at C;have⟨_,_,_,_,E,I,O,D⟩:=fJ h;exact Td C.1 C.2 (by omega) D
def Ee(g:aG):tZ g=some (dU g):=by
 have C:=mN g;have D:=pX g;unfold tZ;rw[lM,ak];unfold dU gn at *
 cases h:ct g with
 |false=>simp only[aU,h,av,Int.zero_mul];rw[show W6 0=0 from rfl,Int.zero_mul];rfl
 | true=>
  rw[h]at C D;simp only[aq]at C D;simp only[aq];rw[aY (n:=aU g*g.rows),aY]
def Ef(g:aG):tY g=some (dU g):=by
 have C:=mN g;have D:=pX g;unfold tY;rw[HD,ak,pW,ak];unfold dU gn at *
 cases h:ct g with
 |false=>rfl
 | true=>
  rw[h]at C D;simp at C D;simp;rw[aY (n:=aU g*g.rows),aY]
def dO(g:aG)(a:aM):Bool:=ct g&&aQ a.ay 0 (aU g-1)&&aQ a.row 0 (g.rows-1)&&aQ a.bV 0 (g.aK-1)
def rV{g:aG}{a:aM}(h:dO g a=true):ct g=true/\0 <= a.ay/\a.ay<aU g/\0 <= a.row/\a.row<g.rows/\0 <= a.bV/\a.bV<g.aK:=by
 simp[dO,aQ,aP,fU]at h
 grind
def xw{g:aG}{a:aM}(h:ct g=true)(C:0 <= a.ay)(D:a.ay<aU g)(E:0 <= a.row)(I:a.row<g.rows)(O:0 <= a.bV)(U:a.bV<g.aK):dO g a=true:=by
 simp[dO,aQ,aP,fU]
 grind
def Te(g:aG)(a:aM):zg g a=some (dO g a):=by
 unfold zg dO;simp[rU,lM,dy,ak];have hb:=eM g;cases h:ct g with
 |false=>rfl
 | true=>
  have⟨_,_,_,_,C,D,E,I⟩:=fJ h;rw[aY,aY,aY]
  grind
def akq(g:aG)(a:aM):Ht g a=some (dO g a):=by
 unfold Ht dO;simp only[pW,fm,ak];have hb:=eM g;rw[aY];cases h:ct g with
 | false=>
  have:aQ a.ay 0 (aU g-1)=false:=by
   simp[aU,h,aQ]
   grind
  simp_all
 | true=>
  have⟨_,_,_,_,C,D,E,I⟩:=fJ h;rw[aY,aY]
  grind
def xx{b n r R:Int}(C:0 <= b)(D:b<n)(E:0 <= r)(I:r<R):0 <= b*R/\0 <= b*R+r/\b*R+r<n*R:=by
 have O:0 <= b*R:=Int.mul_nonneg C (by omega);have U:(b+1)*R <= n*R:=Int.mul_le_mul_of_nonneg_right (by omega) (by omega)
 grind
def qU(g:aG)(a:aM):Int:=bif dO g a then (a.ay*g.rows+a.row)*g.aK+a.bV else -1
def ZU{g:aG}{a:aM}(h:dO g a=true):0 <= qU g a/\qU g a<dU g/\0 <= a.ay*g.rows/\0 <= a.ay*g.rows+a.row/\a.ay*g.rows+a.row<gn g/\0 <= (a.ay*g.rows+a.row)*g.aK:=by
 have⟨C,D,E,I,O,U,Y⟩:=rV h;have⟨r0,r1,r2⟩:=xx D E I O;have⟨l0,l1,l2⟩:=xx r1 r2 U Y;simp[qU,h,dU,gn,C,aq];omega
def Nl(g:aG)(a:aM):Bt g a=some (qU g a):=by
 unfold Bt;rw[Te,ak];cases h:dO g a with
 |false=>simp[qU,h]
 | true=>
  have hb:=ZU h;have D:=mN g;have E:=pX g;have⟨C,I,O,U,Y,b5,b6⟩:=rV h;have⟨_,_,_,_,g5,g6,g7,g8⟩:=fJ C;simp only[qU,h,aq]at hb ⊢;simp only[bG,av];rw[aY (n:=a.ay*g.rows),aY (n:=a.ay*g.rows+a.row),aY (n:=(a.ay*g.rows+a.row)*g.aK),aY]
def ZV(g:aG)(a:aM):D6 g a=some (qU g a):=by
 unfold D6;rw[akq,ak];cases h:dO g a with
 |false=>simp[qU,h]
 | true=>
  have hb:=ZU h;have D:=mN g;have E:=pX g;have⟨C,I,O,U,Y,b5,b6⟩:=rV h;have⟨_,_,_,_,g5,g6,g7,g8⟩:=fJ C;simp only[qU,h,aq]at hb ⊢;simp only[bG,av];rw[aY (n:=a.ay*g.rows),aY (n:=a.ay*g.rows+a.row),aY (n:=(a.ay*g.rows+a.row)*g.aK),aY]
def xy{α β:Type}{step:α -> ah (α⊕β)}(S:Nat -> α){z:β}:∀ (n i fuel:Nat),(∀ k,i <= k -> k<i+n -> step (S k)=some (.inl (S (k+1)))) -> step (S (i+n))=some (.inr z) -> n<fuel -> iter step fuel (S i)=some z
 | 0,i,fuel,_,C,D=>by
  match fuel,D with
  |f+1,_=>unfold iter;rw[Nat.add_zero]at C;rw[C]
 | n+1,i,fuel,E,C,D=>by
  match fuel,D with
  | f+1,D=>
   unfold iter;rw[E i (dc _) (by omega)];exact xy S n _ f (λk I O=>E k (by omega) (by omega)) (by rw[show i+1+n=i+(n+1) by omega];exact C) (by omega)
def ug{i:Nat}(h:i<4611686018427387904:=by omega):W6 ((i:Int)+1)=((i+1:Nat):Int):=by
 rw[aY];simp
def akr(y:Int):0 <= bits .and .i64 y 255/\bits .and .i64 y 255 <= 255:=by
 have e:bits .and .i64 y 255=IntKind.wrap .i64 ((BitVec.ofInt 64 y &&& BitVec.ofInt 64 255).toNat):=rfl;have h:(BitVec.ofInt 64 y &&& BitVec.ofInt 64 255).toNat <= 255:=by
  exact Nat.le_trans Nat.and_le_right (by decide)
 rw[e,IntKind.wrap_i64];omega
structure lN (b:List Int) (c:bO):Prop where
 eq:c.b=b
 lo:0<=c.i
 hi:c.i<=b.length
 len:b.length<=1073741823
def lN.eta{b:aa Int}{c:bO}(h:lN b c):(⟨b,c.i,c.h⟩:bO)=c:=by
 have⟨C,i,D⟩:=c;have:=h.eq;simp_all
def Dr{α:Type}(b:aa Int)(f:ah (α×(bO×af)))(P:α->Prop):Prop:=∃x c,f=some (x,(c,()))/\lN b c/\P x
def Dr.bind{α β:Type}{b:aa Int}{f:ah (α×(bO×af))}{g:α×(bO×af) -> ah (β×(bO×af))}{P:α -> Prop}{Q:β -> Prop}(h:Dr b f P)(C:∀ x c,P x -> lN b c -> Dr b (g (x,(c,()))) Q):Dr b (f.bind g) Q:=by
 have⟨x,c,D,E,I⟩:=h;simp_all
def Dr.pure{α:Type}{b:aa Int}{x:α}{c:bO}{P:α->Prop}(C:lN b c)(D:P x):Dr b (some (x,(c,()))) P:=⟨x,c,rfl,C,D⟩
def aks(l:aa Int)(h:l.length<=1073741823):∃ y,Dk l=some y:=by
 unfold Dk bw;obtain⟨z,C,I⟩:=ZT (step:=Kd)
  (λx=>∃(i:Nat) (y:Int),x=(((),y,(i:Int),()),(l,()))/\i<=l.length)
  (λx=>l.length-x.1.2.2.1.toNat) (λz=>∃ y,(Sum.elim (λO:((af×Int×af)×((aa Int)×af))=>some O.1.2.1) (λz=>nomatch z)) z=some y) (by
   rintro x ⟨i,y,rfl,hi⟩;unfold Kd az xG xI;dsimp only;by_cases D:i<l.length
   ·have E:decide ((i:Int)<(l.length:Int))=true:=by simpa using D
    have U:0<=(i:Int)/\(i:Int).toNat<l.length:=⟨by omega,by simpa using D⟩
    rw[E,aq];cases Y:decide ((i:Int)<4000)with
    | true=>
     rw[aq,aC U];left;refine⟨_,rfl,⟨i+1,_,by rw[ug],by omega⟩,?_⟩;dsimp only;rw[ug];omega
    | false=>
     rw[av];right;exact⟨_,rfl,_,rfl⟩
   ·have E:decide ((i:Int)<(l.length:Int))=false:=by simpa using D
    rw[E,av];right;exact⟨_,rfl,_,rfl⟩)
  aV (((),(W6 ((97301:Int)+(l.length:Int))),((0:Nat):Int),()),(l,())) ⟨0,_,rfl,by omega⟩ (by dsimp only;unfold aV;omega)
 have C:iter Kd aV (((),(W6 ((97301:Int)+(l.length:Int))),(0:Int),()),(l,()))=some z:=C;rw[C];exact I
def akt(l:aa Int)(y:Int)(h:l.length<=1073741823):lN l ⟨l,0,y⟩:=⟨rfl,jw _,by simp,h⟩
def Nm{b:aa Int}{c:bO}(C:lN b c):Dr b (A5 c) λx=>0<=x/\x<=255:=by
 have hb:=C.eq;have E:=C.lo;have O:=C.hi;have I:=C.len;unfold A5 xI;by_cases h:c.i<(c.b.length:Int)
 ·have D:decide (c.i<(c.b.length:Int))=true:=by simpa using h
  rw[D,aq,aC ⟨E,by omega⟩];refine Dr.pure ⟨hb,?_,?_,I⟩ (akr _)
  ·show 0<=W6 (c.i+1);rw[hb]at h;rw[aY];omega
  ·show W6 (c.i+1)<=_;rw[hb]at h;rw[aY];omega
 ·have D:decide (c.i<(c.b.length:Int))=false:=by simpa using h
  rw[D,av];exact Dr.pure ⟨hb,E,O,I⟩ (akr _)
def ZW{x n:Int}(h:0<=x)(C:0<n):0<=x.tmod n/\x.tmod n<n:=by
 rw[q8 h];exact⟨Int.emod_nonneg _ (by omega),Int.emod_lt_of_pos _ C⟩
def fS{b:aa Int}{c:bO}(C:lN b c)(n:Int):Dr b (fI c n) λx=>0 <= x/\(n <= 0 -> x=0)/\(0<n -> x<n):=by
 unfold fI;by_cases Y:n <= 0
 ·have O:decide (n <= 0)=true:=by simpa using Y
  rw[O];exact Dr.pure C ⟨jw _,λ_=>rfl,λh=>by omega⟩
 ·have O:decide (n <= 0)=false:=by simpa using Y
  have hn:¬ n=0:=by omega
  rw[O];by_cases h1:n <= 256
  ·have U:decide (n <= 256)=true:=by simpa using h1
   rw[U,aq]
   refine(Nm C).bind λx c' hx Tf=>?_
   rw[bk hn];rw[C.eq,Tf.eta];have:=ZW hx.1 (show 0<n by omega);exact Dr.pure Tf ⟨this.1,λh=>by omega,λ_=>this.2⟩
  ·have U:decide (n <= 256)=false:=by simpa using h1
   rw[U,av,C.eq]
   refine(Nm C).bind λD k1 AH pS=>?_
   dsimp only;rw[pS.eta]
   refine(Nm pS).bind λE k2 OA mJ=>?_
   dsimp only;rw[mJ.eta]
   refine(Nm mJ).bind λI k3 hx3 n6=>?_
   dsimp only;rw[n6.eta]
   refine(Nm n6).bind λx4 k4 hx4 wR=>?_
   rw[bk hn];dsimp only;rw[wR.eta];rw[aY (n:=D*16777216),aY (n:=E*65536),aY (n:=D*16777216+E*65536),aY (n:=I*256),aY (n:=D*16777216+E*65536+I*256),aY (n:=D*16777216+E*65536+I*256+x4)];have:=ZW (x:=D*16777216+E*65536+I*256+x4) (by omega) (show 0<n by omega);exact Dr.pure wR ⟨this.1,λh=>by omega,λ_=>this.2⟩
def az9(l:aa Int)(h:l.length<=1073741823):∃ y,QK l=some y/\y.length=12/\∀ x∈y,0<=x/\x<10000:=by
 unfold QK bw;obtain⟨C,Y⟩:=aks l h;rw[Y];obtain⟨z,D,h2⟩:=ZT (step:=Kh)
  (λx=>∃(i:Nat) (c:bO) (y:aa Int),x=(((),(),(i:Int),()),((l,c.i,c.h,()),y,()))/\i<=12/\lN l c/\y.length=i/\∀x∈y,0<=x/\x<10000)
  (λx=>12-x.1.2.2.1.toNat) (λz=>∃ y,(Sum.elim (λz3:((af×af)×((aa Int)×af))=>some z3.2.1) (λz=>nomatch z)) z=some y/\y.length=12/\∀ x∈y,0<=x/\x<10000) (by
   rintro x ⟨i,c,y,rfl,hi,O,hy,U⟩;unfold Kh az xG;dsimp only;by_cases h':i<12
   ·have E:decide ((i:Int)<(12:Int))=true:=aW;rw[E,aq,O.eta];left;obtain⟨x,I,e1,Tf,J2,_,AH⟩:=fS O 10000;rw[e1];have ho:bE (y.length+([x]:aa Int).length)=true:=by
     unfold bE;simp;omega
    refine⟨(((),(),W6 ((i:Int)+1),()),((l,I.i,I.h,()),(y++[x]),())),?_,⟨i+1,I,y++[x],by rw[ug],by omega,Tf,by simp[hy],λu hu=>?_⟩,?_⟩
    ·show (bif bE (y.length+([x]:aa Int).length)then _ else none)=_;rw[ho];rfl
    ·rcases List.mem_append.1 hu with hu | hu
     ·exact U u hu
     ·rw[jH.1 hu];exact⟨J2,AH (by omega)⟩
    ·dsimp only;rw[ug];omega
   ·have E:decide ((i:Int)<(12:Int))=false:=aZ;rw[E,av];right;exact⟨_,rfl,y,rfl,by omega,U⟩)
  aV (((),(),((0:Nat):Int),()),((l,0,C,()),([]:aa Int),())) ⟨0,⟨l,0,C⟩,[],rfl,by omega,akt l C h,rfl,by simp⟩ (by dsimp only;unfold aV;omega)
 have D:iter Kh aV (((),(),(0:Int),()),((l,(0:Int),C,()),([]:aa Int),()))=some z:=D;rw[ak,D];exact h2
def aAa(x a b:Int):cz x a b=some (decide (a <= x)&&decide (x <= b)):=by
 unfold cz
 grind
def aku{x a b:Int}(h:a<=x)(C:x<=b):cz x a b=some true:=by
 rw[aAa,aW h,aW C];rfl
def aAb{x a b:Int}(h:a<=x)(C:x<=b):cO x a b=some true:=aku h C
def opens:Nat->aa di->aa Int
 |_,[]=>[]
 |i,b::bs=>bif b.open_ then (i:Int)::opens (i+1) bs else opens (i+1) bs
def ZX(i:Nat)(a b:aa di):opens i (a++b)=opens i a++opens (i+a.length) b:=by
 induction a generalizing i with
 |nil=>simp[opens]
 | cons x a C=>
  simp[List.cons_append,opens]
  grind
def Tg(i:Nat)(l:aa di):(opens i l).length <= l.length:=by
 induction l generalizing i with
 |nil=>simp[opens]
 | cons x a C=>
  have:=C (i+1);simp[opens]
  grind
def nD{α:Type}{l:aa α}{i:Nat}(h:i<l.length):l.take (i+1)=l.take i++[l[i]]:=by
 rw[List.take_succ_eq_append_getElem h]
def Th(r:bX)(h:r.aA.length<1073741823):Be r=some (opens 0 r.aA):=by
 unfold Be bw;have e:=xy (step:=Gq) (λi=>(((),r.aA,(r.aA.length:Int),(i:Int),()),(opens 0 (r.aA.take i),()))) (z:=.inl (((),()),(opens 0 r.aA,()))) r.aA.length 0 aV (λk _ C=>?_) ?_ (by unfold aV;omega)
 ·have e:iter Gq aV (((),r.aA,r.aA.length,0,()),(([]),()))=_:=e;simp_all
 ·have C:k<r.aA.length:=by omega
  unfold Gq az xG xI;dsimp only;have D:decide ((k:Int)<(r.aA.length:Int))=true:=aW;have E:0 <= (k:Int)/\(k:Int).toNat<r.aA.length:=⟨by omega,by simpa using C⟩
  have hl:=Tg 0 (r.aA.take k);rw[jf]at hl;have I:bE ((opens 0 (r.aA.take k)).length+([(k:Int)]:aa Int).length)=true:=by
   unfold bE;simp;omega
  rw[D,aq,aC E,ug,nD C,ZX];simp only[bD,opens,jf,fB,Nat.min_eq_left (Nat.le_of_lt C)];cases r.aA[k].open_ with
  |true=>grind
  |false=>grind
 ·rw[fB];unfold Gq az xG xI;simp_all
def gmT:Nat:=116196760129267793630862849262464326346044543732748708940920453221664288556434379745879494961270582141731748813355742142288220638766218855867759359510984593843506004200114943278699875244065120512813025380665946106619127097398772031257643617143689515450995722003729973585221105779229319991106539050771048038400
def gm(a b:Nat):Nat:=(gmT / 2 ^ (4*(16*a+b))) % 16
def pwT:Nat:=44684875893970114885940500792407720993
def pw(n:Nat):Nat:=(pwT / 2 ^ (4*n)) % 16
def ke(f:Nat->Bool):Bool:=(List.range 16).all f
def ig{f:Nat->Bool}(h:ke f=true){a:Nat}(C:a<16):f a=true:=by
 have:=ck.1 h a (ga.2 C);exact this
def gV(a b:Nat):gm a b<16:=Nat.mod_lt _ (by decide)
def vA(n:Nat):pw n<16:=Nat.mod_lt _ (by decide)
def aAc:(ke λa=>ke λb=>kD (Int.ofNat a) (Int.ofNat b)==some (Int.ofNat (gm a b)))=true:=by kernel_rfl
def aAd:((List.range 31).all λn=>KH 2 (Int.ofNat n)==some (Int.ofNat (pw n)))=true:=by kernel_rfl
def akv:(ke λa=>ke λb=>decide (bits .xor .i64 (Int.ofNat a) (Int.ofNat b)=Int.ofNat (a ^^^ b))&&Nat.blt (a ^^^ b) 16)=true:=by kernel_rfl
def aAe:(ke λa=>ke λb=>ke λc=>Nat.beq (gm (a ^^^ b) c) (gm a c ^^^ gm b c))=true:=by kernel_rfl
def akw:(ke λa=>Nat.beq (gm a 1) a&&Nat.beq (gm 0 a) 0)=true:=by kernel_rfl
def aAf:(ke λC=>ke λs1=>ke λs2=>
  (λy z=>(λx=>Nat.beq (gm x 1 ^^^ (gm y 1 ^^^ (gm z 1 ^^^ C))) 0&&Nat.beq (gm x 1 ^^^ (gm y 2 ^^^ (gm z 4 ^^^ s1))) 0&&Nat.beq (gm x 1 ^^^ (gm y 4 ^^^ (gm z 3 ^^^ s2))) 0) (C ^^^ y ^^^ z))
   (gm (gm 2 (C ^^^ s1) ^^^ gm 5 (C ^^^ s2)) 13) (gm (gm 3 (C ^^^ s2) ^^^ gm 5 (C ^^^ s1)) 13))=true:=by kernel_rfl
def aAg:Dx 4=some 13:=by kernel_rfl
def Eg{a b:Nat}(C:a<16)(hb:b<16):kD (a:Int) (b:Int)=some (gm a b:Int):=by
 have h:=ig (ig aAc C) hb;exact eq_of_beq h
def aAh{n:Nat}(h:n<31):KH 2 (n:Int)=some (pw n:Int):=eq_of_beq (ck.1 aAd n (ga.2 h))
def s8{a b:Nat}(C:a<16)(hb:b<16):bits .xor .i64 (a:Int) (b:Int)=((a ^^^ b:Nat):Int):=by
 have h:=ig (ig akv C) hb;simp_all
def nE{a b:Nat}(C:a<16)(hb:b<16):a ^^^ b<16:=by
 have h:=ig (ig akv C) hb;simp_all
def aAi{a b c:Nat}(C:a<16)(hb:b<16)(D:c<16):gm (a ^^^ b) c=gm a c ^^^ gm b c:=cL (ig (ig (ig aAe C) hb) D)
def aAj{a:Nat}(C:a<16):gm a 1=a:=by
 have h:=ig akw C;rw[aP]at h;exact cL h.1
def Ti{a:Nat}(C:a<16):gm 0 a=0:=by
 have h:=ig akw C;rw[aP]at h;exact cL h.2
abbrev bz (w:aa Nat):aa Int:=w.map λ(n:Nat)=>(n:Int)
def eo(w:aa Nat):Prop:=∀x∈w,x<16
def iO(w:aa Nat):(bz w).length=w.length:=by simp[bz]
def vB{w:aa Nat}{k:Nat}(h:k<(bz w).length):(bz w)[k]=((w.getD k 0:Nat):Int):=by grind
def eo.get{w:aa Nat}(h:eo w)(k:Nat):w.getD k 0<16:=by
 by_cases C:k<w.length
 ·simp[cV,bT C];exact h _ (cQ C)
 ·simp_all
def ZY{w:aa Nat}(E:eo w)(hl:w.length<1000)(n:Int):w8 (bz w) n=some ((w.length:Int)==n):=by
 unfold w8 bU;have e:=xy (step:=Bb) (λi=>((bz w,n,bz w,((bz w).length),i,()),())) (z:=.inr (.inl ((bz w,n,()),()))) w.length 0 aV (λk _ C=>?_) ?_ (by unfold aV;omega)
 ·simp_all
 ·have C:k<(bz w).length:=by rw[iO];omega
  unfold Bb az bx xG xI;dsimp only;have I:decide ((k:Int)<((bz w).length:Int))=true:=aW;have D:0 <= (k:Int)/\(k:Int).toNat<(bz w).length:=⟨by omega,by simpa using C⟩
  rw[I,aq,aC D];have O:(bz w)[(k:Int).toNat]'D.2=((w.getD k 0:Nat):Int):=vB C;rw[O];have:=E.get k;unfold zd;rw[aku (by omega) (by omega),ak,ak,ug];rfl
 ·unfold Bb az bx xG xI;simp_all
def bS(w:aa Nat)(j:Nat):Nat->Nat
 |0=>0
 |i+1=>bS w j i ^^^ gm (w.getD i 0) (pw (i*j))
def s9(w:aa Nat)(j:Nat):∀ i,bS w j i<16
 |0=>Nat.zero_lt_succ _
 |i+1=>nE (s9 w j i) (gV _ _)
def aAk{w:aa Nat}(O:eo w)(hl:w.length=11)(j:Nat)(hj:j<3)(a b:Int)(o:aa Int)(U:j<o.length)(Y:o.set j 0=o):
  iter Dw aV ((bz w,(),(j:Int),a,b,bz w,((bz w).length:Int),(0:Int),()),(o,()))=some (.inl ((bz w,(),a,b,()),(o.set j (bS w j 11:Int),()))):=by
 have e:=xy (step:=Dw) (λi=>((bz w,(),(j:Int),a,b,bz w,((bz w).length:Int),(i:Int),()),(o.set j (bS w j i:Int),()))) (z:=.inl ((bz w,(),a,b,()),(o.set j (bS w j 11:Int),()))) 11 0 aV (λk _ D=>?_) ?_ (by unfold aV;omega)
 ·have e:iter Dw aV ((bz w,(),(j:Int),a,b,bz w,((bz w).length:Int),(0:Int),()),(o.set j 0,()))=_:=e;rw[Y]at e;exact e
 ·have D:k<(bz w).length:=by rw[iO];omega
  unfold Dw az xG xI xL;dsimp only;have E:decide ((k:Int)<((bz w).length:Int))=true:=aW;have I:0<=(k:Int)/\(k:Int).toNat<(bz w).length:=⟨by omega,by simpa using D⟩
  have C:0<=(j:Int)/\(j:Int).toNat<(o.set j (bS w j k:Int)).length:=⟨by omega,by simpa using U⟩
  have c3:(bz w)[(k:Int).toNat]'I.2=((w.getD k 0:Nat):Int):=vB D;have c5:(o.set j (bS w j k:Int))[(j:Int).toNat]'C.2=(bS w j k:Int):=List.getElem_set_self _;rw[E,aq,aC I,aC C,aC C.2,c3,c5];have hkj:k*j<=20:=Nat.le_trans (Nat.mul_le_mul (show k<=10 by omega) (show j<=2 by omega)) (by decide);have c6:W6 ((k:Int)*(j:Int))=((k*j:Nat):Int):=by
   rw[<-Int.natCast_mul,aY]
  rw[c6,aAh (by omega),ak,Eg (O.get k) (vA _),ak,aC C,aC C.2,s8 (s9 _ _ _) (gV _ _),ug];have c7:(o.set j (bS w j k:Int)).set (j:Int).toNat ((bS w j k ^^^ gm (w.getD k 0) (pw (k*j)):Nat):Int)=o.set j (bS w j (k+1):Int):=List.set_set ..;rw[c7]
 ·unfold Dw az xG xI xL;dsimp only;have E:decide (((0+11:Nat):Int)<((bz w).length:Int))=false:=aZ (by rw[iO];omega);rw[E,av]
def uh(w:aa Nat):Nat->aa Int
 |0=>[0,0,0]
 |1=>[(bS w 0 11:Int),0,0]
 |2=>[(bS w 0 11:Int),(bS w 1 11:Int),0]
 |_=>[(bS w 0 11:Int),(bS w 1 11:Int),(bS w 2 11:Int)]
def ZZ{w:aa Nat}(D:eo w)(hl:w.length=11):Bc (bz w)=some [(bS w 0 11:Int),(bS w 1 11:Int),(bS w 2 11:Int)]:=by
 unfold Bc bw;have c0:((w.length:Int)==(11:Int))=true:=by rw[hl];rfl
 rw[ZY D (by omega),c0,ak];have e:=xy (step:=Gk) (λj=>((bz w,(),(3:Int),(j:Int),()),(uh w j,()))) (z:=.inl (((),()),(uh w 3,()))) 3 0 aV (λk _ I=>?_) ?_ (by unfold aV;omega)
 ·have e:iter Gk aV ((bz w,(),((List.replicate (3:Int).toNat (0:Int)).length:Int),(0:Int),()),(List.replicate (3:Int).toNat (0:Int),()))=_:=e;rw[show (!true)=false from rfl,av,bg (by decide),e];rfl
 ·unfold Gk az xG bw;dsimp only;have E:decide ((k:Int)<(3:Int))=true:=aW;have C:uh w k=(uh w k).set k 0/\k<(uh w k).length/\(uh w k).set k (bS w k 11:Int)=uh w (k+1):=by
   have:k=0\/k=1\/k=2:=by omega
   rcases this with rfl|rfl|rfl
   ·exact⟨rfl,by simp[uh],rfl⟩
   ·exact⟨rfl,by simp[uh],rfl⟩
   ·exact⟨rfl,by simp[uh],rfl⟩
  rw[E,aq,aAk D hl k (by omega) (3:Int) (k:Int) (uh w k) C.2.1 C.1.symm,C.2.2];show some (Sum.inl ((bz w,(),(3:Int),W6 ((k:Int)+1),()),(uh w (k+1),())))=_;rw[ug]
 ·unfold Gk az xG bw;dsimp only;rfl
def aAl{w:aa Nat}(C:eo w)(hl:w.length=11):Ro (bz w)=some (Nat.beq (bS w 0 11) 0&&(Nat.beq (bS w 1 11) 0&&Nat.beq (bS w 2 11) 0)):=by
 unfold Ro xL;rw[ZZ C hl,ak];generalize bS w 0 11=a;generalize bS w 1 11=b;generalize bS w 2 11=c;have q:∀ n:Nat,((n:Int)==(0:Int))=Nat.beq n 0:=by
  intro n;cases n with
  |zero=>rfl
  |succ n=>rfl
 show (bif ((a:Int)==(0:Int))then (bif ((b:Int)==(0:Int))then some ((c:Int)==(0:Int))else some false)else some false)=_
 grind
def aAm(C D E:Nat)(I:C<16)(O:D<16)(U:E<16):
  (λy z=>(λx=>(gm x 1 ^^^ (gm y 1 ^^^ (gm z 1 ^^^ C)))=0/\(gm x 1 ^^^ (gm y 2 ^^^ (gm z 4 ^^^ D)))=0/\(gm x 1 ^^^ (gm y 4 ^^^ (gm z 3 ^^^ E)))=0) (C ^^^ y ^^^ z))
   (gm (gm 2 (C ^^^ D) ^^^ gm 5 (C ^^^ E)) 13) (gm (gm 3 (C ^^^ E) ^^^ gm 5 (C ^^^ D)) 13):=by
 have h:=ig (ig (ig aAf I) O) U;simp_all
def aAn{d:aa Nat}(Y:eo d)(hl:d.length=8):∃ w,KI (bz d)=some (bz w)/\w.length=11/\eo w/\w.drop 3=d/\bS w 0 11=0/\bS w 1 11=0/\bS w 2 11=0:=by
 have hz:eo (0 :: 0 :: 0 :: d):=by
  intro x hx;simp only[gZ]at hx;rcases hx with rfl|rfl|rfl|hx
  ·decide
  ·decide
  ·decide
  ·exact Y x hx
 have key:∀ j x y z,j<3->x<16->y<16->z<16->bS (x :: y :: z :: d) j 11=gm x (pw (0*j)) ^^^ (gm y (pw (1*j)) ^^^ (gm z (pw (2*j)) ^^^ bS (0 :: 0 :: 0 :: d) j 11)):=by
  intro j x y z hj hx hy hz;simp only[bS,List.getD_cons_zero,List.getD_cons_succ,Nat.xor_assoc,Nat.zero_xor,Ti (vA _)]
 have e0:∀ C E I:Nat,C<16->E<16->I<16->Bc (bz (0 :: 0 :: 0 :: d))=some [(C:Int),(E:Int),(I:Int)]->
   KI (bz d)=some (bz ((C ^^^ gm (gm 2 (C ^^^ E) ^^^ gm 5 (C ^^^ I)) 13 ^^^ gm (gm 3 (C ^^^ I) ^^^ gm 5 (C ^^^ E)) 13)::gm (gm 2 (C ^^^ E) ^^^ gm 5 (C ^^^ I)) 13::gm (gm 3 (C ^^^ I) ^^^ gm 5 (C ^^^ E)) 13::d)):=by
  intro C E I D O U hs;unfold KI xL;have c0:((d.length:Int)==(8:Int))=true:=by rw[hl];rfl
  have c1:bE ((List.replicate (3:Int).toNat (0:Int)).length+(bz d).length)=true:=by
   rw[iO,hl];rfl
  rw[ZY Y (by omega),ak,c0,show (!true)=false from rfl,av,bg (by decide),c1,aq];have e1:Bc (List.replicate (3:Int).toNat (0:Int)++bz d)=some [(C:Int),(E:Int),(I:Int)]:=hs;rw[e1,ak];show (Dx (4:Int)).bind (λiI=>(kD (2:Int) (bits .xor .i64 (C:Int) (E:Int))).bind λny=>(kD (5:Int) (bits .xor .i64 (C:Int) (I:Int))).bind λkR=>(kD (bits .xor .i64 ny kR) iI).bind λs7=>(kD (3:Int) (bits .xor .i64 (C:Int) (I:Int))).bind λlK=>(kD (5:Int) (bits .xor .i64 (C:Int) (E:Int))).bind λpU=>(kD (bits .xor .i64 lK pU) iI).bind λpV=>some (bits .xor .i64 (bits .xor .i64 (C:Int) s7) pV::s7::pV::bz d))=_;have m2:∀b:Nat,b<16->kD (2:Int) (b:Int)=some (gm 2 b:Int):=λb hb=>Eg (a:=2) (by decide) hb
  have m3:∀b:Nat,b<16->kD (3:Int) (b:Int)=some (gm 3 b:Int):=λb hb=>Eg (a:=3) (by decide) hb
  have m5:∀b:Nat,b<16->kD (5:Int) (b:Int)=some (gm 5 b:Int):=λb hb=>Eg (a:=5) (by decide) hb
  have m13:∀b:Nat,b<16->kD (b:Int) (13:Int)=some (gm b 13:Int):=λb hb=>Eg (b:=13) hb (by decide)
  rw[aAg,ak,s8 D O,s8 D U,m2 _ (nE D O),ak,m5 _ (nE D U),ak,s8 (gV _ _) (gV _ _),m13 _ (nE (gV _ _) (gV _ _)),ak,m3 _ (nE D U),ak,m5 _ (nE D O),ak,s8 (gV _ _) (gV _ _),m13 _ (nE (gV _ _) (gV _ _)),ak,s8 D (gV _ _),s8 (nE D (gV _ _)) (gV _ _)];rfl
 have D:=s9 (0::0::0::d) 0 11;have O:=s9 (0::0::0::d) 1 11;have U:=s9 (0::0::0::d) 2 11;have e1:=e0 _ _ _ D O U (ZZ hz (by simp[hl]));have f:=aAm _ _ _ D O U;dsimp only at f;refine⟨_,e1,by simp[hl],?_,rfl,?_,?_,?_⟩
 ·intro x hx;simp only[gZ]at hx;rcases hx with rfl | rfl | rfl | hx
  ·exact nE (nE D (gV _ _)) (gV _ _)
  ·exact gV _ _
  ·exact gV _ _
  ·exact Y x hx
 ·rw[key 0 _ _ _ (by decide) (nE (nE D (gV _ _)) (gV _ _)) (gV _ _) (gV _ _)];exact f.1
 ·rw[key 1 _ _ _ (by decide) (nE (nE D (gV _ _)) (gV _ _)) (gV _ _) (gV _ _)];exact f.2.1
 ·rw[key 2 _ _ _ (by decide) (nE (nE D (gV _ _)) (gV _ _)) (gV _ _) (gV _ _)];exact f.2.2
def akx{w:aa Nat}(C:eo w){k e:Nat}(D:e<16)(I:k<w.length)(j:Nat):∀ i,bS (w.set k (w.getD k 0 ^^^ e)) j i=if i <= k then bS w j i else bS w j i ^^^ gm e (pw (k*j))
 |0=>by rw[bg (jG _)];rfl
 | i+1=>by
  have O:=akx C D I j i;have U:(w.set k (w.getD k 0 ^^^ e)).getD i 0=if i=k then w.getD k 0 ^^^ e else w.getD i 0:=by
   grind
  show bS _ j i ^^^ gm _ (pw (i*j))=_;rw[O,U];by_cases Y:i<k
  ·rw[bg,bk,bg];rfl
  ·by_cases E:i=k
   ·subst E;rw[bg (dc _),bg rfl,bk,aAi (C.get _) D (vA _),<- Nat.xor_assoc];rfl
   ·rw[bk,bk E,bk];show _=bS w j i ^^^ gm _ _ ^^^ gm e _
    grind
def eo.set{w:aa Nat}(h:eo w){k v:Nat}(D:v<16):eo (w.set k v):=by
 intro x C;rcases List.mem_or_eq_of_mem_set C with C|rfl
 ·exact h x C
 ·exact D
def ivT:Nat:=9460475325918865680
def iv(a:Nat):Nat:=(ivT / 2 ^ (4*a)) % 16
def aAo(a:Nat):iv a<16:=Nat.mod_lt _ (by decide)
def aAp:(ke λa=>Nat.beq a 0 ||Dx (Int.ofNat a)==some (Int.ofNat (iv a)))=true:=by kernel_rfl
def pY:aa Nat:=[8,14,7,1]
def aAq:((List.range 8).all λm=>ke λf=>(List.range 3).all λj=>
  Nat.beq (gm (gm 8 f) (pw (m*j)) ^^^ (gm (gm 14 f) (pw ((m+1)*j)) ^^^ (gm (gm 7 f) (pw ((m+2)*j)) ^^^ gm f (pw ((m+3)*j))))) 0)=true:=by kernel_rfl
def aAr:(ke λa=>ke λb=>vu (Int.ofNat a) (Int.ofNat b)==some (Int.ofNat (gm a b)))=true:=by kernel_rfl
def Nn{a b:Nat}(C:a<16)(hb:b<16):vu (a:Int) (b:Int)=some (gm a b:Int):=by
 have h:=ig (ig aAr C) hb;exact eq_of_beq h
def aky(W:aa Int):iter ZB aV (((),(),(1:Int),()),(W,([(1:Int),(1:Int)]:aa Int),()))=some (.inl (((),(),()),(W,bz pY,()))):=by kernel_rfl
def akz{w:aa Nat}(E:eo w)(hl:w.length<1000)(n:Int):xo (bz w) n=some ((w.length:Int)==n):=by
 unfold xo bU;have e:=xy (step:=BA) (λi=>((bz w,n,i,()),())) (z:=.inr (.inl ((bz w,n,()),()))) w.length 0 aV (λk _ C=>?_) ?_ (by unfold aV;omega)
 ·simp_all
 ·have C:k<(bz w).length:=by rw[iO];omega
  unfold BA az bx xG xI;dsimp only;have I:decide ((k:Int)<((bz w).length:Int))=true:=aW;have D:0 <= (k:Int)/\(k:Int).toNat<(bz w).length:=⟨by omega,by simpa using C⟩
  rw[I,aq,aC D];have O:(bz w)[(k:Int).toNat]'D.2=((w.getD k 0:Nat):Int):=vB C;rw[O];have:=E.get k;unfold Bz;rw[aAb (by omega) (by omega),ak,ak,ug];rfl
 ·unfold BA az bx xG xI;simp_all
def vC(k:Nat):Nat:=pY.getD k 0
def aAs(k:Nat):vC k<16:=by
 have:eo pY:=by
  intro x C;simp[pY,gZ,List.not_mem_nil,or_false]at C;omega
 exact this.get k
def mh(r:aa Nat)(m f:Nat):Nat->aa Nat
 |0=>r
 |k+1=>(mh r m f k).set (m+k) ((mh r m f k).getD (m+k) 0 ^^^ gm (vC k) f)
def Np(r:aa Nat)(m f:Nat):∀ k,(mh r m f k).length=r.length
 |0=>rfl
 |k+1=>by show (List.set _ _ _).length=_;rw[ki,Np]
def Nq{r:aa Nat}(C:eo r)(m f:Nat):∀ k,eo (mh r m f k)
 |0=>C
 |k+1=>(Nq C m f k).set (nE ((Nq C m f k).get _) (gV _ _))
def Tj(w:aa Nat)(k v:Nat):(bz w).set k (v:Int)=bz (w.set k v):=(List.map_set ..).symm
def aAt{r:aa Nat}(U:eo r)(hl:r.length=11){m f:Nat}(hm:m<8)(Y:f<16)(W:aa Int):
  iter He aV (((),(),(),((m+3:Nat):Int),(f:Int),(0:Int),()),(W,bz pY,bz r,()))=some (.inl (((),(),(),((m+3:Nat):Int),()),(W,bz pY,bz (mh r m f 4),()))):=by
 have e:=xy (step:=He) (λk=>(((),(),(),((m+3:Nat):Int),(f:Int),(k:Int),()),(W,bz pY,bz (mh r m f k),()))) (z:=.inl (((),(),(),((m+3:Nat):Int),()),(W,bz pY,bz (mh r m f 4),()))) 4 0 aV (λk _ hk=>?_) ?_ (by unfold aV;omega)
 ·exact e
 ·unfold He az xG xL;dsimp only;have D:decide ((k:Int)<((bz pY).length:Int))=true:=aW (by show (k:Int)<4;omega);have c2:W6 (W6 (((m+3:Nat):Int)-3)+(k:Int))=((m+k:Nat):Int):=by
   rw[aY (n:=((m+3:Nat):Int)-3),aY];omega
  have I:m+k<(bz (mh r m f k)).length:=by rw[iO,Np,hl];omega
  have C:0<=((m+k:Nat):Int)/\((m+k:Nat):Int).toNat<(bz (mh r m f k)).length:=⟨by omega,I⟩
  have O:k<(bz pY).length:=by show k<4;omega
  have E:0<=(k:Int)/\(k:Int).toNat<(bz pY).length:=⟨by omega,O⟩
  have c5:(bz (mh r m f k))[((m+k:Nat):Int).toNat]'C.2=(((mh r m f k).getD (m+k) 0:Nat):Int):=vB I;have c6:(bz pY)[(k:Int).toNat]'E.2=((vC k:Nat):Int):=vB O;rw[D,aq];simp only[c2];rw[aC C,aC C.2];rw[aC E,aC E.2,c6,Nn (aAs k) Y,ak,aC C,aC C.2,c5,s8 ((Nq U m f k).get _) (gV _ _),ug];have c7:(bz (mh r m f k)).set ((m+k:Nat):Int).toNat (((mh r m f k).getD (m+k) 0 ^^^ gm (vC k) f:Nat):Int)=bz (mh r m f (k+1)):=Tj _ _ _;rw[c7]
 ·unfold He az xG xL;dsimp only;have D:decide (((0+4:Nat):Int)<((bz pY).length:Int))=false:=rfl;rw[D,av]
def out(r:aa Nat):Nat->aa Nat
 |0=>r
 |t+1=>mh (out r t) (7-t) ((out r t).getD (10-t) 0) 4
def Eh(r:aa Nat):∀ t,(out r t).length=r.length
 |0=>rfl
 |t+1=>by show (mh _ _ _ _).length=_;rw[Np,Eh]
def Ei{r:aa Nat}(C:eo r):∀ t,eo (out r t)
 |0=>C
 |t+1=>Nq (Ei C t) _ _ _
def akA{r:aa Nat}(D:eo r)(hl:r.length=11)(W:aa Int):
  iter Hf aV (((),(),(),(10:Int),()),(W,bz pY,bz r,()))=some (.inl (((),(),()),(W,bz (out r 8),()))):=by
 have e:=xy (step:=Hf) (λt=>(((),(),(),(10:Int)-(t:Int),()),(W,bz pY,bz (out r t),()))) (z:=.inl (((),(),()),(W,bz (out r 8),()))) 8 0 aV (λt _ U=>?_) ?_ (by unfold aV;omega)
 ·exact e
 ·unfold Hf az xG bw xL;dsimp only;have hi:(10:Int)-(t:Int)=((7-t+3:Nat):Int):=by omega
  have I:decide ((10:Int)-(t:Int) >= 3)=true:=aW;have E:7-t+3<(bz (out r t)).length:=by rw[iO,Eh,hl];omega
  have C:0<=((7-t+3:Nat):Int)/\((7-t+3:Nat):Int).toNat<(bz (out r t)).length:=⟨by omega,E⟩
  have O:(bz (out r t))[((7-t+3:Nat):Int).toNat]'C.2=(((out r t).getD (10-t) 0:Nat):Int):=(vB E).trans (by rw[show 7-t+3=10-t by omega]);rw[I,aq];simp only[hi];rw[aC C,aC C.2,O,aAt (Ei D t) (by rw[Eh,hl]) (by omega) ((Ei D t).get _)];show some (Sum.inl (((),(),(),W6 (((7-t+3:Nat):Int)-1),()),(W,bz pY,bz (out r (t+1)),())))=_;rw[aY,show ((7-t+3:Nat):Int)-1=10-((t+1:Nat):Int) by omega]
 ·unfold Hf az xG bw xL;dsimp only;rfl
def aAu:(ke λa=>Nat.beq (gm 1 a) a)=true:=by kernel_rfl
def akB{a:Nat}(C:a<16):gm 1 a=a:=cL (ig aAu C)
def akC{r:aa Nat}(C:eo r)(hl:r.length=11){k e:Nat}(D:e<16)(E:k<11)(j:Nat):bS (r.set k (r.getD k 0 ^^^ e)) j 11=bS r j 11 ^^^ gm e (pw (k*j)):=by
 rw[akx C D (by omega) j 11,bk]
def aAv{r:aa Nat}(D:eo r)(hl:r.length=11){m f j:Nat}(E:m<8)(C:f<16)(I:j<3):bS (mh r m f 4) j 11=bS r j 11:=by
 have st:∀ k,k<4 -> bS (mh r m f (k+1)) j 11=bS _ j 11 ^^^ gm _ _:=λk U=>
  akC (Nq D m f k) (by rw[Np,hl]) (gV _ _) (by omega) j
 have h:=ck.1 (ig (ck.1 aAq m (ga.2 E)) C) j (ga.2 I);have h:gm (gm (vC 0) f) (pw ((m+0)*j)) ^^^ (gm (gm (vC 1) f) (pw ((m+1)*j)) ^^^ (gm (gm (vC 2) f) (pw ((m+2)*j)) ^^^ gm (gm (vC 3) f) (pw ((m+3)*j))))=0:=by
  have O:gm (vC 3) f=f:=akB C;rw[O];exact cL h
 rw[st 3 (by decide),st 2 (by decide),st 1 (by decide),st 0 (by decide),Nat.xor_assoc,Nat.xor_assoc,Nat.xor_assoc,h,Nat.xor_zero];rfl
def akD{r:aa Nat}(C:eo r)(hl:r.length=11){j:Nat}(D:j<3):∀ t,t<=8->bS (out r t) j 11=bS r j 11
 |0,_=>rfl
 |t+1,E=>(aAv (Ei C t) (by rw[Eh,hl]) (by omega) ((Ei C t).get _) D).trans (akD C hl D t (by omega))
def akE(r:aa Nat)(k v n:Nat):(r.set k v).getD n 0=if n=k/\k<r.length then v else r.getD n 0:=by grind
def Z0(r:aa Nat)(m f:Nat):∀ k n,m+k<=n->(mh r m f k).getD n 0=r.getD n 0
 |0,n,_=>rfl
 | k+1,n,h=>by
  show (List.set _ _ _).getD n 0=_;rw[akE,bk,Z0 r m f k n (by omega)]
def aAw{r:aa Nat}{m f:Nat}(h:m+3<r.length):(mh r m f 4).getD (m+3) 0=r.getD (m+3) 0 ^^^ gm (vC 3) f:=by
 show (List.set _ _ _).getD _ 0=_;rw[akE,bg ⟨rfl,by rw[Np];exact h⟩,Z0 r m f 3 _ (dc _)]
def akF{r:aa Nat}(C:eo r)(hl:r.length=11):∀ t,t <= 8 -> ∀ n,10-t<n -> n<11 -> (out r t).getD n 0=0
 |0,_,n,h,D=>by omega
 | t+1,I,n,h,D=>by
  show (mh _ _ _ 4).getD n 0=0;by_cases E:n=10-t
  ·have e:n=7-t+3:=by omega
   subst e;rw[aAw (by rw[Eh];omega),<- E];have:gm (vC 3) _=(out r t).getD (7-t+3) 0:=akB ((Ei C t).get _);simp_all
  ·rw[Z0 _ _ _ 4 n (by omega)];exact akF C hl t (by omega) n (by omega) D
def rW(w r:aa Nat):Nat->aa Nat
 |0=>w
 |k+1=>(rW w r k).set k (r.getD k 0)
def Z1(w r:aa Nat):∀ k,(rW w r k).length=w.length
 |0=>rfl
 |k+1=>by show (List.set _ _ _).length=_;rw[ki,Z1]
def akG{w r:aa Nat}(hw:w.length=11)(hr:r.length=11):
  iter Mp aV (((),(),(0:Int),()),(bz w,bz r,()))=some (.inl (((),()),(bz (rW w r 3),()))):=by
 have e:=xy (step:=Mp) (λi=>(((),(),i,()),(bz (rW w r i),bz r,()))) (z:=.inl (((),()),(bz (rW w r 3),()))) 3 0 aV (λk _ hk=>?_) ?_ (by unfold aV;omega)
 ·exact e
 ·unfold Mp az xG xL;dsimp only;have I:decide ((k:Int)<(3:Int))=true:=aW;have D:k<(bz r).length:=by rw[iO];omega
  have O:k<(bz (rW w r k)).length:=by rw[iO,Z1];omega
  have C:0 <= (k:Int)/\(k:Int).toNat<(bz r).length:=⟨by omega,D⟩
  have E:0 <= (k:Int)/\(k:Int).toNat<(bz (rW w r k)).length:=⟨by omega,O⟩
  have U:(bz r)[(k:Int).toNat]'C.2=((r.getD k 0:Nat):Int):=vB D;rw[I,aq,aC C,aC C.2,U,aC E,aC E.2,ug];have Y:(bz (rW w r k)).set (k:Int).toNat ((r.getD k 0:Nat):Int)=bz (rW w r (k+1)):=Tj _ _ _;rw[Y]
 ·rfl
def aAx{d:aa Nat}(U:eo d)(hl:d.length=8):∃ w,BB (bz d)=some (bz w)/\w.length=11/\eo w/\bS w 0 11=0/\bS w 1 11=0/\bS w 2 11=0:=by
 have D:eo (0 :: 0 :: 0 :: d):=by
  intro x hx;simp only[gZ]at hx;rcases hx with rfl|rfl|rfl|hx
  ·decide
  ·decide
  ·decide
  ·exact U x hx
 have C:(0::0::0::d).length=11:=by simp[hl]
 have Y:BB (bz d)=some (bz (rW (0 :: 0 :: 0 :: d) (out (0 :: 0 :: 0 :: d) 8) 3)):=by
  unfold BB xA bw xZ;have c0:((d.length:Int)==(8:Int))=true:=by rw[hl];rfl
  have c1:bE ((List.replicate (3:Int).toNat (0:Int)).length+(bz d).length)=true:=by
   rw[iO,hl];rfl
  have c2:bE (([]:aa Int).length+(bz (0 :: 0 :: 0 :: d)).length)=true:=by
   rw[iO,C];rfl
  have c3:W6 (((bz (0 :: 0 :: 0 :: d)).length:Int)-(1:Int))=10:=by
   rw[iO,C];rfl
  have eW:List.replicate (3:Int).toNat (0:Int)++bz d=bz (0::0::0::d):=rfl;rw[akz U (by omega),ak,c0,show (!true)=false from rfl,av,bg (by decide),c1,aq,eW,aky,ak,dH];dsimp only;rw[kJ,c2,aq,c3,akA D C,ak,dH];dsimp only;rw[akG C (by rw[Eh,C]),ak,dH]
 have E:=Ei D 8;have I:∀ j,j<3->bS (rW (0 :: 0 :: 0 :: d) (out (0 :: 0 :: 0 :: d) 8) 3) j 11=0:=by
  intro j hj;have O:=akD D C hj 8 (dc _);have z:=akF D C 8 (dc _);revert O z;generalize out (0 :: 0 :: 0 :: d) 8=r;intro O z;have h2:bS (rW (0 :: 0 :: 0 :: d) r 3) j 11=gm (r.getD 0 0) (pw (0*j)) ^^^ (gm (r.getD 1 0) (pw (1*j)) ^^^ (gm (r.getD 2 0) (pw (2*j)) ^^^ bS (0 :: 0 :: 0 :: d) j 11)):=by
   show bS (r.getD 0 0::r.getD 1 0::r.getD 2 0::d) j 11=_;simp only[bS,List.getD_cons_zero,List.getD_cons_succ,Nat.xor_assoc,Nat.zero_xor,Ti (vA _)]
  have h3:bS r j 11=gm (r.getD 0 0) (pw (0*j)) ^^^ (gm (r.getD 1 0) (pw (1*j)) ^^^ gm (r.getD 2 0) (pw (2*j))):=by
   simp only[bS,z 3 (by decide) (by decide),z 4 (by decide) (by decide),z 5 (by decide) (by decide),z 6 (by decide) (by decide),z 7 (by decide) (by decide),z 8 (by decide) (by decide),z 9 (by decide) (by decide),z 10 (by decide) (by decide),Nat.xor_assoc,Nat.zero_xor,Nat.xor_zero,Ti (vA _)]
  rw[h2,<-O,h3,<-Nat.xor_assoc (gm (r.getD 1 0) _) (gm (r.getD 2 0) _),<-Nat.xor_assoc (gm (r.getD 0 0) _),Nat.xor_self]
 refine⟨_,Y,by rw[Z1,C],?_,I 0 (by decide),I 1 (by decide),I 2 (by decide)⟩;exact((D.set (E.get _)).set (E.get _)).set (E.get _)
def xz(s:Int):Bool:=aQ s 0 15
def uj(l:aa Int)(n:Int):Bool:=l.all xz&&decide ((l.length:Int)=n)
def akH(l:aa Int)(n:Int)(hl:l.length<1073741824):w8 l n=some (uj l n):=by
 unfold w8 uj bU;have e:=iu (step:=Bb) l xz (λi=>((l,n,l,l.length,i,()),())) _ (.inr (.inl ((l,n,()),()))) aV (λk h=>by
  unfold Bb zd az bx xG xI;simp (disch:=omega) [h,bI,dy,xz];cases aQ l[k] 0 15<;>rfl) (by unfold Bb az bx xG xI;simp) (bM hl)
 rw[cv]at e;rw[e];cases l.all xz<;>simp;rfl
def Tl(l:aa Int)(n:Int)(hl:l.length<1073741824):xo l n=some (uj l n):=by
 unfold xo uj bU;have e:=iu (step:=BA) l xz (λi=>((l,n,i,()),())) _ (.inr (.inl ((l,n,()),()))) aV (λk h=>by
  unfold BA Bz az bx xG xI;simp (disch:=omega) [h,bI,fm,xz];cases aQ l[k] 0 15<;>rfl) (by unfold BA az bx xG xI;simp) (bM hl)
 rw[cv]at e;rw[e];cases l.all xz<;>simp;rfl
def Sy(l:aa Int):Prop:=l.length=11/\∀s∈l,0<=s/\s<=15
def Sy.ok{l:aa Int}(h:Sy l):uj l 11=true:=by
 simp[uj,aP,ck,xz,bA];exact⟨λx C=>h.2 x C,by rw[h.1];rfl⟩
def Sy.of{l:aa Int}(h:uj l 11=true):Sy l:=by
 simp[uj,aP,ck,fU,xz,bA]at h;exact⟨by omega,h.1⟩
def akI{a b:Int}(E:0 <= a/\a <= 15)(hb:0 <= b/\b <= 15):0 <= bits .xor .i64 a b/\bits .xor .i64 a b <= 15/\bits .xor .i64 (bits .xor .i64 a b) b=a:=by
 obtain⟨x,rfl⟩:=dV E.1;obtain⟨y,rfl⟩:=dV hb.1;have D:x<16:=by omega
 have C:y<16:=by omega
 have:=nE D C;rw[s8 D C];rw[s8 this C]
 grind
def Sy.set{l:aa Int}(h:Sy l){k:Nat}{v:Int}(D:0<=v/\v<=15):Sy (l.set k v):=by
 refine⟨by simp[h.1],λs C=>?_⟩
 rcases List.mem_or_eq_of_mem_set C with C|rfl
 ·exact h.2 s C
 ·exact D
def Sy.get{l:aa Int}(h:Sy l){k:Nat}(C:k<l.length):0<=l[k]/\l[k]<=15:=h.2 _ (cQ C)
structure fA (g:aG) (B:Int) (a:cJ):Prop where
 cells:(a.cells.length:Int)=dU g
 syms:∀c∈a.cells,Sy c.symbols
 bu:(a.bu.length:Int)=gn g
 bq:(a.bq.length:Int)=gn g
 Ej:∀x∈a.bu,0<=x/\x<=B
 iZ:∀x∈a.bq,0<=x/\x<=100000
def akJ(c:bQ)(h:c.symbols.length<1073741824):K7 c=some c:=by
 unfold K7 xA xZ;simp[bE,h]
def akK(c:bQ)(h:c.symbols.length<1073741824):M8 c=some c:=by
 unfold M8 xA xZ;simp[bE,h]
def akL(a:cJ)(U:a.cells.length<1073741823)(C:a.bu.length<1073741824)(D:a.bq.length<1073741824)(E:∀ c∈a.cells,c.symbols.length<1073741824):DD a=some a:=by
 unfold DD xA bw xZ;have e:=cI (step:=K8) a.cells.length (λi=>(((),(),a.cells,(a.cells.length:Int),(i:Int),()),(((),(),(),()),((),(),(),()),([]:aa bQ),([]:aa Int),([]:aa Int),a.cells.take i,(([]:aa Int)++a.bu),(([]:aa Int)++a.bq),())))
  (.inl (((),(),()),(((),(),(),()),((),(),(),()),([]:aa bQ),([]:aa Int),([]:aa Int),a.cells,(([]:aa Int)++a.bu),(([]:aa Int)++a.bq),()))) aV (λk h=>by
  unfold K8 az xG xI;have I:min k a.cells.length=k:=by omega
  have O:bE (k+1)=true:=cF;simp (disch:=omega) [h,bI,akJ _ (E _ (cQ h)),I,O]) (by unfold K8 az xG xI;simp) (bM)
 rw[cv,List.take_zero]at e;rw[e];simp[bE,C,D]
def aAy(a:cJ)(U:a.cells.length<1073741823)(C:a.bu.length<1073741824)(D:a.bq.length<1073741824)(E:∀ c∈a.cells,c.symbols.length<1073741824):S1 a=some a:=by
 unfold S1 xA bw xZ;have e:=cI (step:=Na) a.cells.length (λi=>(((),(),(),(i:Int),()),((a.cells,a.bu,a.bq,()),((),(),(),()),((),(),(),()),([]:aa bQ),([]:aa Int),([]:aa Int),a.cells.take i,(([]:aa Int)++a.bu),(([]:aa Int)++a.bq),())))
  (.inl (((),(),()),(((),(),(),()),((),(),(),()),([]:aa bQ),([]:aa Int),([]:aa Int),a.cells,(([]:aa Int)++a.bu),(([]:aa Int)++a.bq),()))) aV (λk h=>by
  unfold Na az xG xI;have I:min k a.cells.length=k:=by omega
  have O:bE (k+1)=true:=cF;simp (disch:=omega) [h,bI,akK _ (E _ (cQ h)),I,O]) (by unfold Na az xG xI;simp) (bM)
 rw[cv,List.take_zero]at e;rw[e];simp[bE,C,D]
def fA.lens{g:aG}{B:Int}{a:cJ}(h:fA g B a):a.cells.length<1073741823/\a.bu.length<1073741824/\a.bq.length<1073741824/\∀ c∈a.cells,c.symbols.length<1073741824:=by
 have D:=h.cells;have E:=h.bu;have I:=h.bq;have O:=mN g;have U:=pX g;exact⟨by omega,by omega,by omega,λc C=>by rw[(h.syms c C).1];omega⟩
def fA.copy{g:aG}{B:Int}{a:cJ}(h:fA g B a):DD a=some a:=
 let ⟨C,D,E,I⟩:=h.lens;akL a C D E I
def Nr(c:bQ):Bool:=uj c.symbols 11
def zI(p:Int×Int):Bool:=aQ p.1 0 100000&&aQ p.2 0 100000
def oP(g:aG)(a:cJ):Bool:=ct g&&(decide ((a.cells.length:Int)=dU g)&&(decide ((a.bu.length:Int)=gn g)&&(decide ((a.bq.length:Int)=gn g)&&(a.cells.all Nr&&(a.bu.zip a.bq).all zI))))
def akM(g:aG)(a:cJ)(I:∀ c∈a.cells,c.symbols.length<1073741824):Dz g a=some (oP g a):=by
 unfold Dz oP bU;rw[lM,ak,rU,ak,Ee];cases O:ct g with
 |false=>rfl
 | true=>
  have b1:=mN g;have b2:=pX g;have er:aU g*g.rows=gn g:=by simp[gn,O]
  simp only[bG,av,ak,cC,er];rw[aY];by_cases C:(a.cells.length:Int)=dU g
  ·by_cases D:(a.bu.length:Int)=gn g
   ·by_cases E:(a.bq.length:Int)=gn g
    ·have hl:a.bu.length=a.bq.length:=by omega
     have l1:=iu (step:=KR) a.cells Nr (λi=>(((),a.cells,(a.cells.length:Int),(i:Int),()),((a.cells,a.bu,a.bq,()),()))) (.inl ((false,()),())) (.inr (.inl (((),()),((a.cells,a.bu,a.bq,()),())))) aV (λk h=>by
      unfold KR az bx xG xI;simp (disch:=omega) [h,bI,akH _ 11 (I _ (cQ h)),Nr];cases uj a.cells[k].symbols 11<;>rfl) (by unfold KR az bx xG xI;simp) (bM)
     have l2:=iu (step:=KS) (a.bu.zip a.bq) zI (λi=>(((),(a.bu.length:Int),(i:Int),()),((a.cells,a.bu,a.bq,()),()))) (.inl ((false,()),())) (.inr (.inl ((),()))) aV (λk h=>by
      have U:k<a.bu.length:=by simp at h;omega
      have Y:k<a.bq.length:=by omega
      unfold KS az bx xG xI;simp (disch:=omega) [U,Y,bI,dy,zI];cases aQ a.bu[k] 0 100000<;>cases aQ a.bq[k] 0 100000<;>rfl) (by unfold KS az bx xG xI;simp[hl]) (bM (by simp;omega))
     rw[cv]at l1 l2;simp only[C,D,E,bne_self_eq_false,av,decide_true,cC];rw[<-C,l1];cases h1:a.cells.all Nr with
     |false=>simp
     | true=>
      simp only[aq,Option.bind_some,Sum.elim_inr,dH];rw[l2];cases (a.bu.zip a.bq).all zI<;>simp
    ·simp[C,D,gI E,E]
   ·simp[C,gI D,D]
  ·simp[gI C,C]
def fA.ok{g:aG}{B:Int}{a:cJ}(h:fA g B a)(E:ct g=true)(hB:B <= 100000):Dz g a=some true:=by
 rw[akM g a (λc C=>by rw[(h.syms c C).1];omega)];have I:=h.cells;have O:=h.bu;have U:=h.bq;have Y:a.cells.all Nr=true:=ck.2 λc C=>(h.syms c C).ok
 have c2:(a.bu.zip _).all zI=true:=ck.2 λp hp=>by
  obtain⟨x,y⟩:=p;have D:=List.of_mem_zip hp;have a1:=h.Ej x D.1;have a2:=h.iZ y D.2;simp[zI,aP,bA];omega
 simp[oP,E,I,O,U,Y,c2]
def Tn{b:aa Int}{c:bO}(C:lN b c)(l:aa Int)(hl:0<l.length):Dr b (A6 c l) λx=>x∈l:=by
 unfold A6 xI;rw[C.eq]
 refine(fS C _).bind λI O E D=>?_
 rw[aC ⟨E.1,by dsimp only;omega⟩];rw[D.eta];exact Dr.pure D (cQ _)
def To{b:aa Int}{c:bO}(C:lN b c)(n:Int):Dr b (Dl c n) λ_=>True:=by
 unfold Dl;rw[C.eq]
 refine(fS C _).bind λE I O D=>?_
 rw[D.eta];exact Dr.pure D trivial
def kE(g:aG):(⟨g.bK,g.aA,g.rows,g.aK⟩:aG)=g:=rfl
def aAz{b:aa Int}{c:bO}(D:lN b c){g:aG}(C:ct g=true):Dr b (QB c g) λa=>dO g a=true:=by
 have hp:=Ed C;have⟨_,_,_,_,g5,g6,g7,g8⟩:=fJ C;unfold QB;rw[pW,ak,D.eq]
 refine(fS D _).bind λx1 k1 E I=>?_
 dsimp only;rw[I.eta]
 refine(fS I _).bind λx2 k2 O U=>?_
 dsimp only;rw[U.eta]
 refine(fS U _).bind λx3 k3 Y n6=>?_
 dsimp only;rw[n6.eta];exact Dr.pure n6 (xw C E.1 (E.2.2 (by omega)) O.1 (O.2.2 (by omega)) Y.1 (Y.2.2 (by omega)))
def lO(n x:Int):Int:=if 100000<x+n then 100000 else x+n
def Z2(l:aa Int)(h:∀ s∈l,0 <= s/\s <= 15):bz (l.map Int.toNat)=l/\eo (l.map Int.toNat):=by
 constructor
 ·induction l with
  |nil=>rfl
  | cons x l C=>
   have D:=h x (.head _);have:=C λs E=>h s (.tail _ E)
   grind
 ·intro x D
  grind
def Ns{w:aa Nat}(D:eo w)(hl:w.length=11):Sy (bz w):=by
 refine⟨by rw[iO,hl],λs C=>?_⟩
 simp at C;obtain⟨x,E,rfl⟩:=C;have:=D x E;omega
def Sy.mem{l:aa bQ}(h:∀c∈l,Sy c.symbols){k:Nat}(C:k<l.length):Sy l[k].symbols:=h _ (cQ C)
def Sy.cc{l:aa bQ}(h:∀c∈l,Sy c.symbols){k:Nat}{d:bQ}(C:Sy d.symbols):∀c∈l.set k d,Sy c.symbols:=by grind
def Nt{l:aa Int}{B C:Int}(h:∀x∈l,B <= x/\x <= C){k:Nat}{v:Int}(D:B <= v/\v <= C):∀x∈l.set k v,B <= x/\x <= C:=by grind
def vD(l:jh)(a:cJ)(i:Nat):Bool:=decide (a.bu.getD i 0 > l.bu) ||decide (a.bq.getD i 0 > l.bq)
def aAA(g:aG)(l:jh)(a:cJ)(i:Nat)(C:i<a.bu.length)(D:i<a.bq.length):Hu g l a (i:Int)=some (vD l a i):=by
 unfold Hu vD xI
 grind
def aAB{l:aa Int}{B C:Int}(h:∀ x∈l,B<=x/\x<=C)(k:Nat)(D:B<=0/\0<=C):B<=l.getD k 0/\l.getD k 0<=C:=by
 rw[cV];cases E:l[k]? with
 |none=>exact D
 |some x=>exact h x (iB E)
def akN{x:Int}(h:0<=x/\x<=100000){n:Int}(C:0<=n):0<=lO n x/\lO n x<=100000:=by
 unfold lO;split<;>omega
def oQ(k:Nat)(h:aa Int):aa Int:=h.set k (lO 1 (h.getD k 0))
def Nu(k:Nat)(h:aa Int):(oQ k h).length=h.length:=by simp[oQ]
def Tp{k:Nat}{h:aa Int}(hb:∀ x∈h,0<=x/\x<=100000):∀ x∈oQ k h,0<=x/\x<=100000:=
 Nt hb (akN (aAB hb k ⟨by omega,by omega⟩) (by omega))
def Z3{k:Nat}{h:aa Int}(C:k<h.length):oQ k h=h.set k (lO 1 h[k]):=by
 unfold oQ;rw[cV,bT C];rfl
def vE(row:Int)(i:Nat)(h:aa Int):aa Int:=bif decide (0<row)then oQ (i-1) (h.set i 0)else h.set i 0
def pZ(R row:Int)(i:Nat)(h:aa Int):aa Int:=bif decide (row<R-1)then oQ (i+1) (vE row i h)else vE row i h
def aAC(row:Int)(i:Nat)(h:aa Int):(vE row i h).length=h.length:=by
 unfold vE;cases decide (0<row)<;>simp[Nu]
def aAD(R row:Int)(i:Nat)(h:aa Int):(pZ R row i h).length=h.length:=by
 unfold pZ;cases decide (row<R-1)<;>simp[Nu,aAC]
def aAE{row:Int}{i:Nat}{h:aa Int}(hb:∀ x∈h,0<=x/\x<=100000):∀ x∈vE row i h,0<=x/\x<=100000:=by
 have C:=Nt hb (k:=i) (v:=0) ⟨by omega,by omega⟩;unfold vE;cases decide (0<row)
 ·exact C
 ·exact Tp C
def aAF{R row:Int}{i:Nat}{h:aa Int}(hb:∀ x∈h,0<=x/\x<=100000):∀ x∈pZ R row i h,0<=x/\x<=100000:=by
 have C:=aAE (row:=row) (i:=i) hb;unfold pZ;cases decide (row<R-1)
 ·exact C
 ·exact Tp C
def Gv{C:Type}(P:C->Prop)(o:ah C):Prop:=∃y,o=some y/\P y
def Gv.pure{C:Type}{P:C->Prop}{y:C}(h:P y):Gv P (some y):=⟨y,rfl,h⟩
def Gv.bind{α C:Type}{Q:α->Prop}{P:C->Prop}{f:ah α}{g:α->ah C}(h:Gv Q f)(D:∀ y,Q y->Gv P (g y)):Gv P (f.bind g):=by
 obtain⟨y,rfl,E⟩:=h;exact D y E
def aAG(x a b:Int):Gv (λy=>y=aQ x a b) (cO x a b):=⟨_,fm x a b,rfl⟩
def aAH(k:Int):Gv (λy=>y=(aQ k 1 5,k==1,(k==2 || k==3))) (SL k):=by
 refine Gv.bind (aAG _ _ _) (λ_ h=>?_)
 subst h;cases h:k==2<;>exact Gv.pure (by simp)
def p6(t:cg):aa Int:=[t.lX,t.rp,t.iC,t.o6,t.lY,t.jJ,t.o7,t.o8,t.kj,t.wr,t.o9,t.pg,t.su,t.pn,t.qi,t.xp,t.xs]
def zJ(x:Int):Bool:=aQ x 1 64
def iy(t:cg):Bool:=(p6 t).all zJ&&(decide (t.lX<=t.iC)&&(decide (t.o6<=t.lY)&&(decide (t.o7<=t.o8)&&decide (t.o9<=t.pg))))
def HE(t:cg):Dt t=some (iy t):=by
 unfold Dt iy bU;change (iter Gf aV (((),(),((p6 t).length:Int),(0:Int),()),(t,p6 t,()))).bind _=_;have C:(p6 t).length=17:=rfl;generalize p6 t=l at *
 have e:=iu (step:=Gf) l zJ (λi=>(((),(),(l.length:Int),(i:Int),()),(t,l,()))) _ (.inr (.inl (((),()),(t,())))) aV (λk h=>by
  unfold Gf az bx xG xL;simp (disch:=omega) [h,bI,dy,zJ];cases aQ l[k] 1 64<;>rfl) (by unfold Gf az bx xG xL;simp) (bM)
 rw[cv]at e;rw[e];cases l.all zJ<;>simp
 grind
def Tq(t:cg):Dp t=some (iy t):=by
 unfold Dp iy YB bU;rw[ak];change (iter F8 aV (((),(),(0:Int),()),(t,p6 t,()))).bind _=_;have C:(p6 t).length=17:=rfl;generalize p6 t=l at *
 have e:=iu (step:=F8) l zJ (λi=>(((),(),(i:Int),()),(t,l,()))) (.inl ((false,()),())) (.inr (.inl (((),()),(t,())))) aV (λk h=>by
  unfold F8 az bx xG xL;simp (disch:=omega) [h,bI,fm,zJ];cases aQ l[k] 1 64<;>rfl) (by unfold F8 az bx xG xL;simp) (bM)
 rw[cv]at e;rw[e];cases l.all zJ<;>simp
 grind
def aAI(t:cg):Kj t=zc t:=by
 unfold Kj zc;rw[HE,Tq]
def aAJ(t:cg):∃ y,zc t=some y:=by
 unfold zc;rw[HE];cases iy t<;>exact⟨_,rfl⟩
def Nv(R i:Nat):Int:=((i % R:Nat):Int)
def nG(n R:Nat):aa Int:=(List.range n).map (Nv R)
def Z4(n R:Nat):(nG n R).length=n:=by simp[nG]
def aAK(n R:Nat):nG (n+1) R=nG n R++[Nv R n]:=by simp[nG,List.range_succ]
def kF(g:aG)(n:Int):Bool:=ct g&&(aQ n 0 2&&decide (2<=g.rows-n))
def uk(g:aG)(n:Int):dw×Bool:=bif kF g n then (⟨n,nG ((aU g).toNat*(g.rows-n).toNat) (g.rows-n).toNat⟩,true)else (⟨0,[]⟩,false)
def Ts{g:aG}{n:Int}(h:kF g n=true):ct g=true/\0 <= n/\n <= 2/\2 <= g.rows-n/\g.rows <= 16:=by
 simp[kF,aP,bA,fU]at h;have⟨C,⟨D,E⟩,I⟩:=h;have:=fJ C;simp_all
def Z5(g:aG)(n:Int):F6 g n=some (uk g n):=by
 unfold F6 uk bw;rw[HD,ak];cases D:ct g with
 |false=>simp[kF,D]
 | true=>
  simp only[bG,av,fm,ak];cases E:aQ n 0 2 with
  |false=>simp[kF,E]
  | true=>
   have rj:=bA.1 E;have gb:=fJ D;simp only[bG,av];rw[aY];by_cases I:g.rows-n<2
   ·have:decide (2<=g.rows-n)=false:=aZ;rw[aW I,aq];simp[kF,this]
   ·have U:kF g n=true:=by simp[kF,D,E];omega
    rw[aZ I,av,U,aq];have Y:=eM g;obtain⟨C,hb⟩:=dV Y.1;obtain⟨R,hR⟩:=dV (show 0<=g.rows-n by omega);have hm:C*R<=8*16:=Nat.mul_le_mul (by omega) (by omega);have hmul:W6 ((C:Int)*(R:Int))=((C*R:Nat):Int):=by
     rw[<-Int.natCast_mul];exact aY
    have O:W6 (g.rows-n)=(R:Int):=by rw[hR];exact aY
    have e:=cI (step:=Ki) (C*R) (λi=>((n,(),(),(),(i:Int),()),((g.bK,g.aA,g.rows,g.aK,()),((0:Int),(),()),(n,(),()),([]:aa Int),nG i R,())))
     (.inl (((),(),()),(((0:Int),(),()),(n,(),()),([]:aa Int),nG (C*R) R,()))) aV (λk h=>by
     unfold Ki az xG;have ho:bE ((nG k R).length+1)=true:=cF (by rw[Z4];omega);have ht:(k:Int).tmod (R:Int)=Nv R k:=by unfold Nv;exact(Int.ofNat_tmod k R).symm
     dsimp only;rw[kE,pW,ak,O,hb,hmul,aW,aq,bk,ht];simp only[mU,List.length_nil,fB];rw[ho,aq,bI,aAK]) (by
     unfold Ki az xG;dsimp only;rw[kE,pW,ak,O,hb,hmul,aZ,av]) (bM)
    rw[cv]at e
    refine(bC (λo=>Option.bind o _) e).trans ?_
    rw[hb,hR];rfl
def aAL(b R:Nat)(hR:0<R)(j:Nat)(C:j <= R):nG (b*R+j) R=nG (b*R) R++(List.range j).map (λi:Nat=>(i:Int)):=by
 unfold nG;rw[List.range_add,List.map_append,List.map_map];congr 1
 refine List.map_congr_left λi hi=>?_
 have hi:=ga.1 hi;simp only[Function.comp,Nv];rw[Nat.mul_comm,Nat.mul_add_mod,Nat.mod_eq_of_lt (by omega)]
def Z6(g:aG)(n:Int):Ge g n=some (uk g n):=by
 unfold Ge uk bw;rw[rU,ak];cases C:ct g with
 |false=>simp[kF,C]
 | true=>
  simp only[bG,av,dy,ak];cases D:aQ n 0 2 with
  |false=>simp[kF,D]
  | true=>
   have rj:=bA.1 D;have gb:=fJ C;simp only[bG,av];rw[aY];by_cases I:g.rows-n<2
   ·have:decide (2<=g.rows-n)=false:=aZ;rw[aW I,aq];simp[kF,this]
   ·have U:kF g n=true:=by simp[kF,C,D];omega
    rw[aZ I,av,U,aq];have Y:=eM g;obtain⟨E,hb⟩:=dV Y.1;obtain⟨R,hR⟩:=dV (show 0<=g.rows-n by omega);have O:W6 (g.rows-n)=(R:Int):=by rw[hR];exact aY
    have inner:∀ b:Nat,b<E->iter Gd aV ((n,(),(),(),(b:Int),(0:Int),()),((g.bK,g.aA,g.rows,g.aK,()),((0:Int),(),()),(n,(),()),([]:aa Int),nG (b*R) R,()))=some (.inl ((n,(),(),(),(b:Int),()),((g.bK,g.aA,g.rows,g.aK,()),((0:Int),(),()),(n,(),()),([]:aa Int),nG ((b+1)*R) R,()))):=by
     intro b El;have hm:b*R<=8*16:=Nat.mul_le_mul (by omega) (by omega);have e:=cI (step:=Gd) R (λj=>((n,(),(),(),(b:Int),(j:Int),()),((g.bK,g.aA,g.rows,g.aK,()),((0:Int),(),()),(n,(),()),([]:aa Int),nG (b*R) R++(List.range j).map (λi:Nat=>(i:Int)),())))
      (.inl ((n,(),(),(),(b:Int),()),((g.bK,g.aA,g.rows,g.aK,()),((0:Int),(),()),(n,(),()),([]:aa Int),nG (b*R) R++(List.range R).map (λi:Nat=>(i:Int)),()))) aV (λk h=>by
      unfold Gd az xG;have ho:bE ((nG (b*R) R++(List.range k).map (λi:Nat=>(i:Int))).length+1)=true:=cF (by simp[Z4];omega);dsimp only;rw[O,aW,aq];simp only[mU,List.length_nil,fB];rw[ho,aq,bI,List.range_succ,List.map_append,List.append_assoc];rfl) (by
      unfold Gd az xG;dsimp only;rw[O,aZ,av]) (bM)
     rw[cv,List.range_zero,List.map_nil,List.append_nil]at e;rw[e,<-aAL b R (by omega) R (dc _),jV]
    have e:=cI (step:=Kw) E (λi=>((n,(),(),(),(i:Int),()),((g.bK,g.aA,g.rows,g.aK,()),((0:Int),(),()),(n,(),()),([]:aa Int),nG (i*R) R,())))
     (.inl (((),(),()),(((0:Int),(),()),(n,(),()),([]:aa Int),nG (E*R) R,()))) aV (λk h=>by
     unfold Kw az xG bw;dsimp only;rw[kE,lM,ak,hb,aW,aq]
     refine(bC (λo=>Option.bind o _) (inner k h)).trans ?_
     rw[ak];simp only[dH];rw[bI]) (by
     unfold Kw az xG bw;dsimp only;rw[kE,lM,ak,hb,aZ,av]) (bM)
    rw[cv,Nat.zero_mul]at e
    refine(bC (λo=>Option.bind o _) e).trans ?_
    rw[hb,hR];rfl
def BN(t:cg):Int:=(zc t).getD 0
def Z7(t:cg):zc t=some (BN t):=by
 obtain⟨y,e⟩:=aAJ t;unfold BN;rw[e];rfl
def aAM(t:cg):Kj t=some (BN t):=by rw[aAI,Z7]
def Z8(m:oz):Kx m=some (aQ m.order 0 2):=by
 unfold Kx;rw[dy];rfl
def aAN(m:oz):F7 m=some (aQ m.order 0 2):=by
 unfold F7;rw[fm];rfl
def od(c:dP):Bool:=ct c.au&&(iy c.bY&&(aQ c.mapping.order 0 2&&(kF c.au c.bL&&(aQ c.interval (BN c.bY) 10000&&(aQ c.gO 1 16&&(aQ c.dg.bu (W6 ((6:Int)*c.interval)) 100000&&aQ c.dg.bq 0 100000))))))
def Tt(g:aG)(n:Int):(uk g n).2=kF g n:=by
 unfold uk;cases kF g n<;>rfl
def Tu(c:dP):Q0 c=some (od c):=by
 unfold Q0 od;simp only[Z6,rU,HE,Z8,Z7,dy,ak,Tt];cases ct c.au<;>cases iy c.bY<;>cases aQ c.mapping.order 0 2<;>cases kF c.au c.bL<;>cases aQ c.interval (BN c.bY) 10000<;>cases aQ c.gO 1 16<;>cases aQ c.dg.bu (W6 ((6:Int)*c.interval)) 100000<;>rfl
def aAO(c:dP):QM c=some (od c):=by
 unfold QM od;simp only[Z5,Tq,aAN,aAM,fm,ak,Tt];cases h:kF c.au c.bL with
 |false=>cases ct c.au<;>cases iy c.bY<;>cases aQ c.mapping.order 0 2<;>rfl
 | true=>
  rw[(Ts h).1];cases iy c.bY<;>cases aQ c.mapping.order 0 2<;>cases aQ c.interval (BN c.bY) 10000<;>cases aQ c.gO 1 16<;>cases aQ c.dg.bu (W6 ((6:Int)*c.interval)) 100000<;>rfl
def Z9{c:dP}(h:od c=true):ct c.au=true/\iy c.bY=true/\kF c.au c.bL=true/\aQ c.gO 1 16=true:=by
 simp[od,aP]at h;simp_all
def akO{t:cg}(h:iy t=true):(1 <= t.iC/\t.iC <= 64)/\1 <= t.rp/\t.rp <= 64:=by
 simp[iy,aP,ck]at h;have C:=h.1 t.iC (by simp[p6]);have D:=h.1 t.rp (by simp[p6]);simp[zJ,bA]at C D;simp_all
def oR(s:cD):Bool:=aQ s.weight 1 9&&aQ s.fF 0 s.weight
def jq(l:aa cD):Bool:=l.all oR&&aQ (l.length:Int) 1 4
def HF(l:aa cD)(hl:l.length<1073741824):Gg l=some (jq l):=by
 unfold Gg jq bU;have e:=iu (step:=Ky) l oR (λi=>((l,l,l.length,i,()),())) _ (.inr (.inl ((l,()),()))) aV (λk h=>by
  unfold Ky az bx xG xI;simp (disch:=omega) [h,bI,dy,oR];cases aQ l[k].weight 1 9<;>cases aQ l[k].fF 0 l[k].weight<;>rfl) (by unfold Ky az bx xG xI;simp) (bM hl)
 rw[cv]at e;rw[e];cases l.all oR<;>simp[dy]
def akP(l:aa cD)(hl:l.length<1073741824):Kl l=some (jq l):=by
 unfold Kl jq bU;have e:=iu (step:=Kk) l oR (λi=>((l,i,()),())) _ (.inr (.inl ((l,()),()))) aV (λk h=>by
  unfold Kk az bx xG xI;simp (disch:=omega) [h,bI,fm,oR];cases aQ l[k].weight 1 9<;>cases aQ l[k].fF 0 l[k].weight<;>rfl) (by unfold Kk az bx xG xI;simp) (bM hl)
 rw[cv]at e;rw[e];cases l.all oR<;>simp[fm]
def kS(w:Int):cD:=⟨w,w⟩
def xB(l:aa Int):aa cD×Bool:=bif jq (l.map kS)then (l.map kS,true)else ([],false)
def akQ{l:aa Int}{k:Nat}(h:k<l.length):(l.take (k+1)).map kS=(l.take k).map kS++[⟨l[k],l[k]⟩]:=by
 rw[List.take_succ_eq_append_getElem h,List.map_append];rfl
def akR(l:aa Int)(hl:l.length<1073741823):A9 l=some (xB l):=by
 unfold A9 xB bw;have e:=cI (step:=Kz) l.length (λi=>(((),l,(l.length:Int),(i:Int),()),((l.take i).map kS,()))) _ aV (λk h=>by
  unfold Kz az xG xI;have C:bE (((l.take k).map kS).length+1)=true:=cF (by simp;omega);dsimp only;rw[aW,aq,aC ⟨by omega,by omega⟩];simp only[mU,List.length_nil,fB,bD];rw[C,aq,bI,akQ h]) (by
  unfold Kz az xG xI;dsimp only;rw[aZ,av,iR]) (bM)
 refine(bC (λo=>Option.bind o _) e).trans ?_
 rw[ak];simp only[dH];rw[HF _ (by simp;omega),ak]
 grind
def akS(l:aa Int)(hl:l.length<1073741823):Dq l=some (xB l):=by
 unfold Dq xB bw;have e:=cI (step:=Km) (min l.length 5) (λi=>((l,(),(i:Int),()),((l.take i).map kS,()))) (.inl (((),()),((l.take 5).map kS,()))) aV (λk h=>by
  have C:k<l.length:=by omega
  unfold Km az xG xI;have D:bE (((l.take k).map kS).length+1)=true:=cF (by simp;omega);dsimp only;rw[aW,aq,aW,aq,aC ⟨by omega,by omega⟩,aC ⟨by omega,by omega⟩];simp only[mU,List.length_nil,fB,bD];rw[D,aq,bI,akQ C]) (by
  unfold Km az xG xI;dsimp only;by_cases c:l.length <= 5
  ·rw[Nat.min_eq_left c,iR,List.take_of_length_le c];by_cases O:l.length=5
   ·rw[aZ,av]
   ·rw[aZ,av]
  ·rw[Nat.min_eq_right (by omega),aW,aq,aZ,av]) (bM)
 rw[cv,List.take_zero,List.map_nil]at e
 refine(bC (λo=>Option.bind o _) e).trans ?_
 rw[ak];simp only[dH];rw[akP _ (by simp;omega),ak];by_cases c:l.length <= 5
 ·rw[List.take_of_length_le c];cases jq _<;>rfl
 ·have E:jq (l.map kS)=false:=by
   unfold jq;have:aQ ((l.map kS).length:Int) 1 4=false:=by
    rw[Bool.eq_false_iff];intro h;have:=(bA.1 h).2
    grind
   rw[this,Bool.and_false]
  have I:jq ((l.take 5).map kS)=false:=by
   unfold jq;have:aQ (((l.take 5).map kS).length:Int) 1 4=false:=by
    rw[Bool.eq_false_iff];intro h;have:=(bA.1 h).2
    grind
   rw[this,Bool.and_false]
  rw[E,I];rfl
def akT(l:aa Int):(xB l).2=jq (l.map kS):=by
 unfold xB;cases jq (l.map kS)<;>rfl
def oS(d:jy):Bool:=decide (d.low >= 0)&&(decide (d.low<d.high)&&decide (d.high<=12))
def Tv(d:jy):Du d=some (oS d):=by
 unfold Du oS
 grind
def aaa(d:jy):F9 d=some (oS d):=by
 unfold F9 oS
 grind
def zK(r:sv):Bool:=aQ r.down 1 10000&&(decide (r.sleep > r.down)&&decide (r.sleep<=20000))
def akU(r:sv):KA r=some (zK r):=by
 unfold KA zK;rw[dy]
 grind
def akV(r:sv):Kn r=some (zK r):=by
 unfold Kn zK;rw[fm]
 grind
def vF(p:dz):Bool:=aQ p.eG 0 1&&(aQ p.cap 0 100000&&(aQ p.eC 3 1000&&(oS ⟨false,p.low,p.high⟩&&((p.weights.length:Int)==4&&(jq (p.weights.map kS)&&zK p.de)))))
def akW(p:dz)(hl:p.weights.length<1073741823):Ga p=some (vF p):=by
 unfold Ga vF;simp[akS _ hl,ak,fm,aaa,akV,akT]
 grind
def aAP(x:Int):aQ x 0 1=(x==0 || x==1):=by
 rw[Bool.eq_iff_iff];simp[aQ];omega
def Nw(p:dz)(hl:p.weights.length<1073741823):Gh p=some (vF p):=by
 unfold Gh vF;simp[akR _ hl,ak,dy,Tv,akU,akT,aAP]
 grind
def aAQ(x:Int):QN x=Ba x:=by
 unfold QN Ba;rw[fm,dy]
def aab(x:Int):∃ y,Ba x=some y:=by
 unfold Ba;rw[dy];cases aQ x 3 1000<;>exact⟨_,rfl⟩
def aac(c:dP)(p:dz)(hl:p.weights.length<1073741823):∃ b,rP c p=some b/\(b=true->od c=true):=by
 unfold rP;obtain⟨y,e⟩:=aab p.eC;simp only[Tu,Nw _ hl,e,ak];cases C:od c with
 |false=>exact⟨false,rfl,λh=>by cases h⟩
 | true=>
  have E:=akO (Z9 C).2.1;have D:¬ W6 (c.bY.iC+c.bY.rp)=0:=by
   rw[aY];omega
  cases vF p with
  |false=>exact⟨false,rfl,λ_=>rfl⟩
  | true=>
   simp only[bk D,bG,av,aq];cases decide (W6 (y+2)<=c.dg.bq)<;>exact⟨_,rfl,λ_=>by first|rfl|trivial⟩
def aAR(c:dP)(p:dz)(hl:p.weights.length<1073741823):∃ b,rP c p=some b/\Ds c p=some b/\(b=true->od c=true):=by
 unfold rP Ds;obtain⟨y,e⟩:=aab p.eC;simp only[Tu,aAO,Nw _ hl,akW _ hl,aAQ,e,ak];cases C:od c with
 |false=>exact⟨false,rfl,rfl,λh=>by cases h⟩
 | true=>
  have E:=akO (Z9 C).2.1;have D:¬ W6 (c.bY.iC+c.bY.rp)=0:=by
   rw[aY];omega
  cases vF p with
  |false=>exact⟨false,rfl,rfl,λ_=>rfl⟩
  | true=>
   simp only[bk D,bG,av,aq];cases decide (W6 (y+2)<=c.dg.bq)<;>exact⟨_,rfl,rfl,λ_=>by first|rfl|trivial⟩
def akX(i:Nat)(l:aa di):((opens i l).length==0)=l.all λb=>!b.open_:=by
 induction l generalizing i with
 |nil=>rfl
 | cons x a C=>
  simp[opens,List.all_cons]
  grind
def zL(g:aG)(b:di):Bool:=aQ b.row 0 (g.rows-1)&&(b.open_ ||b.row==0)
def mj(g:aG)(r:bX):Bool:=ct g&&(((r.aA.length:Int)==aU g)&&(aQ r.aR 0 2&&(r.aA.all (zL g)&&(r.aR != 2 ||r.aA.all λb=>!b.open_))))
def akY(g:aG)(r:bX):KO g r=some (mj g r):=by
 unfold KO mj bU;rw[rU,ak,lM];cases D:ct g with
 |false=>rfl
 | true=>
  simp only[bG,av,ak,cC];by_cases C:(r.aA.length:Int)=aU g
  ·have I:=eM g;have O:=fJ D;simp only[C,bne_self_eq_false,av,iS,cC,dy,ak];cases U:aQ r.aR 0 2 with
   |false=>rfl
   | true=>
    have e:=iu (step:=KN) r.aA (zL g) (λi=>(((),(),r.aA,(r.aA.length:Int),(i:Int),()),((g.bK,g.aA,g.rows,g.aK,()),(r.aA,r.aR,()),()))) (.inl ((false,()),())) (.inr (.inl (((),()),((r.aA,r.aR,()),())))) aV (λk h=>by
     unfold KN az bx xG xI;dsimp only;rw[aW,aq,aC ⟨by omega,by omega⟩];simp only[bD,dy,ak];rw[aY (n:=g.rows-1),bI];unfold zL;cases aQ r.aA[k].row 0 (g.rows-1)with
     |false=>rfl
     | true=>
      cases r.aA[k].open_ with
      |true=>rfl
      | false=>
       simp[bne];cases r.aA[k].row==0<;>rfl) (by
     unfold KN az bx xG xI;dsimp only;rw[aZ,av]) (bM)
    rw[cv,C]at e;simp only[bG,av,cC]
    refine(bC (λo=>Option.bind o _) e).trans ?_
    rw[ak];cases r.aA.all (zL g)with
    |false=>rfl
    | true=>
     simp only[aq,Sum.elim_inr,dH,cC];cases Y:r.aR != 2 with
     |true=>rfl
     | false=>
      simp;rw[Th ⟨r.aA,r.aR⟩ (by show r.aA.length<_;omega),ak,<- akX 0 r.aA];congr 1
      grind
  ·have E:((r.aA.length:Int)==aU g)=false:=by simp[C]
   rw[gI C,E];rfl
def BO(d:Int):Bool:=aQ d (-2) 5
def fX(r:c8):Bool:=r.aJ.all BO&&(aQ (r.aJ.length:Int) 1 8&&aQ r.wait 1 10000)
def Nx(r:c8)(hl:r.aJ.length<1073741824):zh r=some (fX r):=by
 unfold zh fX bU;have e:=iu (step:=KZ) _ BO (λi=>(((),r.aJ,r.aJ.length,i,()),((r.aJ,r.wait,r.dX,()),()))) _ (.inr (.inl (((),()),((r.aJ,r.wait,r.dX,()),())))) aV (λk h=>by
  unfold KZ az bx xG xI;simp (disch:=omega) [h,bI,dy,BO];cases aQ r.aJ[k] _ 5<;>rfl) (by unfold KZ az bx xG xI;simp) (bM hl)
 rw[cv]at e;rw[e];cases r.aJ.all BO<;>simp[dy]
 grind
def aad(r:c8)(hl:r.aJ.length<1073741824):DU r=some (fX r):=by
 unfold DU fX bU;have e:=iu (step:=Mf) _ BO (λi=>(((),i,()),((r.aJ,r.wait,r.dX,()),()))) _ (.inr (.inl (((),()),((r.aJ,r.wait,r.dX,()),())))) aV (λk h=>by
  unfold Mf az bx xG xI;simp (disch:=omega) [h,bI,fm,BO];cases aQ r.aJ[k] _ 5<;>rfl) (by unfold Mf az bx xG xI;simp) (bM hl)
 rw[cv]at e;rw[e];cases r.aJ.all BO<;>simp[fm]
 grind
def gR{T:Type}(p:T->Bool)(l:aa T):Int:=match l.findIdx? p with
 |some i=>(i:Int)
 |none=>-1
def ta{α β T:Type}{step:α -> ah (α⊕β)}(l:aa T)(p:T -> Bool)(S:Nat -> α)(D:Nat -> β)(z:β)(fuel:Nat)(E:∀ k (h:k<l.length),step (S k)=some (bif p l[k]then .inr (D k)else .inl (S (k+1))))(I:step (S l.length)=some (.inr z))(C:l.length<fuel):
  iter step fuel (S 0)=some (match l.findIdx? p with|some i=>D i|none=>z):=by
 have key:∀ (n i fuel:Nat),i+n=l.length -> n<fuel -> (∀ j (h:j<l.length),j<i -> p l[j]=false) -> iter step fuel (S i)=some (match l.findIdx? p with | some i=>D i | none=>z):=by
  intro n
  induction n with
  | zero=>
   intro i fuel hi C O
   match fuel,C with
   | f+1,_=>
    have:i=l.length:=by omega
    subst this;have e:l.findIdx? p=none:=by
     rw[List.findIdx?_eq_none_iff];intro x U;obtain⟨j,Y,rfl⟩:=jI.1 U
     grind
    unfold iter;rw[I,e]
  | succ n ih=>
   intro i fuel hi C O
   match fuel,C with
   | f+1,C=>
    have dQ:i<l.length:=by omega
    unfold iter;rw[E i dQ];cases hp:p l[i]with
    | true=>
     have e:l.findIdx? p=some i:=by
      rw[nO]
      grind
     rw[e];rfl
    | false=>
     simp only[av]
     refine ih (i+1) f (by omega) (by omega) λj Y JK=>?_
     by_cases e:j=i
     ·grind
     ·grind
 exact key l.length 0 fuel (by omega) C λj _ h=>by omega
def Ny{T:Type}{p:T -> Bool}{l:aa T}{i:Nat}(h:i<l.length)(E:p l[i]=true):(gR p l != (i:Int))=(l.take i).any p:=by
 unfold gR;cases C:(l.take i).any p with
 | false=>
  have e:l.findIdx? p=some i:=by
   rw[nO]
   refine⟨h,E,λj D=>?_⟩
   have:=mz.1 C l[j] (jI.2 ⟨j,by simp;omega,by simp⟩);exact this
  rw[e];simp
 | true=>
  have⟨x,I,U⟩:=List.any_eq_true.1 C;obtain⟨j,D,rfl⟩:=jI.1 I;rw[jf]at D;cases O:l.findIdx? p with
  |none=>simp
  | some k=>
   have⟨Y,k2,k3⟩:=nO.1 O;have:k≠i:=by
    grind
   simp only;simp;omega
def Tw(x:Int):Bool:=aQ x 0 4294967295
def nH(n:Int)(r:aN):Bool:=aQ r.id 1 100000&&(aQ r.dM 0 3&&(decide (r.line >= 0)&&(decide (r.line<n)&&(Tw r.data&&((r.write ||r.data==0)&&aQ r.at_ 0 1000000)))))
def aAS(n:Int)(r:aN):Re n r=some (nH n r):=by
 unfold Re nH Dv Tw;simp[dy]
 grind
def aAT(n:Int)(r:aN):Sc n r=some (nH n r):=by
 unfold Sc nH L5 Tw;simp[fm]
 grind
def dD(x y:aN):Bool:=decide (x.at_<y.at_) ||(x.at_==y.at_&&decide (x.id<y.id))
def Tx(x y:aN):K3 x y=some (dD x y):=by
 unfold K3 dD
 grind
def akZ(x y:aN):Sb x y=some (dD x y):=Tx x y
def aae(l:aa aN)(id:Int)(hl:l.length<1073741824):L7 l id=some (gR (λr=>r.id==id) l):=by
 unfold L7 gR bU;have e:=ta (step:=L6) l (λr=>r.id==id) (λi=>((l,id,i,()),())) _ (.inr (.inl ((),()))) aV (λk h=>by
  unfold L6 az bx xG xI;simp (disch:=omega) [h,bI];cases l[k].id==id<;>rfl) (by unfold L6 az bx xG xI;simp) (bM hl)
 rw[cv]at e;rw[e];cases l.findIdx? _<;>rfl
def qV(n:Int)(q:aa aN)(i:Nat):Bool:=match q[i]? with
 |some r=>nH n r&&((i==0 ||(match q[i-1]? with|some x=>dD x r|none=>false)) && !((q.take i).any λx=>x.id==r.id))
 |none=>false
def aaf{n:Int}{q:aa aN}(h:0<q.length):qV n q 0=nH n q[0]:=by
 unfold qV;rw[bT h];simp
def Nz{n:Int}{q:aa aN}{i:Nat}(h:i+1<q.length):qV n q (i+1)=(nH n q[i+1]&&(dD q[i] q[i+1] && !((q.take (i+1)).any λx=>x.id==q[i+1].id))):=by
 unfold qV
 grind
def gW(n:Int)(q:aa aN):Bool:=(List.range q.length).all (qV n q)&&decide ((q.length:Int)<=12)
def ak0(n:Int)(q:aa aN):zB n q=some (gW n q):=by
 unfold zB gW bU;by_cases c:(q.length:Int)<=12
 ·rw[aZ (show ¬ (q.length:Int) > 12 by omega),av,aW c,Bool.and_true];have e:=iu (step:=L8) (List.range q.length) (qV n q) (λi=>((n,q,(i:Int),()),())) (.inl ((false,()),())) (.inr (.inl ((),()))) aV (λk h=>by
   rw[dW]at h;rw[lW];unfold L8 az bx xG xI;dsimp only;rw[aW,aq,aC ⟨by omega,by omega⟩];simp only[bD,aAT,ak];cases k with
   | zero=>
    rw[aaf h];cases nH n q[0]with
    |false=>rfl
    | true=>
     simp only[bG,av,aq];rw[aZ,av,aC ⟨by omega,h⟩,aae _ _ (by omega),ak,Ny h (by simp)];simp;rfl
   | succ k=>
    rw[Nz h];cases nH n q[k+1]with
    |false=>rfl
    | true=>
     simp only[bG,av,cC];have C:W6 (((k+1:Nat):Int)-1)=(k:Int):=by rw[aY];omega
     simp only[C,bD];rw[aW,aq,aC ⟨by omega,by omega⟩,aC ⟨by omega,h⟩,akZ,ak];cases dD q[k] q[k+1]with
     |false=>rfl
     | true=>
      simp only[bG,av,cC];rw[aC ⟨by omega,h⟩,aae _ _ (by omega),ak,Ny h (by simp),bI];cases (q.take (k+1)).any λx=>x.id==q[k+1].id<;>rfl) (by
   rw[dW];unfold L8 az bx xG xI;dsimp only;rw[aZ,av]) (by rw[dW];exact bM)
  rw[cv]at e
  refine(bC (λo=>Option.bind o _) e).trans ?_
  rw[ak];cases (List.range q.length).all (qV n q)<;>rfl
 ·rw[aW (show (q.length:Int) > 12 by omega),aq,aZ c,Bool.and_false]
def aAU(n:Int)(q:aa aN){i:Nat}(h:i<q.length)(hl:q.length<1073741824):
  iter Gw aV ((n,q,(),q,(q.length:Int),(i:Int),((q.take i).drop 0),(((q.take i).drop 0).length:Int),(0:Int),()),((q[i].id,q[i].dM,q[i].line,q[i].write,q[i].data,q[i].at_,()),()))=some (bif (q.take i).any (λx=>x.id==q[i].id)then .inl ((false,()),())else .inr (.inl ((n,q,q,(q.length:Int),(i:Int),()),()))):=by
 rw[List.drop_zero];have hlen:(q.take i).length=i:=by rw[jf];omega
 generalize C:q[i]=r;generalize D:q.take i=t at *
 have e:=iu (step:=Gw) t (λx=>!(x.id==r.id)) (λj=>((n,q,(),q,(q.length:Int),(i:Int),t,(t.length:Int),(j:Int),()),((r.id,r.dM,r.line,r.write,r.data,r.at_,()),()))) (.inl ((false,()),())) _ aV (λk h=>by
  unfold Gw az bx xG xI;dsimp only;rw[aW,aq,aC ⟨by omega,by omega⟩];simp only[bD];rw[bI];cases t[k].id==r.id<;>rfl) (by
  unfold Gw az bx xG xI;dsimp only;rw[aZ,av]) (bM)
 grind
def aag(n:Int)(q:aa aN)(hl:q.length<1073741824):DB n q=some (gW n q):=by
 unfold DB gW bU;have e:=iu (step:=K4) (List.range q.length) (qV n q) (λi=>((n,q,q,(q.length:Int),(i:Int),()),())) (.inl ((false,()),())) (.inr (.inl ((q,()),()))) aV (λk h=>by
   rw[dW]at h;rw[lW];unfold K4 az bx xG xI bU;dsimp only;rw[aW,aq,aC ⟨by omega,by omega⟩];simp only[bD,aAS,ak];have C:=aAU n q h hl;cases k with
   | zero=>
    rw[aaf h];cases nH n q[0]with
    |false=>rfl
    | true=>
     simp only[bG,av,aq];rw[aZ,av,bg ⟨by omega,by omega,by omega⟩]
     refine(bC (λo=>Option.bind o _) C).trans ?_
     simp;rfl
   | succ k=>
    rw[Nz h];cases nH n q[k+1]with
    |false=>rfl
    | true=>
     simp only[bG,av,cC];have D:W6 (((k+1:Nat):Int)-1)=(k:Int):=by rw[aY];omega
     simp only[D,bD];rw[aW,aq,aC ⟨by omega,by omega⟩,Tx,ak];cases dD q[k] q[k+1]with
     |false=>rfl
     | true=>
      simp only[bG,av,cC];rw[bg ⟨by omega,by omega,by omega⟩]
      refine(bC (λo=>Option.bind o _) C).trans ?_
      rw[ak];cases (q.take (k+1)).any λx=>x.id==q[k+1].id with
      |true=>rfl
      | false=>
       simp only[av,Sum.elim_inr,dH];rw[bI];rfl) (by
   rw[dW];unfold K4 az bx xG xI bU;dsimp only;rw[aZ,av]) (by rw[dW];exact bM)
 rw[cv]at e
 refine(bC (λo=>Option.bind o _) e).trans ?_
 rw[ak];cases (List.range q.length).all (qV n q)<;>rfl
def kG(p:fK):Bool:=aQ p.state 0 2&&(aQ p.since 0 1000000&&aQ p.idle 0 1000000)
def Ty(p:fK):DC p=some (kG p):=by
 unfold DC kG;simp[dy]
 grind
def aah(p:fK):zC p=some (kG p):=by
 unfold zC kG;simp[fm]
 grind
def zM(e:cB):Bool:=aQ e.line 0 1023&&((e.code==1 ||e.code==2)&&aQ e.times 1 999)
def mO(e x:cB):Bool:=x.line==e.line&&x.code==e.code
def HG(l:aa cB)(i:Nat):Bool:=match l[i]? with
 |some e=>zM e && !((l.take i).any (mO e))
 |none=>false
def Tz{l:aa cB}{i:Nat}(h:i<l.length):HG l i=(zM l[i] && !((l.take i).any (mO l[i]))):=by
 unfold HG;rw[bT h]
def mm(l:aa cB):Bool:=(List.range l.length).all (HG l)&&decide ((l.length:Int)<=6)
def ak1(l:aa cB)(e:cB)(hl:l.length<1073741824):Ms l e.line e.code=some (gR (mO e) l):=by
 unfold Ms gR bU;have e:=ta (step:=Mr) l (mO e) (λi=>((l,e.line,e.code,i,()),())) _ _ aV (λk h=>by
  unfold Mr mO az bx xG xI;dsimp only;rw[aW,aq,aC ⟨by omega,by omega⟩,aC ⟨by omega,by omega⟩];simp only[bD];rw[bI];cases l[k].line==e.line<;>cases l[k].code==e.code<;>rfl) (by
  unfold Mr az bx xG xI;dsimp only;rw[aZ,av]) (bM hl)
 rw[cv]at e;rw[e];cases l.findIdx? _<;>rfl
def aAV(l:aa cB):Sq l=some (mm l):=by
 unfold Sq mm bU;by_cases c:(l.length:Int) <= 6
 ·rw[aZ (show ¬ (l.length:Int) > 6 by omega),av,aW c,Bool.and_true];have e:=iu (step:=Mt) _ (HG l) (λi=>((l,(i:Int),()),())) _ _ aV (λk h=>by
   rw[dW]at h;rw[lW,Tz h];unfold Mt Hh zM az bx xG xI;dsimp only;rw[aW,aq,aC ⟨by omega,by omega⟩,aC ⟨by omega,by omega⟩,aC ⟨by omega,by omega⟩];simp only[bD,fm,ak];rw[ak1 _ _ (by omega),ak,Ny h (by simp[mO]),bI];cases aQ l[k].line 0 1023<;>cases l[k].code==1<;>cases l[k].code==2<;>cases aQ l[k].times 1 999<;>cases (l.take k).any (mO l[k])<;>rfl) (by
   rw[dW];unfold Mt az bx xG xI;dsimp only;rw[aZ,av]) (by rw[dW];exact bM)
  refine(bC (λo=>Option.bind o _) e).trans ?_
  rw[ak];cases (List.range l.length).all (HG l)<;>rfl
 ·rw[aW (show (l.length:Int) > 6 by omega),aq,aZ c,Bool.and_false]
def aAW(l:aa cB){i:Nat}(h:i<l.length)(hl:l.length<1073741824):
  iter Gy aV ((l,(),l,(l.length:Int),(i:Int),((l.take i).drop 0),(((l.take i).drop 0).length:Int),(0:Int),()),((l[i].line,l[i].code,l[i].times,()),()))=some (bif (l.take i).any (mO l[i])then .inl ((false,()),())else .inr (.inl ((l,l,(l.length:Int),(i:Int),()),()))):=by
 rw[List.drop_zero];have hlen:(l.take i).length=i:=by rw[jf];omega
 generalize C:l[i]=r;generalize D:l.take i=t at *
 have e:=iu (step:=Gy) t (λx=>!(mO r x)) (λj=>((l,(),l,(l.length:Int),(i:Int),t,(t.length:Int),(j:Int),()),((r.line,r.code,r.times,()),()))) _ _ aV (λk h=>by
  unfold Gy mO az bx xG xI;dsimp only;rw[aW,aq,aC ⟨by omega,by omega⟩];simp only[bD];rw[bI,BEq.comm (a:=r.line),BEq.comm (a:=r.code)];cases t[k].line==r.line<;>cases t[k].code==r.code<;>rfl) (by
  unfold Gy az bx xG xI;dsimp only;rw[aZ,av]) (bM)
 grind
def ak2(l:aa cB)(hl:l.length<1073741824):K6 l=some (mm l):=by
 unfold K6 mm bU;have e:=iu (step:=K5) _ (HG l) (λi=>((l,l,l.length,i,()),())) _ _ aV (λk h=>by
   rw[dW]at h;rw[lW,Tz h];have C:=aAW l h hl;unfold K5 zM az bx xG xI bU;dsimp only;rw[aW,aq,aC ⟨by omega,by omega⟩];simp only[bD,dy,ak,bne];rw[bg ⟨by omega,by omega,by omega⟩];rw[show (0:Int).toNat=0 from rfl,C];cases aQ l[k].line 0 1023<;>cases l[k].code==1<;>cases l[k].code==2<;>cases aQ l[k].times 1 999<;>cases (l.take k).any (mO l[k])<;>first|rfl|(simp only[aq,av,bG,jx,ak,Sum.elim_inr,dH];rw[bI];rfl)) (by
   rw[dW];unfold K5 az bx xG xI bU;dsimp only;rw[aZ,av]) (by rw[dW];exact bM)
 refine(bC (λo=>Option.bind o _) e).trans ?_
 cases (List.range _).all _<;>rfl
def TA(l:aa Int)(x:Int)(hl:l.length<1073741824):DA l x=some (gR (λe=>x==e) l):=by
 unfold DA gR;have e:=ta (step:=K0) l (λe=>x==e) (λi=>((l,x,l.length,i,()),())) _ _ aV (λk h=>by
  unfold K0 az bx xG xI;dsimp only;rw[aW,aq,aC ⟨by omega,by omega⟩];simp only[bD];rw[bI];cases x==l[k]<;>rfl) (by
  unfold K0 az bx xG xI;dsimp only;rw[aZ,av]) (bM hl)
 rw[cv]at e;rw[e];cases l.findIdx? _<;>rfl
def Em(t:cq)(i:Nat):Bool:=match t.rows[i]?,t.counts[i]? with
 |some r,some c=>aQ r (-1) 15&&(aQ c t.dm 100000&&((r != -1 ||c==0)&&(r == -1 ||!((t.rows.take i).any λx=>r==x))))
 |_,_=>false
def NA{t:cq}{i:Nat}(h:i<t.rows.length)(C:i<t.counts.length):Em t i=(aQ t.rows[i] (-1) 15&&(aQ t.counts[i] t.dm 100000&&((t.rows[i] != -1 || t.counts[i]==0)&&(t.rows[i] == -1 || !((t.rows.take i).any λx=>t.rows[i]==x))))):=by
 unfold Em;rw[bT h,bT C]
def kT(t:cq):Bool:=aQ (t.rows.length:Int) 1 16&&((t.rows.length:Int)==(t.counts.length:Int)&&(aQ t.dm 0 100000&&(List.range t.rows.length).all (Em t)))
def aai(t:cq):Bf t=some (kT t):=by
 unfold Bf kT bU;simp only[dy,ak];cases D:aQ (t.rows.length:Int) 1 16 with
 |false=>rfl
 | true=>
  have D:=bA.1 D;by_cases C:(t.rows.length:Int)=(t.counts.length:Int)
  ·simp only[C,bne_self_eq_false,iS,bG,av,cC];cases U:aQ t.dm 0 100000 with
   |false=>rfl
   | true=>
    have e:=iu (step:=K1) (List.range t.rows.length) (Em t) (λi=>(((),t.rows,(t.rows.length:Int),(i:Int),()),((t.rows,t.counts,t.dm,()),()))) (.inl ((false,()),())) (.inr (.inl ((),()))) aV (λk h=>by
     rw[dW]at h;have E:k<t.counts.length:=by omega
     rw[lW,NA h E];unfold K1 az bx xG xI;dsimp only;rw[aW,aq,aC ⟨by omega,by omega⟩,aC ⟨by omega,by omega⟩,aC ⟨by omega,by omega⟩];simp only[bD,dy,ak,TA _ _ (show t.rows.length<1073741824 by omega)];rw[Ny (p:=λe=>t.rows[k]==e) h (by simp),bI];simp only[bne];cases aQ t.rows[k] (-1) 15<;>cases aQ t.counts[k] t.dm 100000<;>cases t.rows[k] == -1<;>cases t.counts[k]==0<;>cases (t.rows.take k).any (λe=>t.rows[k]==e)<;>rfl) (by
     rw[dW];unfold K1 az bx xG xI;dsimp only;rw[aZ,av]) (by rw[dW];exact bM)
    rw[cv,C]at e;simp only[bG,av,cC]
    refine(bC (λo=>Option.bind o _) e).trans ?_
    rw[ak];cases (List.range t.rows.length).all (Em t)<;>rfl
  ·have I:((t.rows.length:Int)==(t.counts.length:Int))=false:=by simp[C]
   have O:((t.counts.length:Int) != (t.rows.length:Int))=true:=gI λh=>C h.symm
   rw[I,O];rfl
def aAX(t:cq){i:Nat}(h:i<t.rows.length)(hl:t.rows.length<1073741824):
  iter Hv aV (((),(i:Int),(0:Int),()),((t.rows,t.counts,t.dm,()),()))=some (bif decide (t.rows[i] >= 0)&&(t.rows.take i).any (λx=>t.rows[i]==x)then .inl ((false,()),())else .inr (.inl (((),(i:Int),()),((t.rows,t.counts,t.dm,()),())))):=by
 have hlen:(t.rows.take i).length=i:=by rw[jf];omega
 have e:=iu (step:=Hv) (t.rows.take i) (λx=>!(decide (t.rows[i] >= 0)&&t.rows[i]==x)) (λj=>(((),(i:Int),(j:Int),()),((t.rows,t.counts,t.dm,()),()))) _ _ aV (λk C=>by
  unfold Hv az bx xG xI;dsimp only;rw[aW,aq,aC ⟨by omega,by omega⟩,aC ⟨by omega,by omega⟩,aC ⟨by omega,by omega⟩];simp only[bD,List.getElem_take];rw[bI,BEq.comm (a:=t.rows[k])];cases decide (t.rows[i] >= 0)<;>cases t.rows[i]==t.rows[k]<;>rfl) (by
  rw[hlen];unfold Hv az bx xG xI;dsimp only;rw[aZ,av]) (bM)
 grind
def ak3(t:cq):MS t=some (kT t):=by
 unfold MS kT bU;simp only[fm,ak];cases D:aQ (t.rows.length:Int) 1 16 with
 |false=>rfl
 | true=>
  have D:=bA.1 D;by_cases C:(t.rows.length:Int)=(t.counts.length:Int)
  ·simp only[C,bne_self_eq_false,iS,bG,av,cC];cases h3:aQ t.dm 0 100000 with
   |false=>rfl
   | true=>
    have e:=iu (step:=MR) (List.range t.rows.length) (Em t) (λi=>(((),(i:Int),()),((t.rows,t.counts,t.dm,()),()))) (.inl ((false,()),())) (.inr (.inl ((),()))) aV (λk h=>by
     rw[dW]at h;have O:k<t.counts.length:=by omega
     have U:=aAX t h (by omega);rw[lW,NA h O];unfold MR az bx xG xI bU;dsimp only;rw[aW,aq,aC ⟨by omega,by omega⟩,aC ⟨by omega,by omega⟩,aC ⟨by omega,by omega⟩,aC ⟨by omega,by omega⟩];simp only[bD,fm,ak];rw[U,ak];cases E:aQ t.rows[k] (-1) 15 with
     |false=>rfl
     | true=>
      have E:=bA.1 E;cases aQ t.counts[k] t.dm 100000 with
      |false=>rfl
      | true=>
       simp only[bG,av,cC,bne];by_cases I:t.rows[k] = -1
       ·rw[aW (show t.rows[k]<0 by omega),aZ (show ¬ t.rows[k] >= 0 by omega),show (t.rows[k] == -1)=true by simp[I]];simp;rw[bI]
        grind
       ·rw[aZ (show ¬ t.rows[k]<0 by omega),aW (show t.rows[k] >= 0 by omega),show (t.rows[k] == -1)=false by simp[I]];simp only[aq,av,cC];cases (t.rows.take k).any λx=>t.rows[k]==x with
        |true=>rfl
        | false=>
         simp;rw[bI];rfl) (by
     rw[dW];unfold MR az bx xG xI bU;dsimp only;rw[aZ,av]) (by rw[dW];exact bM)
    rw[cv]at e;simp only[bG,av,cC]
    refine(bC (λo=>Option.bind o _) e).trans ?_
    rw[ak];cases (List.range t.rows.length).all (Em t)<;>rfl
  ·have Y:((t.rows.length:Int)==(t.counts.length:Int))=false:=by simp[C]
   rw[Y,gI C];rfl
def w9(g:aG):W6 ((9:Int)*(W6 (aU g+(1:Int))))=9*(aU g+1):=by
 have:=eM g;rw[aY (n:=aU g+1),aY]
def NB(k:Int):ze k=some (aQ k 1 5):=by
 unfold ze;rw[dy];rfl
def aAY(n:Int)(u:Bool)(k:Int):DG n u k=some (bif u then aQ n 0 (W6 (k-1))else n==0):=by
 unfold DG;rw[dy];cases u<;>rfl
def oT(g:aG)(i:Nat):Bool:=decide ((i:Int) / 9<aU g)==decide ((i:Int) % 9+1<=5)
def aAZ(g:aG){i:Nat}(hi:i<1000):SN g (i:Int)=some (oT g i):=by
 unfold SN oT;rw[pW,ak,sr (by omega),q8 (by omega),aY,aY,BEq.comm]
def aA0(g:aG){i:Nat}(hi:i<1000):∃ c,Dy g (i:Int)=some (c,oT g i):=by
 unfold Dy oT;rw[lM,ak,sr (by omega),q8 (by omega),aY,aY,NB];have:aQ (i % 9+1) 1 5=decide ((i:Int) % 9+1 <= 5):=by
  simp[aQ];omega
 rw[this];cases decide (i / 9<aU g)<;>exact⟨_,rfl⟩
def En(g:aG)(l:aa Int)(i:Nat):Bool:=match l[i]? with
 |some e=>aQ e (-1) 1000000&&(oT g i ||e == -1)
 |none=>false
def NC{g:aG}{l:aa Int}{i:Nat}(h:i<l.length):En g l i=(aQ l[i] (-1) 1000000&&(oT g i || l[i] == -1)):=by
 unfold En;rw[bT h]
def p7(l:aa Int)(i:Nat):Bool:=match l[i]? with
 |some e=>aQ e 0 1000000&&(i==0 ||(match l[i-1]? with|some x=>!(decide (x >= e))|none=>false))
 |none=>false
def ND{l:aa Int}(h:0<l.length):p7 l 0=aQ l[0] 0 1000000:=by
 unfold p7;rw[bT h];simp
def HH{l:aa Int}{i:Nat}(h:i+1<l.length):p7 l (i+1)=(aQ l[i+1] 0 1000000 && !(decide (l[i] >= l[i+1]))):=by
 unfold p7
 grind
def kf(g:aG)(r:c9):Bool:=ct g&&((r.last.length:Int)==9*(aU g+1)&&(!(decide ((r.aT.length:Int) > 4))&&((List.range r.last.length).all (En g r.last)&&(List.range r.aT.length).all (p7 r.aT))))
def aaj(g:aG)(r:c9):Gr g r=some (kf g r):=by
 unfold Gr kf bU;rw[rU,ak,lM];cases U:ct g with
 |false=>rfl
 | true=>
  simp only[bG,av,ak,cC,w9];by_cases C:(r.last.length:Int)=9*(aU g+1)
  ·have Y:=eM g;rw[C,bne_self_eq_false,av,iS,cC,<-C];cases D:decide ((r.aT.length:Int) > 4)with
   |true=>rfl
   | false=>
    have D:=of_decide_eq_false D;have l1:=iu (step:=KP) (List.range r.last.length) (En g r.last) (λi=>(((),(),r.last,(r.last.length:Int),(i:Int),()),((g.bK,g.aA,g.rows,g.aK,()),(r.last,r.aT,()),()))) (.inl ((false,()),())) (.inr (.inl (((),()),((r.last,r.aT,()),())))) aV (λk h=>by
     rw[dW]at h;obtain⟨c,E⟩:=aA0 g (i:=k) (by omega);rw[lW,NC h];unfold KP az bx xG xI;dsimp only;rw[aW,aq,aC ⟨by omega,by omega⟩];simp only[bD,dy,ak,kE,E,bne];rw[bI];cases aQ r.last[k] (-1) 1000000<;>cases oT g k<;>cases r.last[k] == -1<;>rfl) (by
     rw[dW];unfold KP az bx xG xI;dsimp only;rw[aZ,av]) (by rw[dW];exact bM)
    have l2:=iu (step:=KQ) (List.range r.aT.length) (p7 r.aT) (λi=>(((),r.aT,(r.aT.length:Int),(i:Int),()),((r.last,r.aT,()),()))) (.inl ((false,()),())) (.inr (.inl ((),()))) aV (λk h=>by
     rw[dW]at h;rw[lW];unfold KQ az bx xG xI;dsimp only;rw[aW,aq,aC ⟨by omega,by omega⟩];simp only[bD,dy,ak];cases k with
     | zero=>
      rw[ND h];cases aQ r.aT[0] 0 1000000 with
      |false=>rfl
      | true=>
       rw[aZ];rfl
     | succ k=>
      rw[HH h];have I:W6 (((k+1:Nat):Int)-1)=(k:Int):=by rw[aY];omega
      simp only[I,bD];rw[aW (show ((k+1:Nat):Int) > 0 by omega),aC ⟨by omega,by omega⟩,bI];cases aQ r.aT[k+1] 0 1000000<;>cases decide (r.aT[k] >= r.aT[k+1])<;>rfl) (by
     rw[dW];unfold KQ az bx xG xI;dsimp only;rw[aZ,av]) (by rw[dW];exact bM)
    rw[cv]at l1 l2;simp only[jx,av,cC]
    refine(bC (λo=>Option.bind o _) l1).trans ?_
    rw[ak];cases (List.range r.last.length).all (En g r.last)with
    |false=>rfl
    | true=>
     simp only[aq,Sum.elim_inr,dH,cC]
     refine(bC (λo=>Option.bind o _) l2).trans ?_
     rw[ak];cases (List.range r.aT.length).all (p7 r.aT)<;>rfl
  ·have O:((r.last.length:Int)==9*(aU g+1))=false:=by simp[C]
   rw[gI C,O];rfl
def aA1(g:aG)(r:c9):SO g r=some (kf g r):=by
 unfold SO kf bU;rw[HD,ak,pW];cases O:ct g with
 |false=>rfl
 | true=>
  simp only[bG,av,ak,cC,w9];by_cases C:(r.last.length:Int)=9*(aU g+1)
  ·have U:=eM g;rw[C,bne_self_eq_false,av,iS,cC];cases D:decide ((r.aT.length:Int) > 4)with
   |true=>rfl
   | false=>
    have D:=of_decide_eq_false D;have l1:=iu (step:=MM) (List.range r.last.length) (En g r.last) (λi=>(((),(),(i:Int),()),((g.bK,g.aA,g.rows,g.aK,()),(r.last,r.aT,()),()))) (.inl ((false,()),())) (.inr (.inl (((),()),((r.last,r.aT,()),())))) aV (λk h=>by
     rw[dW]at h;rw[lW,NC h];unfold MM az bx xG xI;dsimp only;rw[aW,aq,aC ⟨by omega,by omega⟩,aC ⟨by omega,by omega⟩];simp only[bD,fm,ak,kE,aAZ g (show k<1000 by omega),bne];rw[bI];cases aQ r.last[k] (-1) 1000000<;>cases oT g k<;>cases r.last[k] == -1<;>rfl) (by
     rw[dW];unfold MM az bx xG xI;dsimp only;rw[aZ,av]) (by rw[dW];exact bM)
    have l2:=iu (step:=MN) (List.range r.aT.length) (p7 r.aT) (λi=>(((),(i:Int),()),((r.last,r.aT,()),()))) (.inl ((false,()),())) (.inr (.inl ((),()))) aV (λk h=>by
     rw[dW]at h;rw[lW];unfold MN az bx xG xI;dsimp only;rw[aW,aq,aC ⟨by omega,by omega⟩];simp only[bD,fm,ak];cases k with
     | zero=>
      rw[ND h];cases aQ r.aT[0] 0 1000000 with
      |false=>rfl
      | true=>
       rw[aZ];rfl
     | succ k=>
      rw[HH h];have E:W6 (((k+1:Nat):Int)-1)=(k:Int):=by rw[aY];omega
      simp only[E,bD];rw[aW (show ((k+1:Nat):Int) > 0 by omega),aC ⟨by omega,by omega⟩,aC ⟨by omega,by omega⟩,bI];cases aQ r.aT[k+1] 0 1000000<;>cases decide (r.aT[k] >= r.aT[k+1])<;>rfl) (by
     rw[dW];unfold MN az bx xG xI;dsimp only;rw[aZ,av]) (by rw[dW];exact bM)
    rw[cv]at l1 l2;simp only[jx,av,cC]
    refine(bC (λo=>Option.bind o _) l1).trans ?_
    rw[ak];cases (List.range r.last.length).all (En g r.last)with
    |false=>rfl
    | true=>
     simp only[aq,Sum.elim_inr,dH,cC]
     refine(bC (λo=>Option.bind o _) l2).trans ?_
     rw[ak];cases (List.range r.aT.length).all (p7 r.aT)<;>rfl
  ·have I:((r.last.length:Int)==9*(aU g+1))=false:=by simp[C]
   rw[gI C,I];rfl
def aA2(l:aa Int)(x:Int)(hl:l.length<1073741824):QX l x=some (l.any λe=>e==x):=by
 unfold QX bU;have e:=iu (step:=Ks) l (λe=>!(e==x)) (λi=>((l,x,i,()),())) _ _ aV (λk h=>by
  unfold Ks az bx xG xI;dsimp only;rw[aW,aq,aC ⟨by omega,by omega⟩];simp only[bD];rw[bI];cases l[k]==x<;>rfl) (by
  unfold Ks az bx xG xI;dsimp only;rw[aZ,av]) (bM hl)
 rw[cv]at e;rw[e];have:l.all (λe=>!(e==x)) = !l.any λe=>e==x:=by rw[List.any_eq_not_all_not,Bool.not_not]
 rw[this];cases l.any λe=>e==x<;>rfl
def aA3(l:aa Int)(x:Int)(hl:l.length<1073741824):Ra l x=some (l.count x:Int):=by
 unfold Ra bw;have e:=cI (step:=KT) _ (λi=>((x,((l.take i).count x),l,l.length,i,()),())) _ aV (λk h=>by
  unfold KT az xG xI;have C:(l.take k).count x <= k:=Nat.le_trans List.count_le_length (by rw[jf];omega);dsimp only;rw[aW,aq,aC ⟨by omega,by omega⟩];simp only[bD];rw[List.take_succ_eq_append_getElem h,List.count_append,List.count_singleton,bI,bI];cases l[k]==x<;>rfl) (by
  unfold KT az xG xI;dsimp only;rw[aZ,av,iR]) (bM hl)
 simp_all
def ak4{x:Int}:∀ (l:aa Int),(∀ j (h:j<l.length),l[j]=x -> x ∉ l.take j) -> l.count x <= 1
 |[],_=>by simp
 | y :: ys,h=>by
  rw[List.count_cons];by_cases e:y=x
  ·have:x ∉ ys:=by
    intro C;have⟨j,E,D⟩:=jI.1 C;refine h (j+1) (by simp;omega) (by simpa using D) ?_;simp_all
   grind
  ·have:=ak4 ys λj E D C=>h (j+1) (by simp;omega) (by simpa using D) (by rw[List.take_succ_cons];exact List.mem_cons_of_mem _ C)
   simp_all
def aA4{x:Int}:∀ (l:aa Int) (j:Nat) (h:j<l.length),l[j]=x -> x∈l.take j -> 2 <= l.count x:=by
 intro l j h e C;have D:=List.count_pos_iff.2 C;have E:1 <= (l.drop j).count x:=List.count_pos_iff.2 (by rw[<- e];exact jI.2 ⟨0,by simp;omega,by simp⟩);have:l.count x=(l.take j).count x+(l.drop j).count x:=by rw[<- List.count_append,List.take_append_drop]
 omega
def th(R M:Int)(L:aa Int)(j:Nat):Bool:=match L[j]? with
 |some e=>e==(j:Int) ||(aQ e R M && !(decide ((L.count e:Int) > 1)))
 |none=>false
def xD(R M:Int)(L:aa Int)(j:Nat):Bool:=match L[j]? with
 |some e=>e==(j:Int) ||(aQ e R M && !((L.take j).any λx=>x==e))
 |none=>false
def aak(R M:Int)(L:aa Int)(hR:(L.length:Int)=R):(List.range L.length).all (th R M L)=(List.range L.length).all (xD R M L):=by
 rw[Bool.eq_iff_iff,ck,ck];simp only[ga];constructor
 ·intro h j C;have:=h j C;unfold th at this;unfold xD;rw[bT C]at *
  simp only[eN,aP,ij,qh]at *
  rcases this with D|⟨D,Y⟩
  ·simp_all
  ·refine .inr ⟨D,?_⟩;rw[mz];intro x O I;have I:x=L[j]:=by simpa using I
   have:=aA4 L j C rfl (I ▸ O);omega
 ·intro h j C;have:=h j C;unfold xD at this;unfold th;rw[bT C]at *
  simp only[eN,aP,ij,qh]at *
  rcases this with D|⟨D,Y⟩
  ·simp_all
  ·refine .inr ⟨D,?_⟩;have hle:=(bA.1 D).1;have:=ak4 (x:=L[j]) L λk U e O=>by
    have E:=h k U;unfold xD at E;rw[bT U]at E;simp only[eN,aP,ij]at E;rcases E with h3|⟨_,h4⟩
    ·grind
    ·grind
   omega
def gj(m:aa Int)(R b:Nat):aa Int:=(m.take ((b+1)*R)).drop (b*R)
def HI(m:aa Int)(R b:Nat):gj m R b=(m.drop (b*R)).take R:=by
 unfold gj;rw[List.drop_take,jV,Nat.add_sub_cancel_left]
def HJ{m:aa Int}{R b:Nat}(h:(b+1)*R<=m.length):(gj m R b).length=R:=by
 rw[HI,jf,List.length_drop];rw[jV]at h;omega
def BP{C R b j:Nat}(hb:b<C)(D:j <= R):b*R+j <= C*R:=by
 have:=jd R hb
 grind
def NF(R:Nat)(M:Int)(m:aa Int)(i:Nat):Bool:=match m[i]? with
 |some e=>e==((i % R:Nat):Int) ||(aQ e (R:Int) M && !(((m.take i).drop (i / R*R)).any λx=>x==e))
 |none=>false
def ak5{R:Nat}{M:Int}{m:aa Int}{b j:Nat}(C:j<R):NF R M m (b*R+j)=xD (R:Int) M (gj m R b) j:=by
 unfold NF xD;have D:(b*R+j) % R=j:=by rw[Nat.mul_comm,Nat.mul_add_mod,Nat.mod_eq_of_lt C]
 have E:(b*R+j) / R=b:=by rw[Nat.mul_comm,Nat.mul_add_div (by omega),Nat.div_eq_of_lt C,Nat.add_zero]
 have I:(gj m R b)[j]?=m[b*R+j]?:=by rw[HI,List.getElem?_take_of_lt C,List.getElem?_drop]
 have O:(gj m R b).take j=(m.take (b*R+j)).drop (b*R):=by rw[HI,List.take_take,List.drop_take,Nat.add_sub_cancel_left,Nat.min_eq_left (Nat.le_of_lt C)]
 simp_all
def ak6{n:Nat}(h:n<4611686018427387904):W6 (n:Int)=(n:Int):=aY
def aA5(R D:Nat)(hR:0<R)(M:Int)(m:aa Int):(List.range (D*R)).all (NF R M m)=(List.range D).all λb=>(List.range R).all (xD (R:Int) M (gj m R b)):=by
 rw[Bool.eq_iff_iff,ck];simp;constructor
 ·intro h b hb j C;rw[<- ak5 C];refine h _ ?_;have:=BP hb (show j+1 <= R from C);omega
 ·intro h i hi;have hb:i / R<D:=Nat.div_lt_of_lt_mul (by rw[Nat.mul_comm];exact hi);have C:i % R<R:=Nat.mod_lt _ hR;have e:i / R*R+i % R=i:=by rw[Nat.mul_comm];exact Nat.div_add_mod i R
  have:=h _ hb _ C;rw[<- ak5 C,e]at this;exact this
def lP(g:aG)(s:dw):Bool:=kF g s.bL&&((s.map.length:Int)==((aU g).toNat*(g.rows-s.bL).toNat:Nat)&&(List.range (aU g).toNat).all λb=>(List.range (g.rows-s.bL).toNat).all (th (g.rows-s.bL) (g.rows-1) (gj s.map (g.rows-s.bL).toNat b)))
def TB{g:aG}{s:dw}{R C b:Nat}(hR:g.rows-s.bL=(R:Int))(D:R<=16)(E:C<=8)(hb:b<C)(hl:s.map.length=C*R):W6 ((b:Int)*W6 (g.rows-s.bL))=((b*R:Nat):Int)/\W6 (W6 ((b:Int)+1)*W6 (g.rows-s.bL))=(((b+1)*R:Nat):Int)/\(0:Int)<=((b*R:Nat):Int)/\((b*R:Nat):Int)<=(((b+1)*R:Nat):Int)/\(((b+1)*R:Nat):Int)<=(s.map.length:Int):=by
 have O:C*R<=8*16:=Nat.mul_le_mul E D;have U:b*R+R<=C*R:=BP hb (dc R);have I:W6 (g.rows-s.bL)=(R:Int):=by rw[hR];exact aY
 rw[I,bI,<-Int.natCast_mul,<-Int.natCast_mul,jV];exact⟨aY,aY,by omega,by omega,by omega⟩
def aA6{g:aG}{s:dw}(R b:Int)(L:aa Int)(C:ct g=true)(D:L.length<1073741824):
  iter Gs aV (((),(),R,b,L,L,(L.length:Int),(0:Int),()),((g.bK,g.aA,g.rows,g.aK,()),(s.bL,s.map,()),()))=some (bif (List.range L.length).all (th R (g.rows-1) L)then .inr (.inl (((),(),R,b,()),((g.bK,g.aA,g.rows,g.aK,()),(s.bL,s.map,()),())))else .inl ((false,()),())):=by
 have E:=fJ C;have e:=iu (step:=Gs) (List.range L.length) (th R _ L) (λi=>(((),(),R,b,L,L,L.length,i,()),((g.bK,g.aA,g.rows,g.aK,()),(s.bL,s.map,()),()))) _ _ aV (λk h=>by
  rw[dW]at h;rw[lW];unfold Gs th az bx xG xI;dsimp only;rw[aW,aq,aC ⟨by omega,by omega⟩,bT h];simp only[bD,dy,ak,aA3 _ _ D,bne];rw[bI,aY (n:=g.rows-1)];cases L[k]==(k:Int)<;>cases aQ L[k] R (g.rows-1)<;>cases decide ((L.count L[k]:Int) > 1)<;>rfl) (by
  rw[dW];unfold Gs az bx xG xI;dsimp only;rw[aZ,av]) (by rw[dW];exact bM)
 simp_all
def ak7(g:aG)(s:dw):KV g s=some (lP g s):=by
 unfold KV lP bU;rw[Z6,ak,Tt];cases D:kF g s.bL with
 |false=>rfl
 | true=>
  obtain⟨I,s0,s2,iL,HK⟩:=Ts D;have O:=eM g;have U:((uk g s.bL).1.map.length:Int)=(((aU g).toNat*(g.rows-s.bL).toNat:Nat):Int):=by
   unfold uk;rw[D,aq,Z4]
  rw[U];obtain⟨C,hb⟩:=dV O.1;obtain⟨R,hR⟩:=dV (show 0<=g.rows-s.bL by omega);rw[hb,hR];simp only[bD,bG,av,cC];by_cases hl:(s.map.length:Int)=((C*R:Nat):Int)
  ·have E:s.map.length=C*R:=by omega
   rw[hl,bne_self_eq_false,av,iS,cC];have Y:W6 (R:Int)=(R:Int):=aY;have e:=iu (step:=KU) (List.range C) (λb=>(List.range R).all (th (R:Int) (g.rows-1) (gj s.map R b))) (λi=>(((),(),(R:Int),(i:Int),()),((g.bK,g.aA,g.rows,g.aK,()),(s.bL,s.map,()),()))) (.inl ((false,()),())) (.inr (.inl ((),()))) aV (λk h=>by
    rw[dW]at h;rw[lW];have hk:=BP (R:=R) h (dc R);have hlen:(gj s.map R k).length=R:=HJ (by rw[jV,E];exact hk);have uJ:=aA6 (g:=g) (s:=s) (R:Int) (k:Int) (gj s.map R k) I (by omega);unfold KU az bx xG bU;dsimp only;rw[kE,lM,ak,hb,aW,aq];obtain⟨w1,w2,w3⟩:=TB (s:=s) hR (by omega) (by omega) h E;rw[w1,w2,bg w3];simp only[bD]
    refine(bC (λo=>Option.bind o _) uJ).trans ?_
    rw[ak,hlen];cases (List.range R).all (th (R:Int) (g.rows-1) (gj s.map R k))with
    |false=>rfl
    | true=>
     simp only[aq,Sum.elim_inr,dH];rw[bI]) (by
    rw[dW];unfold KU az bx xG bU;dsimp only;rw[kE,lM,ak,hb,aZ,av]) (by rw[dW];exact bM)
   rw[cv]at e;rw[Y]
   refine(bC (λo=>Option.bind o _) e).trans ?_
   rw[ak];cases (List.range C).all λb=>(List.range R).all (th (R:Int) (g.rows-1) (gj s.map R b))<;>rfl
  ·have e2:((s.map.length:Int)==((C*R:Nat):Int))=false:=by simp only[beq_eq_false_iff_ne];exact hl
   rw[gI hl,e2];rfl
def ak8(g:aG)(s:dw):Ku g s=some (lP g s):=by
 unfold Ku lP bU;rw[Z5,ak,Tt];cases I:kF g s.bL with
 |false=>rfl
 | true=>
  obtain⟨O,s0,s2,iL,HK⟩:=Ts I;have U:=eM g;have gb:=fJ O;obtain⟨C,hb⟩:=dV U.1;obtain⟨R,hR⟩:=dV (show 0<=g.rows-s.bL by omega);have hm:C*R<=8*16:=Nat.mul_le_mul (by omega) (by omega);have Y:W6 (R:Int)=(R:Int):=aY;have hmul:W6 ((C:Int)*(R:Int))=((C*R:Nat):Int):=by rw[<-Int.natCast_mul];exact aY
  rw[pW,ak,hb,hR,Y,hmul];simp only[bD,bG,av,cC];by_cases hl:(s.map.length:Int)=((C*R:Nat):Int)
  ·have yu:s.map.length=C*R:=by omega
   rw[hl,bne_self_eq_false,av,iS,cC];have e:=iu (step:=Kt) (List.range (C*R)) (NF R (g.rows-1) s.map) (λi=>(((),(),(R:Int),(i:Int),()),((g.bK,g.aA,g.rows,g.aK,()),(s.bL,s.map,()),()))) (.inl ((false,()),())) (.inr (.inl ((),()))) aV (λk h=>by
    rw[dW]at h;rw[lW];have h':k<s.map.length:=by omega
    have ht:(k:Int).tmod (R:Int)=((k % R:Nat):Int):=(Int.ofNat_tmod k R).symm;have hd:(k:Int).tdiv (R:Int)=((k / R:Nat):Int):=(Int.ofNat_tdiv k R).symm;have NG:k / R<=k:=Nat.div_le_self k R;have E:k / R*R<=k:=Nat.div_mul_le_self k R;have w1:W6 (((k / R:Nat):Int))=((k / R:Nat):Int):=ak6 (Nat.lt_of_le_of_lt NG (by omega));have w2:W6 (((k / R:Nat):Int)*(R:Int))=((k / R*R:Nat):Int):=by rw[<-Int.natCast_mul];exact ak6 (Nat.lt_of_le_of_lt E (by omega))
    unfold Kt NF az bx xG xI;rw[bT h'];dsimp only;rw[aW,aq,aC ⟨by omega,by omega⟩,bk,aC ⟨by omega,by omega⟩,bk,ht,hd,w1,w2,bg ⟨Int.natCast_nonneg _,Int.ofNat_le.2 E,by omega⟩,aC ⟨by omega,by omega⟩];simp only[bD,fm,ak];rw[aA2 _ _ (by rw[List.length_drop,jf];omega),ak,bI,aY (n:=g.rows-1)];cases s.map[k]==((k % R:Nat):Int)<;>cases aQ s.map[k] (R:Int) (g.rows-1)<;>cases ((s.map.take k).drop (k / R*R)).any (λx=>x==s.map[k])<;>rfl) (by
    rw[dW];unfold Kt az bx xG xI;dsimp only;rw[aZ,av]) (by rw[dW];exact bM)
   rw[cv]at e
   refine(bC (λo=>Option.bind o _) e).trans ?_
   rw[ak,aA5 R C (by omega)];have hAB:((List.range C).all λb=>(List.range R).all (xD (R:Int) (g.rows-1) (gj s.map R b)))=(List.range C).all λb=>(List.range R).all (th (R:Int) (g.rows-1) (gj s.map R b)):=by
    rw[Bool.eq_iff_iff,ck,ck]
    refine forall_congr' λb=>?_
    refine imp_congr_right λD=>?_
    have D:=ga.1 D;have hk:=BP (R:=R) D (dc R);have hlen:(gj s.map R b).length=R:=HJ (by rw[jV,yu];exact hk);have:=aak (R:Int) (g.rows-1) (gj s.map R b) (by rw[hlen]);rw[hlen]at this;rw[this]
   rw[hAB];cases (List.range C).all λb=>(List.range R).all (th (R:Int) (g.rows-1) (gj s.map R b))<;>rfl
  ·have e2:((s.map.length:Int)==((C*R:Nat):Int))=false:=by simp only[beq_eq_false_iff_ne];exact hl
   rw[gI hl,e2];rfl
def cX(g:aG)(s:dw):aG:=bif lP g s then ⟨g.bK,g.aA,W6 (g.rows-s.bL),g.aK⟩else ⟨0,0,0,0⟩
def Eo(g:aG)(s:dw):zi g s=some (cX g s):=by
 unfold zi cX;rw[ak7,ak];cases lP g s<;>rfl
def aA7(g:aG)(s:dw):QY g s=some (cX g s):=by
 unfold QY cX;rw[ak8,ak];cases lP g s<;>rfl
def tj(c:ax):ax:=c
def iP(a x:aM):Bool:=x.ay==a.ay&&(x.row==a.row&&(x.bV==a.bV&&true))
def ak9(l:aa aM)(a:aM)(hl:l.length<1073741824):MP l a=some (gR (iP a) l):=by
 unfold MP gR bU;have e:=ta (step:=MO) l (iP a) (λi=>((l,(),i,()),((a.ay,a.row,a.bV,()),()))) _ _ aV (λk h=>by
  unfold MO iP az bx xG xI;dsimp only;rw[aW,aq,aC ⟨by omega,by omega⟩];simp only[bD];rw[bI];cases (l[k].ay==a.ay&&(l[k].row==a.row&&(l[k].bV==a.bV&&true)))<;>rfl) (by
  unfold MO az bx xG xI;dsimp only;rw[aZ,av]) (bM hl)
 rw[cv]at e;rw[e];cases l.findIdx? _<;>rfl
def ala(l:aa aM)(a:aM)(hl:l.length<1073741824):Gu l a=some (gR (iP a) l):=by
 unfold Gu gR;have e:=ta (step:=K2) l (iP a) (λi=>((l,(),l.length,i,()),((a.ay,a.row,a.bV,()),()))) _ _ aV (λk h=>by
  unfold K2 iP az bx xG xI;dsimp only;rw[aW,aq,aC ⟨by omega,by omega⟩];simp only[bD];rw[bI,BEq.comm (a:=a.ay),BEq.comm (a:=a.row),BEq.comm (a:=a.bV)];cases (l[k].ay==a.ay&&(l[k].row==a.row&&(l[k].bV==a.bV&&true)))<;>rfl) (by
  unfold K2 az bx xG xI;dsimp only;rw[aZ,av]) (bM hl)
 rw[cv]at e;rw[e];cases l.findIdx? _<;>rfl
def partAt(c:ax)(i:Nat):Bool:=match c.bH[i]?,c.guard[i]? with
 |some t,some x=>kT t&&aQ x 3 1000
 |_,_=>false
def BQ(c:ax)(i:Nat):Bool:=match c.pending[i]? with
 |some a=>dO c.config.au a&&(a.bV==0 && !((c.pending.take i).any (iP a)))
 |none=>false
def um(c:ax):Bool:=(c.aS.aJ.length:Int)==aU c.config.au&&((c.bH.length:Int)==aU c.config.au&&((c.guard.length:Int)==aU c.config.au&&(!(decide ((c.pending.length:Int) > 128))&&((List.range c.bH.length).all (partAt c)&&(List.range c.pending.length).all (BQ c)))))
def alb(c:ax)(G:(Int×Int×Int×Int×af))(n i:Int):Rb (((),(),n,i,()),(tj c,G,()))=(bif (decide (i<n))then if C:0<=i/\i.toNat<c.bH.length then (Bf (c.bH[i.toNat]'C.2)).bind λD=>bif (!D)then some (.inr (.inl ((false,()),())))else if E:0<=i/\i.toNat<c.guard.length then (cz (c.guard[i.toNat]'E.2) (3:Int) (1000:Int)).bind λI=>bif (!I)then some (.inr (.inl ((false,()),())))else some (.inl (((),(),n,(W6 (i+(1:Int))),()),(tj c,G,())))else none else none else some (.inr (.inr (.inl (((),(),()),(tj c,G,())))))):=rfl
def alc(c:ax)(g:aG)(l:aa aM)(n i:Int):Rc (((),(),l,n,i,()),(tj c,(g.bK,g.aA,g.rows,g.aK,()),()))=(bif (decide (i<n))then if C:0<=i/\i.toNat<l.length then (zg g (l[i.toNat]'C.2)).bind λD=>bif (!D)then some (.inr (.inl ((false,()),())))else bif ((l[i.toNat]'C.2).bV != (0:Int))then some (.inr (.inl ((false,()),())))else (Gu c.pending (l[i.toNat]'C.2)).bind λE=>bif (E != i)then some (.inr (.inl ((false,()),())))else some (.inl (((),(),l,n,(W6 (i+(1:Int))),()),(tj c,(g.bK,g.aA,g.rows,g.aK,()),())))else none else some (.inr (.inr (.inl ((),()))))):=rfl
def aA8(c:ax)(U:c.aS.aJ.length<1073741824):Rd c=some (fX c.aS&&um c):=by
 unfold Rd um bU;rw[lM,ak,Nx _ U,ak];cases fX c.aS with
 |false=>rfl
 |true=>
 simp only[bG,av,cC];have b1:=eM c.config.au;by_cases C:(c.aS.aJ.length:Int)=aU c.config.au
 ·by_cases D:(c.bH.length:Int)=aU c.config.au
  ·by_cases E:(c.guard.length:Int)=aU c.config.au
   ·have Y:((c.aS.aJ.length:Int) != aU c.config.au)=false:=by simp[C]
    have n2:((c.bH.length:Int) != aU c.config.au)=false:=by simp[D]
    have n3:((c.guard.length:Int) != aU c.config.au)=false:=by simp[E]
    have q1:((c.aS.aJ.length:Int)==aU c.config.au)=true:=by simp[C]
    have q2:((c.bH.length:Int)==aU c.config.au)=true:=by simp[D]
    have q3:((c.guard.length:Int)==aU c.config.au)=true:=by simp[E]
    rw[Y,n2,n3,q1,q2,q3];simp only[av,cC];cases I:decide ((c.pending.length:Int) > 128)with
    |true=>rfl
    | false=>
     have I:=of_decide_eq_false I;have l1:=iu (step:=Rb) (List.range c.bH.length) (partAt c) (λi=>(((),(),(c.bH.length:Int),(i:Int),()),(tj c,(c.config.au.bK,c.config.au.aA,c.config.au.rows,c.config.au.aK,()),()))) (.inl ((false,()),())) (.inr (.inl (((),(),()),(tj c,(c.config.au.bK,c.config.au.aA,c.config.au.rows,c.config.au.aK,()),())))) aV (λk h=>by
      rw[dW]at h;rw[lW,alb,aW,aq,aC ⟨by omega,by omega⟩,aC ⟨by omega,by omega⟩];simp only[bD,aai,dy,ak];unfold partAt;rw[bT h,bT (show k<c.guard.length by omega),bI];simp only;cases kT c.bH[k]<;>cases aQ (c.guard[k]'(by omega)) 3 1000<;>rfl) (by
      rw[dW,alb,aZ,av]) (by rw[dW];exact bM)
     have l2:=iu (step:=Rc) (List.range c.pending.length) (BQ c) (λi=>(((),(),c.pending,(c.pending.length:Int),(i:Int),()),(tj c,(c.config.au.bK,c.config.au.aA,c.config.au.rows,c.config.au.aK,()),()))) (.inl ((false,()),())) (.inr (.inl ((),()))) aV (λk h=>by
      rw[dW]at h;rw[lW,alc,aW,aq,aC ⟨by omega,by omega⟩];simp only[bD,Te,ak,ala _ _ (show c.pending.length<1073741824 by omega),bne];have O:=Ny (p:=iP c.pending[k]) h (by simp[iP]);rw[bne]at O;rw[O];unfold BQ;rw[bT h,bI];simp only;cases dO c.config.au c.pending[k]<;>cases c.pending[k].bV==0<;>cases (c.pending.take k).any (iP c.pending[k])<;>rfl) (by
      rw[dW,alc,aZ,av]) (by rw[dW];exact bM)
     rw[cv]at l1 l2;simp only[jx,av,cC]
     refine(bC (λo=>Option.bind o _) l1).trans ?_
     rw[ak];cases (List.range c.bH.length).all (partAt c)with
     |false=>rfl
     | true=>
      simp only[aq,Sum.elim_inr,dH,cC]
      refine(bC (λo=>Option.bind o _) l2).trans ?_
      rw[ak];cases (List.range c.pending.length).all (BQ c)<;>rfl
   ·simp[C,D,gI E,E]
  ·simp[C,gI D,D]
 ·simp[gI C,C]
def vG(n:Int)(u:Bool)(k:Int):Bool:=bif u then aQ n 0 (k-1)else n==0
def cZ(g:aG)(c:aF):Bool:=ct g&&(aQ c.kind 1 9&&(vG c.ay (aQ c.kind 1 5) (aU g)&&(vG c.row (c.kind==1) g.rows&&vG c.bV (c.kind==2 ||c.kind==3) g.aK)))
def aA9(k:Int):Rw k=some (k==1):=by
 unfold Rw;rfl
def aBa(k:Int):Rx k=some (k==2 || k==3):=by
 unfold Rx;cases k==2<;>rfl
def aal{n k:Int}(u:Bool)(h:-1000<k/\k<1000):DG n u k=some (vG n u k):=by
 rw[aAY,aY];rfl
def TD(g:aG)(c:aF):DH g c=some (cZ g c):=by
 unfold DH cZ;rw[rU];cases C:ct g with
 |false=>rfl
 | true=>
  have D:=eM g;have E:=fJ C;unfold Y4;simp only[aq,lM,ak,dy,NB,aA9,aBa,aal _ (show -1000<aU g/\aU g<1000 by omega),aal _ (show -1000<g.rows/\g.rows<1000 by omega),aal _ (show -1000<g.aK/\g.aK<1000 by omega),cC]
  grind
def aBb(k:Int):SL k=some (aQ k 1 5,k==1,(k==2 || k==3)):=by
 obtain⟨y,e,h⟩:=aAH k;rw[e,h]
def NH(c:aF):Bool:=(aQ c.kind 1 5 ||c.ay==0)&&((c.kind==1 ||c.row==0)&&(((c.kind==2 ||c.kind==3) ||c.bV==0)&&(aQ c.kind 1 9&&(aQ c.ay 0 7&&(aQ c.row 0 15&&aQ c.bV 0 7)))))
def aBc(c:aF):SM c=some (NH c):=by
 unfold SM NH;simp only[aBb,ak,fm,bne]
 grind
def ald(g:aG)(c:aF):ML g c=some (cZ g c):=by
 unfold ML;rw[aBc,ak,akq,ak];have key:(NH c&&dO g ⟨c.ay,c.row,c.bV⟩)=cZ g c:=by
  unfold cZ dO;cases D:ct g with
  |false=>simp
  | true=>
   have I:=eM g;have O:=fJ D;rw[Bool.eq_iff_iff];simp only[NH,vG,aP,eN,eZ,bA,cC];constructor
   ·rintro⟨⟨h1,h2,h3,C,U,Y,h7⟩,⟨h8,h9⟩,BR⟩;refine⟨C,?_,?_,?_⟩
    ·cases hu:aQ c.kind 1 5 with
     |true=>simp[aq,bA];omega
     | false=>simp only[av,eZ];rcases h1 with h1 | h1
              ·exact absurd (bA.2 h1) (by rw[hu];simp)
              ·exact h1
    ·cases hu:c.kind==1 with
     |true=>simp[aq,bA];omega
     | false=>simp only[av,eZ];rcases h2 with h2 | h2
              ·simp_all
              ·exact h2
    ·cases hu:(c.kind==2 || c.kind==3)with
     |true=>simp[aq,bA];omega
     | false=>simp only[av,eZ];rcases h3 with (h3 | h3) | h3
              ·simp_all
              ·simp_all
              ·exact h3
   ·rintro⟨h1,h2,h3,C⟩;have f1:(1 <= c.kind/\c.kind <= 5 \/ c.ay=0)/\0 <= c.ay/\c.ay <= aU g-1:=by
     cases hu:aQ c.kind 1 5 with
     |true=>rw[hu,aq,bA]at h2;exact⟨.inl (bA.1 hu),h2⟩
     |false=>rw[hu,av,eZ]at h2;have:=Ed D;exact⟨.inr h2,by omega⟩
    have f2:(c.kind=1 \/ c.row=0)/\0 <= c.row/\c.row <= g.rows-1:=by
     cases hu:c.kind==1 with
     |true=>rw[hu,aq,bA]at h3;exact⟨.inl (by simpa using hu),h3⟩
     |false=>grind
    have E:((c.kind=2 \/ c.kind=3) \/ c.bV=0)/\0 <= c.bV/\c.bV <= g.aK-1:=by
     cases hu:(c.kind==2 ||c.kind==3)with
     |true=>rw[hu,aq,bA]at C;exact⟨.inl (by simpa using hu),C⟩
     |false=>simp_all
    exact⟨⟨f1.1,f2.1,E.1,h1,by omega,by omega,by omega⟩,⟨by omega,by omega⟩,by omega⟩
 rw[<- key];cases NH c<;>rfl
def rX{g:aG}{c:aF}(h:cZ g c=true):ct g=true/\(1 <= c.kind/\c.kind <= 9)/\(c.kind <= 5 -> 0 <= c.ay/\c.ay<aU g)/\(5<c.kind -> c.ay=0):=by
 simp[cZ,aP,bA]at h
 refine⟨h.1,h.2.1,λD=>?_,λD=>?_⟩
 ·have:=h.2.2.1;rw[vG,show aQ _ 1 5=true from bA.2 ⟨h.2.1.1,D⟩,aq,bA]at this;omega
 ·have:=h.2.2.1;have C:aQ c.kind 1 5=false:=by
   cases C:aQ _ 1 5 with
   |false=>rfl
   |true=>have:=bA.1 C;omega
  rwa [vG,C,av,eZ]at this
def kinds{k:Int}(h:1<=k/\k<=9):k=1\/k=2\/k=3\/k=4\/k=5\/k=6\/k=7\/k=8\/k=9:=by omega
def ez(r:bX)(b:Int):di:=r.aA.getD b.toNat ⟨false,0⟩
def jr(r:bX)(c:aF):Bool:=
 bif c.kind==1 ||c.kind==5 then r.aR==0 && !(ez r c.ay).open_ else
 bif c.kind==2 ||c.kind==3 ||c.kind==4 then r.aR==0&&(ez r c.ay).open_ else
 bif c.kind==6 then r.aR==0 else
 bif c.kind==8 then r.aR==0&&r.aA.all (λb=>!b.open_)else
 bif c.kind==7 then r.aR==1 else r.aR==2
def ff(r:bX)(c:aF):bX:=
 bif c.kind==1 then ⟨r.aA.set c.ay.toNat ⟨true,c.row⟩,r.aR⟩else
 bif c.kind==4 then ⟨r.aA.set c.ay.toNat ⟨false,0⟩,r.aR⟩else
 bif c.kind==6 then ⟨r.aA,1⟩else
 bif c.kind==8 then ⟨r.aA,2⟩else
 bif c.kind==7 ||c.kind==9 then ⟨r.aA,0⟩else r
def ale{r:bX}{b:Int}(h:b.toNat<r.aA.length):r.aA[b.toNat]=ez r b:=by
 simp[ez,h]
def alf(r:bX):(((opens 0 r.aA).length:Int)==0)=r.aA.all λb=>!b.open_:=by
 rw[<-akX 0 r.aA,Bool.eq_iff_iff];simp only[eZ];omega
def alg(r:bX)(h:r.aA.length<1073741823):Mw r=some (opens 0 r.aA):=by
 unfold Mw bw;have e:=xy (step:=Hi) (λi=>(((),(),(i:Int),()),((r.aA,r.aR,()),opens 0 (r.aA.take i),()))) (z:=.inl (((),()),(opens 0 r.aA,()))) r.aA.length 0 aV (λk _ C=>?_) ?_ (by unfold aV;omega)
 ·have e:iter Hi aV (((),(),0,()),((r.aA,r.aR,()),([]),()))=_:=e;simp_all
 ·have C:k<r.aA.length:=by omega
  unfold Hi az xG xI;dsimp only;have D:decide ((k:Int)<(r.aA.length:Int))=true:=aW;have E:0 <= (k:Int)/\(k:Int).toNat<r.aA.length:=⟨by omega,by simpa using C⟩
  have hl:=Tg 0 (r.aA.take k);rw[jf]at hl;have I:bE ((opens 0 (r.aA.take k)).length+([(k:Int)]:aa Int).length)=true:=by
   unfold bE;simp;omega
  rw[D,aq,aC E,ug,nD C,ZX];simp only[bD,opens,jf,fB,Nat.min_eq_left (Nat.le_of_lt C)];cases r.aA[k].open_ with
  |true=>grind
  |false=>grind
 ·rw[fB];unfold Hi az xG xI;simp_all
def aBd{r:bX}{c:aF}(C:1 <= c.kind/\c.kind <= 9)(hb:c.kind <= 5 -> 0 <= c.ay/\c.ay.toNat<r.aA.length)(hl:r.aA.length<1073741823):Su r c=some (jr r c):=by
 unfold Su jr xI;rcases kinds C with h|h|h|h|h|h|h|h|h
 case inr.inr.inr.inr.inr.inr.inr.inl=>simp[h,alg r hl,alf];cases r.aR==0<;>rfl
 all_goals (try (have hb:=hb _))<;>simp[h,hb,ale]<;>(cases r.aR==0<;>rfl)
def aam(g:aG)(r:bX)(c:aF):Lr g r c=some (mj g r&&(cZ g c&&jr r c)):=by
 unfold Lr xI;rw[akY,ak];cases C:mj g r with
 |false=>rfl
 | true=>
  rw[TD,ak];cases D:cZ g c with
  |false=>rfl
  | true=>
   have⟨I,E,hb,_⟩:=rX D;have hlen:(r.aA.length:Int)=aU g:=by
    simp[mj,aP,eZ]at C;simp_all
   have O:=eM g;have hb:c.kind <= 5 -> 0 <= c.ay/\c.ay.toNat<r.aA.length:=λh=>by have:=hb h;omega
   have hl:r.aA.length<1073741823:=by omega
   simp only[bG,av,cC];unfold jr;rcases kinds E with h|h|h|h|h|h|h|h|h
   case inr.inr.inr.inr.inr.inr.inr.inl=>simp[h,Th r hl,alf];cases r.aR==0<;>rfl
   all_goals (try (have hb:=hb (by omega)))<;>simp[h,hb,ale]<;>(cases r.aR==0<;>rfl)
def kU(g:aG)(r:bX)(c:aF):Bool:=mj g r&&(cZ g c&&jr r c)
def HL(g:aG)(r:bX)(c:aF):bX×Bool:=bif kU g r c then (ff r c,true)else (r,false)
def vH{g:aG}{r:bX}{c:aF}(h:kU g r c=true):ct g=true/\(r.aA.length:Int)=aU g/\(1 <= c.kind/\c.kind <= 9)/\(c.kind <= 5 -> 0 <= c.ay/\c.ay.toNat<r.aA.length):=by
 simp[kU,aP]at h;have⟨D,E,hb,_⟩:=rX h.2.1;have C:=h.1;simp[mj,aP,eZ]at C;simp_all
def aBe(r:bX):(⟨r.aA,r.aR⟩:bX)=r:=rfl
def aBf(r:bX)(h:r.aA.length<1073741824):GB r=some r:=by
 unfold GB xA xZ;rw[show ([]).length+r.aA.length=r.aA.length by simp,cF h];rfl
def aan(g:aG)(r:bX)(c:aF)(h:r.aA.length<1073741824):zu g r c=some (HL g r c):=by
 unfold zu HL xL;rw[aBf r h,aam];change (bif !(kU g r c)then _ else _)=_;cases C:kU g r c with
 |false=>rfl
 | true=>
  have⟨D,hlen,E,hb⟩:=vH C;unfold ff
  grind
def kV(g:aG):bX:=⟨List.replicate (aU g).toNat ⟨false,0⟩,0⟩
def aao(g:aG):Gi g=some (kV g):=by
 have D:=eM g;unfold Gi kV;rw[rU,ak];cases C:ct g with
 | false=>
  have:aU g=0:=by simp[aU,C]
  rw[this];rfl
 | true=>
  simp only[bG,av,lM,ak];rw[bg ⟨by omega,by omega,by omega⟩]
def aBg(g:aG):QO g=some (kV g):=by
 have C:=eM g;unfold QO kV;rw[pW,ak,bg ⟨by omega,by omega,by omega⟩]
def aap(r:bX)(c:aF):(ff r c).aA.length=r.aA.length:=by
 unfold ff
 grind
def vI(t:cg)(a b:Int):Int:=
 bif a==1 then (bif b==2 ||b==3 then t.lX else bif b==4 then t.iC else bif b==1 ||b==5 then W6 (t.iC+t.rp)else 0)else
 bif a==2 then (bif b==4 then t.kj else bif b==1 ||b==5 then W6 (t.kj+t.rp)else 0)else
 bif a==3 then (bif b==4 then t.wr else bif b==1 ||b==5 then W6 (t.wr+t.rp)else 0)else
 bif a==4 then (bif b==1 ||b==5 then t.rp else 0)else
 bif a==5 then (bif b==1 ||b==5 then t.pn else 0)else 0
def xE(t:cg)(a b:Int)(C:Bool):Int:=
 bif a==7 then t.xp else bif a==9 then t.xs else
 bif (a==6&&b==7) ||(a==8&&b==9)then t.qi else
 bif a==1&&b==1 then (bif C then t.lY else t.o6)else
 bif (a==2&&b==2) ||(a==3&&b==3)then (bif C then t.o8 else t.o7)else
 bif a==3&&b==2 then (bif C then t.pg else t.o9)else
 bif a==2&&b==3 then t.su else
 bif a==5&&b==5 then t.lY else
 bif a==2&&b==6 then t.kj else bif a==3&&b==6 then t.wr else
 bif b==8 then vI t a 1 else 0
def aBh(t:cg){a b:Int}(C:1<=a/\a<=9)(hb:1<=b/\b<=9):Rz t a b=some (vI t a b):=by
 rcases kinds C with rfl|rfl|rfl|rfl|rfl|rfl|rfl|rfl|rfl<;>rcases kinds hb with rfl|rfl|rfl|rfl|rfl|rfl|rfl|rfl|rfl<;>kernel_rfl
def aaq(t:cg){a b:Int}(C:Bool)(D:1<=a/\a<=9)(hb:1<=b/\b<=9):RB t a b C=some (xE t a b C):=by
 cases C<;>rcases kinds D with rfl|rfl|rfl|rfl|rfl|rfl|rfl|rfl|rfl<;>rcases kinds hb with rfl|rfl|rfl|rfl|rfl|rfl|rfl|rfl|rfl<;>kernel_rfl
def alh{t:cg}(C:iy t=true){a b:Int}(D:1 <= a/\a <= 9)(hb:1 <= b/\b <= 9):Mx t a b=some (vI t a b):=by
 unfold Mx;rw[Tq,ak,C,bG];rcases kinds D with rfl|rfl|rfl|rfl|rfl|rfl|rfl|rfl|rfl<;>rcases kinds hb with rfl|rfl|rfl|rfl|rfl|rfl|rfl|rfl|rfl<;>kernel_rfl
def aar{t:cg}(E:iy t=true){a b:Int}(D:Bool)(C:1 <= a/\a <= 9)(hb:1 <= b/\b <= 9):My t a b D=some (xE t a b D):=by
 unfold My;rw[Tq,ak,E,bG,av,fm,ak,bA.2 C,bG,av,fm,ak,bA.2 hb,bG];by_cases I:b=8/\a≠7/\a≠9
 ·obtain⟨rfl,O,U⟩:=I;have e:=alh E C (b:=1) (by omega);rcases kinds C with rfl|rfl|rfl|rfl|rfl|rfl|rfl|rfl|rfl<;>first|exact absurd rfl O|exact absurd rfl U|simp[e,xE]
 ·cases D<;>rcases kinds C with rfl|rfl|rfl|rfl|rfl|rfl|rfl|rfl|rfl<;>rcases kinds hb with rfl|rfl|rfl|rfl|rfl|rfl|rfl|rfl|rfl<;>first|exact absurd ⟨rfl,by omega,by omega⟩ I|kernel_rfl
def vJ(a b:aF):Bool:=aQ a.kind 1 5&&aQ b.kind 1 5
def Ep(g:aG)(a b:aF):Bool:=vJ a b&&(W6 (a.ay.tdiv g.aA)==W6 (b.ay.tdiv g.aA))
def jD(g:aG)(t:cg)(a b:aF):Int:=
 bif vJ a b&&a.ay==b.ay then max (max 1 (xE t a.kind b.kind (Ep g a b))) (vI t a.kind b.kind)else max 1 (xE t a.kind b.kind (Ep g a b))
def NI(x y:Int):(if x > y then x else y)=max x y:=by
 rw[Int.max_def];split<;>split<;>omega
def ali{g:aG}{b:Int}(h:0<=b/\b<aU g)(C:ct g=true):Ls g b=some (W6 (b.tdiv g.aA)):=by
 have D:=eM g;have E:=fJ C;unfold Ls;rw[lM,ak,dy,ak,aY,bA.2 ⟨h.1,by omega⟩,bG,av,bk]
def NJ{k:Int}(h:1<=k/\k<=9):aQ k 1 5=decide (k<=5):=by
 unfold aQ;rw[aW h.1,cC]
def alj{g:aG}(t:cg){a b:aF}(E:ct g=true)(C:1 <= a.kind/\a.kind <= 9)(D:1 <= b.kind/\b.kind <= 9)(I:a.kind <= 5 -> 0 <= a.ay/\a.ay<aU g)(O:b.kind <= 5 -> 0 <= b.ay/\b.ay<aU g):Bm g t a b=some (jD g t a b):=by
 unfold Bm jD Ep vJ;simp only[NB,ak];cases U:aQ a.kind 1 5 with
 | false=>
  simp;rw[aaq t false C D,ak,NI,Int.max_comm]
 | true=>
  cases Y:aQ b.kind 1 5 with
  | false=>
   simp;rw[aaq t false C D,ak,NI,Int.max_comm]
  | true=>
   have ua':=bA.1 U;have ub':=bA.1 Y;simp only[aq,cC];rw[ali (I ua'.2) E,ak,ali (O ub'.2) E,ak,aaq t _ C D,ak,aBh t C D];cases a.ay==b.ay with
   |false=>grind
   |true =>grind
def aBi{g:aG}{t:cg}{a b:aF}(I:ct g=true)(E:iy t=true)(C:1 <= a.kind/\a.kind <= 9)(D:1 <= b.kind/\b.kind <= 9):BE g t a b=some (jD g t a b):=by
 have O:=fJ I;unfold BE jD Ep vJ;rw[NJ C,NJ D];cases decide (a.kind <= 5)with
 | false=>
  simp;rw[aar E false C D,ak,NI]
 | true=>
  cases decide (b.kind <= 5)with
  | false=>
   simp;rw[aar E false C D,ak,NI]
  | true=>
   simp only[aq,cC,Bool.and_self];rw[bk,bk,aar E _ C D,ak,alh E C D]
   grind
def aBj(g:aG)(t:cg)(a b:aF):1<=jD g t a b:=by
 unfold jD;cases vJ a b&&a.ay==b.ay<;>simp only[aq,av]<;>omega
def aas{t:cg}(h:iy t=true):∀ x∈p6 t,1 <= x/\x <= 64:=by
 simp[iy,aP,ck]at h;exact λx C=>bA.1 (h.1 x C)
def alk{t:cg}(h:iy t=true)(a b:Int):0 <= vI t a b/\vI t a b <= 128:=by
 have hb:=aas h;simp only[p6,gZ,List.not_mem_nil,or_false,forall_eq_or_imp,forall_eq]at hb;have⟨C,D,E,I,O,U,Y,h8,h9,BR,uf,rT,qW,vL,xF,nt,xq⟩:=hb;unfold vI;rw[aY (n:=t.iC+t.rp),aY (n:=t.kj+t.rp),aY (n:=t.wr+t.rp)]
 grind
def qX{c:Bool}{x y a b:Int}(C:a<=x/\x<=b)(D:a<=y/\y<=b):a<=(bif c then x else y)/\(bif c then x else y)<=b:=by
 cases c
 ·exact D
 ·exact C
def aBk{t:cg}(h:iy t=true)(a b:Int)(n:Bool):0 <= xE t a b n/\xE t a b n <= 128:=by
 have hb:=aas h;simp[p6,gZ,forall_eq_or_imp,forall_eq]at hb;have C:=alk h a 1
 repeat' (first|exact C|refine qX ?_ ?_|omega)
def fY(g:aG)(c:aF):Int:=9*(bif aQ c.kind 1 5 then c.ay else aU g)+c.kind-1
def Et{g:aG}{c:aF}(h:cZ g c=true):0 <= fY g c/\fY g c<9*(aU g+1):=by
 have⟨C,D,hb,_⟩:=rX h;have E:=eM g;unfold fY
 grind
def aBl{g:aG}{c:aF}(h:cZ g c=true):RN g c=some (fY g c):=by
 have⟨C,D,hb,_⟩:=rX h;have E:=eM g;unfold RN fY;simp[lM,ak,NB];cases hu:aQ _ 1 5 with
 | true=>
  have:=bA.1 hu;simp;rw[aY (n:=9*c.ay),aY (n:=9*c.ay+c.kind),aY]
 | false=>
  simp;rw[aY (n:=9*aU g),aY (n:=9*aU g+c.kind),aY]
def alm(r:c9)(C:r.last.length<1073741824)(D:r.aT.length<1073741824):GC r=some r:=by
 unfold GC xA xZ;rw[show ([]).length+r.last.length=r.last.length by simp,cF C,show ([]).length+r.aT.length=r.aT.length by simp,cF D];rfl
def aln(r:c9)(C:r.last.length<1073741824)(D:r.aT.length<1073741824):vv r=some r:=alm r C D
def vM(r:c9)(x:Int):Bool:=match r.aT.getLast? with
 |some y=>decide (x<=y)
 |none=>false
def zN(l:aa Int)(x:Int):aa Int:=(l++[x]).drop (l.length+1-4)
def kH(g:aG)(r:c9)(e:bW):c9:=
 bif kf g r&&(cZ g e.cmd&&(aQ e.at_ 0 1000000 && !(e.cmd.kind==1&&vM r e.at_)))then ⟨r.last.set (fY g e.cmd).toNat e.at_,bif e.cmd.kind==1 then zN r.aT e.at_ else r.aT⟩else r
def Eu{g:aG}{r:c9}(h:kf g r=true):ct g=true/\(r.last.length:Int)=9*(aU g+1)/\r.aT.length <= 4:=by
 simp[kf,aP,eZ,ij,qh]at h
 grind
def alo{l:aa Int}(h:0<l.length)(C:(W6 ((l.length:Int)-1)).toNat<l.length)(hl:l.length<1073741824):l.getLast?=some (l[(W6 ((l.length:Int)-1)).toNat]'C):=by
 have e:(W6 ((l.length:Int)-1)).toNat=l.length-1:=by rw[aY];omega
 simp only[e];rw[List.getLast?_eq_getElem?,bT (by omega)]
def alp(g:aG)(r:c9)(e:bW)(O:r.last.length<1073741824)(U:r.aT.length<1073741824):GX g r e=some (kH g r e):=by
 unfold GX kH xA xI xL xZ;rw[alm r O U,ak,aaj,ak];cases Y:kf g r with
 |false=>rfl
 | true=>
  simp only[bG,av,cC];rw[TD,ak];cases D:cZ g e.cmd with
  |false=>rfl
  | true=>
   simp only[bG,av,cC];rw[dy,ak];cases ha:aQ e.at_ 0 1000000 with
   |false=>rfl
   | true=>
    obtain⟨hg,hl,h4⟩:=Eu Y;have E:=Et D;have b1:=eM g;simp only[bG,av,cC,aBl D,ak];cases hk:(e.cmd.kind==1)with
    | false=>
     simp only[av,Bool.false_and,jx,aq];rw[aC ⟨E.1,by omega⟩,aC]
    | true=>
     have tl:∀ (A B:ah c9),(if rT:0<=fY g e.cmd/\(fY g e.cmd).toNat<r.last.length then if qW:(fY g e.cmd).toNat<r.last.length then (bif bE (r.aT.length+([e.at_]:aa Int).length)then if 0<=(if W6 (((r.aT++[e.at_]).length:Int)-4) > 0 then W6 (((r.aT++[e.at_]).length:Int)-4)else 0)/\(if W6 (((r.aT++[e.at_]).length:Int)-4) > 0 then W6 (((r.aT++[e.at_]).length:Int)-4)else 0)<=((r.aT++[e.at_]).length:Int)/\((r.aT++[e.at_]).length:Int)<=((r.aT++[e.at_]).length:Int)then bif bE (([]:aa Int).length+(((r.aT++[e.at_]).take (((r.aT++[e.at_]).length:Int).toNat)).drop ((if W6 (((r.aT++[e.at_]).length:Int)-4) > 0 then W6 (((r.aT++[e.at_]).length:Int)-4)else 0).toNat)).length)then some (⟨(r.last.set (fY g e.cmd).toNat e.at_),(([]:aa Int)++(((r.aT++[e.at_]).take (((r.aT++[e.at_]).length:Int).toNat)).drop ((if W6 (((r.aT++[e.at_]).length:Int)-4) > 0 then W6 (((r.aT++[e.at_]).length:Int)-4)else 0).toNat)))⟩:c9)else none else none else none)else A else B)=some ⟨r.last.set (fY g e.cmd).toNat e.at_,zN r.aT e.at_⟩:=by
      intro A B;have eL:(r.aT++[e.at_]).length=r.aT.length+1:=by simp
      have ew:(if W6 (((r.aT.length+1:Nat):Int)-4) > 0 then W6 (((r.aT.length+1:Nat):Int)-4)else 0)=((r.aT.length+1-4:Nat):Int):=by
       rw[aY];split<;>omega
      rw[aC ⟨E.1,by omega⟩,aC,cF (by simp;omega),aq,eL,ew,bg ⟨by omega,by omega,by omega⟩,cF (by simp;omega),aq];unfold zN;simp only[bD,kJ];rw[<-eL,iR]
     simp only[aq,cC];unfold vM;by_cases C:0<r.aT.length
     ·have I:(W6 ((r.aT.length:Int)-1))=((r.aT.length-1:Nat):Int):=by rw[aY];omega
      have hi:(W6 ((r.aT.length:Int)-1)).toNat<r.aT.length:=by rw[I];omega
      rw[aW (show (r.aT.length:Int) > 0 by omega),aq,aC ⟨by rw[I];omega,hi⟩,alo C hi (by omega)];dsimp only;cases decide (e.at_<=r.aT[(W6 ((r.aT.length:Int)-1)).toNat])with
      |true=>rfl
      | false=>
       simp only[av,jx,aq];exact tl _ _
     ·have C:r.aT=[]:=List.eq_nil_of_length_eq_zero (by omega);rw[aZ (by rw[C];simp),av];rw[show r.aT.getLast?=none by rw[C];rfl];simp only[jx,aq];exact tl _ _
def aBm(g:aG)(r:c9)(e:bW)(h1:r.last.length<1073741824)(h2:r.aT.length<1073741824):SP g r e=some (kH g r e):=by
 unfold SP kH xA xI xL xZ;rw[aln r h1 h2,ak,aA1,ak];cases hr:kf g r with
 |false=>rfl
 | true=>
  simp only[bG,av,cC];rw[ald,ak];cases O:cZ g e.cmd with
  |false=>rfl
  | true=>
   simp only[bG,av,cC];rw[fm,ak];cases ha:aQ e.at_ 0 1000000 with
   |false=>rfl
   | true=>
    obtain⟨hg,hl,h4⟩:=Eu hr;obtain⟨_,xH,hb,_⟩:=rX O;have hp:=Et O;have b1:=eM g;have pl:fY g e.cmd=bif decide (e.cmd.kind<=5)then 9*e.cmd.ay+e.cmd.kind-1 else 9*aU g+e.cmd.kind-1:=by
     unfold fY;rw[NJ xH];cases decide (e.cmd.kind<=5)<;>rfl
    have U:decide (e.cmd.kind<=5)=true->W6 (W6 (W6 (9*e.cmd.ay)+e.cmd.kind)-1)=fY g e.cmd:=by
     intro C;have:=hb (of_decide_eq_true C);rw[aY (n:=9*e.cmd.ay),aY (n:=9*e.cmd.ay+e.cmd.kind),aY,pl,C];rfl
    have hW2:decide (e.cmd.kind<=5)=false->W6 (W6 (W6 (9*aU g)+e.cmd.kind)-1)=fY g e.cmd:=by
     intro C;rw[aY (n:=9*aU g),aY (n:=9*aU g+e.cmd.kind),aY,pl,C];rfl
    have E:∀l:aa Int,l.length<1073741824->vv ⟨r.last.set (fY g e.cmd).toNat e.at_,l⟩=some ⟨r.last.set (fY g e.cmd).toNat e.at_,l⟩:=λl yu=>aln _ (by simp;omega) yu
    have D:0<=fY g e.cmd/\(fY g e.cmd).toNat<r.last.length:=⟨hp.1,by omega⟩
    have o1:bE (([]:aa Int).length+r.aT.length)=true:=cF (by simp;omega);have o2:bE ((([]:aa Int)++r.aT).length+([e.at_]:aa Int).length)=true:=cF (by simp;omega);have eL:((([]:aa Int)++r.aT)++([e.at_]:aa Int)).length=r.aT.length+1:=by simp
    have Y:(bif decide ((((r.aT.length+1:Nat):Int)) > 4)then if 0<=(1:Int)/\(1:Int)<=((r.aT.length+1:Nat):Int)/\((r.aT.length+1:Nat):Int)<=((r.aT.length+1:Nat):Int)then (vv (⟨r.last.set (fY g e.cmd).toNat e.at_,(((([]:aa Int)++r.aT)++([e.at_]:aa Int)).take (((r.aT.length+1:Nat):Int).toNat)).drop ((1:Int).toNat)⟩:c9)).bind λfR=>some fR else none else (vv (⟨r.last.set (fY g e.cmd).toNat e.at_,((([]:aa Int)++r.aT)++([e.at_]:aa Int))⟩:c9)).bind λgC=>some gC)=some ⟨r.last.set (fY g e.cmd).toNat e.at_,zN r.aT e.at_⟩:=by
     have et:((([]:aa Int)++r.aT)++([e.at_]:aa Int)).take (((r.aT.length+1:Nat):Int).toNat)=r.aT++[e.at_]:=by
      rw[bD,<-eL,iR,kJ]
     rw[et];unfold zN;by_cases h5:4<=r.aT.length
     ·rw[aW,aq,bg ⟨by omega,by omega,by omega⟩,E _ (by simp;omega),ak,show r.aT.length+1-4=1 by omega];rfl
     ·rw[aZ,av,E _ (by simp;omega),ak,show r.aT.length+1-4=0 by omega];rfl
    simp only[bG,av,cC,pW,ak];cases hk:(e.cmd.kind==1)with
    | false=>
     cases C:decide (e.cmd.kind<=5)with
     | true=>
      simp only[av,Bool.false_and,jx,aq,U C];rw[aC D,aC D.2,E _ (by omega),ak]
     | false=>
      simp only[av,Bool.false_and,jx,aq,hW2 C];rw[aC D,aC D.2,E _ (by omega),ak]
    | true=>
     have C:decide (e.cmd.kind<=5)=true:=by
      have:e.cmd.kind=1:=by simpa using hk
      exact aW
     simp only[aq,cC,C,U C,o1,o2,eL];unfold vM;by_cases I:0<r.aT.length
     ·have hw:(W6 ((r.aT.length:Int)-1))=((r.aT.length-1:Nat):Int):=by rw[aY];omega
      have hi:(W6 ((r.aT.length:Int)-1)).toNat<r.aT.length:=by rw[hw];omega
      rw[aW (show (r.aT.length:Int) > 0 by omega),aq,aC ⟨by rw[hw];omega,hi⟩,alo I hi (by omega)];dsimp only;rw[show decide (r.aT[(W6 ((r.aT.length:Int)-1)).toNat] >= e.at_)=decide (e.at_<=r.aT[(W6 ((r.aT.length:Int)-1)).toNat])from rfl];cases decide (e.at_<=r.aT[(W6 ((r.aT.length:Int)-1)).toNat])with
      |true=>rfl
      | false=>
       simp only[av,jx,aq];rw[aC D,aC D.2];exact Y
     ·have I:r.aT=[]:=List.eq_nil_of_length_eq_zero (by omega);rw[aZ (by rw[I];simp),av];rw[show r.aT.getLast?=none by rw[I];rfl];simp only[jx,aq];rw[aC D,aC D.2];exact Y
def oe{A T:Type}(f:Nat->A->T->ah A):Nat->aa T->A->ah A
 |_,[],a=>some a
 | k,x :: l,a=>match f k a x with
  |some C=>oe f (k+1) l C
  |none=>none
def aat{α β T A:Type}{step:α->ah (α⊕β)}(f:Nat->A->T->ah A)(S:Nat->A->α)(zf:Nat->A->T->β)(z:A->β)(I:Nat->A->Prop):∀ (l:aa T) (k:Nat) (a:A) (fuel:Nat),I k a->l.length<fuel->
  (∀i (h:i<l.length) a,I (k+i) a->step (S (k+i) a)=some (match f (k+i) a l[i]with|some C=>.inl (S (k+i+1) C)|none=>.inr (zf (k+i) a l[i])))->
  (∀i (h:i<l.length) a C,I (k+i) a->f (k+i) a l[i]=some C->I (k+i+1) C)->
  (∀a,I (k+l.length) a->step (S (k+l.length) a)=some (.inr (z a)))->
  (∃C,oe f k l a=some C/\I (k+l.length) C/\iter step fuel (S k a)=some (z C))\/(oe f k l a=none/\∃i C,∃(h:i<l.length),I (k+i) C/\f (k+i) C l[i]=none/\iter step fuel (S k a)=some (zf (k+i) C l[i]))
 | [],k,a,fuel,E,Y,hs,hI,hz=>by
  obtain⟨n,rfl⟩:∃n,fuel=n+1:=⟨fuel-1,by simp at Y;omega⟩
  refine .inl ⟨a,rfl,by simpa using E,?_⟩;have:=hz a (by simpa using E);rw[List.length_nil,Nat.add_zero]at this;simp only[iter,this]
 | x :: l,k,a,fuel,E,Y,hs,hI,hz=>by
  obtain⟨n,rfl⟩:∃n,fuel=n+1:=⟨fuel-1,by simp at Y;omega⟩
  have O:=hs 0 (by simp) a (by simpa using E);simp only[Nat.add_zero,ri]at O;cases D:f k a x with
  | none=>
   rw[D]at O;refine .inr ⟨by simp only[oe,D],0,a,by simp,by simpa using E,by simpa using D,?_⟩;simp only[iter,O,Nat.add_zero,ri]
  | some a1=>
   rw[D]at O;have h1:I (k+1) a1:=by
    have:=hI 0 (by simp) a a1 (by simpa using E) (by simpa using D)
    simpa using this
   have ih:=aat f S zf z I l (k+1) a1 n h1 (by simp at Y;omega) (λi h a U=>by
     have e:=hs (i+1) (by simp;omega) a (by rw[show k+(i+1)=k+1+i by omega];exact U);rw[show k+(i+1)=k+1+i by omega]at e
     simpa using e) (λi h a C U hff=>by
     have e:=hI (i+1) (by simp;omega) a C (by rw[show k+(i+1)=k+1+i by omega];exact U) (by rw[show k+(i+1)=k+1+i by omega];simpa using hff);rw[show k+(i+1)=k+1+i by omega]at e;exact e) (λa U=>by
     have e:=hz a (by simp only[mU];rw[show k+(l.length+1)=k+1+l.length by omega];exact U);simp only[mU]at e;rw[show k+(l.length+1)=k+1+l.length by omega]at e;exact e)
   have iZ:iter step (n+1) (S k a)=iter step n (S (k+1) a1):=by simp only[iter,O]
   rcases ih with ⟨C,e1,e2,e3⟩|⟨e1,i,C,h,e2,e3,e4⟩
   ·refine .inl ⟨C,by simp only[oe,D];exact e1,?_,by rw[iZ];exact e3⟩;simp only[mU];rw[show k+(l.length+1)=k+1+l.length by omega];exact e2
   ·refine .inr ⟨by simp only[oe,D];exact e1,i+1,C,by simp;omega,?_,?_,?_⟩
    ·rw[show k+(i+1)=k+1+i by omega];exact e2
    ·rw[show k+(i+1)=k+1+i by omega];simpa using e3
    ·rw[iZ,show k+(i+1)=k+1+i by omega];simpa using e4
def dG(l:aa bW):aa Int:=(l.filter λe=>e.cmd.kind==1).map (·.at_)
def aBn{l:aa bW}{i:Nat}(h:i<l.length):dG (l.take (i+1))=bif l[i].cmd.kind==1 then dG (l.take i)++[l[i].at_]else dG (l.take i):=by
 unfold dG;rw[nD h,List.filter_append,List.map_append];cases C:(l[i].cmd.kind==1)<;>simp[List.filter,C]
def alq(l:aa bW):(dG l).length<=l.length:=by
 unfold dG;rw[fN];exact List.length_filter_le _ _
def aBo(l:aa bW)(hl:l.length<1073741823):S5 l=some (dG l):=by
 have e:=cI (step:=Nf) l.length (λi=>(((),l,(l.length:Int),(i:Int),()),(dG (l.take i),()))) (.inl (((),()),(dG l,()))) aV (λk h=>by
  have hlen:=alq (l.take k);rw[jf]at hlen;unfold Nf az xG xI;dsimp only;rw[aW,aq,aC ⟨by omega,by omega⟩,bI,aBn h];simp only[bD];cases l[k].cmd.kind==1 with
  |true=>rw[aq,cF (by simp;omega)];rfl
  |false=>rfl) (by
  unfold Nf az xG xI;dsimp only;rw[aZ,av,iR]) (bM)
 unfold S5 bw;rw[cv,List.take_zero]at e;exact(bC (λo=>Option.bind o _) e).trans rfl
def zO(g:aG)(e:bW):Bool:=cZ g e.cmd&&aQ e.at_ 0 1000000
def aau{g:aG}{e:bW}(h:zO g e=true):cZ g e.cmd=true/\0<=e.at_/\e.at_<=1000000:=by
 simp only[zO,aP,bA]at h;exact h
def TE{t:cg}(C:iy t=true)(g:aG)(a b:aF):1 <= jD g t a b/\jD g t a b <= 128:=by
 have D:=aBk C a.kind b.kind (Ep g a b);have E:=alk C a.kind b.kind;unfold jD
 grind
def aBp{g:aG}{t:cg}{a b:aF}(C:cZ g a=true)(hb:cZ g b=true):Bm g t a b=some (jD g t a b):=by
 obtain⟨D,E,I,_⟩:=rX C;obtain⟨_,O,U,_⟩:=rX hb;exact alj t D E O I U
def vN(g:aG)(t:cg)(l:aa bW)(e:bW):Bool:=l.any λx=>decide (e.at_-x.at_<jD g t x.cmd e.cmd)
def BS(g:aG)(t:cg)(l:aa bW)(c:aF):Int:=l.foldl (λm x=>max m (x.at_+jD g t x.cmd c)) 0
def aBq{g:aG}{t:cg}{l:aa bW}{c:aF}{i:Nat}(h:i<l.length):BS g t (l.take (i+1)) c=max (BS g t (l.take i) c) (l[i].at_+jD g t l[i].cmd c):=by
 unfold BS;rw[nD h,List.foldl_append];rfl
def alr(g:aG)(t:cg)(l:aa bW)(c:aF)(m i n:Int):S4 (((),(),(),m,l,n,i,()),((g.bK,g.aA,g.rows,g.aK,()),t,(c.kind,c.ay,c.row,c.bV,()),())) =
  bif decide (i<n)then if C:0<=i/\i.toNat<l.length then ((Bm g t (l[i.toNat]'C.2).cmd c).bind λD=>some (.inl (((),(),(),(if (W6 ((l[i.toNat]'C.2).at_+D)) > m then (W6 ((l[i.toNat]'C.2).at_+D))else m),l,n,(W6 (i+(1:Int))),()),((g.bK,g.aA,g.rows,g.aK,()),t,(c.kind,c.ay,c.row,c.bV,()),()))))else none else some (.inr (.inl ((m,()),()))):=rfl
def aBr{g:aG}{t:cg}(C:iy t=true){l:aa bW}{c:aF}(hl:l.length<1073741823)(D:∀ x∈l,zO g x=true)(E:cZ g c=true):Nd g t l c=some (BS g t l c):=by
 have e:=cI (step:=S4) l.length (λi=>(((),(),(),BS g t (l.take i) c,l,(l.length:Int),(i:Int),()),((g.bK,g.aA,g.rows,g.aK,()),t,(c.kind,c.ay,c.row,c.bV,()),()))) (.inl ((BS g t l c,()),())) aV (λk h=>by
  obtain⟨I,O,U⟩:=aau (D l[k] (cQ h));have Y:=TE C g l[k].cmd c;rw[alr,aW,aq,aC ⟨by omega,by omega⟩];simp only[bD];rw[aBp I E,ak,aY,bI,NI,Int.max_comm,aBq h]) (by
  rw[alr,aZ,av,iR]) (bM)
 unfold Nd bw;rw[cv,List.take_zero]at e;exact(bC (λo=>Option.bind o _) e).trans rfl
def als{T:Type}(f:T->Int)(y:Int):∀ (l:aa T) (m:Int),(y<l.foldl (λm x=>max m (f x)) m) ↔ (y<m\/∃ x∈l,y<f x)
 |[],m=>by simp
 | x :: l,m=>by
  rw[List.foldl_cons,als f y l];simp only[gZ,exists_eq_or_imp];constructor
  ·rintro(h | h)
   ·rcases(show y<m\/m<=y by omega)with h1 | h1
    ·exact .inl h1
    ·exact .inr (.inl (by omega))
   ·exact .inr (.inr h)
  ·rintro(h | h | h)
   ·exact .inl (by omega)
   ·exact .inl (by omega)
   ·exact .inr h
def aBs{g:aG}{t:cg}{l:aa bW}{e:bW}(E:0<=e.at_):decide (e.at_<BS g t l e.cmd)=vN g t l e:=by
 rw[Bool.eq_iff_iff,fU];unfold BS vN;rw[als,List.any_eq_true];simp only[fU];constructor
 ·rintro(h | ⟨x,C,D⟩)
  ·omega
  ·exact⟨x,C,by omega⟩
 ·rintro⟨x,C,D⟩;exact .inr ⟨x,C,by omega⟩
def TF(t:cg)(A:aa Int):Int:=if A.length<4 then 0 else A.getD (A.length-4) 0+t.jJ
def BU(t:cg)(A:aa Int)(x:Int):Bool:=decide (4<=A.length)&&decide (x-A.getD (A.length-4) 0<t.jJ)
def aBt{g:aG}{l:aa bW}(h:∀ x∈l,zO g x=true):∀ y∈dG l,0<=y/\y<=1000000:=by
 intro y C;unfold dG at C;obtain⟨e,D,rfl⟩:=List.mem_map.1 C;exact(aau (h e (List.mem_filter.1 D).1)).2
def aBu{A:aa Int}(h:∀ y∈A,0<=y/\y<=1000000)(i:Nat):0<=A.getD i 0/\A.getD i 0<=1000000:=by
 rw[cV];cases hi:A[i]? with
 |none=>exact⟨by simp,by simp⟩
 |some y=>exact h y (iB hi)
def aav{t:cg}(C:iy t=true):1<=t.jJ/\t.jJ<=64:=aas C _ (by simp[p6])
def aBv{g:aG}{t:cg}(E:iy t=true){l:aa bW}(hl:l.length<1073741823)(I:∀ x∈l,zO g x=true):Ng t l=some (TF t (dG l)):=by
 have O:=aBt I;have hlen:=alq l;have U:=aav E;unfold Ng TF xL;rw[aBo l hl,ak];generalize dG l=A at *
 by_cases D:A.length<4
 ·rw[aW,aq,bg D]
 ·have C:W6 ((A.length:Int)-4)=((A.length-4:Nat):Int):=by rw[aY];omega
  have Y:=aBu O (A.length-4);rw[aZ,av,bk D];have hi:(W6 ((A.length:Int)-4)).toNat<A.length:=by rw[C];omega
  rw[aC ⟨by rw[C];omega,hi⟩,aC hi];have e:A[(W6 ((A.length:Int)-4)).toNat]=A.getD (A.length-4) 0:=by
   rw[cV];have:(W6 ((A.length:Int)-4)).toNat=A.length-4:=by rw[C];omega
   simp only[this];rw[bT (by omega)];rfl
  dsimp only;rw[e,aY]
def aBw{t:cg}{A:aa Int}{x:Int}(D:0<=x):decide (x<TF t A)=BU t A x:=by
 unfold TF BU;by_cases C:A.length<4
 ·rw[bg C,aZ,aZ (show ¬ 4<=A.length by omega),Bool.false_and]
 ·rw[bk C,aW (show 4<=A.length by omega),cC,Bool.eq_iff_iff];simp only[fU];omega
def aaw{T:Type}{p:T -> Bool}{l:aa T}{i:Nat}{x:T}(h:l.all p=true)(C:p x=true):(l.set i x).all p=true:=by grind
def BV{g:aG}{r:bX}(h:mj g r=true):ct g=true/\(r.aA.length:Int)=aU g/\(0 <= r.aR/\r.aR <= 2)/\r.aA.all (zL g)=true/\(r.aR=2 -> (r.aA.all λb=>!b.open_)=true):=by
 simp only[mj,aP,eZ,bA,eN,bne_iff_ne]at h
 grind
def Ev{g:aG}{r:bX}(C:ct g=true)(D:(r.aA.length:Int)=aU g)(E:0 <= r.aR/\r.aR <= 2)(I:r.aA.all (zL g)=true)(O:r.aR=2 -> (r.aA.all λb=>!b.open_)=true):mj g r=true:=by
 simp only[mj,aP,eZ,bA,eN,bne_iff_ne]
 grind
def aax{g:aG}{r:bX}{c:aF}(O:mj g r=true)(I:cZ g c=true)(D:jr r c=true):mj g (ff r c)=true:=by
 have⟨C,hlen,hp,E,hz⟩:=BV O;have⟨_,U,hb,_⟩:=rX I;have gb:=fJ C;have Y:c.kind=1 -> 0 <= c.row/\c.row <= g.rows-1:=by
  intro h;simp[cZ,aP]at I;have:=I.2.2.2.1;rw[vG,h]at this
  simpa [bA]using this
 rcases kinds U with h|h|h|h|h|h|h|h|h
 ·have e:ff r c=⟨r.aA.set c.ay.toNat ⟨true,c.row⟩,r.aR⟩:=by simp[ff,h]
  have qD:r.aR=0:=by simp[jr,h]at D;exact D.1
  rw[e];exact Ev C (by simpa using hlen) (by omega) (aaw E (by simp only[zL,aP,bA];exact⟨Y h,by simp⟩)) (λe=>by simp only at e;omega)
 ·have e:ff r c=r:=by simp[ff,h]
  simp_all
 ·have e:ff r c=r:=by simp[ff,h]
  simp_all
 ·have e:ff r c=⟨r.aA.set c.ay.toNat ⟨false,0⟩,r.aR⟩:=by simp[ff,h]
  have qD:r.aR=0:=by simp[jr,h]at D;exact D.1
  rw[e];exact Ev C (by simpa using hlen) (by omega) (aaw E (by simp only[zL,aP,bA];exact⟨by omega,by simp⟩)) (λe=>by simp only at e;omega)
 ·have e:ff r c=r:=by simp[ff,h]
  simp_all
 ·have e:ff r c=⟨r.aA,1⟩:=by simp[ff,h]
  rw[e];exact Ev C hlen (by simp) E (λe=>by simp at e)
 ·have e:ff r c=⟨r.aA,0⟩:=by simp[ff,h]
  rw[e];exact Ev C hlen (by simp) E (λe=>by simp at e)
 ·have e:ff r c=⟨r.aA,2⟩:=by simp[ff,h]
  rw[e];exact Ev C hlen (by simp) E (λ_=>by simp[jr,h]at D;simpa using D.2)
 ·have e:ff r c=⟨r.aA,0⟩:=by simp[ff,h]
  rw[e];exact Ev C hlen (by simp) E (λe=>by simp at e)
def aBx{g:aG}(C:ct g=true):mj g (kV g)=true:=by
 have E:=eM g;have I:=fJ C
 refine Ev C (by simp[kV];omega) (by simp[kV]) ?_ (λe=>by simp[kV]at e)
 unfold kV;rw[ck];intro x D;obtain⟨_,rfl⟩:=List.mem_replicate.1 D;simp only[zL,aP,bA];exact⟨by omega,by simp⟩
def uo(l:aa bW)(k:Nat)(e:bW):Bool:=match k with
 |0=>true
 | k+1=>match l[k]? with
  |some x=>decide (x.at_<e.at_)
  |none=>true
def fT(g:aG)(t:cg)(l:aa bW)(k:Nat)(r:bX)(e:bW):ah bX:=
 bif !cZ g e.cmd then none else bif !aQ e.at_ 0 1000000 then none else bif !uo l k e then none else bif !jr r e.cmd then none else
 bif vN g t (l.take k) e then none else bif e.cmd.kind==1&&BU t (dG (l.take k)) e.at_ then none else some (ff r e.cmd)
def cT(g:aG)(t:cg)(l:aa bW)(k:Nat)(r:bX)(e:bW):Int:=
 bif !cZ g e.cmd then 1 else bif !aQ e.at_ 0 1000000 then 1 else bif !uo l k e then 1 else bif !jr r e.cmd then 2 else
 bif vN g t (l.take k) e then 3 else 4
def aBy(g:aG)(t:cg)(l:aa bW)(k:Nat)(r:bX)(e:bW):(cT g t l k r e != 0)=true:=by
 unfold cT;cases cZ g e.cmd<;>cases aQ e.at_ 0 1000000<;>cases uo l k e<;>cases jr r e.cmd<;>cases vN g t (l.take k) e<;>rfl
def IT(g:aG)(l:aa bW)(k:Nat)(r:bX):Prop:=mj g r=true/\∀x∈l.take k,zO g x=true
def aBz{g:aG}{t:cg}{l:aa bW}{k:Nat}{r U:bX}(hk:k<l.length)(h:IT g l k r)(C:fT g t l k r l[k]=some U):IT g l (k+1) U:=by
 unfold fT at C;cases D:cZ g l[k].cmd with
 |false=>rw[D]at C;cases C
 | true=>
  cases E:aQ l[k].at_ 0 1000000 with
  |false=>rw[D,E]at C;cases C
  | true=>
   cases I:uo l k l[k]with
   |false=>rw[D,E,I]at C;cases C
   | true=>
    cases O:jr r l[k].cmd with
    |false=>rw[D,E,I,O]at C;cases C
    | true=>
     rw[D,E,I,O]at C;simp only[bG,av]at C;cases Y:vN g t (l.take k) l[k]with
     |true=>rw[Y]at C;cases C
     | false=>
      rw[Y,av]at C;cases h6:(l[k].cmd.kind==1&&BU t (dG (l.take k)) l[k].at_)with
      |true=>rw[h6]at C;cases C
      | false=>
       rw[h6,av]at C;injection C with C;subst C
       refine⟨aax h.1 D O,λx hx=>?_⟩
       rw[nD hk]at hx;rcases List.mem_append.1 hx with hx|hx
       ·exact h.2 x hx
       ·obtain rfl:=jH.1 hx;simp only[zO,D,E,Bool.and_self]
def aBA(g:aG):(⟨g.bK,g.aA,g.rows,g.aK⟩:aG)=g:=rfl
def aBB(t:cg):(⟨t.lX,t.rp,t.iC,t.o6,t.lY,t.jJ,t.o7,t.o8,t.kj,t.wr,t.o9,t.pg,t.su,t.pn,t.qi,t.xp,t.xs⟩:cg)=t:=rfl
def aBC(l:aa bW)(e:bW):uo l 0 e=true:=rfl
def aBD{l:aa bW}{k:Nat}(e:bW)(h:0<k)(E:k<l.length)(C:(W6 ((k:Int)-1)).toNat<l.length)(hl:l.length<1073741824):uo l k e = !decide (e.at_<=(l[(W6 ((k:Int)-1)).toNat]'C).at_):=by
 obtain⟨n,rfl⟩:∃n,k=n+1:=⟨k-1,by omega⟩
 have D:(W6 (((n+1:Nat):Int)-1)).toNat=n:=by rw[aY];omega
 unfold uo;simp only[D];rw[bT (by omega)];simp only;rw[Bool.eq_iff_iff];simp
def tS(t:cg):cg:=t
def aBE{g:aG}{t:cg}(O:iy t=true){l:aa bW}(hl:l.length<1073741823){k:Nat}(hk:k<l.length){r:bX}(hI:IT g l k r):
  Ea ((l,(),(),(),l,(l.length:Int),(k:Int),()),((g.bK,g.aA,g.rows,g.aK,()),tS t,((),r.aR,()),r.aA,())) =
   some (match fT g t l k r l[k]with|some C=>.inl ((l,(),(),(),l,(l.length:Int),((k+1:Nat):Int),()),((g.bK,g.aA,g.rows,g.aK,()),tS t,((),C.aR,()),C.aA,()))|none=>.inr (.inl ((cT g t l k r l[k],(k:Int),()),()))):=by
 obtain⟨U,Y⟩:=hI;obtain⟨hg,hlen,_⟩:=BV U;have b1:=eM g;unfold Ea fT cT tS az bx xG xI;dsimp only;simp only[aBA,aBB,aBe,aW (show (k:Int)<(l.length:Int) by omega),aq];rw[aC ⟨by omega,by omega⟩];simp only[bD];rw[TD,ak];cases h1:cZ g l[k].cmd with
 |false=>rfl
 | true=>
  simp only[bG,av];rw[dy,ak];cases h2:aQ l[k].at_ 0 1000000 with
  |false=>rfl
  | true=>
   obtain⟨h0,hm⟩:=bA.1 h2;have tl:((zu g r l[k].cmd).bind λD=>bif (!D.2)then (some (.inr (.inl (((2:Int),(k:Int),()),()))):ah ((((aa bW)×af×af×af×(aa bW)×Int×Int×af)×((Int×Int×Int×Int×af)×cg×(af×Int×af)×(aa di)×af))⊕(((Int×Int×af)×(af))⊕(((af)×(af))⊕Empty))))else if 0<=(0:Int)/\(0:Int)<=(k:Int)/\(k:Int)<=(l.length:Int)then (Nd g t ((l.take k).drop (0:Int).toNat) l[k].cmd).bind λiH=>bif (decide (l[k].at_<iH))then some (.inr (.inl (((3:Int),(k:Int),()),())))else bif (l[k].cmd.kind==(1:Int))then if 0<=(0:Int)/\(0:Int)<=(k:Int)/\(k:Int)<=(l.length:Int)then (Ng t ((l.take k).drop (0:Int).toNat)).bind λiI=>bif (decide (l[k].at_<iI))then some (.inr (.inl (((4:Int),(k:Int),()),())))else some (.inl ((l,(),(),(),l,(l.length:Int),(W6 ((k:Int)+(1:Int))),()),((g.bK,g.aA,g.rows,g.aK,()),t,((),D.1.aR,()),D.1.aA,())))else none else some (.inl ((l,(),(),(),l,(l.length:Int),(W6 ((k:Int)+(1:Int))),()),((g.bK,g.aA,g.rows,g.aK,()),t,((),D.1.aR,()),D.1.aA,())))else none) =
     some (match (bif !jr r l[k].cmd then none else bif vN g t (l.take k) l[k]then none else bif l[k].cmd.kind==1&&BU t (dG (l.take k)) l[k].at_ then none else some (ff r l[k].cmd))with|some C=>.inl ((l,(),(),(),l,(l.length:Int),((k+1:Nat):Int),()),((g.bK,g.aA,g.rows,g.aK,()),t,((),C.aR,()),C.aA,()))|none=>.inr (.inl ((bif !jr r l[k].cmd then 2 else bif vN g t (l.take k) l[k]then 3 else 4,(k:Int),()),()))):=by
    rw[aan g r _ (by omega),ak];unfold HL kU;rw[U,h1];cases h4:jr r l[k].cmd with
    |false=>rfl
    | true=>
     simp only[cC,aq,bG,av,Int.toNat_zero,List.drop_zero];rw[bg ⟨by omega,by omega,by omega⟩,aBr O (by simp;omega) Y h1,ak,aBs h0];cases h5:vN g t (l.take k) l[k]with
     |true=>rfl
     | false=>
      simp only[av];cases h6:(l[k].cmd.kind==1)with
      |false=>simp only[av,Bool.false_and,bI (show k<4611686018427387904 by omega)]
      | true=>
       simp only[aq,cC];rw[bg ⟨by omega,by omega,by omega⟩,aBv O (by simp;omega) Y,ak,aBw h0];cases BU t (dG (l.take k)) l[k].at_ with
       |true=>rfl
       |false=>simp only[av,bI (show k<4611686018427387904 by omega)]
   simp only[bG,av];by_cases E:0<k
   ·have I:(W6 ((k:Int)-1)).toNat<l.length:=by rw[aY];omega
    rw[aW (show (k:Int) > 0 by omega),aq,aC ⟨by rw[aY];omega,I⟩,aBD _ E hk I (by omega)];cases decide (l[k].at_<=(l[(W6 ((k:Int)-1)).toNat]'I).at_)with
    |true=>rfl
    | false=>
     simp only[av,jx,bG];exact tl
   ·have E:k=0:=by omega
    subst E;rw[aZ,av,aBC];simp only[bG,av];exact tl
def runT(g:aG)(t:cg)(l:aa bW):ah bX:=oe (fT g t l) 0 l (kV g)
def aBF{g:aG}{t:cg}(I:ct g=true)(O:iy t=true){l:aa bW}(hl:l.length<=2000):∃ c i,S6 g t l=some (c,i)/\(c != 0)=(runT g t l).isNone:=by
 have h:=aat (step:=Ea) (fT g t l) (λk r=>((l,(),(),(),l,(l.length:Int),(k:Int),()),((g.bK,g.aA,g.rows,g.aK,()),tS t,((),r.aR,()),r.aA,()))) (λk r e=>.inl ((cT g t l k r e,(k:Int),()),())) (λr=>.inr (.inl ((),()))) (IT g l) l 0 (kV g) aV ⟨aBx I,λx hx=>by simp at hx⟩ (bM)
  (λi h r C=>by rw[fB]at C ⊢;exact(aBE O (by omega) h C).trans (by cases fT g t l i r l[i]<;>rfl))
  (λi h r U C Y=>by rw[fB]at C Y ⊢;exact aBz h C Y)
  (λr C=>by rw[fB];unfold Ea az bx xG xI;dsimp only;rw[aZ,av])
 unfold S6 bU;rw[rU,ak,I,bG,av,HE,ak,O,bG,av,aZ,av,aao,ak];change ∃c i,((iter Ea aV ((l,(),(),(),l,(l.length:Int),((0:Nat):Int),()),((g.bK,g.aA,g.rows,g.aK,()),tS t,((),(kV g).aR,()),(kV g).aA,()))).bind _)=some (c,i)/\_;rcases h with ⟨U,D,_,E⟩|⟨D,i,U,hi,_,_,E⟩
 ·refine⟨0,-1,(bC (λo=>Option.bind o _) E).trans rfl,?_⟩
  unfold runT;rw[D];rfl
 ·refine⟨_,_,(bC (λo=>Option.bind o _) E).trans rfl,?_⟩
  unfold runT;rw[D];exact aBy _ _ _ _ _ _
def uq(n k:Nat):aa Int:=List.replicate k (-1)++List.replicate (n-k) 0
def alu{n k:Nat}(h:k<=n):(uq n k).length=n:=by
 unfold uq;simp;omega
def alv{n k:Nat}(h:k<n):(uq n k).set k (-1)=uq n (k+1):=by
 obtain⟨m,rfl⟩:∃m,n=k+1+m:=⟨n-k-1,by omega⟩
 unfold uq;rw[show k+1+m-k=m+1 by omega,show k+1+m-(k+1)=m by omega,List.set_append_right _ _ (by simp),lV,Nat.sub_self,List.replicate_succ,List.replicate_succ',List.append_assoc];rfl
def alw(n:Nat):uq n 0=List.replicate n 0:=by simp[uq]
def alx(n:Nat):uq n n=List.replicate n (-1):=by simp[uq]
def aly(n:Nat)(C:n<1073741824):Kp (n:Int)=some (List.replicate n (-1)):=by
 have e:=cI (step:=Ko) n (λi=>((n,(),i,()),(uq n i,()))) _ aV (λk h=>by
  have hl:=alu (show k <= n by omega);unfold Ko az xG xL;dsimp only;rw[aW,aq,aC ⟨by omega,by omega⟩,aC,bI,bD,alv h]) (by
  unfold Ko az xG xL;dsimp only;rw[aZ,av]) (bM)
 unfold Kp bw;rw[bg ⟨by omega,by omega,by omega⟩];rw[alw,alx]at e;simp_all
def tq(g:aG):c9:=⟨List.replicate (9*(aU g+1)).toNat (-1),[]⟩
def alz{g:aG}(C:ct g=true):KD g=some (tq g):=by
 have hb:=eM g;obtain⟨n,D⟩:∃n:Nat,9*(aU g+1)=(n:Int):=⟨(9*(aU g+1)).toNat,by omega⟩
 have E:n<1073741824:=by omega
 have e:=cI (step:=KB) n (λi=>(((),(),(n:Int),(i:Int),()),(((),(),()),((),(),()),([]:aa Int),([]:aa Int),uq n i,([]:aa Int),()))) (.inl (((),(),()),(((),(),()),((),(),()),([]:aa Int),([]:aa Int),uq n n,([]:aa Int),()))) aV (λk h=>by
  have hl:=alu (show k<=n by omega);unfold KB az xG xL;dsimp only;rw[aW,aq,aC ⟨by omega,by omega⟩,aC,bI,bD,alv h]) (by
  unfold KB az xG xL;dsimp only;rw[aZ,av]) (bM)
 rw[alw,alx,cv]at e;unfold KD tq bw;rw[rU,ak,C,bG,av,lM,ak,w9,D,bg ⟨by omega,by omega,by omega⟩,bD,lV];exact(bC (λo=>Option.bind o _) e).trans rfl
def aBG{g:aG}(C:ct g=true):QS g=some (tq g):=by
 have hb:=eM g;obtain⟨n,D⟩:∃n:Nat,9*(aU g+1)=n:=⟨(9*(aU g+1)).toNat,by omega⟩
 unfold QS tq;rw[HD,ak,C,bG,av,pW,ak,w9,D,aly n (by omega),ak,bD]
def aay(g:aG)(r:c9)(e:bW):(kH g r e).last.length=r.last.length/\(r.aT.length <= 4 -> (kH g r e).aT.length <= 4):=by
 unfold kH;cases (kf g r&&(cZ g e.cmd&&(aQ e.at_ 0 1000000 && !(e.cmd.kind==1&&vM r e.at_))))with
 |false=>simp_all
 | true=>
  refine⟨by simp,λh=>?_⟩
  cases e.cmd.kind==1 with
  |false=>exact h
  | true=>
   simp[aq,zN,List.length_drop,oy,mV];omega
def p9(g:aG)(l:aa bW):c9:=l.foldl (kH g) (tq g)
def aBH{g:aG}{l:aa bW}{k:Nat}(h:k<l.length):p9 g (l.take (k+1))=kH g (p9 g (l.take k)) l[k]:=by
 unfold p9;rw[nD h,List.foldl_append];rfl
def alA(g:aG)(l:aa bW):(p9 g l).last.length<=1000/\(p9 g l).aT.length<=4:=by
 have hb:=eM g;have C:(tq g).last.length<=1000/\(tq g).aT.length<=4:=⟨by simp only[tq,lV];omega,by simp[tq]⟩
 unfold p9;generalize tq g=r at C
 induction l generalizing r with
 |nil=>exact C
 |cons x l D=>exact D (kH g r x) ⟨by rw[(aay g r x).1];exact C.1,(aay g r x).2 C.2⟩
def alB(g:aG)(l:aa bW)(n i:Int)(r:c9):S8 (((),(),(),l,n,i,()),((g.bK,g.aA,g.rows,g.aK,()),((),(),()),((),(),()),([]:aa Int),([]:aa Int),r.last,r.aT,()))=bif (decide (i<n))then if D:0<=i/\i.toNat<l.length then ((GX g r (l[i.toNat]'D.2)).bind λC=>some (.inl (((),(),(),l,n,(W6 (i+(1:Int))),()),((g.bK,g.aA,g.rows,g.aK,()),((),(),()),((),(),()),([]:aa Int),([]:aa Int),C.last,C.aT,()))))else none else some (.inr (.inl (((),(),()),(((),(),()),((),(),()),([]:aa Int),([]:aa Int),r.last,r.aT,())))):=rfl
def aBI{g:aG}(C:ct g=true){l:aa bW}(hl:l.length<1073741823):Ni g l=some (p9 g l):=by
 have e:=cI (step:=S8) l.length (λi=>(((),(),(),l,(l.length:Int),(i:Int),()),((g.bK,g.aA,g.rows,g.aK,()),((),(),()),((),(),()),([]:aa Int),([]:aa Int),(p9 g (l.take i)).last,(p9 g (l.take i)).aT,()))) (.inl (((),(),()),(((),(),()),((),(),()),([]:aa Int),([]:aa Int),(p9 g l).last,(p9 g l).aT,()))) aV (λk h=>by
  have hlen:=alA g (l.take k);rw[alB,aW,aq,aC ⟨by omega,by omega⟩];simp only[bD];rw[alp _ _ _ (by omega) (by omega),ak,bI,aBH h]) (by
  rw[alB,aZ,av,iR]) (bM)
 rw[cv,List.take_zero]at e;unfold Ni bw;rw[alz C,ak];exact(bC (λo=>Option.bind o _) e).trans rfl
def fE(g:aG)(_:Nat)(r:bX)(e:bW):ah bX:=bif kU g r e.cmd then some (ff r e.cmd)else none
def Ew(g:aG)(l:aa bW):ah bX:=oe (fE g) 0 l (kV g)
def aaz(g:aG)(l:aa bW):bX×Bool:=match Ew g l with
 |some r=>(r,true)
 |none=>(⟨[],0⟩,false)
def aBJ(g:aG)(r:bX)(e:bW)(k:Nat):(HL g r e.cmd)=match fE g k r e with | some C=>(C,true) | none=>(r,false):=by
 unfold HL fE;cases kU g r e.cmd<;>rfl
def alC{g:aG}{r C:bX}{e:bW}{k:Nat}(h:fE g k r e=some C):C.aA.length=r.aA.length:=by
 unfold fE at h;cases D:kU g r e.cmd with
 |false=>rw[D]at h;cases h
 | true=>
  rw[D]at h;injection h with h;rw[<-h,aap]
def aBK{g:aG}{l:aa bW}{r:bX}(h:Ew g l=some r):(r.aA.length:Int)=aU g:=by
 have hb:=eM g;have key:∀ (l:aa bW) (k:Nat) (a:bX),oe (fE g) k l a=some r->r.aA.length=a.aA.length:=by
  intro l
  induction l with
  | nil=>
   intro k a h;injection h with h;rw[h]
  | cons x l D=>
   intro k a h;unfold oe at h;cases C:fE g k a x with
   |none=>rw[C]at h;cases h
   | some E=>
    rw[C]at h;rw[D (k+1) E h,alC C]
 rw[key l 0 _ h];simp only[kV,lV];omega
def alD(g:aG)(l:aa bW)(n i:Int)(r:bX):Nh (((),(),(),l,n,i,()),((g.bK,g.aA,g.rows,g.aK,()),((),(0:Int),()),((),r.aR,()),([]:aa di),r.aA,()))=bif (decide (i<n))then if D:0<=i/\i.toNat<l.length then ((zu g r (l[i.toNat]'D.2).cmd).bind λC=>bif (!C.2)then some (.inr (.inl (((),false,()),(((),(0:Int),()),([]:aa di),()))))else some (.inl (((),(),(),l,n,(W6 (i+(1:Int))),()),((g.bK,g.aA,g.rows,g.aK,()),((),(0:Int),()),((),C.1.aR,()),([]:aa di),C.1.aA,()))))else none else some (.inr (.inr (.inl (((),(),()),(((),(0:Int),()),((),r.aR,()),([]:aa di),r.aA,()))))):=rfl
def aBL{g:aG}(O:ct g=true){l:aa bW}(hl:l.length<1073741823):S7 g l=some (aaz g l):=by
 have hb:=eM g;have h:=aat (step:=Nh) (fE g) (λk r=>(((),(),(),l,(l.length:Int),(k:Int),()),((g.bK,g.aA,g.rows,g.aK,()),((),(0:Int),()),((),r.aR,()),([]:aa di),r.aA,()))) (λk r e=>.inl (((),false,()),(((),(0:Int),()),([]:aa di),()))) (λr=>.inr (.inl (((),(),()),(((),(0:Int),()),((),r.aR,()),([]:aa di),r.aA,())))) (λ_ r=>r.aA.length<1073741824) l 0 (kV g) aV (by simp only[kV,lV];omega) (bM)
  (λi h r C=>by
   rw[fB,alD,aW,aq,aC ⟨by omega,by omega⟩];simp only[bD];rw[aan g r _ C,ak,aBJ g r l[i] i,bI];cases fE g i r l[i]<;>rfl)
  (λi h r I C U=>by rw[alC U];exact C)
  (λr C=>by rw[fB,alD,aZ,av])
 unfold S7 bU;rw[rU,ak,O,bG,av,aao,ak];change ((iter Nh aV (((),(),(),l,(l.length:Int),((0:Nat):Int),()),((g.bK,g.aA,g.rows,g.aK,()),((),(0:Int),()),((),(kV g).aR,()),([]:aa di),(kV g).aA,()))).bind _)=_;unfold aaz Ew;rcases h with ⟨I,D,_,E⟩|⟨D,i,I,hi,_,_,E⟩
 ·rw[D];exact(bC (λo=>Option.bind o _) E).trans rfl
 ·rw[D];exact(bC (λo=>Option.bind o _) E).trans rfl
def Ex(a b:aa Int):Bool:=((a.length:Int)==(b.length:Int))&&(a.zip b).all λp=>p.1==p.2
def TG{A B:Type}{a:aa A}{b:aa B}(h:a.length=b.length):(a.zip b).length=a.length:=by
 rw[List.length_zip];omega
def alE{A B:Type}{a:aa A}{b:aa B}(h:a.length=b.length){k:Nat}(C:k<(a.zip b).length):(a.zip b)[k]=(a[k]'(by rw[TG h]at C;exact C),b[k]'(by rw[TG h]at C;omega)):=by
 rw[List.getElem_zip]
def alF{a b:aa Int}(D:a.length<1073741824):Eb a b=some (Ex a b):=by
 unfold Eb Ex bU;by_cases h:a.length=b.length
 ·have E:=TG h;have e:=iu (step:=Nj) (a.zip b) (λp=>p.1==p.2) (λi=>((a,b,(a.length:Int),(i:Int),()),())) (.inl ((false,()),())) (.inr (.inl ((),()))) aV (λk C=>by
   unfold Nj az bx xG xI;dsimp only;rw[aW,aq,aC ⟨by omega,by omega⟩,aC ⟨by omega,by omega⟩,bI,alE h C];simp only[bD];rw[bne];cases a[k]==b[k]<;>rfl) (by
   unfold Nj az bx xG xI;dsimp only;rw[aZ,av]) (bM)
  rw[cv]at e;rw[show ((a.length:Int) != (b.length:Int))=false by simp[h],av,show ((a.length:Int)==(b.length:Int))=true by simp[h],cC]
  refine(bC (λo=>Option.bind o _) e).trans ?_
  cases (a.zip b).all λp=>p.1==p.2<;>rfl
 ·rw[show ((a.length:Int) != (b.length:Int))=true by simp;omega,aq,show ((a.length:Int)==(b.length:Int))=false by simp;omega,Bool.false_and]
def TH(x:dz):Prop:=(x.weights.length<=1048576)
def place(l:aa aN)(id:Int):Int:=match l.findIdx? (λr=>r.id==id)with
 |some i=>(i:Int)
 |none=>-1
def aBM(x y:Int):(x==y)=(y==x):=Bool.eq_iff_iff.2 ⟨λh=>by simpa using (by simpa using h:x=y).symm,λh=>by simpa using (by simpa using h:y=x).symm⟩
def eJ(g:aG)(a:aM):Nat:=(qU g a).toNat
def BW{g:aG}{a:aM}(h:dO g a=true):qU g a=(eJ g a:Int)/\(eJ g a:Int)<dU g:=by
 have:=ZU h;unfold eJ;omega
def fA.lt{g:aG}{B:Int}{a:cJ}(C:fA g B a){at_:aM}(h:dO g at_=true):eJ g at_<a.cells.length:=by
 have:=BW h;have:=C.cells;omega
def fA.NK{g:aG}{B:Int}{a:cJ}(C:fA g B a)(k:Nat){c:bQ}(D:Sy c.symbols):fA g B ⟨a.cells.set k c,a.bu,a.bq⟩:=
 ⟨by simp[C.cells],Sy.cc C.syms D,C.bu,C.bq,C.Ej,C.iZ⟩
def mP(R row:Int):aa Int:=(bif decide (0<row)then [row-1]else [])++(bif decide (row<R-1)then [row+1]else [])
def aaA{R row:Int}(O:2<=R)(U:R<=16)(Y:0<=row)(h4:row<R):GY R row=some (mP R row):=by
 unfold GY mP xA xZ;have C:aQ R 2 16=true:=by rw[bA];omega
 have D:aQ row 0 (R-1)=true:=by rw[bA];omega
 rw[dy,ak,C,aY (n:=R-1),dy,aY (n:=row-1),aY (n:=row+1)];by_cases E:0<row<;>by_cases I:row<R-1<;>simp[D,E,I,bE]
def alG{R row:Int}(D:0 <= row)(E:row<R):∀ n∈mP R row,0 <= n/\n<R:=by
 intro n C;unfold mP at C
 grind
def aBN(R row:Int):(mP R row).length <= 2:=by
 unfold mP
 grind
def aBO{R row k:Int}{i:Nat}(hi:k+row=(i:Int))(C:0 <= k)(D:0 <= row)(H:aa Int):(mP R row).foldl (λh n=>oQ (k+n).toNat h) (H.set i 0)=pZ R row i H:=by
 unfold mP pZ vE
 grind
def alH(k:Int):∀ (l:aa Int) (H:aa Int),(l.foldl (λh n=>oQ (k+n).toNat h) H).length=H.length
 |[],H=>rfl
 |x::l,H=>by rw[List.foldl_cons,alH k l,Nu]
def alI(k:Int):∀ (l:aa Int) (H:aa Int),(∀ x∈H,0<=x/\x<=100000)->∀ x∈l.foldl (λh n=>oQ (k+n).toNat h) H,0<=x/\x<=100000
 |[],H,h=>h
 |x::l,H,h=>by rw[List.foldl_cons];exact alI k l _ (Tp h)
def aBP{g:aG}(D:ct g=true){B:Int}{a:cJ}(C:fA g B a)(hB:B <= 100000){n:Int}(O:0 <= n)(U:n <= 100000):GG g a n=some ⟨a.cells,a.bu.map (lO n),a.bq⟩:=by
 have Y:=pX g;have a1:=C.bu;have E:aQ n 0 100000=true:=by rw[bA];omega
 unfold GG bw;rw[C.copy,ak,C.ok D hB,ak,dy,ak,E];have e:=cI (step:=Lh) _ (λi=>((n,(),(),(a.bu.length:Int),(i:Int),()),(((),(),(),()),((),(),(),()),([]:aa bQ),([]:aa Int),([]:aa Int),a.cells,upto (lO n) a.bu i,a.bq,()))) (.inl (((),(),()),(((),(),(),()),((),(),(),()),([]:aa bQ),([]:aa Int),([]),a.cells,a.bu.map (lO n),a.bq,()))) aV (λk h=>by
  unfold Lh az xG xL;have hx:=C.Ej _ (cQ h);have I:=HC (lO n) a.bu k h;have D:=HB (lO n) a.bu k h (by rw[BM];exact h);simp (disch:=omega) [BM,h,D,aY];rw[<- I];rfl) (by unfold Lh az xG xL;simp[HA]) (bM)
 rw[cv,Tc]at e;simp_all
def aBQ(y:Int):0 <= bits .and .i64 y 15/\bits .and .i64 y 15 <= 15:=by
 have e:bits .and .i64 y 15=IntKind.wrap .i64 ((BitVec.ofInt 64 y &&& BitVec.ofInt 64 15).toNat):=rfl;have h:(BitVec.ofInt 64 y &&& BitVec.ofInt 64 15).toNat <= 15:=by
  exact Nat.le_trans Nat.and_le_right (by decide)
 rw[e,IntKind.wrap_i64];omega
def alJ{n:Int}(C:0 <= n)(D:n<18446744073709551616):IntKind.u64.wrap n=n:=by
 have:IntKind.u64.wrap n=n % 18446744073709551616:=rfl
 grind
def alK{b r D C R:Int}(E:0<=r)(I:r<R)(O:0<=C)(U:C<R)(h:b*R+r=D*R+C):b=D/\r=C:=by
 have key:∀ {b r D C:Int},0<=r->r<R->0<=C->C<R->b*R+r=D*R+C->¬ b<D:=by
  intro b r D C E I O U h Y;have:=Int.mul_le_mul_of_nonneg_right (show b+1<=D by omega) (show 0<=R by omega);rw[Int.add_mul]at this;omega
 have k1:=key E I O U h;have k2:=key O U E I h.symm;have e:b=D:=by omega
 subst e;exact⟨rfl,by omega⟩
def alL{g:aG}{a b:aM}(C:dO g a=true)(hb:dO g b=true)(h:eJ g a=eJ g b):a=b:=by
 have D:=(BW C).1;have E:=(BW hb).1;rw[h,<-E]at D;obtain⟨_,a1,a2,I,a4,O,U⟩:=rV C;obtain⟨_,b1,b2,Y,b4,b5,b6⟩:=rV hb;simp only[qU,C,hb,aq]at D;obtain⟨e1,e2⟩:=alK O U b5 b6 D;obtain⟨e3,e4⟩:=alK I a4 Y b4 e1;cases a;cases b;simp_all
def i0:asn 0:=⟨by decide,by decide⟩
def aBR(l:aa Int)(h:l.length<=1073741823):Tb l l=some true:=by
 unfold Tb bU;have e:=cI (step:=Nk) l.length (λi=>((l,l,(i:Int),()),())) (.inr (.inl ((),()))) aV (λk h=>by
  unfold Nk az bx xG xI;dsimp only;rw[aW,aq,aC ⟨by omega,by omega⟩,aC ⟨by omega,by omega⟩,show (l[(k:Int).toNat]'(by omega) != l[(k:Int).toNat]'(by omega))=false by simp,av,bI]) (by
  unfold Nk az bx xG xI;dsimp only;rw[aZ,av]) (bM)
 rw[cv]at e;rw[show ((l.length:Int) != (l.length:Int))=false by simp,av,e];rfl
def lg(a:Nat):Nat:=(14688061253356765440 / 2 ^ (4*a)) % 16
def okB(C s1 s2 i:Nat):Bool:=!Nat.beq C 0&&(Nat.beq (gm C (pw i)) s1&&Nat.beq (gm s1 (pw i)) s2)
def loc(C s1 s2:Nat):ah Nat:=(List.range 11).find? (okB C s1 s2)
def HM:ah Nat->Nat
 |some n=>n
 |none=>99
def aBS:(ke λa=>Nat.beq a 0 ||Rp (Int.ofNat a)==some (Int.ofNat (lg a)))=true:=by kernel_rfl
def alM:(ke λC=>ke λs1=>ke λs2=>bif Nat.beq C 0 || Nat.beq s1 0 then Nat.beq (HM (loc C s1 s2)) 99 else
  (λx=>!Nat.beq x 0&&Nat.beq (HM (loc C s1 s2)) (bif Nat.blt (lg x) 11&&Nat.beq (gm s1 x) s2 then lg x else 99)) (gm s1 (iv C)))=true:=by kernel_rfl
def aBT:((List.range 11).all λn=>G7 2 (Int.ofNat n)==some (Int.ofNat (pw n)))=true:=by kernel_rfl
def NL{n:Nat}(h:n<11):G7 2 (n:Int)=some (pw n:Int):=eq_of_beq (ck.1 aBT n (ga.2 h))
def aBU:((List.range 11).all λi=>(List.range 3).all λj=>Nat.beq (gm (pw (i*j)) (pw i)) (pw (i*(j+1))))=true:=by kernel_rfl
def aBV{i j:Nat}(hi:i<11)(C:j<3):gm (pw (i*j)) (pw i)=pw (i*(j+1)):=cL (ck.1 (ck.1 aBU i (ga.2 hi)) j (ga.2 C))
def vO(w:aa Nat)(i:Nat):aa Int:=[(bS w 0 i:Int),(bS w 1 i:Int),(bS w 2 i:Int)]
def aaB(w:aa Nat)(i:Nat):Nat->aa Int
 |0=>[(bS w 0 i:Int),(bS w 1 i:Int),(bS w 2 i:Int)]
 |1=>[(bS w 0 (i+1):Int),(bS w 1 i:Int),(bS w 2 i:Int)]
 |2=>[(bS w 0 (i+1):Int),(bS w 1 (i+1):Int),(bS w 2 i:Int)]
 |_=>[(bS w 0 (i+1):Int),(bS w 1 (i+1):Int),(bS w 2 (i+1):Int)]
def aBW{w:aa Nat}(U:eo w)(hl:w.length=11){i:Nat}(hi:i<11):iter G8 aV ((bz w,(),(i:Int),(1:Int),(pw i:Int),(0:Int),()),(vO w i,()))=some (.inl ((bz w,(),(i:Int),()),(vO w (i+1),()))):=by
 have O:i<(bz w).length:=by rw[iO];omega
 have Y:(bz w)[i]=((w.getD i 0:Nat):Int):=vB O;have hwi:=U.get i;have C:∀ j,bits .xor .i64 ((bS w j i:Nat):Int) ((gm (w.getD i 0) (pw (i*j)):Nat):Int)=((bS w j (i+1):Nat):Int):=λj=>by
  rw[s8 (s9 w j i) (gV _ _)];rfl
 have D:=λj=>Nn hwi (vA (i*j))
 have E:∀ j,j<3 -> vu ((pw (i*j):Nat):Int) ((pw i:Nat):Int)=some ((pw (i*(j+1)):Nat):Int):=λj I=>by
  rw[Nn (vA (i*j)) (vA i),aBV hi I]
 generalize bz w=W at *
 generalize w.getD i 0=c at *
 have e:=cI (step:=G8) 3 (λj=>((W,(),(i:Int),(pw (i*j):Int),(pw i:Int),(j:Int),()),(aaB w i j,()))) (.inl ((W,(),(i:Int),()),(vO w (i+1),()))) aV (λj I=>by
  have D:=D j;have E:=E j I;have C:=C j;generalize pw (i*j)=d at D E C ⊢;unfold G8 az xG xI xL;rcases(by omega:j=0 \/ j=1 \/ j=2)with rfl|rfl|rfl<;>simp[aaB,O,Y,D,E,C]<;>rfl) (by unfold G8 az xG xI xL;simp[aaB,vO]) (bM)
 have e0:pw (i*0)=1:=by rw[Nat.mul_zero];rfl
 rw[cv,e0]at e;exact e
def aBX{w:aa Nat}(C:eo w)(hl:w.length=11):Si (bz w)=some (vO w 11):=by
 have D:=(Ns C hl).ok;unfold Si bw;rw[Tl _ _ (by rw[iO];omega),D,ak];have e:=cI (step:=Mn) 11 (λi=>((bz w,(),(i:Int),()),(vO w i,()))) (.inl (((),()),(vO w 11,()))) aV (λi hi=>by
  have E:i<w.length:=by omega
  unfold Mn az xG bw;simp (disch:=omega) [iO,E,NL hi,aBW C hl hi,bI]) (by unfold Mn az xG bw;simp[ hl]) (bM)
 rw[cv]at e;have I:(List.replicate (3:Int).toNat (0:Int))=vO w 0:=rfl;simp_all
def og(w:aa Nat):Bool:=Nat.beq (bS w 0 11) 0&&(Nat.beq (bS w 1 11) 0&&Nat.beq (bS w 2 11) 0)
def gD(w:aa Nat):aa Nat×Int×Int:=bif og w then (w,0,-1)else match loc (bS w 0 11) (bS w 1 11) (bS w 2 11)with
 |some k=>(w.set k (w.getD k 0 ^^^ bS w 0 11),1,(k:Int))
 |none=>(w,2,-1)
def HN(n m:Nat):((n:Int)==(m:Int))=Nat.beq n m:=by
 cases h:Nat.beq n m with
 |true=>simp_all
 | false=>
  have:n≠m:=by rintro rfl;simp at h
  grind
def aBY{C s1 s2:Nat}(h:loc C s1 s2=none):∀ i,i<11 -> okB C s1 s2 i=false:=by
 intro i hi;have:=List.find?_eq_none.1 h i (ga.2 hi);simp_all
def TI{D s1 s2 k:Nat}(h:loc D s1 s2=some k):k<11/\okB D s1 s2 k=true /\ ∀ i,i<k -> okB D s1 s2 i=false:=by
 refine⟨ga.1 (List.mem_of_find?_eq_some h),List.find?_some h,λi hi=>?_⟩
 have⟨O,l1,l2,E,U⟩:=List.find?_eq_some_iff_append.1 h;have Y:l1.length=k/\l1=List.range k:=by
  have C:(List.range 11)[l1.length]?=some k:=by rw[E];simp
  have I:l1.length<11:=by have:=bC List.length E;simp at this;omega
  rw[List.getElem?_range I]at C;injection C with C;refine⟨C,?_⟩;have e2:(List.range 11).take l1.length=l1:=by rw[E];simp
  grind
 simp_all
def aBZ{w:aa Nat}(Y:eo w)(hl:w.length=11):Sj (bz w)=some (bz (gD w).1,(gD w).2.1,(gD w).2.2):=by
 have hs:=(Ns Y hl).ok;have ho:bE w.length=true:=cF;have h0:∀n:Nat,((n:Int)==(0:Int))=Nat.beq n 0:=λn=>HN n 0
 have CA:=s9 w 0 11;have nT:=s9 w 1 11;unfold Sj G9 xA bU xZ xI;rw[Tl _ _ (by rw[iO];omega),hs,ak,aBX Y hl];have e0:G9 (vO w 11)=some (og w):=by
  unfold G9 og xI;cases h1:Nat.beq (bS w 0 11) 0<;>cases h2:Nat.beq (bS w 1 11) 0<;>simp[vO,h0,h1,h2]
 have E:∀i (h:i<(bz w).length),(bz w)[i]=((w.getD i 0:Nat):Int):=λi h=>vB h
 have D:∀ k,(bz w).set k (bits .xor .i64 ((w.getD k 0:Nat):Int) ((bS w 0 11:Nat):Int))=bz (w.set k (w.getD k 0 ^^^ bS w 0 11)):=λk=>by
  rw[s8 (Y.get k) CA,Tj]
 have hlen:(bz w).length=11:=by rw[iO,hl]
 unfold G9 xI at e0;unfold gD og at *
 simp only[bG,av,ak];rw[e0,ak,cF (by simp[hlen])];cases hz:(Nat.beq (bS w 0 11) 0&&(Nat.beq (bS w 1 11) 0&&Nat.beq (bS w 2 11) 0))with
 |true=>simp
 | false=>
  simp only[av,aq,kJ];unfold vO;generalize hW:bz w=W at E D hlen ⊢;generalize hg0:bS w 0 11=C at *
  generalize X7:bS w 1 11=s1 at *
  generalize oF:bS w 2 11=s2 at *
  have step:∀ i:Nat,i<11->DX (((),(),(i:Int),()),(W,[(C:Int),(s1:Int),(s2:Int)],()))=some (bif okB C s1 s2 i then .inr (.inl (((),1,(i:Int),()),(bz (w.set i (w.getD i 0 ^^^ C)),())))else .inl (((),(),((i+1:Nat):Int),()),(W,[(C:Int),(s1:Int),(s2:Int)],()))):=by
   intro i hi;have dQ:i<W.length:=by omega
   have I:(i:Int)<11:=by omega
   have m1:=Nn CA (vA i);have m2:=Nn nT (vA i);have E:=E i dQ;have D:=D i;generalize w.getD i 0=c at E D ⊢;generalize bz (w.set i (c ^^^ C))=R at D ⊢;unfold DX okB az bx xG xL;have O:((C:Int) != (0:Int)) = !Nat.beq C 0:=by rw[bne,h0]
   cases U:Nat.beq C 0 with
   |true=>simp (disch:=omega) [I,NL hi,O,U,bI]
   | false=>
    cases q1:Nat.beq (gm C (pw i)) s1 with
    |false=>simp (disch:=omega) [I,NL hi,O,U,m1,HN,q1,bI]
    | true=>
     cases q2:Nat.beq (gm s1 (pw i)) s2 with
     |false=>simp (disch:=omega) [I,NL hi,O,U,m1,m2,HN,q1,q2,bI]
     |true=>simp (disch:=omega) [I,NL hi,O,U,m1,m2,HN,q1,q2,dQ,E,D]
  cases qE:loc C s1 s2 with
  | none=>
   have hn:=aBY qE;have e:=cI (step:=DX) 11 (λi=>(((),(),(i:Int),()),(W,[(C:Int),(s1:Int),(s2:Int)],()))) (.inr (.inl (((),()),(W,())))) aV (λi hi=>by rw[step i hi,hn i hi];rfl) (by unfold DX az bx xG xL;simp) (bM);rw[cv]at e;rw[e];simp only[Option.bind_some,Sum.elim_inr,dH];rw[hW]
  | some k=>
   obtain⟨hk,gk,HO⟩:=TI qE;have e:=cI (step:=DX) k (λi=>(((),(),(i:Int),()),(W,[(C:Int),(s1:Int),(s2:Int)],()))) (.inl (((),1,(k:Int),()),(bz (w.set k (w.getD k 0 ^^^ C)),()))) aV (λi hi=>by rw[step i (by omega),HO i hi];rfl) (by rw[step k hk,gk];rfl) (bM);rw[cv]at e;rw[e];rfl
def alN{C s1 s2:Nat}(D:C<16)(E:s1<16)(I:s2<16)(h:C=0 \/ s1=0):loc C s1 s2=none:=by
 have t:=ig (ig (ig alM D) E) I;have O:(Nat.beq C 0 ||Nat.beq s1 0)=true:=by rcases h with rfl|rfl<;>simp
 rw[O]at t;have t:=cL t;cases hl:loc C s1 s2 with
 |none=>rfl
 | some k=>
  rw[hl]at t;have:=(TI hl).1;simp[HM]at t;omega
def aB0{C s1 s2:Nat}(E:C<16)(I:s1<16)(O:s2<16)(U:C≠0)(Y:s1≠0):gm s1 (iv C)≠0/\loc C s1 s2=bif Nat.blt (lg (gm s1 (iv C))) 11&&Nat.beq (gm s1 (gm s1 (iv C))) s2 then some (lg (gm s1 (iv C)))else none:=by
 have t:=ig (ig (ig alM E) I) O;have c0:Nat.beq C 0=false:=by cases h:Nat.beq C 0 with|false=>rfl|true=>exact absurd (cL h) U
 have c1:Nat.beq s1 0=false:=by cases h:Nat.beq s1 0 with|false=>rfl|true=>exact absurd (cL h) Y
 dsimp only at t;rw[c0,c1,Bool.or_false,av,aP]at t;have⟨t1,D⟩:=t;have D:=cL D;refine⟨(by rintro e;rw[e]at t1;cases t1),?_⟩;cases hb:(Nat.blt (lg (gm s1 (iv C))) 11&&Nat.beq (gm s1 (gm s1 (iv C))) s2)with
 | true=>
  rw[hb,aq]at D;rw[aP]at hb;have dQ:lg (gm s1 (iv C))<11:=dj hb.1;cases hl:loc C s1 s2 with
  |none=>rw[hl]at D;simp[HM]at D;omega
  |some k=>rw[hl]at D;simp[HM]at D;rw[D];rfl
 | false=>
  rw[hb,av]at D;cases hl:loc C s1 s2 with
  |none=>rfl
  | some k=>
   have:=(TI hl).1;rw[hl]at D;simp[HM]at D;omega
def aB1{a:Nat}(h:a<16)(C:a≠0):Dx (a:Int)=some (iv a:Int):=by
 have t:=ig aAp h;simp_all
def aB2{a:Nat}(h:a<16)(C:a≠0):Rp (a:Int)=some (lg a:Int):=by
 have t:=ig aBS h;simp_all
def alO{w:aa Nat}(Y:eo w)(hl:w.length=11):Ll (bz w)=some (bz (gD w).1,(gD w).2.1,(gD w).2.2):=by
 have ho:bE (([]:aa Int).length+(bz w).length)=true:=cF (by simp[iO,hl]);have h0:∀n:Nat,((n:Int)==(0:Int))=Nat.beq n 0:=λn=>HN n 0
 have C:=s9 w 0 11;have D:=s9 w 1 11;have iT:=s9 w 2 11;have O:∀i (h:i<(bz w).length),(bz w)[i]=((w.getD i 0:Nat):Int):=λi h=>vB h
 have U:∀ k,(bz w).set k (bits .xor .i64 ((w.getD k 0:Nat):Int) ((bS w 0 11:Nat):Int))=bz (w.set k (w.getD k 0 ^^^ bS w 0 11)):=λk=>by
  rw[s8 (Y.get k) C,Tj]
 have hlen:(bz w).length=11:=by rw[iO,hl]
 unfold Ll xA xC xL xZ;rw[ZZ Y hl,ak,aAl Y hl,ho];have aB3:kM [((bS w 0 11:Nat):Int),((bS w 1 11:Nat):Int),((bS w 2 11:Nat):Int)]=false:=rfl;rw[aB3,av,aq,ak];unfold gD og;cases hz:(Nat.beq (bS w 0 11) 0&&(Nat.beq (bS w 1 11) 0&&Nat.beq (bS w 2 11) 0))with
 |true=>simp
 | false=>
  simp only[av,kJ];generalize hW:bz w=W at O U hlen ⊢;generalize hg0:bS w 0 11=E at *
  generalize X7:bS w 1 11=s1 at *
  generalize oF:bS w 2 11=s2 at *
  have cx:∀n:Nat,((n:Int) != (0:Int)) = !Nat.beq n 0:=λn=>by rw[bne,h0]
  by_cases I:E=0
  ·rw[alN C D iT (.inl I)];subst I;simp[hW]
  ·have c0:Nat.beq E 0=false:=by cases h:Nat.beq E 0 with | false=>rfl | true=>exact absurd (cL h) I
   by_cases n1:s1=0
   ·rw[alN C D iT (.inr n1)];simp_all
   ·have c1:Nat.beq s1 0=false:=by cases h:Nat.beq s1 0 with | false=>rfl | true=>exact absurd (cL h) n1
    have⟨nx,qE⟩:=aB0 C D iT I n1;have e1:=aB1 C I;have e2:=Eg D (aAo E);rw[qE];generalize hx:gm s1 (iv E)=x at *
    have alP:x<16:=by rw[<- hx];exact gV _ _
    have e3:=aB2 alP nx;have e4:=Eg D alP;generalize hn:lg x=n at *
    by_cases q1:n<11
    ·have d1:Nat.blt n 11=true:=mT q1;have d2:(n:Int)<11:=by omega
     have dQ:n<W.length:=by omega
     have O:=O n dQ;have U:=U n;cases q2:Nat.beq (gm s1 x) s2 with
     | true=>
      simp only[d1,cC,aq];generalize w.getD n 0=c at O U ⊢;simp_all
     | false=>
      simp[ e1,e2,e3,e4,HN,q2,hW]
    ·have d1:Nat.blt n 11=false:=by
      cases h:Nat.blt n 11 with
      |false=>rfl
      |true=>exact absurd (dj h) (by omega)
     have d2:¬ (n:Int)<11:=by omega
     simp only[d1,Bool.false_and,av];simp[cx,c0,c1,e1,e2,e3,d2,hW]
def Ey{w:aa Nat}(C:eo w)(hl:w.length=11):(gD w).1.length=11/\eo (gD w).1/\((gD w).2.1=0 \/ (gD w).2.1=1 \/ (gD w).2.1=2):=by
 have D:=s9 w 0 11;unfold gD;cases og w with
 |true=>simp_all
 | false=>
  cases loc _ _ _ with
  |none=>simp_all
  |some k=>exact⟨by simp[hl],C.set (nE (C.get k) D),.inr (.inl rfl)⟩
def aB4:(ke λa=>(List.range 11).all λk=>Nat.beq (gm (gm a (pw k)) (pw k)) (gm a (pw (k*2))))=true:=by kernel_rfl
def aB5{w:aa Nat}(O:eo w)(hl:w.length=11)(h:(gD w).2.1≠2):og (gD w).1=true:=by
 unfold gD at h ⊢;cases U:og w with
 |true=>grind
 | false=>
  rw[U,av]at h;simp only[av];cases Y:loc (bS w 0 11) (bS w 1 11) (bS w 2 11)with
  |none=>grind
  | some k=>
   have⟨E,C,_⟩:=TI Y;have D:=s9 w 0 11;simp only[okB,aP]at C;have I:=cL C.2.1;have k2:=cL C.2.2;have u:=λj=>akC O hl D E j
   have p0:gm (bS w 0 11) (pw (k*0))=bS w 0 11:=by rw[Nat.mul_zero];exact aAj D
   have p2:gm (bS w 0 11) (pw (k*2))=bS w 2 11:=by
    rw[<- cL (ck.1 (ig aB4 D) k (ga.2 E)),I,k2]
   simp only[og,aP];rw[u 0,u 1,u 2,p0,Nat.mul_one,I,p2,Nat.xor_self,Nat.xor_self,Nat.xor_self];exact⟨rfl,rfl,rfl⟩
def aB6{w:aa Nat}(h:og w=true):gD w=(w,0,-1):=by simp[gD,h]
def aB7{w:aa Nat}(C:eo w)(hl:w.length=11):Rr (bz w)=some (bz (w.drop 3)):=by
 unfold Rr xA xZ;have c0:((w.length:Int)==(11:Int))=true:=by rw[hl];rfl
 have D:(bz w).length=11:=by rw[iO,hl]
 rw[ZY C (by omega),ak,c0,show (!true)=false from rfl,av,D];have e:((bz w).take ((11:Nat):Int).toNat).drop (3:Int).toNat=bz (w.drop 3):=by
  rw[List.take_of_length_le (by omega)];simp_all
 have E:bE (([]:aa Int).length+(bz (w.drop 3)).length)=true:=by
  rw[iO,List.length_drop,hl];rfl
 simp_all
def aaC(x:iK):Prop:=TH x.cr/\TH x.next
def alQ(x:bX):Prop:=(x.aA.length<=1048576)
def aB8(x:c9):Prop:=(x.last.length<=1048576)/\(x.aT.length<=1048576)
def aaD(x:bQ):Prop:=(x.symbols.length<=1048576)
def TJ(x:cJ):Prop:=(x.cells.length<=1048576/\∀y∈x.cells,aaD y)/\(x.bu.length<=1048576)/\(x.bq.length<=1048576)
def aB9(x:dw):Prop:=(x.map.length<=1048576)
def HP(x:c8):Prop:=(x.aJ.length<=1048576)
def lQ(x:cq):Prop:=(x.rows.length<=1048576)/\(x.counts.length<=1048576)
def dJ(x:ax):Prop:=aaC x.box/\alQ x.aO/\aB8 x.ready/\TJ x.array/\aB9 x.spare/\HP x.aS/\(x.bH.length<=1048576/\∀y∈x.bH,lQ y)/\(x.guard.length<=1048576)/\(x.pending.length<=1048576)/\(x.queue.length<=1048576)/\(x.shares.length<=1048576)/\(x.errors.length<=1048576)/\(x.trace.length<=1048576)/\(x.bP.length<=1048576)
def rY(c:dP)(p:dz):Bool:=(rP c p).getD false
def NM(c:dP)(p:dz)(hl:p.weights.length<1073741823):rP c p=some (rY c p):=by
 obtain⟨b,e,_⟩:=aac c p hl;unfold rY;rw[e];rfl
def aCa(c:dP)(p:dz)(hl:p.weights.length<1073741823):Ds c p=some (rY c p):=by
 have⟨b,e,C,_⟩:=aAR c p hl;unfold rY;simp_all
def ba1(a x:Bool):(bif a then some x else some false)=some (a&&x):=by cases a<;>rfl
def ba2(a x:Bool):(bif !a then some false else some x)=some (a&&x):=by cases a<;>rfl
def ba3(a b:Int)(x:Bool):(bif a != b then some false else some x)=some (a==b&&x):=by
 rw[bne];cases a==b<;>rfl
theorem ba4(p:Prop)[Decidable p](x:Bool):(bif decide p then some false else some x)=some (!decide p&&x):=by cases decide p<;>rfl
def dK(c:ax):Bool:=
 rY c.config c.box.cr&&(rY c.config c.box.next&&(aQ c.now 0 1000000&&(mj c.config.au c.aO&&(kf c.config.au c.ready&&(oP c.config.au c.array&&(lP c.config.au c.spare&&(c.spare.bL==c.config.bL&&((fX c.aS&&um c)&&(gW (dU (cX c.config.au c.spare)) c.queue&&(jq c.shares&&((c.shares.length:Int)==4&&(oS c.drain&&(kG c.aR&&(c.aR.state==c.aO.aR&&(!decide (c.aR.since > c.now)&&(aQ c.cY.every 1 100000&&(aQ c.cY.wait 1 c.cY.every&&(aQ c.cY.next 0 (W6 (dU c.config.au-1))&&(mm c.errors&&(decide ((c.trace.length:Int)<=2000)&&decide ((c.bP.length:Int)<=400)))))))))))))))))))))
def BX(c:ax)(C:dJ c):zj c=some (dK c):=by
 have⟨⟨D,E⟩,z3,⟨z4,z5⟩,⟨⟨z6,I⟩,z7,z8⟩,z9,O,⟨oU,aGx⟩,oV,mg,oc,rQ,z16,ZP,z18⟩:=C;unfold TH at D E;have U:∀ x∈c.array.cells,x.symbols.length<1073741824:=λx Y=>by
  have:=I x Y;unfold aaD at this;omega
 unfold HP at O;unfold zj dK;simp only[NM _ _ (show c.box.cr.weights.length<1073741823 by omega),NM _ _ (show c.box.next.weights.length<1073741823 by omega),dy,akY,aaj,akM _ _ U,ak7,aA8 _ (show c.aS.aJ.length<1073741824 by omega),Eo,Ee,aag _ _ (show c.queue.length<1073741824 by omega),HF _ (show c.shares.length<1073741824 by omega),Tv,Ty,ak2 _ (show c.errors.length<1073741824 by omega),ak,ba1,ba2,ba3,ba4]
def aaE{g:aG}{a:cJ}(h:oP g a=true):ct g=true/\(a.bu.length:Int)=gn g/\(a.bq.length:Int)=gn g:=by
 simp[oP,aP,fU]at h;simp_all
def alR(p:dz):Prop:=(0<=p.eG/\p.eG<=1)/\(0<=p.cap/\p.cap<=200)/\(0<=p.low/\p.low<=2)/\(p.low<p.high/\p.high<=6)/\(∃(i:Nat) (w:Int),i<4/\1<=w/\w<=4/\p.weights=[1,1,1,1].set i w)/\(5<=p.de.down/\p.de.down<=24)/\(60<=p.de.sleep/\p.de.sleep<=119)
def tu(p:dz):Prop:=alR p/\8<=p.eC/\p.eC<=17
def aCb{b:aa Int}{c:bO}(U:lN b c):Dr b (QA c) alR:=by
 unfold QA xL;rw[U.eq];show Dr b (Option.bind (some _) _) _;rw[ak]
 refine(fS U 2).bind λx1 k1 Y pS=>?_
 dsimp only;rw[pS.eta]
 refine(Tn pS _ (by decide)).bind λx2 k2 h2 mJ=>?_
 dsimp only;rw[mJ.eta]
 refine(fS mJ 6).bind λx3 k3 h3 n6=>?_
 dsimp only;rw[n6.eta]
 refine(fS n6 3).bind λC k4 D wR=>?_
 dsimp only;rw[wR.eta]
 refine(fS wR 4).bind λE k5 h5 sX=>?_
 dsimp only;rw[sX.eta]
 refine(fS sX 4).bind λx6 k6 h6 BY=>?_
 dsimp only;rw[BY.eta]
 refine(fS BY 4).bind λx7 k7 h7 BZ=>?_
 have a1:=Y.2.2 (by omega);have a3:=h3.2.2 (by omega);have a4:=D.2.2 (by omega);have a5:=h5.2.2 (by omega);have a6:=h6.2.2 (by omega);have a7:=h7.2.2 (by omega);have b3:=h3.1;have b4:=D.1;have b5:=h5.1;have b6:=h6.1;have b7:=h7.1;have hl:x6.toNat<([1,1,1,1]:aa Int).length:=by simp only[mU,List.length_nil];omega
 dsimp only;rw[aC ⟨b6,hl⟩,aC hl,BZ.eta]
 refine(fS BZ 20).bind λI k8 h8 NN=>?_
 dsimp only;rw[NN.eta]
 refine(fS NN 60).bind λO k9 h9 xH=>?_
 dsimp only;rw[xH.eta];have a8:=h8.2.2 (by omega);have a9:=h9.2.2 (by omega);have b8:=h8.1;have b9:=h9.1;rw[aY (n:=3+x3),aY (n:=C+1),aY (n:=C+1+E),aY (n:=1+x7),aY (n:=5+I),aY (n:=60+O)];simp only[gZ,List.not_mem_nil,or_false]at h2;refine Dr.pure xH ⟨⟨Y.1,by show x1<=_;omega⟩,⟨by show 0<=x2;omega,by show x2<=_;omega⟩,⟨D.1,by show C<=_;omega⟩,⟨by show C<C+1+E;omega,by show C+1+E<=_;omega⟩,⟨x6.toNat,1+x7,by omega,by omega,by omega,rfl⟩,⟨by show 5<=5+I;omega,by show 5+I<=_;omega⟩,⟨by show 60<=60+O;omega,by show 60+O<=_;omega⟩⟩
def alS{b:aa Int}{c:bO}(C:lN b c):Dr b (Kf c) tu:=by
 unfold Kf;rw[C.eq]
 refine(aCb C).bind λU Y O D=>?_
 dsimp only;rw[D.eta]
 refine(fS D 10).bind λE k2 h2 I=>?_
 dsimp only;rw[I.eta];rw[aY];exact Dr.pure I ⟨O,by show 8 <= 8+E;omega,by show 8+E <= _;omega⟩
def aCc{b:aa Int}{c:bO}(C:lN b c):Dr b (Qx c) λg=>g.bK=1/\1<=g.aA/\g.aA<=2/\1<=g.aK/\g.aK<=2:=by
 unfold Qx;rw[C.eq]
 refine(fS C 2).bind λD k1 E I=>?_
 dsimp only;rw[I.eta]
 refine(fS I 3).bind λx2 k2 O U=>?_
 dsimp only;rw[U.eta]
 refine(fS U 2).bind λY k3 h3 n6=>?_
 dsimp only;rw[n6.eta];have a1:=E.2.2 (by omega);have a2:=O.2.2 (by omega);have a3:=h3.2.2 (by omega);have b1:=E.1;have b2:=O.1;have b3:=h3.1;rw[aY,aY,aY];exact Dr.pure n6 ⟨rfl,by show 1<=1+D;omega,by show 1+D<=_;omega,by show 1<=1+Y;omega,by show 1+Y<=_;omega⟩
def aCd{b:aa Int}{c:bO}(C:lN b c):Dr b (Qz c) λm=>0 <= m.order/\m.order <= 2:=by
 unfold Qz;rw[C.eq]
 refine(fS C 3).bind λI U O D=>?_
 rw[D.eta]
 refine(To D 2).bind λY k2 h2 E=>?_
 rw[E.eta];exact Dr.pure E ⟨O.1,by show I <= 2;omega⟩
def xJ(kj wr:Int):cg:=⟨3,3,7,2,3,10,2,3,kj,wr,4,5,4,12,3,4,16⟩
def TK(g:aG):Prop:=(1<=g.bK/\g.bK<=2)/\(1<=g.aA/\g.aA<=2)/\(4<=g.rows/\g.rows<=6)/\(1<=g.aK/\g.aK<=2)
def lR(x:dP):Prop:=TK x.au/\(∃r w:Int,1<=r/\r<=4/\4<=w/\w<=8/\x.bY=xJ r w)/\(0<=x.mapping.order/\x.mapping.order<=2)/\(0<=x.bL/\x.bL<=2)/\(200<=x.interval/\x.interval<=259)/\x.gO=16/\x.dg=⟨6*x.interval,40⟩
def alT{b:aa Int}{c:bO}(O:lN b c):Dr b (Ke c) lR:=by
 unfold Ke;rw[O.eq]
 refine(aCc O).bind λg kg hg U=>?_
 dsimp only;rw[U.eta];obtain⟨g1,g2,g3,g4,g5⟩:=hg;show Dr b (Option.bind (some _) _) _;rw[ak]
 refine(aCd U).bind λm km Y hkm=>?_
 dsimp only;rw[hkm.eta]
 refine(fS hkm 60).bind λC k1 h1 pS=>?_
 dsimp only;rw[pS.eta]
 refine(fS pS 3).bind λD k2 h2 mJ=>?_
 dsimp only;rw[mJ.eta]
 refine(fS mJ 2).bind λE k3 h3 n6=>?_
 dsimp only;rw[n6.eta]
 refine(fS n6 3).bind λx4 k4 h4 wR=>?_
 dsimp only;rw[wR.eta]
 refine(To wR 3).bind λx5 k5 h5 I=>?_
 dsimp only;rw[I.eta];have a1:=h1.2.2 (by omega);have a2:=h2.2.2 (by omega);have a3:=h3.2.2 (by omega);have a4:=h4.2.2 (by omega);have b1:=h1.1;have b2:=h2.1;have b3:=h3.1;have b4:=h4.1;have e1:W6 (200+C)=200+C:=aY;have e2:W6 (6*(200+C))=6*(200+C):=aY;have e3:W6 (4+D)=4+D:=aY;have e4:W6 (1+E)=1+E:=aY;rw[e1,e2,e3,e4];have hG:TK ⟨1+E,g.aA,4+D,g.aK⟩:=⟨⟨by show 1<=1+E;omega,by show 1+E<=2;omega⟩,⟨g2,g3⟩,⟨by show 4<=4+D;omega,by show 4+D<=6;omega⟩,⟨g4,g5⟩⟩
 cases x5 with
 | true=>
  rw[aq]
  refine(fS I 5).bind λx6 k6 h6 BY=>?_
  dsimp only;rw[BY.eta]
  refine(fS BY 4).bind λx7 k7 h7 BZ=>?_
  dsimp only;rw[BZ.eta];have a6:=h6.2.2 (by omega);have a7:=h7.2.2 (by omega);have b6:=h6.1;have b7:=h7.1;rw[aY (n:=1+x7),aY (n:=4+x6)];exact Dr.pure BZ ⟨hG,⟨1+x7,4+x6,by omega,by omega,by omega,by omega,rfl⟩,Y,⟨b4,by show x4<=2;omega⟩,⟨by show 200<=200+C;omega,by show 200+C<=259;omega⟩,rfl,rfl⟩
 |false=>exact Dr.pure I ⟨hG,⟨3,6,by omega,by omega,by omega,by omega,rfl⟩,Y,⟨b4,by show x4<=2;omega⟩,⟨by show 200<=200+C;omega,by show 200+C<=259;omega⟩,rfl,rfl⟩
def gp(p:aN->Bool)(q:aa aN):Nat:=(q.findIdx? p).getD q.length
def TL(p:aN -> Bool)(q:aa aN):gp p q <= q.length:=by
 unfold gp;cases h:q.findIdx? p with
 |none=>simp_all
 | some k=>
  have⟨C,_⟩:=nO.1 h
  grind
def jE(p:aN->Bool)(q:aa aN)(r:aN):aa aN:=(q.take (gp p q)++[r])++q.drop (gp p q)
def aaF(p:aN->Bool)(q:aa aN)(r:aN):(jE p q r).length=q.length+1:=by
 have:=TL p q;simp[jE];omega
def alU{p:aN -> Bool}{q:aa aN}{i:Nat}(h:i<gp p q)(hi:i<q.length):p q[i]=false:=by
 unfold gp at h;cases C:q.findIdx? p with
 |none =>simp_all
 | some k=>
  rw[C]at h;have⟨_,_,D⟩:=nO.1 C;simp_all
def alV{p:aN -> Bool}{q:aa aN}(h:gp p q<q.length):p q[gp p q]=true:=by
 unfold gp at h;cases C:q.findIdx? p with
 |none=>grind
 | some k=>
  have⟨D,E,_⟩:=nO.1 C;have e:gp p q=k:=by unfold gp;rw[C];rfl
  simp_all
def aaG{n:Int}{l:aa aN}(h:gW n l=true){i j:Nat}(E:i<j)(D:j<l.length):(l[i].id==l[j].id)=false:=by
 unfold gW at h;rw[aP,ck]at h;have C:=h.1 j (ga.2 D);unfold qV at C;rw[bT D]at C;simp at C;have:=C.2.2 l[i] (jI.2 ⟨i,by simp;omega,by simp⟩);simp_all
def alW{n:Int}{p:aN->Bool}{q:aa aN}{r:aN}(h:gW n (jE p q r)=true):∀ x∈q,(x.id==r.id)=false:=by
 intro x D;have E:=TL p q;have hl:=aaF p q r;obtain⟨i,hi,rfl⟩:=jI.1 D;have C:(jE p q r)[gp p q]'(by omega)=r:=by
  unfold jE;rw[List.getElem_append_left (by simp;omega),List.getElem_append_right (by simp;omega)];simp
 by_cases c:i<gp p q
 ·have e:(jE p q r)[i]'(by omega)=q[i]:=by
   unfold jE;rw[List.getElem_append_left (by simp;omega),List.getElem_append_left (by simp;omega),List.getElem_take]
  have:=aaG h c (by omega);rw[e,C]at this;exact this
 ·have e:(jE p q r)[i+1]'(by omega)=q[i]:=by
   unfold jE;rw[List.getElem_append_right (by simp;omega),List.getElem_drop];congr 1;simp;omega
  have:=aaG h (show gp p q<i+1 by omega) (by omega);rw[e,C]at this;rw[aBM];exact this
def alX{p C:aN->Bool}:∀ {q:aa aN},(∀ x∈q,p x=C x)->q.findIdx? p=q.findIdx? C
 |[],_=>rfl
 | y :: q,h=>by
  rw[List.findIdx?_cons,List.findIdx?_cons,h y (.head _),alX λx D=>h x (.tail _ D)]
def alY{n:Int}{q:aa aN}{r:aN}(h:gW n (jE (λx=>!dD x r) q r)=true\/gW n (jE (λx=>dD r x) q r)=true):jE (λx=>!dD x r) q r=jE (λx=>dD r x) q r:=by
 have E:∀ x∈q,(x.id==r.id)=false:=by
  rcases h with h|h
  ·exact alW h
  ·exact alW h
 have C:∀ x∈q,(!dD x r)=dD r x:=by
  intro x C;have D:=E x C;have D:¬ x.id=r.id:=by simpa using D
  unfold dD;rw[Bool.eq_iff_iff];simp only[ij,o5,Bool.and_eq_false_iff,qh,beq_eq_false_iff_ne,eN,aP,fU,eZ];omega
 have e:gp (λx=>!dD x r) q=gp (λx=>dD r x) q:=by
  unfold gp;rw[alX C]
 unfold jE;rw[e]
def zP(n:Int)(q:aa aN)(r:aN):aa aN×Bool:=bif gW n q&&gW n (jE (λx=>dD r x) q r)then (jE (λx=>dD r x) q r,true)else (q,false)
def aaH(q:aa aN)(h:q.length<1073741824):Lb q=some q:=by
 unfold Lb xA xZ;rw[cF (by simpa using h)];rfl
def NO(r:aN):(⟨r.id,r.dM,r.line,r.write,r.data,r.at_⟩:aN)=r:=rfl
def aCe(n:Int)(q:aa aN)(r:aN)(hl:q.length<1000000000):Ri n q r=some (zP n q r):=by
 have E:=TL (λx=>!dD x r) q;unfold Ri bw;have e:=cI (step:=Lc) (gp (λx=>!dD x r) q) (λi=>((n,q,(),(i:Int),()),((r.id,r.dM,r.line,r.write,r.data,r.at_,()),()))) (.inl ((n,q,(),((gp (λx=>!dD x r) q:Nat):Int),()),((r.id,r.dM,r.line,r.write,r.data,r.at_,()),()))) aV (λk h=>by
  have C:=alU h (by omega);have C:dD q[k] r=true:=by simpa using C
  unfold Lc az xG xI;dsimp only;rw[aW,aq,aC ⟨by omega,by omega⟩];simp only[bD];rw[NO,Tx,ak,C,aq,bI]) (by
  unfold Lc az xG xI;dsimp only;by_cases c:gp (λx=>!dD x r) q<q.length
  ·have C:=alV c;have C:dD q[gp (λx=>!dD x r) q] r=false:=by simpa using C
   rw[aW,aq,aC ⟨by omega,by omega⟩];simp only[bD];rw[NO,Tx,ak,C,av]
  ·rw[aZ,av]) (bM)
 rw[cv]at e;rw[e,ak];simp only[dH];rw[bg ⟨by omega,by omega,by omega⟩,bg ⟨by omega,by omega,by omega⟩];simp only[bD,Int.toNat_zero,List.drop_zero,iR];rw[NO,aaH _ (by simp;omega),ak,cF (by simp;omega),aq,cF (by simp;omega),aq,aag n q (by omega),ak];unfold zP;have I:=aaF (λx=>!dD x r) q r;cases O:gW n q with
 | false=>
  rw[jx,aq,aaH _ (by omega),ak];rfl
 | true=>
  rw[bG,av];show (DB n (jE (λx=>!dD x r) q r)).bind _=_;rw[aag n _ (by omega),ak,cC];cases C:gW n (jE (λx=>!dD x r) q r)with
  | false=>
   have D:gW n (jE (λx=>dD r x) q r)=false:=by
    cases D:gW n (jE (λx=>dD r x) q r)with
    |false=>rfl
    |true=>rw[alY (.inr D),D]at C;cases C
   rw[D,jx,aq,aaH _ (by omega),ak];rfl
  | true=>
   have D:=alY (.inl C);rw[<-D,C,bG,av,aq];rfl
def oh(r:aN)(q:aa aN)(i:Nat):aa aN:=if gp (λx=>dD r x) q<i then (q.take (gp (λx=>dD r x) q)++[r])++(q.take i).drop (gp (λx=>dD r x) q)else q.take i
def alZ(r:aN)(q:aa aN)(i:Nat)(h:i <= q.length):(oh r q i).length <= i+1:=by
 unfold oh
 grind
def aCf{r:aN}{q:aa aN}{k:Nat}(C:k<q.length)(h:k=gp (λx=>dD r x) q):oh r q (k+1)=(q.take k++[r])++[q[k]]:=by
 unfold oh;rw[bg,<- h,nD,List.drop_left' (by simp;omega)]
def aCg{r:aN}{q:aa aN}{k:Nat}(C:k<q.length)(h:gp (λx=>dD r x) q<k):oh r q (k+1)=oh r q k++[q[k]]:=by
 unfold oh;rw[bg,bg h,nD C,List.drop_append_of_le_length (by simp;omega)];simp_all
def aCh{r:aN}{q:aa aN}{k:Nat}(C:k<q.length)(h:k<gp (λx=>dD r x) q):oh r q (k+1)=oh r q k++[q[k]]:=by
 unfold oh;rw[bk,bk,nD C]
def aCi(n:Int)(q:aa aN)(r:aN)(hl:q.length<1000000000):Sd n q r=some (zP n q r):=by
 have hk:=TL (λx=>dD r x) q;unfold Sd xA bw xZ;have e:=cI (step:=L9) q.length (λi=>((n,q,(),(),decide (gp (λx=>dD r x) q<i),(i:Int),()),((r.id,r.dM,r.line,r.write,r.data,r.at_,()),oh r q i,()))) (.inl ((n,q,(),(),decide (gp (λx=>dD r x) q<q.length),()),((r.id,r.dM,r.line,r.write,r.data,r.at_,()),oh r q q.length,()))) aV (λk h=>by
  have I:=alZ r q k (by omega);unfold L9 az xG xI;dsimp only;rw[aW (show (k:Int)<(q.length:Int) by omega),aq];by_cases c:gp (λx=>dD r x) q<k
  ·rw[aW c,bG,av,aC ⟨by omega,by omega⟩];simp only[bD];rw[cF (by simp;omega),aq,bI,aCg h c,aW (show gp _ q<k+1 by omega)]
  ·rw[aZ c,jx,aq,aC ⟨by omega,by omega⟩];simp only[bD];rw[NO,akZ,ak];by_cases O:k=gp (λx=>dD r x) q
   ·have C:dD r q[k]=true:=by
     have:=alV (p:=λx=>dD r x) (q:=q) (by omega);simp_all
    have D:oh r q k=q.take k:=by unfold oh;rw[bk c]
    rw[C,aq,cF (by simp;omega),aq,aC ⟨by omega,by omega⟩,cF (by simp;omega),aq,bI,aW (show gp _ q<k+1 by omega),aCf h O,D]
   ·have C:=alU (p:=λx=>dD r x) (by omega) h;rw[C,av,aC ⟨by omega,by omega⟩,cF (by simp;omega),aq,bI,aZ (show ¬ gp _ q<k+1 by omega),aCh h (by omega)]) (by
  unfold L9 az xG xI;dsimp only;rw[aZ,av]) (bM)
 have D:oh r q 0=[]:=by
  unfold oh;simp[*]
 rw[cv,D,aZ (show ¬ gp (λx=>dD r x) q<0 by omega)]at e;rw[e,ak];simp only[dH];have hle:=aaF (λx=>dD r x) q r;have E:∀l:aa aN,l.length<1073741824 -> bE (([]:aa aN).length+l.length)=true:=λl h=>cF (by simpa using h)
 have key:∀ o:aa aN,o=jE (λx=>dD r x) q r -> ((zB n q).bind λU=>bif (!U)then bif bE (([]:aa aN).length+q.length)then some ((([]:aa aN)++q),false)else none else (zB n o).bind λY=>bif (!Y)then bif bE (([]:aa aN).length+q.length)then some ((([]:aa aN)++q),false)else none else some (o,true))=some (zP n q r):=by
  rintro o rfl;rw[ak0,ak];unfold zP;cases h1:gW n q with
  |false=>rw[jx,aq,E q (by omega)];rfl
  | true=>
   rw[bG,av,ak0,ak,cC];cases C:gW n (jE (λx=>dD r x) q r)with
   |false=>rw[jx,aq,E q (by omega)];rfl
   |true=>rfl
 have I:=alZ r q q.length (dc _);by_cases c:gp (λx=>dD r x) q<q.length
 ·rw[aW c,bG];refine key _ ?_;unfold oh jE;simp[*]
 ·rw[aZ c,jx,aq,cF (by simp only[mV];omega),aq,NO];refine key _ ?_;unfold oh jE;have:gp (λx=>dD r x) q=q.length:=by omega
  rw[bk c,this,iR,List.drop_length,List.append_nil]
abbrev aCj:=((af×af×af×Int×af)×(ax×(Int×Int×Int×Int×Int×Int×Int×Int×Int×Int×Int×Int×Int×Int×Int×Int×Int×Int×Int×Int×Int×Int×Bool×Int×Int×Int×Int×Int×Int×Int×Int×Int×Int×af×Int×Int×Int×Int×Int×Int×Int×af×Int×Int×Bool×Int×af×Int×af×af×af×af×af×Int×af×af×Int×Bool×(aa cq)×(aa Int)×(aa aM)×(aa aN)×(aa cD)×Bool×Int×Int×Int×Int×Int×Int×Int×Int×(aa cB)×(aa bW)×(aa dA)×af)×(aa cq)×(aa Int)×(aa Int)×(aa di)×(aa Int)×(aa Int)×(aa bQ)×(aa Int)×(aa Int)×(aa Int)×(aa Int)×af))
abbrev aCk:=((af×af×af×(aa cq)×Int×Int×af)×(ax×ax×(Int×Int×Int×Int×Int×Int×Int×Int×Int×Int×Int×Int×Int×Int×Int×Int×Int×Int×Int×Int×Int×Int×Bool×Int×Int×Int×Int×Int×Int×Int×Int×Int×Int×af×Int×Int×Int×Int×Int×Int×Int×af×Int×Int×Bool×Int×af×Int×af×af×af×af×af×Int×af×af×Int×Bool×af×(aa Int)×(aa aM)×(aa aN)×(aa cD)×Bool×Int×Int×Int×Int×Int×Int×Int×Int×(aa cB)×(aa bW)×(aa dA)×af)×(aa Int)×(aa Int)×(aa di)×(aa Int)×(aa Int)×(aa bQ)×(aa Int)×(aa Int)×(aa Int)×(aa Int)×(aa cq)×af))
def jF{α:Type}(l:aa α)(h:l.length<=1048577:=by omega):bE (([]:aa α).length+l.length)=true:=cF (by simp;omega)
def aaI(t:cq)(h:lQ t):GD t=some t:=by
 unfold GD xA xZ;have C:=h.1;have D:=h.2;rw[jF _,jF _];rfl
def al0(t:cq)(h:lQ t):MQ t=some t:=aaI t h
def aCl(s:aCj)(T:aa cq)(C:s.1.2.2.2.1=0)(D:s.2.2.2.1=[])(E:s.2.2.1.2.2.2.2.2.2.2.2.2.2.2.2.2.2.2.2.2.2.2.2.2.2.2.2.2.2.2.2.2.2.2.2.2.2.2.2.2.2.2.2.2.2.2.2.2.2.2.2.2.2.2.2.2.2.2.2.2.2.1=T)(I:T.length<=1048576/\∀ y∈T,lQ y):iter Hz aV s=some (.inl (((),(),(),()),(s.2.1,s.2.2.1,T,s.2.2.2.2))):=by
 subst E;have e:=cI (step:=Hz) (s.2.2.1.2.2.2.2.2.2.2.2.2.2.2.2.2.2.2.2.2.2.2.2.2.2.2.2.2.2.2.2.2.2.2.2.2.2.2.2.2.2.2.2.2.2.2.2.2.2.2.2.2.2.2.2.2.2.2.2.2.2.1).length (λi=>(((),(),(),(i:Int),()),(s.2.1,s.2.2.1,(s.2.2.1.2.2.2.2.2.2.2.2.2.2.2.2.2.2.2.2.2.2.2.2.2.2.2.2.2.2.2.2.2.2.2.2.2.2.2.2.2.2.2.2.2.2.2.2.2.2.2.2.2.2.2.2.2.2.2.2.2.2.1).take i,s.2.2.2.2))) (.inl (((),(),(),()),(s.2.1,s.2.2.1,s.2.2.1.2.2.2.2.2.2.2.2.2.2.2.2.2.2.2.2.2.2.2.2.2.2.2.2.2.2.2.2.2.2.2.2.2.2.2.2.2.2.2.2.2.2.2.2.2.2.2.2.2.2.2.2.2.2.2.2.2.2.1,s.2.2.2.2))) aV (λk h=>by
  unfold Hz az xG xI;dsimp only;rw[aW,aq,aC ⟨by omega,by omega⟩];simp only[bD];rw[al0 _ (I.2 _ (cQ _)),ak,cF (by simp;omega),aq,bI,nD h]) (by
  unfold Hz az xG xI;dsimp only;rw[aZ,av,iR]) (bM)
 have O:s=(((),(),(),((0:Nat):Int),()),(s.2.1,s.2.2.1,(s.2.2.1.2.2.2.2.2.2.2.2.2.2.2.2.2.2.2.2.2.2.2.2.2.2.2.2.2.2.2.2.2.2.2.2.2.2.2.2.2.2.2.2.2.2.2.2.2.2.2.2.2.2.2.2.2.2.2.2.2.2.1).take 0,s.2.2.2.2)):=by
  rw[List.take_zero,<-D,cv,<-C]
 rw[<-e,<-O]
def aCm(s:aCk)(D:s.1.2.2.2.2.2.1=0)(E:s.1.2.2.2.2.1=(s.1.2.2.2.1.length:Int))(I:s.2.2.2.2.2.2.2.2.2.2.2.2.2.2.1=[])(C:s.1.2.2.2.1.length <= 1048576 /\ ∀ y∈s.1.2.2.2.1,lQ y):iter GF aV s=some (.inl (((),(),(),()),(s.2.1,s.2.2.1,s.2.2.2.1,s.2.2.2.2.1,s.2.2.2.2.2.1,s.2.2.2.2.2.2.1,s.2.2.2.2.2.2.2.1,s.2.2.2.2.2.2.2.2.1,s.2.2.2.2.2.2.2.2.2.1,s.2.2.2.2.2.2.2.2.2.2.1,s.2.2.2.2.2.2.2.2.2.2.2.1,s.2.2.2.2.2.2.2.2.2.2.2.2.1,s.2.2.2.2.2.2.2.2.2.2.2.2.2.1,s.1.2.2.2.1,s.2.2.2.2.2.2.2.2.2.2.2.2.2.2.2))):=by
 have e:=cI (step:=GF) s.1.2.2.2.1.length (λi=>(((),(),(),s.1.2.2.2.1,s.1.2.2.2.1.length,i,()),(s.2.1,s.2.2.1,s.2.2.2.1,s.2.2.2.2.1,s.2.2.2.2.2.1,s.2.2.2.2.2.2.1,s.2.2.2.2.2.2.2.1,s.2.2.2.2.2.2.2.2.1,s.2.2.2.2.2.2.2.2.2.1,s.2.2.2.2.2.2.2.2.2.2.1,s.2.2.2.2.2.2.2.2.2.2.2.1,s.2.2.2.2.2.2.2.2.2.2.2.2.1,s.2.2.2.2.2.2.2.2.2.2.2.2.2.1,s.1.2.2.2.1.take i,s.2.2.2.2.2.2.2.2.2.2.2.2.2.2.2))) _ aV (λk h=>by
  unfold GF az xG xI;dsimp only;rw[aW,aq,aC ⟨by omega,by omega⟩];simp only[bD];rw[aaI _ (C.2 _ (cQ _)),ak,cF (by simp;omega),aq,bI,nD h]) (by
  unfold GF az xG xI;dsimp only;rw[aZ,av,iR]) (bM)
 grind
def al1(l:aa Int)(h:l.length <= 1048577):Rg l=some l:=by
 cases l with
 |nil=>rfl
 | cons a l=>
  show (bif bE _ then some _ else none)=_;rw[jF _ h];rfl
def aCn(l:aa aM)(h:l.length <= 1048577):YV l=some l:=by
 cases l with
 |nil=>rfl
 | cons a l=>
  show (bif bE _ then some _ else none)=_;rw[jF _ h];rfl
def aCo(l:aa aN)(h:l.length <= 1048577):YW l=some l:=by
 cases l with
 |nil=>rfl
 | cons a l=>
  show (bif bE _ then some _ else none)=_;rw[jF _ h];rfl
def aCp(l:aa cD)(h:l.length <= 1048577):YX l=some l:=by
 cases l with
 |nil=>rfl
 | cons a l=>
  show (bif bE _ then some _ else none)=_;rw[jF _ h];rfl
def aCq(l:aa cB)(h:l.length <= 1048577):YY l=some l:=by
 cases l with
 |nil=>rfl
 | cons a l=>
  show (bif bE _ then some _ else none)=_;rw[jF _ h];rfl
def aCr(l:aa bW)(h:l.length <= 1048577):YZ l=some l:=by
 cases l with
 |nil=>rfl
 | cons a l=>
  show (bif bE _ then some _ else none)=_;rw[jF _ h];rfl
def aCs(l:aa dA)(h:l.length <= 1048577):Y0 l=some l:=by
 cases l with
 |nil=>rfl
 | cons a l=>
  show (bif bE _ then some _ else none)=_;rw[jF _ h];rfl
def aaJ(b:iK)(h:aaC b):GA b=some b:=by
 have C:b.cr.weights.length <= 1048576:=h.1;have D:b.next.weights.length <= 1048576:=h.2
 unfold GA xb xA xZ;rw[jF _,aq,jF _];rfl
def al2(b:iK)(h:aaC b):Mi b=some b:=aaJ b h
def aCt(c:ax)(D:dJ c):S2 c=some c:=by
 obtain⟨E,I,O,C,U,Y,z7,z8,z9,jT,oU,oV,mg,oc⟩:=D;have y2:c.aO.aA.length<=1048576:=I;obtain⟨y3,y3'⟩:=O;have y5:c.spare.map.length<=1048576:=U;have y6:c.aS.aJ.length<=1048576:=Y;unfold S2 xA bw xZ;rw[al2 _ E,ak];unfold ZR vv M5 Hx xA xZ;rw[jF _,aq,ak,jF _,aq,jF _,aq,ak,aAy _ (by have:=C.1.1;omega) (by have:=C.2.1;omega) (by have:=C.2.2;omega) (λx hx=>by have:x.symbols.length<=1048576:=C.1.2 x hx;omega),ak,jF _,aq,ak,jF _,aq,ak]
 refine(bC (λo=>Option.bind o _) (aCl _ c.bH rfl rfl rfl z7)).trans ?_
 rw[ak];simp only[dH];rw[jF c.guard,aq,jF c.pending,aq,jF c.queue,aq,jF c.shares,aq,jF c.errors,aq,jF c.trace,aq,jF c.bP,aq];rfl
def Ez(c:ax)(D:dJ c):Bh c=some c:=by
 obtain⟨E,I,O,C,U,Y,z7,z8,z9,jT,oU,oV,mg,oc⟩:=D;have y2:c.aO.aA.length<=1048576:=I;obtain⟨y3,y3'⟩:=O;have y5:c.spare.map.length<=1048576:=U;have y6:c.aS.aJ.length<=1048576:=Y;unfold Bh bw;rw[aaJ _ E,ak];unfold GB GC Bg xA xZ;rw[jF _,aq,ak,jF _,aq,jF _,aq,ak,akL _ (by have:=C.1.1;omega) (by have:=C.2.1;omega) (by have:=C.2.2;omega) (λx hx=>by have:x.symbols.length<=1048576:=C.1.2 x hx;omega),ak,al1 _ (by omega),ak,jF _,aq,ak]
 refine(bC (λo=>Option.bind o _) (aCm _ rfl rfl rfl z7)).trans ?_
 rw[ak];simp only[dH];rw[al1 c.guard (by omega),ak,aCn c.pending (by omega),ak,aCo c.queue (by omega),ak,aCp c.shares (by omega),ak,aCq c.errors (by omega),ak,aCr c.trace (by omega),ak,aCs c.bP (by omega),ak];rfl
def gq{α:Type}(p:α->Bool)(q:aa α):Nat:=(q.findIdx? p).getD q.length
def EA{α:Type}(p:α -> Bool)(q:aa α):gq p q <= q.length:=by
 unfold gq;cases h:q.findIdx? p with
 |none=>simp_all
 | some k=>
  have⟨C,_⟩:=nO.1 h
  grind
def vP{α:Type}{p:α -> Bool}{q:aa α}{i:Nat}(h:i<gq p q)(hi:i<q.length):p q[i]=false:=by
 unfold gq at h;cases C:q.findIdx? p with
 |none =>simp_all
 | some k=>
  rw[C]at h;have⟨_,_,D⟩:=nO.1 C;simp_all
def B0{α:Type}{p:α -> Bool}{q:aa α}(h:gq p q<q.length):p q[gq p q]=true:=by
 unfold gq at h;cases C:q.findIdx? p with
 |none=>grind
 | some k=>
  have⟨D,E,_⟩:=nO.1 C;have e:gq p q=k:=by unfold gq;rw[C];rfl
  simp_all
def TM{α:Type}(p:α -> Bool)(q:aa α):q.any p=decide (gq p q<q.length):=by
 by_cases c:gq p q<q.length
 ·rw[aW c,List.any_eq_true];exact⟨_,cQ c,B0 c⟩
 ·rw[aZ c,mz];intro x C;obtain⟨i,hi,rfl⟩:=jI.1 C;rw[vP (p:=p) (by omega) hi];simp
def aCu(l:aa dA)(r:aN)(hl:l.length<=1048576):Rj l r=some (l.any λx=>x.id==r.id):=by
 have D:=EA (λx:dA=>x.id==r.id) l;unfold Rj Y1;rw[TM];have e:=cI (step:=Ld) (gq (λx:dA=>x.id==r.id) l) (λi=>((l,r,(l.length:Int),(i:Int),()),())) (if gq (λx:dA=>x.id==r.id) l<l.length then .inl ((((gq (λx:dA=>x.id==r.id) l:Nat):Int),()),())else .inr (.inl ((),()))) aV (λk h=>by
  have C:=vP h (by omega);unfold Ld az bx xG xI;dsimp only;rw[aW,aq,aC ⟨by omega,by omega⟩];simp only[bD];rw[C,av,bI]) (by
  unfold Ld az bx xG xI;dsimp only;by_cases c:gq (λx:dA=>x.id==r.id) l<l.length
  ·rw[aW,aq,aC ⟨by omega,by omega⟩,bg c];simp only[bD];rw[B0 c,aq]
  ·rw[aZ,av,bk c]) (bM)
 rw[cv]at e;rw[e,ak];by_cases c:gq (λx:dA=>x.id==r.id) l<l.length
 ·rw[bg c,aW c,dH,ak];dsimp only;rw[aW]
 ·rw[bk c,aZ c,Sum.elim_inr,dH,ak];rfl
def nI(c:ax)(r:aN):aN:=⟨r.id,r.dM,r.line,r.write,r.data,c.now⟩
def mq(c:ax)(r:aN):aa aN×Bool:=zP (dU (cX c.config.au c.spare)) c.queue (nI c r)
def nJ(c:ax)(r:aN):ax×Bool:=bif (!dK c) ||((!(mq c r).2) ||(c.bP.any λx=>x.id==r.id))then (c,false)else ({ c with queue:=(mq c r).1 },true)
def aCv(c:ax)(r:aN)(C:dJ c):Rk c r=some (nJ c r):=by
 unfold Rk nJ;rw[Ez c C,ak,BX c C,ak];obtain⟨E,I,O,U,Y,z6,z7,z8,z9,jT,oU,oV,mg,D⟩:=C;cases h:dK c with
 |false=>rfl
 | true=>
  rw[bG,av,Bool.false_or,Eo,ak,Ee,ak,aCe _ _ _ (by omega),ak,aCu _ _ D,ak];show (bif !(mq c r).2 then some (c,false)else bif (c.bP.any λx=>x.id==r.id)then some (c,false)else some ({ c with queue:=(mq c r).1 },true))=_;cases (mq c r).2<;>cases (c.bP.any λx=>x.id==r.id)<;>rfl
def aCw(c:ax)(h:dK c=true):dU ⟨c.config.au.bK,c.config.au.aA,W6 (c.config.au.rows-c.config.bL),c.config.au.aK⟩=dU (cX c.config.au c.spare):=by
 simp only[dK,aP,eZ]at h;obtain⟨_,_,_,_,_,_,C,D,_⟩:=h;unfold cX;rw[C,aq,D]
def aCx(c:ax)(r:aN)(h:c.queue.length <= 1048576):(mq c r).1.length <= 1048576:=by
 unfold mq zP;cases C:(gW _ _&&gW _ _)with
 |false=>exact h
 | true=>
  rw[aq];rw[aP]at C;have:=C.2;unfold gW at this
  grind
def al3(c:ax)(r:aN)(C:dJ c):dJ (nJ c r).1:=by
 unfold nJ;cases hb:((!dK c) ||((!(mq c r).2) ||(c.bP.any λx=>x.id==r.id)))with
 |true=>exact C
 | false=>
  have⟨D,E,I,O,U,Y,z7,z8,z9,jT,oU,oV,mg,oc⟩:=C;exact⟨D,E,I,O,U,Y,z7,z8,z9,aCx c r jT,oU,oV,mg,oc⟩
def EB(c:ax)(r:aN):Bool×ax:=bif (c.bP.any λx=>x.id==r.id)then (false,c)else bif (mq c r).2 then (true,{ c with queue:=(mq c r).1 })else (false,c)
def aCy(c:ax)(r:aN)(C:dJ c)(D:dK c=true):Se c r=some ((EB c r).1,((EB c r).2,())):=by
 obtain⟨I,O,U,Y,z5,z6,z7,z8,z9,jT,oU,oV,mg,oc⟩:=C;have hk:=EA (λx:dA=>x.id==r.id) c.bP;unfold Se EB bU;rw[TM];have e:=cI (step:=Ma) (gq (λx:dA=>x.id==r.id) c.bP) (λi=>(((),(),(),(i:Int),()),(c,(r.id,r.dM,r.line,r.write,r.data,r.at_,()),(c.config.au.bK,c.config.au.aA,(W6 (c.config.au.rows-c.config.bL)),c.config.au.aK,()),()))) (if gq (λx:dA=>x.id==r.id) c.bP<c.bP.length then .inl ((false,()),(c,()))else .inr (.inl (((),(),(),()),(c,(r.id,r.dM,r.line,r.write,r.data,r.at_,()),(c.config.au.bK,c.config.au.aA,(W6 (c.config.au.rows-c.config.bL)),c.config.au.aK,()),())))) aV (λk h=>by
  have E:=vP h (by omega);unfold Ma az bx xG xL;dsimp only;rw[aW,aq,aC ⟨by omega,by omega⟩,aC];simp only[bD];rw[E,av,bI]) (by
  unfold Ma az bx xG xL;dsimp only;by_cases k:gq (λx:dA=>x.id==r.id) c.bP<c.bP.length
  ·rw[aW,aq,aC ⟨by omega,by omega⟩,aC,bg k];simp only[bD];rw[B0 k,aq]
  ·rw[aZ,av,bk k]) (bM)
 rw[cv]at e;rw[e,ak];by_cases k:gq (λx:dA=>x.id==r.id) c.bP<c.bP.length
 ·rw[bg k,aW k,dH];rfl
 ·rw[bk k,aZ k,Sum.elim_inr,dH,Ef,ak];dsimp only;rw[aCw c D,aCi _ _ _ (by omega),ak];show (bif (mq c r).2 then some ((mq c r).2,({ c with queue:=(mq c r).1 },()))else some ((mq c r).2,(c,())))=_;cases (mq c r).2<;>rfl
def nb(l:aa UInt8):aa Int:=l.map λb=>(b.toNat:Int)
def cP(c:ax)(a:cJ):ax:=⟨c.config,c.box,c.now,c.aO,c.ready,a,c.spare,c.aS,c.bH,c.guard,c.pending,c.queue,c.shares,c.drain,c.aR,c.cY,c.errors,c.trace,c.bP⟩
def vQ:bQ:=⟨[],false⟩
def EC(d:bQ):bQ:=⟨(d.symbols.set 0 (bits .xor .i64 (d.symbols.getD 0 0) 5)).set 1 (bits .xor .i64 (d.symbols.getD 1 0) 10),d.jK⟩
def lS(base:Nat):Nat->aa bQ->aa bQ
 |0,cs=>cs
 |n+1,cs=>(lS base n cs).set (base+n) (EC ((lS base n cs).getD (base+n) vQ))
def NP(base:Nat):∀ (n:Nat) (cs:aa bQ),(lS base n cs).length=cs.length
 |0,_=>rfl
 | n+1,cs=>by
  show ((lS base n cs).set _ _).length=_;rw[ki,NP]
def aCz{d:bQ}(h:Sy d.symbols):Sy (EC d).symbols:=by
 have C:0<d.symbols.length:=by rw[h.1];omega
 have l1:1<d.symbols.length:=by rw[h.1];omega
 have I:d.symbols.getD 0 0=d.symbols[0]:=by rw[cV,bT C];rfl
 have O:d.symbols.getD 1 0=d.symbols[1]:=by rw[cV,bT l1];rfl
 have D:=akI (h.get (k:=0) C) (b:=5) ⟨by omega,by omega⟩;have E:=akI (h.get l1) (b:=10) ⟨by omega,by omega⟩;unfold EC;rw[I,O];exact(h.set ⟨D.1,D.2.1⟩).set ⟨E.1,E.2.1⟩
def TN{base:Nat}:∀ (n:Nat) {cs:aa bQ},base+n <= cs.length -> (∀ c∈cs,Sy c.symbols) -> ∀ c∈lS base n cs,Sy c.symbols
 |0,cs,_,h=>h
 | n+1,cs,hl,h=>by
  have C:=TN (base:=base) n (by omega) h;have hlen:=NP base n cs;refine Sy.cc C (aCz ?_)
  grind
def qY(g:aG)(l:jh)(a:cJ)(b r:Int):cJ:=
 ⟨bif vD l a (b*g.rows+r).toNat then lS ((b*g.rows+r)*g.aK).toNat g.aK.toNat a.cells else a.cells,a.bu.set (b*g.rows+r).toNat 0,pZ g.rows r (b*g.rows+r).toNat a.bq⟩
def NQ{g:aG}(C:ct g=true){b r k:Int}(E:0 <= b)(I:b<aU g)(O:0 <= r)(U:r<g.rows)(Y:0 <= k)(h6:k<g.aK):0 <= (b*g.rows+r)*g.aK/\(b*g.rows+r)*g.aK+k<dU g/\0 <= b*g.rows+r/\b*g.rows+r<gn g:=by
 have er:aU g*g.rows=gn g:=by simp[gn,C]
 have⟨r0,r1,D⟩:=xx E I O U;rw[er]at D;have⟨q0,q1,q2⟩:=xx r1 D Y h6;have el:gn g*g.aK=dU g:=by simp[gn,dU,C]
 simp_all
def aCA{g:aG}(C:ct g=true)(c:ax){b r:Int}(hc:(c.array.cells.length:Int)=dU g)(hs:∀ x∈c.array.cells,Sy x.symbols)(E:0<=b)(I:b<aU g)(O:0<=r)(U:r<g.rows):
  iter DR aV (((),b,r,(),(0:Int),()),(c,(g.bK,g.aA,g.rows,g.aK,()),()))=some (.inl (((),b,r,(),()),(cP c ⟨lS ((b*g.rows+r)*g.aK).toNat g.aK.toNat c.array.cells,c.array.bu,c.array.bq⟩,(g.bK,g.aA,g.rows,g.aK,()),()))):=by
 obtain⟨_,_,_,_,g5,g6,g7,g8⟩:=fJ C;have b1:=mN g;obtain⟨n,hn⟩:=dV (show 0<=g.aK by omega);obtain⟨B,hB⟩:∃B,B=((b*g.rows+r)*g.aK).toNat:=⟨_,rfl⟩
 have rj:g.aK.toNat=n:=by omega
 rw[<-hB,rj];have mZ:B+n<=c.array.cells.length:=by
  have:=NQ C E I O U (show 0<=g.aK-1 by omega) (by omega);omega
 have e:=cI (step:=DR) n (λk=>(((),b,r,(),(k:Int),()),(cP c ⟨lS B k c.array.cells,c.array.bu,c.array.bq⟩,(g.bK,g.aA,g.rows,g.aK,()),()))) (.inl (((),b,r,(),()),(cP c ⟨lS B n c.array.cells,c.array.bu,c.array.bq⟩,(g.bK,g.aA,g.rows,g.aK,()),()))) aV (λk hk=>by
  have hat:dO g ⟨b,r,(k:Int)⟩=true:=xw C E I O U (by dsimp only;omega) (by dsimp only;omega);have hix:qU g ⟨b,r,(k:Int)⟩=((B+k:Nat):Int):=by
   have:=NQ C E I O U (show 0<=(k:Int) by omega) (by omega);unfold qU;rw[hat,aq];dsimp only;omega
  have hlen:=NP B k c.array.cells;have Y:=TN k (by omega:B+k<=c.array.cells.length) hs;show DR (((),b,r,(),(k:Int),()),(cP c ⟨lS B k c.array.cells,c.array.bu,c.array.bq⟩,(g.bK,g.aA,g.rows,g.aK,()),()))=some (.inl (((),b,r,(),((k+1:Nat):Int),()),(cP c ⟨(lS B k c.array.cells).set (B+k) (EC ((lS B k c.array.cells).getD (B+k) vQ)),c.array.bu,c.array.bq⟩,(g.bK,g.aA,g.rows,g.aK,()),())));generalize lS B k c.array.cells=cs at hlen Y;have D:B+k<cs.length:=by omega
  have s1:=Sy.mem Y D;have l1:(0:Nat)<cs[B+k].symbols.length:=by rw[s1.1];omega
  have l2:(1:Nat)<cs[B+k].symbols.length:=by rw[s1.1];omega
  have c2:decide ((k:Int)<g.aK)=true:=aW;have yS:cs.getD (B+k) vQ=cs[B+k]:=by rw[cV,bT D];rfl
  have f0:cs[B+k].symbols.getD 0 0=cs[B+k].symbols[0]:=by rw[cV,bT l1];rfl
  have f1:cs[B+k].symbols.getD 1 0=cs[B+k].symbols[1]:=by rw[cV,bT l2];rfl
  rw[yS];unfold EC;rw[f0,f1];unfold DR cP xC az xG xL xM;dsimp only;rw[c2,aq,kE g,Nl,ak,hix];generalize B+k=j at D s1 l1 l2;simp (disch:=omega) [D,bI,l1,l2]) (by unfold DR xC az xG xL xM;simp[hn]) (bM)
 exact e
def aCB(c:ax){R k:Int}{nb:aa Int}(hl:nb.length<1000)(E:∀ n∈nb,0<=n/\n<R)(Y:0<=k)(hk:k+R<=(c.array.bq.length:Int))(hH:c.array.bq.length<1000000)(hb:∀ x∈c.array.bq,0<=x/\x<=100000):
  iter Bu aV (((),k,(),(nb.length:Int),(0:Int),()),(c,nb,()))=some (.inl ((),(cP c ⟨c.array.cells,c.array.bu,nb.foldl (λh n=>oQ (k+n).toNat h) c.array.bq⟩,()))):=by
 have e:=cI (step:=Bu) nb.length (λi=>(((),k,(),(nb.length:Int),(i:Int),()),(cP c ⟨c.array.cells,c.array.bu,(nb.take i).foldl (λh n=>oQ (k+n).toNat h) c.array.bq⟩,nb,()))) (.inl ((),(cP c ⟨c.array.cells,c.array.bu,nb.foldl (λh n=>oQ (k+n).toNat h) c.array.bq⟩,()))) aV (λj h=>by
  have hx:=E _ (cQ h);have I:=alH k (nb.take j) c.array.bq;have hB:=alI k (nb.take j) c.array.bq hb;rw[List.take_succ_eq_append_getElem h,List.foldl_append];simp only[List.foldl_cons,List.foldl_nil];generalize (nb.take j).foldl (λh n=>oQ (k+n).toNat h) c.array.bq=G at I hB;obtain⟨q,D⟩:=dV (show 0<=k+nb[j] by omega);have C:q<G.length:=by omega
  have hg:=hB _ (cQ C);have O:W6 (k+nb[j])=(q:Int):=by rw[D];exact aY
  have U:W6 (G[q]+1)=G[q]+1:=aY;rw[D,bD,Z3 C];unfold Bu cP az xG xL;simp (disch:=omega) [h,O,C,U,bI,lO]) (by unfold Bu az xG xL;simp) (bM)
 rw[cv,List.take_zero,List.foldl_nil]at e;exact e
def aaK{g:aG}(D:ct g=true)(l:jh){B:Int}(hB:0 <= B){a:cJ}(C:fA g B a){b r:Int}(E:0 <= b)(I:b<aU g)(O:0 <= r)(U:r<g.rows):fA g B (qY g l a b r):=by
 have⟨_,_,_,_,g5,g6,g7,g8⟩:=fJ D;have Y:((b*g.rows+r)*g.aK).toNat+g.aK.toNat <= a.cells.length:=by
  have:=NQ D E I O U (show 0 <= g.aK-1 by omega) (by omega);have:=C.cells;omega
 unfold qY;refine⟨?_,?_,by simp[C.bu],by simp[aAD,C.bq],Nt C.Ej ⟨by omega,by omega⟩,aAF C.iZ⟩
 ·dsimp only;cases vD l a (b*g.rows+r).toNat with
  |false=>exact C.cells
  |true=>rw[aq,NP];exact C.cells
 ·dsimp only;cases vD l a (b*g.rows+r).toNat with
  |false=>exact C.syms
  |true=>rw[aq];exact TN _ Y C.syms
def al4{g:aG}(hg:ct g=true)(l:jh){B:Int}(c:ax)(C:fA g B c.array){b r:Int}(h1:0<=b)(h2:b<aU g)(D:0<=r)(E:r<g.rows):LN g l c b r=some ((),(cP c (qY g l c.array b r),())):=by
 obtain⟨_,_,_,_,g5,g6,g7,g8⟩:=fJ hg;have b2:=pX g;have er:aU g*g.rows=gn g:=by simp[gn,hg]
 obtain⟨r0,r1,r2⟩:=xx h1 h2 D E;rw[er]at r2;have hk:b*g.rows+g.rows<=gn g:=by
  have:=(xx h1 h2 (show 0<=g.rows-1 by omega) (show g.rows-1<g.rows by omega)).2.2;omega
 have a1:=C.bu;have a2:=C.bq;have I:W6 (b*g.rows)=b*g.rows:=aY;have e2:W6 (b*g.rows+r)=b*g.rows+r:=aY;have eL:=aCA hg c C.cells C.syms h1 h2 D E;unfold qY;generalize lS ((b*g.rows+r)*g.aK).toNat g.aK.toNat c.array.cells=cs at eL;obtain⟨i,hi⟩:=dV r1;obtain⟨k,O⟩:∃k,k=b*g.rows:=⟨_,rfl⟩
 rw[<-O]at hi hk I e2 r0 r1 r2;unfold LN bw xL;rw[<-O,I,e2];rw[hi]at r2;rw[hi,bD];have U:i<c.array.bu.length:=by omega
 have Y:i<c.array.bq.length:=by omega
 have aCC:RQ g l c.array b r=some (vD l c.array i):=by
  unfold RQ xI;have e2':W6 (i:Int)=i:=aY;simp only[<-O,I,hi,e2'];unfold vD;simp only[cV,bT U,bT Y,Option.getD_some];by_cases h:c.array.bu[i] > l.bu<;>simp[U,Y,h]
 rw[aCC,ak];have b1:=Nt C.iZ (k:=i) (v:=0) ⟨by omega,by omega⟩;have hnb:=aaA g5 g6 D E;have sG:=aBN g.rows r;have aaL:∀ cells:aa bQ,iter Bu aV (((),k,(),((mP g.rows r).length:Int),(0:Int),()),(cP c ⟨cells,c.array.bu.set i 0,c.array.bq.set i 0⟩,mP g.rows r,()))=some (.inl ((),(cP c ⟨cells,c.array.bu.set i 0,pZ g.rows r i c.array.bq⟩,()))):=λcells=>by
  have:=aCB (cP c ⟨cells,c.array.bu.set i 0,c.array.bq.set i 0⟩) (R:=g.rows) (k:=k) (nb:=mP g.rows r) (by omega) (alG D E) r0 (by simp[cP];omega) (by simp[cP];omega) b1;simp only[cP]at this ⊢;rw[aBO hi r0 D]at this;exact this
 have h2x:Zr=Bu:=rfl;unfold cP at aaL eL ⊢;cases vD l c.array i with
 | false=>
  simp[U,Y,hnb,h2x,aaL]
 | true=>
  rw[aq,eL];have e2':W6 (i:Int)=i:=aY;simp[<-O,I,e2',hi,U,Y,hnb,aaL]
def aCD{g:aG}(C:ct g=true)(c:ax){b r:Int}(hc:(c.array.cells.length:Int)=dU g)(hs:∀ x∈c.array.cells,Sy x.symbols)(E:0<=b)(I:b<aU g)(O:0<=r)(U:r<g.rows):
  iter BH aV (((),r,(),b*g.rows+r,(0:Int),()),(c,(g.bK,g.aA,g.rows,g.aK,()),()))=some (.inl (((),r,(),b*g.rows+r,()),(cP c ⟨lS ((b*g.rows+r)*g.aK).toNat g.aK.toNat c.array.cells,c.array.bu,c.array.bq⟩,(g.bK,g.aA,g.rows,g.aK,()),()))):=by
 obtain⟨_,_,_,_,g5,g6,g7,g8⟩:=fJ C;have b1:=mN g;have b2:=pX g;obtain⟨n,hn⟩:=dV (show 0<=g.aK by omega);obtain⟨B,hB⟩:∃B,B=((b*g.rows+r)*g.aK).toNat:=⟨_,rfl⟩
 have rj:g.aK.toNat=n:=by omega
 rw[<-hB,rj];have mZ:B+n<=c.array.cells.length:=by
  have:=NQ C E I O U (show 0<=g.aK-1 by omega) (by omega);omega
 have e:=cI (step:=BH) n (λk=>(((),r,(),b*g.rows+r,(k:Int),()),(cP c ⟨lS B k c.array.cells,c.array.bu,c.array.bq⟩,(g.bK,g.aA,g.rows,g.aK,()),()))) (.inl (((),r,(),b*g.rows+r,()),(cP c ⟨lS B n c.array.cells,c.array.bu,c.array.bq⟩,(g.bK,g.aA,g.rows,g.aK,()),()))) aV (λk hk=>by
  have hat:=NQ C E I O U (show 0<=(k:Int) by omega) (by omega);have e1:W6 ((b*g.rows+r)*g.aK)=(b*g.rows+r)*g.aK:=aY;have e2:W6 ((b*g.rows+r)*g.aK+(k:Int))=((B+k:Nat):Int):=by rw[aY];omega
  have hlen:=NP B k c.array.cells;have Y:=TN k (by omega:B+k<=c.array.cells.length) hs;show BH (((),r,(),b*g.rows+r,(k:Int),()),(cP c ⟨lS B k c.array.cells,c.array.bu,c.array.bq⟩,(g.bK,g.aA,g.rows,g.aK,()),()))=some (.inl (((),r,(),b*g.rows+r,((k+1:Nat):Int),()),(cP c ⟨(lS B k c.array.cells).set (B+k) (EC ((lS B k c.array.cells).getD (B+k) vQ)),c.array.bu,c.array.bq⟩,(g.bK,g.aA,g.rows,g.aK,()),())));generalize lS B k c.array.cells=cs at hlen Y;have D:B+k<cs.length:=by omega
  have s1:=Sy.mem Y D;have l1:(0:Nat)<cs[B+k].symbols.length:=by rw[s1.1];omega
  have l2:(1:Nat)<cs[B+k].symbols.length:=by rw[s1.1];omega
  have c2:decide ((k:Int)<g.aK)=true:=aW;have yS:cs.getD (B+k) vQ=cs[B+k]:=by rw[cV,bT D];rfl
  have f0:cs[B+k].symbols.getD 0 0=cs[B+k].symbols[0]:=by rw[cV,bT l1];rfl
  have f1:cs[B+k].symbols.getD 1 0=cs[B+k].symbols[1]:=by rw[cV,bT l2];rfl
  rw[yS];unfold EC;rw[f0,f1];unfold BH cP xC az xG xL xM;dsimp only;have t0:(0:Int).toNat=0:=rfl;have t1:(1:Int).toNat=1:=rfl;have p0:(0:Int)<=0:=jw 0;have p1:(0:Int)<=1:=by omega
  rw[c2,aq];simp only[e1,e2,bD];have cj:(0:Int)<=((B+k:Nat):Int):=by omega
  simp only[cj,D,p0,p1,t0,t1,l1,l2,and_self,dite_true,ki,List.getElem_set_self,List.set_set,asm];have w:=bI (i:=k);simp only[w,List.getElem_set_ne (show (0:Nat)≠1 by decide)]) (by unfold BH xC az xG xL xM;simp[hn]) (bM)
 exact e
def al5{x:Int}(h:0<=x/\x<=100000):(if (100000:Int)<W6 (x+1)then (100000:Int)else W6 (x+1))=lO 1 x:=by
 rw[aY (n:=x+1)];rfl
def TO(C:ax)(O D U:Int)(E:aa Int):ah (af×(ax×af)):=bif (decide (O<(W6 (U-(1:Int)))))then if h58:0<=(W6 (D+(1:Int)))/\(W6 (D+(1:Int))).toNat<E.length then if Y:(W6 (D+(1:Int))).toNat<E.length then (let I:=E[(W6 (D+(1:Int))).toNat]'Y;if h61:0<=(W6 (D+(1:Int)))/\(W6 (D+(1:Int))).toNat<E.length then if h62:(W6 (D+(1:Int))).toNat<E.length then (let e63:=E[(W6 (D+(1:Int))).toNat]'h62;some ((),((⟨C.config,C.box,C.now,C.aO,C.ready,⟨C.array.cells,(C.array.bu.set D.toNat (0:Int)),(E.set (W6 (D+(1:Int))).toNat (if (100000:Int)<(W6 (I+(1:Int)))then (100000:Int)else (W6 (I+(1:Int)))))⟩,C.spare,C.aS,C.bH,C.guard,C.pending,C.queue,C.shares,C.drain,C.aR,C.cY,C.errors,C.trace,C.bP⟩:ax),())))else none else none)else none else none else some ((),((⟨C.config,C.box,C.now,C.aO,C.ready,⟨C.array.cells,(C.array.bu.set D.toNat (0:Int)),E⟩,C.spare,C.aS,C.bH,C.guard,C.pending,C.queue,C.shares,C.drain,C.aR,C.cY,C.errors,C.trace,C.bP⟩:ax),()))
def TP(D:ax)(E C I:Int):ah (af×(ax×af)):=if h45:0<=C/\C.toNat<D.array.bu.length then if U:C.toNat<D.array.bu.length then (let e47:=D.array.bu[C.toNat]'U;if h48:0<=C/\C.toNat<D.array.bq.length then if Y:C.toNat<D.array.bq.length then (let e50:=D.array.bq[C.toNat]'Y;(bif (decide (E > (0:Int)))then if h51:0<=(W6 (C-(1:Int)))/\(W6 (C-(1:Int))).toNat<(D.array.bq.set C.toNat (0:Int)).length then if h52:(W6 (C-(1:Int))).toNat<(D.array.bq.set C.toNat (0:Int)).length then (let O:=(D.array.bq.set C.toNat (0:Int))[(W6 (C-(1:Int))).toNat]'h52;if h54:0<=(W6 (C-(1:Int)))/\(W6 (C-(1:Int))).toNat<(D.array.bq.set C.toNat (0:Int)).length then if h55:(W6 (C-(1:Int))).toNat<(D.array.bq.set C.toNat (0:Int)).length then (let Zi:=(D.array.bq.set C.toNat (0:Int))[(W6 (C-(1:Int))).toNat]'h55;(TO D E C I ((D.array.bq.set C.toNat (0:Int)).set (W6 (C-(1:Int))).toNat (if (100000:Int)<(W6 (O+(1:Int)))then (100000:Int)else (W6 (O+(1:Int)))))))else none else none)else none else none else (TO D E C I (D.array.bq.set C.toNat (0:Int)))))else none else none)else none else none
def al6{d:ax}{R r:Int}{i:Nat}{H:aa Int}(hl:H.length<1000000)(D:r<R-1->i+1<H.length)(E:W6 (R-1)=R-1)(I:∀ x∈H,0<=x/\x<=100000)(hi:i<1000000):TO d r (i:Int) R H=some ((),(cP d ⟨d.array.cells,d.array.bu.set i 0,bif decide (r<R-1)then oQ (i+1) H else H⟩,())):=by
 have O:W6 ((i:Int)+1)=((i+1:Nat):Int):=bI;unfold TO cP;rw[E,O];simp only[bD];by_cases C:r<R-1
 ·have q:i+1<H.length:=D C;rw[aW C,aq,aq,aC ⟨by omega,q⟩,aC q,aC ⟨by omega,q⟩,aC q,al5 (I _ (cQ q)),Z3 q]
 ·rw[aZ C,av,av]
def al7{d:ax}{R r:Int}{i:Nat}(E:i<d.array.bu.length)(I:i<d.array.bq.length)(hl:d.array.bq.length<1000000)(HO:0<r->1<=i)(O:r<R-1->i+1<d.array.bq.length)(U:W6 (R-1)=R-1)(bh:∀ x∈d.array.bq,0<=x/\x<=100000):TP d r (i:Int) R=some ((),(cP d ⟨d.array.cells,d.array.bu.set i 0,pZ R r i d.array.bq⟩,())):=by
 have C:=Nt bh (k:=i) (v:=0) ⟨by omega,by omega⟩;have hL:(d.array.bq.set i 0).length=d.array.bq.length:=by simp
 unfold TP pZ vE;simp only[bD];rw[aC ⟨by omega,E⟩,aC E,aC ⟨by omega,I⟩,aC I];obtain⟨H,Y⟩:∃H,d.array.bq.set i 0=H:=⟨_,rfl⟩
 rw[Y]at C hL;simp only[Y];by_cases D:0<r
 ·have p1':=HO D;have w1:W6 ((i:Int)-1)=((i-1:Nat):Int):=by rw[aY];omega
  have q:i-1<H.length:=by omega
  simp only[w1,bD];rw[aW D,aq,aq,aC ⟨by omega,q⟩,aC q,aC ⟨by omega,q⟩,aC q,al5 (C _ (cQ q)),<-Z3 q];exact al6 (by rw[Nu];omega) (λh=>by rw[Nu];have:=O h;omega) U (Tp C) (by omega)
 ·rw[aZ D,av,av];exact al6 (by omega) (λh=>by have:=O h;omega) U C (by omega)
def al8{g:aG}(E:ct g=true)(l:jh){B:Int}(c:ax)(C:fA g B c.array){b r:Int}(I:0<=b)(O:b<aU g)(h3:0<=r)(h4:r<g.rows):MW g l c b r=some ((),(cP c (qY g l c.array b r),())):=by
 obtain⟨_,_,_,_,g5,g6,g7,g8⟩:=fJ E;have b2:=pX g;have er:aU g*g.rows=gn g:=by simp[gn,E]
 obtain⟨r0,r1,r2⟩:=xx I O h3 h4;rw[er]at r2;have U:r<g.rows-1->b*g.rows+r+1<gn g:=λh=>by
  have:=(xx I O (show 0<=r+1 by omega) (show r+1<g.rows by omega)).2.2;omega
 have Y:0<r->1<=b*g.rows+r:=λh=>by omega
 have a1:=C.bu;have a2:=C.bq;have e1:W6 (b*g.rows)=b*g.rows:=aY;have e2:W6 (b*g.rows+r)=b*g.rows+r:=aY;have w3:W6 (g.rows-1)=g.rows-1:=aY;have eL:=aCD E c C.cells C.syms I O h3 h4;unfold qY;generalize lS ((b*g.rows+r)*g.aK).toNat g.aK.toNat c.array.cells=cs at eL;have hx:MW g l c b r=(Hu g l c.array (W6 (W6 (b*g.rows)+r))).bind λy1=>bif y1 then (iter BH aV (((),r,(),W6 (W6 (b*g.rows)+r),(0:Int),()),(c,(g.bK,g.aA,g.rows,g.aK,()),()))).bind (Sum.elim (λD=>TP D.2.1 D.1.2.1 D.1.2.2.2.1 D.2.2.1.2.2.1) (λz=>nomatch z))else TP c r (W6 (W6 (b*g.rows)+r)) g.rows:=rfl
 rw[hx,e1,e2];obtain⟨i,hi⟩:=dV r1;rw[hi]at eL Y U r2 ⊢;rw[bD,aAA g l c.array i (by omega) (by omega),ak];cases vD l c.array i with
 |false=>exact al7 (d:=c) (r:=r) (R:=g.rows) (i:=i) (by omega) (by omega) (by omega) (λh=>by have:=Y h;omega) (λh=>by have:=U h;omega) w3 C.iZ
 | true=>
  rw[aq,eL,ak];exact al7 (d:=cP c ⟨cs,c.array.bu,c.array.bq⟩) (r:=r) (R:=g.rows) (i:=i) (by show i<c.array.bu.length;omega) (by show i<c.array.bq.length;omega) (by show c.array.bq.length<_;omega) (λh=>by have:=Y h;omega) (λh=>by show _<c.array.bq.length;have:=U h;omega) w3 C.iZ
def ED(p:di×di):Bool:=(p.1.open_==p.2.open_)&&((p.1.row==p.2.row)&&true)
def TQ(c:ax):Bool:=(runT c.config.au c.config.bY c.trace).isSome&&match Ew c.config.au c.trace with
 |some r=>(r.aR==c.aO.aR)&&((r.aA.zip c.aO.aA).all ED&&(Ex (p9 c.config.au c.trace).last c.ready.last&&Ex (p9 c.config.au c.trace).aT c.ready.aT))
 |none=>false
def al9{c:dP}{p:dz}(hl:p.weights.length<1073741823)(h:rY c p=true):iy c.bY=true:=by
 have⟨b,e,C⟩:=aac c p hl;have hb:b=true:=by
  rw[NM c p hl]at e;simp_all
 have:=C hb;simp[od,aP]at this;simp_all
def ama(c:ax)(l:aa di)(n i p:Int):S9 (((),(),(),n,i,()),(tj c,(c.config.au.bK,c.config.au.aA,c.config.au.rows,c.config.au.aK,()),((),p,()),l,()))=bif (decide (i<n))then if E:0<=i/\i.toNat<l.length then if C:i.toNat<l.length then (if D:0<=i/\i.toNat<c.aO.aA.length then (bif (!ED (l[i.toNat]'C,c.aO.aA[i.toNat]'D.2))then some (.inr (.inl ((false,()),())))else some (.inl (((),(),(),n,(W6 (i+(1:Int))),()),(tj c,(c.config.au.bK,c.config.au.aA,c.config.au.rows,c.config.au.aK,()),((),p,()),l,()))))else none)else none else none else some (.inr (.inr (.inl (((),(),()),(tj c,(c.config.au.bK,c.config.au.aA,c.config.au.rows,c.config.au.aK,()),()))))):=rfl
def aCE{c:ax}(C:dJ c)(h:dK c=true):ct c.config.au=true/\iy c.config.bY=true/\(c.aO.aA.length:Int)=aU c.config.au/\c.trace.length<=2000:=by
 have O:c.box.cr.weights.length<=1048576:=C.1.1;simp only[dK,aP,fU]at h;obtain⟨D,U,Y,E,h5,h6,h7,h8,h9,BR,uf,rT,qW,vL,xF,nt,xq,EE,BJ,xu,xj,Ec⟩:=h;obtain⟨I,hl,_⟩:=BV E;exact⟨I,al9 (by omega) D,hl,by omega⟩
def aCF(c:ax)(E:dJ c):Ta c=some (dK c&&TQ c):=by
 unfold Ta bU;rw[BX c E,ak];cases C:dK c with
 |false=>rfl
 | true=>
  obtain⟨D,U,hb,hl⟩:=aCE E C;have b1:=eM c.config.au;obtain⟨k,i,Y,e2⟩:=aBF D U hl;rw[bG,av,Y,ak,aBL D (by omega),ak,cC];dsimp only;rw[e2];unfold TQ aaz;cases runT c.config.au c.config.bY c.trace with
  |none=>rfl
  | some r0=>
   cases he:Ew c.config.au c.trace with
   |none=>rfl
   | some r=>
    have hlr:=aBK he;have I:r.aA.length=c.aO.aA.length:=by omega
    have hzl:=TG I;simp only[Option.isNone_some,Option.isSome_some,bG,av,cC];rw[bne];cases hp:(r.aR==c.aO.aR)with
    |false=>rfl
    | true=>
     have e:=iu (step:=S9) (r.aA.zip c.aO.aA) ED (λi=>(((),(),(),(r.aA.length:Int),(i:Int),()),(tj c,(c.config.au.bK,c.config.au.aA,c.config.au.rows,c.config.au.aK,()),((),r.aR,()),r.aA,()))) (.inl ((false,()),())) (.inr (.inl (((),(),()),(tj c,(c.config.au.bK,c.config.au.aA,c.config.au.rows,c.config.au.aK,()),())))) aV (λk C=>by
      rw[ama,aW,aq,aC ⟨by omega,by omega⟩,aC,aC ⟨by omega,by omega⟩,bI,alE I C];simp only[bD];cases ED (r.aA[k],c.aO.aA[k])<;>rfl) (by
      rw[ama,aZ,av]) (bM)
     rw[cv]at e;simp only[bG,av,cC]
     refine(bC (λo=>Option.bind o _) e).trans ?_
     rw[ak];cases (r.aA.zip c.aO.aA).all ED with
     |false=>rfl
     | true=>
      have hlen:=alA c.config.au c.trace;change ((Ni c.config.au c.trace).bind λO=>(Eb O.last c.ready.last).bind λgC=>bif gC then (Eb O.aT c.ready.aT).bind λgU=>some gU else some false)=_;rw[aBI D (by omega),ak,alF (by omega),ak,alF (by omega)];cases Ex (p9 c.config.au c.trace).last c.ready.last<;>rfl
def iz(i:Nat):aF:=⟨(i:Int) % 9+1,if (i:Int) % 9+1<=5 then (i:Int) / 9 else 0,0,0⟩
def rZ(n m:Int):Int:=if n > m then n else m
def TR(g:aG)(t:cg)(l:aa Int)(c:aF)(m:Int)(i:Nat):Int:=match l[i]? with
 |some n=>bif decide (n<0)then m else rZ (n+jD g t (iz i) c) m
 |none=>m
def r3(g:aG)(t:cg)(l:aa Int)(c:aF)(k:Nat):Int:=(List.range k).foldl (TR g t l c) 0
def om(g:aG)(t:cg)(r:c9)(c:aF):Int:=
 bif c.kind==1&&(r.aT.length:Int)==4 then rZ (r.aT.getD 0 0+t.jJ) (r3 g t r.last c r.last.length)else r3 g t r.last c r.last.length
def NR(g:aG)(t:cg)(l:aa Int)(c:aF)(k:Nat):r3 g t l c (k+1)=TR g t l c (r3 g t l c k) k:=by
 unfold r3;rw[List.range_succ,List.foldl_append];rfl
def NS{g:aG}{t:cg}{l:aa Int}{c:aF}{m:Int}{i:Nat}(h:i<l.length):TR g t l c m i=bif decide (l[i]<0)then m else rZ (l[i]+jD g t (iz i) c) m:=by
 unfold TR;rw[bT h]
def aCG{a b C:Int}(D:a<=C)(hb:0<=b/\b<=C):0<=rZ a b/\rZ a b<=C:=by
 unfold rZ;split<;>omega
structure HQ (g:aG) (t:cg) (r:c9):Prop where
 r4:ct g=true
 EF:iy t=true
 len:r.last.length<1000
 last:∀(i:Nat) (h:i<r.last.length),(-1<=r.last[i]/\r.last[i]<=1000000)/\(r.last[i] = -1\/oT g i=true)
 a4:r.aT.length<=4
 act:∀x∈r.aT,0<=x/\x<=1000000
def aCH{g:aG}{t:cg}{r:c9}(E:iy t=true)(h:kf g r=true):HQ g t r:=by
 have hb:=eM g;simp only[kf,aP,ck,ga]at h;have⟨I,C,D,O,U⟩:=h;have C:(r.last.length:Int)=9*(aU g+1):=by simpa using C
 have D:¬ (r.aT.length:Int) > 4:=by simpa using D
 refine⟨I,E,by omega,λi hi=>?_,by omega,λx Y=>?_⟩
 ·have e:=O i hi;rw[NC hi]at e;simp only[aP,eN]at e;refine⟨bA.1 e.1,?_⟩
  grind
 ·obtain⟨i,hi,rfl⟩:=jI.1 Y;have e:=U i hi;cases i with
  |zero=>rw[ND hi]at e;exact bA.1 e
  |succ i=>rw[HH hi]at e;simp at e;exact bA.1 e.1
def amb(i:Nat):1<=(iz i).kind/\(iz i).kind<=9:=by
 unfold iz;dsimp only;omega
def aCI{g:aG}{i:Nat}(C:oT g i=true):(iz i).kind <= 5 -> 0 <= (iz i).ay/\(iz i).ay<aU g:=by
 unfold oT at C;unfold iz
 grind
def aCJ{g:aG}{i:Nat}(hi:i<1000)(C:oT g i=true):∃ b,Dy g (i:Int)=some (iz i,b):=by
 have E:=C;unfold oT at C;unfold Dy iz;rw[lM,ak,sr (by omega),q8 (by omega),aY,aY,NB,ak];cases D:decide ((i:Int) / 9<aU g)with
 |true =>simp_all
 | false=>
  rw[D]at C;have I:¬ (i:Int) % 9+1 <= 5:=by
   simp_all
  simp[*]
def TS{g:aG}{t:cg}{r:c9}(h:HQ g t r)(c:aF):∀ k,k <= r.last.length -> 0 <= r3 g t r.last c k/\r3 g t r.last c k <= 1000128
 |0,_=>⟨jw _,by show 0 <= _;omega⟩
 | k+1,D=>by
  have C:=TS h c k (by omega);rw[NR,NS (by omega)];have E:=TE h.EF g (iz k) c;have hl:=(h.last k (by omega)).1;cases decide (r.last[k]<0)with
  |true=>exact C
  |false=>exact aCG (by omega) C
def aCK{g:aG}{t:cg}{r:c9}{c:aF}(h:HQ g t r)(U:cZ g c=true):Sw g t r c=some (om g t r c):=by
 have hb:=λk E=>TS h c k E
 have kc:1<=c.kind/\c.kind<=9:=by
  simp only[cZ,aP]at U;exact bA.1 U.2.1
 have e:=cI (step:=Mz) r.last.length (λi=>(((),(),(),(),r3 g t r.last c i,(i:Int),()),((g.bK,g.aA,g.rows,g.aK,()),t,(r.last,r.aT,()),(c.kind,c.ay,c.row,c.bV,()),()))) (.inl (((),(),(),r3 g t r.last c r.last.length,()),(t,(r.last,r.aT,()),(c.kind,c.ay,c.row,c.bV,()),()))) aV (λk E=>by
  have h1:=h.len;have h2:=(h.last k E).1;have h3:=hb k (by omega);have D:=TE h.EF g (iz k) c;unfold Mz az xG xI;dsimp only;rw[aW,aq,aC ⟨by omega,by omega⟩,bI];simp only[bD];rw[NR,NS E];cases hd:decide (r.last[k]<0)with
  |true=>rfl
  | false=>
   have I:BE g t (iz k) c=some (jD g t (iz k) c):=aBi h.r4 h.EF (amb k) kc;have e1:W6 ((k:Int).tmod 9+1)=(k:Int) % 9+1:=by rw[q8 (by omega),aY]
   have e2:W6 ((k:Int).tdiv 9)=(k:Int) / 9:=by rw[sr (by omega),aY]
   unfold iz at I;rw[av,av,e1,e2];by_cases C:(k:Int) % 9+1<=5
   ·rw[bg C]at I;rw[aW C,aq,aC ⟨by omega,E⟩,kE];show Option.bind (BE g t _ c) _=_;rw[I,ak,aY (n:=r.last[k]+_) (by unfold iz at D;rw[bg C]at D;omega) (by unfold iz at D;rw[bg C]at D;omega)];unfold iz rZ;rw[bg C]
   ·rw[bk C]at I;rw[aZ C,av,aC ⟨by omega,E⟩,kE];show Option.bind (BE g t _ c) _=_;rw[I,ak,aY (n:=r.last[k]+_) (by unfold iz at D;rw[bk C]at D;omega) (by unfold iz at D;rw[bk C]at D;omega)];unfold iz rZ;rw[bk C]) (by
  unfold Mz az xG xI;dsimp only;rw[aZ,av]) (bM (by have:=h.len;omega))
 rw[cv]at e;unfold Sw om xI bw
 refine(bC (λo=>Option.bind o _) e).trans ?_
 rw[ak];simp only[dH];have hL:=hb r.last.length (dc _);have hf:=aav h.EF;cases c.kind==(1:Int)with
 |false=>rfl
 | true=>
  cases Y:(r.aT.length:Int)==(4:Int)with
  |false=>rfl
  | true=>
   have Y:(r.aT.length:Int)=4:=by simpa using Y
   have O:0<r.aT.length:=by omega
   have ha:=h.act _ (cQ O);rw[aq,aq,aC ⟨by omega,O⟩];show some (if W6 (r.aT[0]+t.jJ) > _ then W6 (r.aT[0]+t.jJ)else _)=_;rw[aY,cV,bT O];rfl
def aCL{g:aG}{t:cg}{r:c9}(h:HQ g t r)(c:aF):0 <= om g t r c:=by
 have C:=TS h c _ (dc _);unfold om rZ
 grind
def aCM{g:aG}{t:cg}{r:c9}{c:aF}(h:HQ g t r)(hr:kf g r=true)(C:cZ g c=true):RC g t r c=some (bif decide (om g t r c > 1000000)then -1 else om g t r c):=by
 have hb:=λk D=>TS h c k D
 have U:(1<=c.kind/\c.kind<=9)/\(c.kind<=5->0<=c.ay/\c.ay<aU g):=by
  simp only[cZ,aP]at C
  refine⟨bA.1 C.2.1,λh5=>?_⟩
  have E:=C.2.2.1;rw[NJ (bA.1 C.2.1),aW h5]at E;have:=bA.1 E;omega
 have e:=cI (step:=Lt) r.last.length (λi=>(((),(),(),(),r3 g t r.last c i,r.last,(r.last.length:Int),(i:Int),()),((g.bK,g.aA,g.rows,g.aK,()),t,(r.last,r.aT,()),(c.kind,c.ay,c.row,c.bV,()),()))) (.inl (((),(),(),r3 g t r.last c r.last.length,()),(t,(r.last,r.aT,()),(c.kind,c.ay,c.row,c.bV,()),()))) aV (λk D=>by
  have E:=h.len;have h2:=(h.last k D).1;have h3:=hb k (by omega);have hg:=TE h.EF g (iz k) c;unfold Lt az xG xI;dsimp only;rw[aW,aq,aC ⟨by omega,by omega⟩,bI];simp only[bD];rw[NR,NS D];cases hd:decide (r.last[k]<0)with
  |true=>rfl
  | false=>
   have aGy:¬ r.last[k]<0:=by simpa using hd
   have Y:oT g k=true:=by
    rcases(h.last k D).2 with h9|h9
    ·omega
    ·exact h9
   obtain⟨b,eb⟩:=aCJ (g:=g) (i:=k) (by omega) Y;rw[av,av,kE,eb,ak];show Option.bind (Bm g t (iz k) c) _=_;rw[alj t h.r4 (amb k) U.1 (aCI Y) U.2,ak,aY (n:=r.last[k]+_)];rfl) (by
  unfold Lt az xG xI;dsimp only;rw[aZ,av]) (bM (by have:=h.len;omega))
 rw[cv]at e;unfold RC om xI bw;rw[HE,ak,h.EF,bG,av,aaj,ak,hr,bG,av,TD,ak,C,bG,av]
 refine(bC (λo=>Option.bind o _) e).trans ?_
 rw[ak];simp only[dH];have hL:=hb r.last.length (dc _);have hf:=aav h.EF;have I:∀m:Int,(bif decide (m > 1000000)then some (-1:Int)else some m)=some (bif decide (m > 1000000)then -1 else m):=λm=>by cases decide (m > 1000000)<;>rfl
 cases c.kind==(1:Int)with
 |false=>exact I _
 | true=>
  cases h4:(r.aT.length:Int)==(4:Int)with
  |false=>exact I _
  | true=>
   have h4:(r.aT.length:Int)=4:=by simpa using h4
   have O:0<r.aT.length:=by omega
   have ha:=h.act _ (cQ O);rw[aq,aq,aC ⟨by omega,O⟩];show (bif decide ((if W6 (r.aT[0]+t.jJ) > _ then W6 (r.aT[0]+t.jJ)else _) > 1000000)then _ else some (if W6 (r.aT[0]+t.jJ) > _ then W6 (r.aT[0]+t.jJ)else _))=_;rw[aY,cV,bT O];exact I _
def eY(c:ax)(x:aF):Bool:=jr c.aO x&&(decide (om c.config.au c.config.bY c.ready x<=1000000)&&decide (om c.config.au c.config.bY c.ready x<=c.now))
structure Pk (c:ax):Prop where
 z:dJ c
 ok:dK c=true
 rk:mj c.config.au c.aO=true
 rdy:kf c.config.au c.ready=true
 R:HQ c.config.au c.config.bY c.ready
 bl:(c.aO.aA.length:Int)=aU c.config.au
def Pk.of{c:ax}(C:dJ c)(h:dK c=true):Pk c:=by
 have U:c.box.cr.weights.length <= 1048576:=C.1.1;have I:=h;simp[dK,aP]at h;have⟨O,Y,h3,D,E,h6,h7,h8,h9,BR,uf,rT,qW,vL,xF,nt,xq,EE,BJ,xu,xj,Ec⟩:=h;have hb:c.aO.aA.length=aU c.config.au:=by
  simp[mj,aP]at D;simp_all
 exact⟨C,I,D,E,aCH (al9 (by omega) O) E,hb⟩
def aCN{g:aG}{x:aF}(C:cZ g x=true):(1 <= x.kind/\x.kind <= 9)/\(x.kind <= 5 -> 0 <= x.ay/\x.ay<aU g):=by
 simp[cZ,aP]at C
 refine⟨bA.1 C.2.1,λE=>?_⟩
 have D:=C.2.2.1;rw[NJ (bA.1 C.2.1),aW E]at D;have:=bA.1 D;omega
def TT{c:ax}(h:Pk c){x:aF}(C:cZ c.config.au x=true):DZ c x=some (eY c x):=by
 have⟨I,D⟩:=aCN C;have hb:=eM c.config.au;have hl:=h.bl;unfold DZ eY;rw[aBd I (λE=>⟨(D E).1,by have:=D E;omega⟩) (by omega),ak,aCK h.R C,ak]
 grind
def EG{c:ax}(h:Pk c){x:aF}(C:cZ c.config.au x=true):jZ c x=some (eY c x):=by
 have D:=aCL h.R x;unfold jZ eY;rw[aam,ak,h.rk,C,cC,cC,aCM h.R h.rdy C,ak]
 grind
def fC(i:Nat):aa Int->aa Int
 |[]=>[]
 |d::l=>bif decide (d >= 4)then (i:Int)::fC (i+1) l else fC (i+1) l
def aCO(i:Nat)(a b:aa Int):fC i (a++b)=fC i a++fC (i+a.length) b:=by
 induction a generalizing i with
 |nil=>rfl
 | cons d a C=>
  rw[List.cons_append,fC,fC,C,show i+1+a.length=i+(a.length+1) by omega]
  grind
def aaM(i:Nat)(l:aa Int):(fC i l).length <= l.length:=by
 induction l generalizing i with
 |nil=>exact dc _
 | cons d l C=>
  have:=C (i+1);unfold fC
  grind
def amc{l:aa Int}{i:Nat}(h:i<l.length):fC 0 (l.take (i+1))=bif decide (l[i] >= 4)then fC 0 (l.take i)++[(i:Int)]else fC 0 (l.take i):=by
 rw[nD h,aCO,jf,Nat.min_eq_left (by omega),fB];show _++(bif decide _ then _::fC _ []else fC _ [])=_;cases decide (l[i] >= 4)with
 |true=>rfl
 |false=>exact List.append_nil _
def amd{l:aa Int}{i:Nat}{b:Int}(h:b∈fC i l):∃ j:Nat,b=((i+j:Nat):Int)/\j<l.length/\l.getD j 0 >= 4:=by
 induction l generalizing i with
 |nil=>cases h
 | cons d l D=>
  unfold fC at h;have tl:b∈fC (i+1) l -> ∃ j:Nat,b=((i+j):Int)/\j<(d :: l).length/\(d :: l).getD j 0 >= 4:=λh=>by
   have⟨j,E,I,O⟩:=D h;exact⟨j+1,by rw[E];omega,by simpa using I,by simpa using O⟩
  cases C:decide (d >= 4)with
  | true=>
   rw[C]at h;rcases gZ.1 h with rfl|h
   ·exact⟨0,rfl,by simp,by simpa using C⟩
   ·exact tl h
  |false =>grind
def r5{r:c8}(h:fX r=true):r.aJ.length<=8/\1<=r.aJ.length:=by
 simp only[fX,aP]at h;have:=bA.1 h.2.1;omega
def aaN{r:c8}(C:fX r=true):GK r=some (fC 0 r.aJ):=by
 have hl:=r5 C;unfold GK bw;rw[Nx _ (by omega),ak,C,bG,av];have e:=cI (step:=Lj) r.aJ.length (λi=>(((),r.aJ,(r.aJ.length:Int),(i:Int),()),(fC 0 (r.aJ.take i),()))) (.inl (((),()),(fC 0 r.aJ,()))) aV (λi h=>by
  have D:=aaM 0 (r.aJ.take i);rw[jf]at D;unfold Lj az xG xI;dsimp only;rw[aW,aq,aC ⟨by omega,by omega⟩,bI,amc h];simp only[bD];cases decide (r.aJ[i] >= 4)with
  |true=>rw[aq,aq,mV,cF,aq]
  |false=>rfl) (by
  unfold Lj az xG xI;dsimp only;rw[aZ,av,iR]) (bM)
 rw[cv]at e
 refine(bC (λo=>Option.bind o _) e).trans ?_
 rfl
def ame{r:c8}(C:fX r=true):Mh r=some (fC 0 r.aJ):=by
 have hl:=r5 C;unfold Mh bw;have e:=cI (step:=Mg) r.aJ.length (λi=>(((),(),(i:Int),()),((r.aJ,r.wait,r.dX,()),fC 0 (r.aJ.take i),()))) (.inl (((),()),(fC 0 r.aJ,()))) aV (λi h=>by
  have D:=aaM 0 (r.aJ.take i);rw[jf]at D;unfold Mg az xG xI;dsimp only;rw[aW,aq,show (⟨r.aJ,r.wait,r.dX⟩:c8)=r from rfl,aad _ (by omega),ak,C,aq,aC ⟨by omega,by omega⟩,bI,amc h];simp only[bD];cases decide (r.aJ[i] >= 4)with
  |true=>rw[aq,aq,mV,cF,aq]
  |false=>rfl) (by
  unfold Mg az xG xI;dsimp only;rw[aZ,av,iR]) (bM)
 rw[cv,List.take_zero]at e
 refine(bC (λo=>Option.bind o _) e).trans ?_
 rfl
def r6(c:ax):Bool:=decide ((c.queue.length:Int) > 0) ||(decide ((c.pending.length:Int) > 0) ||decide (((fC 0 c.aS.aJ).length:Int) > 0))
def amf{c:ax}(C:fX c.aS=true):Bj c=some (r6 c):=by
 unfold Bj r6;rw[aaN C]
 grind
def amg{c:ax}(C:fX c.aS=true):DV c=some (r6 c):=by
 unfold DV r6;rw[ame C]
 grind
def vR(r:sv)(p:fK)(b:Bool):Int:=
 bif b then (bif p.state==1 then 7 else bif p.state==2 then 9 else 0)else bif p.state==0&&decide (p.idle >= r.sleep)then 8 else bif p.state==0&&decide (p.idle >= r.down)then 6 else bif p.state==1&&decide (p.idle >= r.sleep)then 7 else 0
def aCP(r:sv)(p:fK)(b:Bool)(C:zK r=true)(D:kG p=true):RD r p b=some (vR r p b):=by
 unfold RD vR;rw[akU,ak,C,bG,Ty,ak,D,bG]
 grind
def aCQ(r:sv)(p:fK)(b:Bool)(C:zK r=true)(D:kG p=true):Ss r p b=some (vR r p b):=by
 unfold Ss vR;simp[akV,aah,C,D,av]
 grind
def aCR(r:sv)(p:fK)(b:Bool):vR r p b=0 \/ 6 <= vR r p b/\vR r p b <= 9:=by
 unfold vR
 grind
def B1(may:Nat->Bool)(v:Nat->Int)(C:Int)(i:Nat):Int:=bif may i&&(decide (C<0) ||decide (v i > v C.toNat))then (i:Int)else C
def lT(may:Nat->Bool)(v:Nat->Int)(k:Nat):Int:=(List.range k).foldl (B1 may v) (-1)
def HR(may:Nat->Bool)(v:Nat->Int)(k:Nat):lT may v (k+1)=B1 may v (lT may v k) k:=by
 unfold lT;rw[List.range_succ,List.foldl_append];rfl
def ur(may:Nat -> Bool)(v:Nat -> Int):∀ k,-1 <= lT may v k/\lT may v k<k
 |0=>⟨jw _,by show (-1)<0;omega⟩
 | k+1=>by
  have C:=ur may v k;rw[HR];unfold B1
  grind
def HS(may:Nat -> Bool)(v:Nat -> Int):∀ k,lT may v k = -1 \/ may (lT may v k).toNat=true
 |0=>.inl rfl
 | k+1=>by
  have C:=HS may v k;rw[HR];unfold B1
  grind
def NT{may:Nat -> Bool}(v:Nat -> Int){i:Nat}(h:may i=true):∀ k,i<k -> 0 <= lT may v k
 |0,C=>by omega
 | k+1,C=>by
  have hb:=ur may v k;rw[HR];unfold B1;by_cases D:i=k
  ·grind
  ·have E:=NT v h k (by omega)
   grind
def qa(l:aa cD)(w:aa Bool):Int:=lT (λi=>w.getD i false) (λi=>(l.getD i ⟨0,0⟩).fF) (min l.length w.length)
def EH(l:aa cD)(w:aa Bool)(hl:l.length<1073741824):GR l w=some (qa l w):=by
 unfold GR qa bw;generalize U:min l.length w.length=n;have e:=cI (step:=Lw) n (λi=>((l,w,lT (λi=>w.getD i false) (λi=>(l.getD i ⟨0,0⟩).fF) i,(i:Int),()),())) (.inl ((lT (λi=>w.getD i false) (λi=>(l.getD i ⟨0,0⟩).fF) n,()),())) aV (λi h=>by
  have C:i<l.length:=by omega
  have O:i<w.length:=by omega
  have hb:=ur (λi=>w.getD i false) (λi=>(l.getD i ⟨0,0⟩).fF) i;rw[HR];generalize lT (λi=>w.getD i false) (λi=>(l.getD i ⟨0,0⟩).fF) i=D at hb;unfold Lw B1 az xG xI;dsimp only;rw[aW,aq,aW,aq,aC ⟨by omega,by omega⟩,bI];simp only[bD,cV,bT O,bT C,Option.getD_some];cases w[i]with
  |false=>rfl
  | true=>
   rw[aq,cC];by_cases E:D<0
   ·rw[aW E];rfl
   ·have I:D.toNat<l.length:=by omega
    rw[aZ E,aC ⟨by omega,C⟩,aC ⟨by omega,I⟩,bT I,Option.getD_some];cases decide (l[i].fF > l[D.toNat].fF)<;>rfl) (by
  unfold Lw az xG xI;dsimp only;by_cases C:n<l.length
  ·rw[aW,aq,aZ,av]
  ·rw[aZ,av]) (bM)
 rw[cv]at e
 refine(bC (λo=>Option.bind o _) e).trans ?_
 rfl
def aCS:SI=GR:=rfl
def uv(s:cD):cD:=⟨s.weight,s.weight⟩
def gE(l:aa cD):aa cD:=l.map uv
def TU(l:aa cD)(w:aa Bool)(hl:l.length<1073741824):iter GS aV ((w,(),(l.length:Int),(0:Int),()),(l,()))=some (.inl ((w,(),()),(gE l,()))):=by
 have e:=cI (step:=GS) _ (λi=>((w,(),l.length,i,()),(upto uv l i,()))) (.inl ((w,(),()),(gE l,()))) aV (λi h=>by
  have hlen:=BM uv l i;unfold GS az xG xL;dsimp only;rw[aW,aq,aC ⟨by omega,by omega⟩,aC,aC ⟨by omega,by omega⟩,aC,bI];simp only[bD];rw[HB uv l i h,<- HC uv l i h];rfl) (by
  unfold GS az xG xL;dsimp only;rw[aZ,av,HA];rfl) (bM hl)
 exact e
def aCT(l:aa cD)(w:aa Bool)(hl:l.length<1073741824):iter Hp aV ((w,(),(0:Int),()),(l,()))=some (.inl ((w,(),()),(gE l,()))):=by
 have e:=cI (step:=Hp) _ (λi=>((w,(),i,()),(upto uv l i,()))) (.inl ((w,(),()),(gE l,()))) aV (λi h=>by
  have hlen:=BM uv l i;unfold Hp az xG xL;dsimp only;rw[aW,aq,aC ⟨by omega,by omega⟩,aC,aC ⟨by omega,by omega⟩,aC,bI];simp only[bD];rw[HB uv l i h,<- HC uv l i h];rfl) (by
  have hlen:=BM uv l l.length;unfold Hp az xG xL;dsimp only;rw[aZ,av,HA];rfl) (bM hl)
 exact e
def aaO(l:aa cD)(w:aa Bool)(hl:l.length<1073741823):ME l w=qQ l w:=by
 unfold ME qQ xA xC bw xL xZ;rw[kJ,aCS,EH l w (by omega),HF _ (by omega),akP _ (by omega),ak];rw[TU l w (by omega),aCT l w (by omega)];rfl
def aaP{l:aa cD}(w:aa Bool)(hl:l.length<1073741823)(D:jq l=true)(Y:l.length=w.length):∃ y t,qQ l w=some (y,t)/\y.length=l.length:=by
 unfold qQ xA xC bw xL xZ;have hb:=ur (λi=>w.getD i false) (λi=>(l.getD i ⟨0,0⟩).fF) (min l.length w.length);have E:(gE l).length=l.length:=by simp[gE]
 have I:=ur (λi=>w.getD i false) (λi=>((gE l).getD i ⟨0,0⟩).fF) (min (gE l).length w.length);have O:=HS (λi=>w.getD i false) (λi=>(l.getD i ⟨0,0⟩).fF) (min l.length w.length);rw[kJ,EH l w (by omega),ak,HF _ (by omega),ak,D,bG,av,List.length_nil,fB,cF,aq];unfold qa;generalize hr:lT (λi=>w.getD i false) (λi=>(l.getD i ⟨0,0⟩).fF) (min l.length w.length)=b at *
 by_cases U:b<0
 ·simp_all
 ·have C:b.toNat<l.length:=by omega
  rw[aZ U,av,aC ⟨by omega,C⟩,aC C];dsimp only;cases l[b.toNat].fF==0 with
  |false =>simp_all
  | true=>
   rw[aq,TU l w (by omega),ak];simp only[dH];rw[EH _ w (by omega),ak];have hp:0 <= qa (gE l) w:=NT _ (i:=b.toNat) (by rcases O with h|h;exact absurd h (by omega);exact h) _ (by rw[E];omega);have hq:qa (gE l) w<((min (gE l).length w.length:Nat):Int):=I.2;simp_all
def B2(m:oz)(n:Int)(a:aM):aM:=bif m.hash then ⟨(a.ay+a.row) % n,a.row,a.bV⟩else a
def qb(g:aG)(m:oz)(l:Int):aM:=B2 m (aU g)
 (bif m.order==0 then ⟨l / g.aK % aU g,l / g.aK / aU g,l % g.aK⟩else bif m.order==1 then ⟨l % aU g,l / aU g / g.aK,l / aU g % g.aK⟩else ⟨l / g.aK / g.rows,l / g.aK % g.rows,l % g.aK⟩)
def HT{l a b:Int}(C:0<=l)(hb:0<b)(h:l<a*b):0<=l / b/\l / b<a/\l / b<=l:=by
 refine⟨Int.ediv_nonneg C (by omega),Int.ediv_lt_of_lt_mul hb h,?_⟩;exact Int.ediv_le_self _ C
def B3{l b:Int}(hb:0<b):0<=l % b/\l % b<b:=⟨Int.emod_nonneg _ (by omega),Int.emod_lt_of_pos _ hb⟩
def aaQ{m:oz}{n:Int}{a:aM}(C:0<n)(hb:0 <= a.ay/\a.ay<n):0 <= (B2 m n a).ay/\(B2 m n a).ay<n/\(B2 m n a).row=a.row/\(B2 m n a).bV=a.bV:=by
 unfold B2;cases m.hash with
 |false=>simp_all
 |true=>exact⟨(B3 C).1,(B3 C).2,rfl,rfl⟩
def aaR{m:oz}{n b r c:Int}(C:0<n)(D:n<=8)(E:0<=b/\b<=100000)(I:0<=r/\r<=100000):(bif m.hash then if n=0 then none else some ((⟨(W6 (b+r)).tmod n,r,c⟩:aM),true)else some ((⟨b,r,c⟩:aM),true))=some (B2 m n ⟨b,r,c⟩,true):=by
 unfold B2;cases m.hash with
 |false=>rfl
 |true=>rw[aq,bk,aY,q8 (by omega),aq]
def amh{g:aG}{m:oz}{l:Int}(U:ct g=true)(hm:aQ m.order 0 2=true)(D:0<=l)(hl:l<dU g):∀ (f:ah (aM×Bool)),f=(bif (m.order==(0:Int))then if g.aK=0 then none else if g.aK=0 then none else if aU g=0 then none else if g.aK=0 then none else if aU g=0 then none else bif m.hash then if aU g=0 then none else some ((⟨((W6 (((W6 (l.tdiv g.aK)).tmod (aU g))+(W6 ((W6 (l.tdiv g.aK)).tdiv (aU g))))).tmod (aU g)),(W6 ((W6 (l.tdiv g.aK)).tdiv (aU g))),(l.tmod g.aK)⟩:aM),true)else some ((⟨((W6 (l.tdiv g.aK)).tmod (aU g)),(W6 ((W6 (l.tdiv g.aK)).tdiv (aU g))),(l.tmod g.aK)⟩:aM),true)else bif (m.order==(1:Int))then if aU g=0 then none else if aU g=0 then none else if g.aK=0 then none else if aU g=0 then none else if g.aK=0 then none else bif m.hash then if aU g=0 then none else some ((⟨((W6 ((l.tmod (aU g))+(W6 ((W6 (l.tdiv (aU g))).tdiv g.aK)))).tmod (aU g)),(W6 ((W6 (l.tdiv (aU g))).tdiv g.aK)),((W6 (l.tdiv (aU g))).tmod g.aK)⟩:aM),true)else some ((⟨(l.tmod (aU g)),(W6 ((W6 (l.tdiv (aU g))).tdiv g.aK)),((W6 (l.tdiv (aU g))).tmod g.aK)⟩:aM),true)else if g.aK=0 then none else if g.aK=0 then none else if g.rows=0 then none else if g.aK=0 then none else if g.rows=0 then none else bif m.hash then if aU g=0 then none else some ((⟨((W6 ((W6 ((W6 (l.tdiv g.aK)).tdiv g.rows))+((W6 (l.tdiv g.aK)).tmod g.rows))).tmod (aU g)),((W6 (l.tdiv g.aK)).tmod g.rows),(l.tmod g.aK)⟩:aM),true)else some ((⟨(W6 ((W6 (l.tdiv g.aK)).tdiv g.rows)),((W6 (l.tdiv g.aK)).tmod g.rows),(l.tmod g.aK)⟩:aM),true))->f=some (qb g m l,true)/\dO g (qb g m l)=true:=by
 have hb:=eM g;have hp:=Ed U;have hL:=mN g;have gb:=fJ U;have eL:dU g=aU g*g.rows*g.aK:=by simp[dU,U]
 have uJ:aQ l 0 (W6 (dU g-1))=true:=by rw[aY];exact bA.2 ⟨D,by omega⟩
 have ho:=bA.1 hm;rw[eL]at hl;have zQ:¬ aU g=0:=by omega
 have tN:¬ g.aK=0:=by omega
 have jA:¬ g.rows=0:=by omega
 rintro f rfl;simp only[bk zQ,bk tN,bk jA];unfold qb;by_cases o0:m.order=0
 ·have C:=HT (a:=aU g*g.rows) D (show 0<g.aK by omega) hl;have E:=HT (l:=l / g.aK) (a:=g.rows) (b:=aU g) C.1 (by omega) (by rw[Int.mul_comm];exact C.2.1);have Y:=B3 (l:=l / g.aK) (b:=aU g) (by omega);have a4:=B3 (l:=l) (b:=g.aK) (by omega);rw[o0,iS,aq,aq,sr D,q8 D,aY (n:=l / g.aK),sr C.1,q8 C.1,aY (n:=l / g.aK / aU g)];obtain⟨k1,k2,I,O⟩:=aaQ (m:=m) (n:=aU g) (a:=⟨l / g.aK % aU g,l / g.aK / aU g,l % g.aK⟩) (by omega) Y;refine⟨?_,xw U k1 k2 (by rw[I];exact E.1) (by rw[I];exact E.2.1) (by rw[O];exact a4.1) (by rw[O];exact a4.2)⟩;refine Eq.trans ?_ (aaR (by omega) (by omega) (by omega) (by omega));rw[bk zQ]
 ·rw[iw o0,av,av];by_cases o1:m.order=1
  ·have C:=HT (a:=g.rows*g.aK) D (show 0<aU g by omega) (by rw[Int.mul_comm,<-Int.mul_assoc];exact hl);have E:=HT (l:=l / aU g) (a:=g.rows) (b:=g.aK) C.1 (by omega) C.2.1;have Y:=B3 (l:=l) (b:=aU g) (by omega);have a4:=B3 (l:=l / aU g) (b:=g.aK) (by omega);rw[o1,iS,aq,aq,sr D,q8 D,aY (n:=l / aU g),sr C.1,q8 C.1,aY (n:=l / aU g / g.aK)];obtain⟨k1,k2,I,O⟩:=aaQ (m:=m) (n:=aU g) (a:=⟨l % aU g,l / aU g / g.aK,l / aU g % g.aK⟩) (by omega) Y;refine⟨?_,xw U k1 k2 (by rw[I];exact E.1) (by rw[I];exact E.2.1) (by rw[O];exact a4.1) (by rw[O];exact a4.2)⟩;refine Eq.trans ?_ (aaR (by omega) (by omega) (by omega) (by omega));rw[bk zQ]
  ·have C:=HT (a:=aU g*g.rows) D (show 0<g.aK by omega) hl;have E:=HT (l:=l / g.aK) (a:=aU g) (b:=g.rows) C.1 (by omega) C.2.1;have Y:=B3 (l:=l / g.aK) (b:=g.rows) (by omega);have a4:=B3 (l:=l) (b:=g.aK) (by omega);rw[iw o1,av,av,sr D,q8 D,aY (n:=l / g.aK),sr C.1,q8 C.1,aY (n:=l / g.aK / g.rows)];obtain⟨k1,k2,I,O⟩:=aaQ (m:=m) (n:=aU g) (a:=⟨l / g.aK / g.rows,l / g.aK % g.rows,l % g.aK⟩) (by omega) ⟨E.1,E.2.1⟩;refine⟨?_,xw U k1 k2 (by rw[I];exact Y.1) (by rw[I];exact Y.2) (by rw[O];exact a4.1) (by rw[O];exact a4.2)⟩;refine Eq.trans ?_ (aaR (by omega) (by omega) (by omega) (by omega));rw[bk zQ]
def aaS{g:aG}{m:oz}{l:Int}(C:ct g=true)(D:aQ m.order 0 2=true)(E:0<=l)(hl:l<dU g):RE g m l=some (qb g m l,true)/\dO g (qb g m l)=true:=by
 have O:=mN g;have I:aQ l 0 (W6 (dU g-1))=true:=by rw[aY];exact bA.2 ⟨E,by omega⟩
 refine amh C D E hl _ ?_;unfold RE;rw[rU,ak,C,bG,av,Z8,ak,D,bG,av,Ee,ak,dy,ak,I,bG,av,lM,ak]
def ami{g:aG}{m:oz}{l:Int}(E:ct g=true)(C:aQ m.order 0 2=true)(D:0<=l)(hl:l<dU g):Kv g m l=some (qb g m l,true):=by
 have O:=mN g;have I:aQ l 0 (W6 (dU g-1))=true:=by rw[aY];exact bA.2 ⟨D,by omega⟩
 refine(amh E C D hl _ ?_).1;unfold Kv;rw[show F7 m=some (aQ m.order 0 2)from Z8 m,ak,C,bG,av,Ef,ak,fm,ak,I,bG,av,pW,ak]
def dL(c:ax)(l:Int):aM:=
 let a:=qb (cX c.config.au c.spare) c.config.mapping l
 ⟨a.ay,c.spare.map.getD (a.ay*(c.config.au.rows-c.spare.bL)+a.row).toNat 0,a.bV⟩
def EI{g:aG}{s:dw}(h:lP g s=true):cX g s=⟨g.bK,g.aA,g.rows-s.bL,g.aK⟩/\ct g=true/\ct (cX g s)=true/\aU (cX g s)=aU g/\0 <= s.bL/\s.bL <= 2/\2 <= g.rows-s.bL/\g.rows <= 16:=by
 have D:=h;simp[lP,aP]at h;have⟨C,E,I,O,U⟩:=Ts h.1;have gb:=fJ C;have e:cX g s=⟨g.bK,g.aA,g.rows-s.bL,g.aK⟩:=by
  unfold cX;rw[D,aq,aY]
 have Y:ct (cX g s)=true:=by
  rw[e];unfold ct;simp[aP,bA];omega
 refine⟨e,C,Y,?_,E,I,O,U⟩;unfold aU;simp_all
def amj{g:aG}{s:dw}(h:lP g s=true){b r:Int}(hb:0 <= b/\b<aU g)(E:0 <= r/\r<g.rows-s.bL):(b*(g.rows-s.bL)+r).toNat<s.map.length/\0 <= s.map.getD (b*(g.rows-s.bL)+r).toNat 0/\s.map.getD (b*(g.rows-s.bL)+r).toNat 0<g.rows:=by
 have⟨_,hg,_,_,h1,h2,h3,h4⟩:=EI h;have I:=eM g;simp only[lP,aP,eZ,ck,ga]at h;have⟨_,hl,O⟩:=h;obtain⟨b,rfl⟩:=dV hb.1;obtain⟨r,rfl⟩:=dV E.1;have⟨R,hR⟩:=dV (show 0 <= g.rows-s.bL by omega);have⟨C,U⟩:=dV I.1;rw[hR,U,bD,bD]at hl;have hl:s.map.length=C*R:=by exact_mod_cast hl
 have Y:b<C:=by omega
 have D:r<R:=by omega
 have e:((b:Int)*(g.rows-s.bL)+(r:Int)).toNat=b*R+r:=by rw[hR,<- Int.natCast_mul,<- Int.natCast_add,bD]
 have dQ:=BP (R:=R) Y (show r+1 <= R from D);have hi:b*R+r<s.map.length:=by omega
 have h5:=O b (by omega) r (by omega);rw[e];refine⟨hi,?_⟩;rw[cV,bT hi,Option.getD_some];have Ad:(gj s.map R b)[r]?=some s.map[b*R+r]:=by rw[HI,List.getElem?_take_of_lt D,List.getElem?_drop,bT hi]
 rw[hR,bD]at h5;unfold th at h5;rw[Ad]at h5;simp only[eN,aP,eZ,bA]at h5;rcases h5 with h5|h5
 ·omega
 ·grind
def amk{c:ax}(h:Pk c)(E:lP c.config.au c.spare=true)(he:c.spare.bL=c.config.bL)(hm:aQ c.config.mapping.order 0 2=true){l:Int}(h0:0<=l)(hl:l<dU (cX c.config.au c.spare)):xg c l=some (dL c l,true)/\dO c.config.au (dL c l)=true:=by
 obtain⟨e1,hg,oF,eb,s1,s2,s3,s4⟩:=EI E;obtain⟨m1,m3⟩:=aaS oF hm h0 hl;obtain⟨_,C,D,I,O,b5,b6⟩:=rV m3;rw[eb]at D;have gb:=fJ hg;have hb:=eM c.config.au;have er:(cX c.config.au c.spare).rows=c.config.au.rows-c.spare.bL:=by rw[e1]
 have ec:(cX c.config.au c.spare).aK=c.config.au.aK:=by rw[e1]
 rw[er]at O;rw[ec]at b6;obtain⟨k1,k2,k3⟩:=amj E ⟨C,D⟩ ⟨I,O⟩;have hmul:=xx C D I O;have hM:=Td (a:=aU c.config.au) (b:=c.config.au.rows-c.spare.bL) (A:=8) (B:=16) hb.1 hb.2 (by omega) (by omega);unfold dL;generalize hA:qb (cX c.config.au c.spare) c.config.mapping l=A at *
 dsimp only;refine⟨?_,xw hg C D k2 k3 b5 b6⟩;unfold xg;rw[Eo,ak,m1,ak];dsimp only;rw[bG,av];unfold DJ xI;have hx:Bo (cX c.config.au c.spare) A.ay A.row=some true:=by
  unfold Bo;rw[Te,ak,xw (a:=⟨A.ay,A.row,0⟩) oF C (by rw[eb];exact D) I (by rw[er];exact O) (jw 0) (by rw[ec];show (0:Int)<_;omega)]
 obtain⟨b,hbN⟩:=dV C;obtain⟨r,hrN⟩:=dV I;obtain⟨R,hR⟩:=dV (show 0<=c.config.au.rows-c.spare.bL by omega);obtain⟨bn,hn⟩:=dV hb.1;have kL:c.spare.map.length=bn*R:=by
  simp only[lP,aP,eZ]at E;have:=E.2.1;rw[hR,hn,bD,bD]at this
  exact_mod_cast this
 have U:b<bn:=by omega
 have Y:r<R:=by omega
 have dQ:=BP (R:=R) U (show r+1<=R from Y);have aGz:=BP (R:=R) U (dc R);have hi:b*R+r<c.spare.map.length:=by omega
 obtain⟨w1,w2,w3⟩:=TB (s:=c.spare) hR (by omega) (by omega) U kL;rw[Eo,ak,hx,ak,bG,av,hbN,w1,w2,bg w3];simp only[bD];have ht:((c.spare.map.take ((b+1)*R)).drop (b*R))=gj c.spare.map R b:=rfl;have iM:(gj c.spare.map R b).length=R:=HJ (by rw[kL];exact jd R U);have hgx:(gj c.spare.map R b)[r]?=some c.spare.map[b*R+r]:=by rw[HI,List.getElem?_take_of_lt Y,List.getElem?_drop,bT hi]
 have hgy:(gj c.spare.map R b)[r]'(by omega)=c.spare.map[b*R+r]:=by
  have:=bT (l:=gj c.spare.map R b) (i:=r) (by omega);rw[hgx]at this;injection this with this;exact this.symm
 rw[hrN,aC ⟨by omega,by rw[ht,iM,bD];exact Y⟩];simp only[bD,ht,hgy,ak];rw[hR,<-Int.natCast_mul,<-Int.natCast_add,bD,cV,bT hi,Option.getD_some]
def aCU{c:ax}(h:Pk c)(I:lP c.config.au c.spare=true)(he:c.spare.bL=c.config.bL)(O:aQ c.config.mapping.order 0 2=true){l:Int}(U:0<=l)(hl:l<dU (cX c.config.au c.spare)):zE c l=some (dL c l):=by
 obtain⟨C,hg,Y,eb,s1,s2,s3,s4⟩:=EI I;obtain⟨m1,m3⟩:=aaS Y O U hl;have m2:=ami Y O U hl;obtain⟨_,b1,D,b3,E,b5,b6⟩:=rV m3;rw[eb]at D;have gb:=fJ hg;have hb:=eM c.config.au;have er:(cX c.config.au c.spare).rows=c.config.au.rows-c.spare.bL:=by rw[C]
 have ec:(cX c.config.au c.spare).aK=c.config.au.aK:=by rw[C]
 rw[er]at E;rw[ec]at b6;obtain⟨k1,k2,k3⟩:=amj I ⟨b1,D⟩ ⟨b3,E⟩;have hmul:=xx b1 D b3 E;have hM:=Td (a:=aU c.config.au) (b:=c.config.au.rows-c.spare.bL) (A:=8) (B:=16) hb.1 hb.2 (by omega) (by omega);unfold dL;generalize hA:qb (cX c.config.au c.spare) c.config.mapping l=A at *
 dsimp only;unfold zE xI;have hw:W6 (c.config.au.rows-c.config.bL)=c.config.au.rows-c.spare.bL:=by rw[<-he];exact aY
 have HU:W6 (A.ay*(c.config.au.rows-c.spare.bL))=A.ay*(c.config.au.rows-c.spare.bL):=aY;have HV:W6 (A.ay*(c.config.au.rows-c.spare.bL)+A.row)=A.ay*(c.config.au.rows-c.spare.bL)+A.row:=aY;simp only[hw];rw[<-C,m2,ak];simp only[HU,HV];rw[aC ⟨hmul.2.1,k1⟩,cV,bT k1,Option.getD_some]
def NU{c:dP}{p:dz}(hl:p.weights.length<1073741823)(h:rY c p=true):od c=true/\vF p=true:=by
 have⟨b,e,D⟩:=aac c p hl;have hb:b=true:=by
  rw[NM c p hl]at e;simp_all
 subst hb;have C:=D rfl;refine⟨C,?_⟩;unfold rP at e;have⟨y,E⟩:=aab p.eC;simp[Tu,Nw _ hl,C]at e
 grind
structure Pq (c:ax):Prop where
 p:Pk c
 sp:lP c.config.au c.spare=true
 se:c.spare.bL=c.config.bL
 mo:aQ c.config.mapping.order 0 2=true
 q:∀r∈c.queue,(0<=r.line/\r.line<dU (cX c.config.au c.spare))/\(0<=r.dM/\r.dM<=3)/\(0<=r.at_/\r.at_<=1000000)
 ql:c.queue.length<=12
 pe:∀a∈c.pending,dO c.config.au a=true
 pl:c.pending.length<=128
 rf:fX c.aS=true
 dl:(c.aS.aJ.length:Int)=aU c.config.au
 sh:jq c.shares=true
 shl:c.shares.length=4
 dr:oS c.drain=true
 pw:kG c.aR=true
 ps:c.aR.state=c.aO.aR
 nw:0<=c.now/\c.now<=1000000
 cap:0<=c.box.cr.cap/\c.box.cr.cap<=100000
 de:zK c.box.cr.de=true
def Pq.of{c:ax}(D:dJ c)(h:dK c=true):Pq c:=by
 have I:=Pk.of D h;have z1:c.box.cr.weights.length <= 1048576:=D.1.1;simp only[dK,aP]at h;have⟨O,h2,U,h4,h5,h6,Y,h8,C,E,uf,rT,qW,vL,xF,nt,xq,EE,BJ,xu,xj,Ec⟩:=h;have⟨f1,f2⟩:=NU (by omega) O;simp only[od,aP]at f1;simp only[vF,aP]at f2;have⟨f3,f4,f5,f6,f7,f8,f9⟩:=f2;simp only[um,aP,eZ,ij,qh,ck,ga]at C;have⟨C,g1,g2,g3,g4,g5,g6⟩:=C;simp only[gW,aP,ck,ga,fU]at E;have⟨q1,q2⟩:=E;have nB:c.shares.length=4:=by
  grind
 refine⟨I,Y,by simpa using h8,f1.2.2.1,λr hr=>?_,by omega,λa ha=>?_,by omega,C,g1,uf,nB,qW,vL,by simpa using xF,bA.1 U,bA.1 f4,f9⟩
 ·obtain⟨i,hi,rfl⟩:=jI.1 hr;have hb:=q1 i hi;unfold qV at hb;rw[bT hi]at hb;simp[nH,aP,fU]at hb;have⟨⟨k1,k2,k3,k4,k5,k6,k7⟩,_⟩:=hb;exact⟨⟨k3,k4⟩,bA.1 k2,bA.1 k7⟩
 ·obtain⟨i,hi,rfl⟩:=jI.1 ha;have hb:=g6 i hi;unfold BQ at hb;simp_all
def kW(r:bX)(a:aM):Bool:=(ez r a.ay).open_&&((ez r a.ay).row==a.row)
def oq(r:bX)(a:aM)(w:Bool):aF:=
 bif !(ez r a.ay).open_ then ⟨1,a.ay,a.row,0⟩else bif (ez r a.ay).row != a.row then ⟨4,a.ay,0,0⟩else bif w then ⟨3,a.ay,0,a.bV⟩else ⟨2,a.ay,0,a.bV⟩
def B4{r:bX}{b:Int}(h:b.toNat<r.aA.length):ez r b=r.aA[b.toNat]:=by
 unfold ez;rw[cV,bT h];rfl
def TV{b:Int}{n:Nat}(C:0<=b)(h:b.toNat<n)(D:n<=1048576):aQ b 0 (W6 ((n:Int)-1))=true:=by
 rw[aY];exact bA.2 ⟨C,by omega⟩
def aml{r:bX}{a:aM}(w:Bool)(C:0 <= a.ay)(h:a.ay.toNat<r.aA.length)(hl:r.aA.length <= 1048576):xh r a w=some (oq r a w):=by
 unfold xh oq xI;rw[dy,ak,TV C h hl,bG,aC ⟨C,h⟩,B4 h]
 grind
def amm:Ho=xh:=rfl
def amn{r:bX}{b:Int}(C:0 <= b)(h:b.toNat<r.aA.length)(hl:r.aA.length <= 1048576):Lv r b=some (bif (ez r b).open_ then (ez r b).row else -1):=by
 unfold Lv xI;rw[dy,ak,TV C h hl,bG,aC ⟨C,h⟩,B4 h]
 grind
def aCV:SF=Lv:=rfl
def aCW{r:bX}{a:aM}(D:0 <= a.row)(C:0 <= a.ay)(h:a.ay.toNat<r.aA.length)(hl:r.aA.length <= 1048576):Bp r a=some (kW r a):=by
 unfold Bp kW;rw[gI (by omega:¬ a.row = -1),amn C h hl,ak];cases (ez r _).open_ with
 |false=>rw[av,iw (by omega:¬ (-1)=a.row)];rfl
 |true=>rfl
def amo{r:bX}{a:aM}(D:0 <= a.row)(C:0 <= a.ay)(h:a.ay.toNat<r.aA.length)(hl:r.aA.length <= 1048576):D4 r a=some (kW r a):=by
 unfold D4 kW;rw[aCV,amn C h hl,ak,ak];cases (ez r _).open_ with
 |false=>simp_all
 | true=>
  rw[aq,cC];by_cases e:(ez r a.ay).row=a.row
  ·rw[e,iS,aq,gI (by omega:¬ a.row = -1)]
  ·grind
def aCX{g:aG}{r:bX}{a:aM}(w:Bool)(h:dO g a=true):cZ g (oq r a w)=true:=by
 have⟨D,E,b2,I,b4,O,b6⟩:=rV h;have U:aQ _ 0 (aU g-1)=true:=bA.2 ⟨E,by omega⟩;have C:aQ a.row 0 (g.rows-1)=true:=bA.2 ⟨I,by omega⟩;have Y:aQ a.bV 0 (g.aK-1)=true:=bA.2 ⟨O,by omega⟩;unfold oq cZ vG;cases (ez r _).open_<;>cases (ez r _).row != a.row<;>cases w<;>simp[D,aQ,C]<;>simp[aQ,fU]at U C Y<;>omega
def zR{g:aG}{k b:Int}(C:ct g=true)(D:k=4 \/ k=5)(hb:0 <= b/\b<aU g):cZ g ⟨k,b,0,0⟩=true:=by
 have E:aQ b 0 (aU g-1)=true:=bA.2 ⟨hb.1,by omega⟩;unfold cZ vG;rcases D with rfl|rfl<;>simp[C,aQ]<;>simp[aQ,fU]at E<;>omega
def NV{g:aG}{k:Int}(C:ct g=true)(D:6<=k/\k<=9):cZ g ⟨k,0,0,0⟩=true:=by
 obtain⟨n,rfl⟩:=dV (show 0<=k by omega);have:n=6\/n=7\/n=8\/n=9:=by omega
 unfold cZ;rw[C];rcases this with rfl|rfl|rfl|rfl<;>rfl
def aCY(l:aa aM)(b:Int)(hl:l.length<=1048576):DI l b=some (l.any λa=>a.ay==b):=by
 have E:=EA (λa:aM=>a.ay==b) l;unfold DI Za Y9;rw[TM];have e:=cI (step:=GQ) (gq (λa:aM=>a.ay==b) l) (λi=>((l,b,(l.length:Int),(i:Int),()),())) (if gq (λa:aM=>a.ay==b) l<l.length then .inl ((((gq (λa:aM=>a.ay==b) l:Nat):Int),()),())else .inr (.inl ((),()))) aV (λk h=>by
  have D:=vP h (by omega);unfold GQ az bx xG xI;dsimp only;rw[aW,aq,aC ⟨by omega,by omega⟩];simp only[bD];rw[D,av,bI]) (by
  by_cases C:gq (λa:aM=>a.ay==b) l<l.length
  ·have D:=B0 C;unfold GQ az bx xG xI;dsimp only;rw[aW,aq,aC ⟨by omega,by omega⟩];simp only[bD];rw[D,aq,bg C]
  ·unfold GQ az bx xG xI;dsimp only;rw[aZ,av,bk C]) (bM)
 rw[cv]at e;rw[e];by_cases C:gq (λa:aM=>a.ay==b) l<l.length
 ·rw[bg C,aW C];simp
 ·rw[bk C,aZ C];rfl
def oW(t:cq)(row:Int):ah Nat:=match t.rows.findIdx? (λe=>e==row)with
 |some i=>some i
 |none=>t.counts.findIdx? (λe=>e==t.dm)
def iQ(t:cq)(row:Int):cq:=match t.rows.findIdx? (λe=>e==row)with
 |some i=>⟨t.rows,t.counts.set i (t.counts.getD i 0+1),t.dm⟩
 | none=>match t.counts.findIdx? (λe=>e==t.dm)with
  |some i=>⟨t.rows.set i row,t.counts.set i (t.dm+1),t.dm⟩
  |none=>⟨t.rows,t.counts,t.dm+1⟩
def r7(t:cq)(row dY:Int):cq×Bool:=bif kT t&&(aQ row 0 15&&aQ dY 2 1000)then (bif kT (iQ t row)then (iQ t row,match oW t row with
    |some i=>((iQ t row).counts.getD i 0).tmod dY==0
    |none=>false)else (t,false))else (t,false)
structure Tk (t:cq):Prop where
 rl:t.rows.length<=16
 cl:t.counts.length=t.rows.length
 sp:0<=t.dm/\t.dm<=100000
 cs:∀i (h:i<t.counts.length),0<=t.counts[i]/\t.counts[i]<=100000
def Tk.of{t:cq}(h:kT t=true):Tk t:=by
 simp[kT,aP,eZ,ck,ga]at h;have⟨D,I,C,E⟩:=h;have D:=bA.1 D;have C:=bA.1 C
 refine⟨by omega,by omega,C,λi hi=>?_⟩
 have hb:=E i (by omega);rw[NA (by omega) hi,aP,aP]at hb;have:=bA.1 hb.2.1;omega
def EJ{T:Type}{p:T -> Bool}{l:aa T}{i:Nat}(h:l.findIdx? p=some i):∃ hi:i<l.length,p l[i]=true:=by
 have⟨hi,C,_⟩:=nO.1 h;simp_all
def aCZ{t:cq}(h:Tk t)(row:Int):SQ t row=some ((match oW t row with | some i=>(i:Int) | none=>-1),(iQ t row,())):=by
 have U:=h.rl;have Y:=h.cl;have E:=ta (step:=MT) t.rows (λe=>e==row) (λi=>(((),row,(i:Int),()),(((),(),t.dm,()),t.rows,t.counts,()))) (λi=>.inl (((i:Int),()),(((),(),t.dm,()),t.rows,t.counts.set i (t.counts.getD i 0+1),()))) (.inr (.inl (((),row,()),(((),(),t.dm,()),t.rows,t.counts,())))) aV (λk D=>by
  have C:k<t.counts.length:=by omega
  have I:=h.cs k C;unfold MT az bx xG xL;dsimp only;rw[aW,aq,aC ⟨by omega,by omega⟩,aC];simp only[bD];cases t.rows[k]==row with
  |false=>rw[av,av,bI]
  | true=>
   rw[ aC ⟨by omega,C⟩,aC C,aC ⟨by omega,C⟩,aC C,aY (n:=t.counts[k]+1),cV,bT C];rfl) (by
  unfold MT az bx xG xL;dsimp only;rw[aZ,av]) (bM)
 have O:=ta (step:=MU) t.counts (λe=>e==t.dm) (λi=>(((),row,(i:Int),()),(((),(),t.dm,()),t.rows,t.counts,()))) (λi=>.inl (((i:Int),()),(((),(),t.dm,()),t.rows.set i row,t.counts.set i (t.dm+1),()))) (.inr (.inl (((),()),(((),(),t.dm,()),t.rows,t.counts,())))) aV (λk D=>by
  have C:k<t.rows.length:=by omega
  have I:=h.sp;unfold MU az bx xG xL;dsimp only;rw[aW,aq,aC ⟨by omega,by omega⟩,aC];simp only[bD];cases t.counts[k]==t.dm with
  |false=>rw[av,av,bI]
  |true=>rw[aq,aq,aC ⟨by omega,C⟩,aC C,aC ⟨by omega,D⟩,aC D,aY]) (by
  unfold MU az bx xG xL;dsimp only;rw[aZ,av]) (bM)
 have uL:=h.sp;unfold SQ oW iQ bU
 refine(bC (λo=>Option.bind o _) E).trans ?_
 rw[ak];cases h0:t.rows.findIdx? (λe=>e==row)with
 |some i=>rfl
 | none=>
  simp only[dH,Sum.elim_inr]
  refine(bC (λo=>Option.bind o _) O).trans ?_
  rw[ak];cases h2:t.counts.findIdx? (λe=>e==t.dm)with
  |some i=>rfl
  | none=>
   simp;rw[aY]
def aaT{t:cq}(row:Int):(iQ t row).rows.length=t.rows.length/\(iQ t row).counts.length=t.counts.length:=by
 unfold iQ
 grind
def amp{t:cq}(h:Tk t){row:Int}{i:Nat}(hi:oW t row=some i):i<t.counts.length:=by
 have:=h.cl;unfold oW at hi;split at hi
 next j C=>cases hi;have⟨D,_⟩:=EJ C;omega
 ·exact(EJ hi).1
def amq(t:cq)(D:lQ t)(row dY:Int):MV t row dY=some (r7 t row dY):=by
 unfold MV r7 xL;rw[al0 t D,ak,ak3,ak];cases E:kT t with
 |false=>rfl
 | true=>
  have C:=Tk.of E;rw[bG,av,fm,ak,cC];cases U:aQ row 0 15 with
  |false=>rfl
  | true=>
   rw[bG,av,fm,ak,cC];cases I:aQ dY 2 1000 with
   |false=>rfl
   | true=>
    have hl:=bA.1 I;rw[bG,av,aq,aCZ C,ak,ak3,ak];dsimp only;cases Y:kT (iQ t row)with
    |false =>simp_all
    | true=>
     rw[bG,av,aq];cases O:oW t row with
     |none=>rfl
     | some i=>
      have hi:i<(iQ t row).counts.length:=by rw[(aaT row).2];exact amp C O
      grind
def aC0(t:cq)(hz:lQ t)(row dY:Int):RR t row dY=some (r7 t row dY):=by
 have sw:∀x:Int,(λe:Int=>x==e)=λe=>e==x:=λx=>funext λe=>by rw[Bool.eq_iff_iff,eZ,eZ];exact eq_comm
 unfold RR r7 xL;rw[aaI t hz,ak,aai,ak];dsimp only;cases ht:kT t with
 |false=>rfl
 | true=>
  have U:=Tk.of ht;have r1:=U.rl;have r2:=U.cl;have uL:=U.sp;rw[bG,av,dy,ak,cC];cases h1:aQ row 0 15 with
  |false=>rfl
  | true=>
   rw[bG,av,dy,ak,cC];cases h2:aQ dY 2 1000 with
   |false=>rfl
   | true=>
    have hl:=bA.1 h2;rw[bG,av,aq,TA _ _ (by omega),ak,sw row];have aaU:∀ (E:Int) (D:cq),D=iQ t row->(E=match oW t row with | some i=>(i:Int) | none=>-1)->
      ((Bf D).bind λlK=>bif (!lK)then ((some t).bind λpU=>some (pU,false))else (bif (decide (E >= (0:Int)))then if RI:0<=E/\E.toNat<D.counts.length then if h25:E.toNat<D.counts.length then (if dY=0 then none else some (D,(D.counts[E.toNat]'h25).tmod dY==(0:Int)))else none else none else some (D,false)))=some (bif kT (iQ t row)then (iQ t row,match oW t row with
        |some i=>((iQ t row).counts.getD i 0).tmod dY==0
        |none=>false)else (t,false)):=by
     intro E D Y e2;subst Y;rw[aai,ak];cases h3:kT (iQ t row)with
     |false=>rfl
     | true=>
      rw[bG,av,aq,e2];cases h4:oW t row with
      |none=>rfl
      | some i=>
       have hi:i<(iQ t row).counts.length:=by rw[(aaT row).2];exact amp U h4
       simp only[bD];rw[aW,aq,aC ⟨by omega,hi⟩,aC hi,bk,cV,bT hi];rfl
    cases C:t.rows.findIdx? (λe=>e==row)with
    | some i=>
     obtain⟨hi,_⟩:=EJ C;have O:i<t.counts.length:=by omega
     have hc:=U.cs i O;have eI:oW t row=some i:=by unfold oW;rw[C]
     have eT:iQ t row=⟨t.rows,t.counts.set i (t.counts[i]+1),t.dm⟩:=by unfold iQ;simp only[C];rw[cV,bT O];rfl
     have Y:gR (λe=>e==row) t.rows=(i:Int):=by unfold gR;rw[C]
     rw[Y,aZ,av];simp only[bD];rw[aW,aq,aC ⟨by omega,O⟩,aC O,aC ⟨by omega,O⟩,aC O];have hw:W6 (t.counts[i]+1)=t.counts[i]+1:=aY;simp only[hw];exact aaU (i:Int) ⟨t.rows,t.counts.set i (t.counts[i]+1),t.dm⟩ eT.symm (by rw[eI])
    | none=>
     have Y:gR (λe=>e==row) t.rows = -1:=by unfold gR;rw[C]
     rw[Y,aW,aq,TA _ _ (by omega),ak,sw t.dm];cases I:t.counts.findIdx? (λe=>e==t.dm)with
     | some i=>
      obtain⟨hi,hp⟩:=EJ I;have hir:i<t.rows.length:=by omega
      have hp:t.counts[i]=t.dm:=by simpa using hp
      have eI:oW t row=some i:=by unfold oW;rw[C];exact I
      have eT:iQ t row=⟨t.rows.set i row,t.counts.set i (t.dm+1),t.dm⟩:=by unfold iQ;rw[C];simp only[I]
      have e3:gR (λe=>e==t.dm) t.counts=(i:Int):=by unfold gR;rw[I]
      rw[e3];simp only[bD];rw[aW,aq,aC ⟨by omega,hir⟩,aC hir,aq,aC ⟨by omega,hi⟩,aC hi,aC ⟨by omega,hi⟩,aC hi];have hw:W6 (t.dm+1)=t.dm+1:=aY;simp only[hp,hw];exact aaU (i:Int) ⟨t.rows.set i row,t.counts.set i (t.dm+1),t.dm⟩ eT.symm (by rw[eI])
     | none=>
      have eI:oW t row=none:=by unfold oW;rw[C];exact I
      have eT:iQ t row=⟨t.rows,t.counts,t.dm+1⟩:=by unfold iQ;rw[C];simp only[I]
      have e3:gR (λe=>e==t.dm) t.counts = -1:=by unfold gR;rw[I]
      have hw:W6 (t.dm+1)=t.dm+1:=aY;rw[e3,aZ,av,av];simp only[hw];exact aaU (-1) ⟨t.rows,t.counts,t.dm+1⟩ eT.symm (by rw[eI])
def qZ(k:Int):cq:=⟨List.replicate k.toNat (-1),List.replicate k.toNat 0,0⟩
def aC1{k:Int}(h:aQ k 1 16=true):Gm k=some (qZ k,true):=by
 have hb:=bA.1 h;unfold Gm;have e:De ([(-1:Int)]) k=some (List.replicate k.toNat (-1)):=by
  unfold De;simp_all
 rw[dy,ak,h,bG,e,ak,bg ⟨by omega,jw _,by omega⟩];rfl
def aC2{k:Int}(h:aQ k 1 16=true):Gb k=some (qZ k,true):=by
 have hb:=bA.1 h;obtain⟨n,rfl⟩:=dV (show 0 <= k by omega);unfold Gb;rw[fm,ak,h,bG,aly n (by omega),ak,bg ⟨by omega,jw _,by omega⟩];rfl
def qc(r:c8)(b:Int):c8:=bif decide (r.aJ.getD b.toNat 0 = -2)then r else ⟨r.aJ.set b.toNat (r.aJ.getD b.toNat 0-1),r.wait,r.dX⟩
def EK{r:c8}(h:fX r=true):∀ x∈r.aJ,-2 <= x/\x <= 5:=by
 simp[fX,aP,ck]at h;exact λx C=>bA.1 (h.1 x C)
def aC3{α β:Type}{o:ah (α×β)}{a:α}(h:o.map Prod.fst=some a):∃b,o=some (a,b):=by simp_all
def aC4{r:c8}(h:fX r=true){b:Int}(D:0 <= b)(C:b.toNat<r.aJ.length):∃ y,SS r b=some (qc r b,y):=by
 have hl:=r5 h;have O:=EK h _ (cQ C);have E:r.aJ.getD b.toNat 0=r.aJ[b.toNat]:=by rw[cV,bT C];rfl
 unfold SS Hx qc xI xL xA xZ;rw[cF (by simp;omega),aq,ak,aad _ (by omega),ak,h,bG,av,fm,ak,TV D C (by omega),bG,av,aC ⟨D,C⟩,E];dsimp only;by_cases I:r.aJ[b.toNat] = -2
 ·simp_all
 ·rw[aZ (show ¬ r.aJ[b.toNat] <= -2 by omega),aZ I,kJ,aC ⟨D,C⟩,aC ⟨D,C⟩,aC C,aY];simp_all
def aC5{r:c8}(h:fX r=true){b:Int}(D:0 <= b)(C:b.toNat<r.aJ.length):∃ y,RZ r b=some (qc r b,y):=by
 have hl:=r5 h;have O:=EK h _ (cQ C);have I:r.aJ.getD b.toNat 0=r.aJ[b.toNat]:=by rw[cV,bT C];rfl
 unfold RZ Bg qc xI xL xA xZ;rw[cF (by simp;omega),aq,ak,Nx _ (by omega),ak,h,bG,av,dy,ak,TV D C (by omega),bG,av,aC ⟨D,C⟩,I];dsimp only;by_cases E:r.aJ[b.toNat] = -2
 ·simp_all
 ·rw[iw E,aZ E,kJ,aC ⟨D,C⟩,aC C,aC ⟨D,C⟩,aC C,aY];simp_all
def vS(p:fK)(k now:Int):fK:=bif kG p&&aQ now p.since 1000000 then
 (bif (k==6)&&(p.state==0)then ⟨1,now,p.idle⟩else bif (k==8)&&(p.state==0)then ⟨2,now,p.idle⟩else bif (k==7)&&(p.state==1)then ⟨0,now,p.idle⟩else bif (k==9)&&(p.state==2)then ⟨0,now,p.idle⟩else p)else p
def TW(p:fK){k:Int}(C:6 <= k/\k <= 9)(now:Int):∃ y,R2 p k now=some (vS p k now,y):=by
 refine aC3 ?_;unfold R2 vS;rw[Ty,ak];cases kG p with
 |false=>rfl
 | true=>
  rw[bG,av,dy,ak];cases aQ now p.since 1000000 with
  |false=>rfl
  | true=>
   have:k=6 \/ k=7 \/ k=8 \/ k=9:=by omega
   grind
def TX(p:fK){k:Int}(C:6 <= k/\k <= 9)(now:Int):∃ y,SW p k now=some (vS p k now,y):=by
 unfold SW vS;simp[aah,fm];have:k=6 \/ k=7 \/ k=8 \/ k=9:=by omega
 rcases this with rfl|rfl|rfl|rfl
 ·grind
 ·grind
 ·grind
 ·grind
def amr{α β T:Type}{step:α -> ah (α⊕β)}(p:T -> Bool)(S:Nat -> Nat -> aa T -> α)(Z:Nat -> aa T -> β)
  (hs:∀i j s (D:j<s.length),i <= j -> j<1073741824 -> step (S i j s)=some (.inl (bif p s[j]then S i (j+1) s else S (i+1) (j+1) (s.set i s[j]))))
  (hz:∀i s,i <= s.length -> step (S i s.length s)=some (.inr (Z i s))):
  ∀(n i j fuel:Nat) (s:aa T),j+n=s.length -> i <= j -> s.length<1073741824 -> n<fuel -> ∃s' C,iter step fuel (S i j s)=some (Z C s')/\s'.length=s.length/\C <= s.length/\s'.take C=s.take i++(s.drop j).filter (λx=>!p x):=by
 intro n
 induction n with
 | zero=>
  intro i j fuel s hn hi hl hf;obtain⟨f,rfl⟩:∃f,fuel=f+1:=⟨fuel-1,by omega⟩
  have ej:j=s.length:=by omega
  subst ej;refine⟨s,i,?_,rfl,hi,by simp⟩;unfold iter;simp_all
 | succ n E=>
  intro i j fuel s hn hi hl hf;obtain⟨f,rfl⟩:∃f,fuel=f+1:=⟨fuel-1,by omega⟩
  have D:j<s.length:=by omega
  unfold iter;rw[hs i j s D hi (by omega)];have hd:=List.drop_eq_getElem_cons D;cases hp:p s[j]with
  | true=>
   have⟨s',C,I,O,U,Y⟩:=E i (j+1) f s (by omega) (by omega) hl (by omega)
   grind
  | false=>
   have⟨s',C,I,O,U,Y⟩:=E (i+1) (j+1) f (s.set i s[j]) (by simp;omega) (by omega) (by simp;omega) (by omega);refine⟨s',C,I,by simpa using O,by simpa using U,?_⟩;rw[Y,hd,List.filter_cons_of_pos (by simp[hp]),List.drop_set_of_lt (by omega),List.take_add_one,List.getElem?_set_self (by omega),List.take_set_of_le (by omega)];simp
def aaV{T:Type}{p:T -> Bool}{l:aa T}{k:Nat}(h:l.findIdx? p=some k):l.filter (λx=>!p x)=l.take k++(l.drop (k+1)).filter (λx=>!p x):=by
 have⟨D,E,I⟩:=nO.1 h;have e:l=l.take k++l[k] :: l.drop (k+1):=by
  simp[*]
 have O:(l.take k).filter (λx=>!p x)=l.take k:=by
  rw[List.filter_eq_self];intro a C;obtain⟨i,hi,rfl⟩:=jI.1 C
  grind
 grind
def aaW{T:Type}(s r:aa T)(i:Nat)(h:i <= s.length):(splice s i r).take i=s.take i:=by
 unfold splice;simp_all
def aC6(l:aa aM)(a:aM)(hl:l.length<1073741824):RT l a=some (gR (iP a) l):=by
 unfold RT gR;have e:=ta (step:=LO) l (iP a) (λi=>((l,a,(l.length:Int),(i:Int),()),())) (λi=>.inl (((i:Int),()),())) (.inr (.inl ((),()))) aV (λk h=>by
  unfold LO iP az bx xG xI;dsimp only;rw[aW,aq,aC ⟨by omega,by omega⟩];simp only[bD];rw[bI];cases (l[k].ay==a.ay&&(l[k].row==a.row&&(l[k].bV==a.bV&&true)))<;>rfl) (by
  unfold LO az bx xG xI;dsimp only;rw[aZ,av]) (bM hl)
 rw[cv]at e;rw[e];cases l.findIdx? (iP a)<;>rfl
def aC7(l:aa aM)(x:aF)(hl:l.length<1073741824):R3 l x=some (gR (λa=>a.ay==x.ay) l):=by
 unfold R3 gR;have e:=ta (step:=LU) l (λa=>a.ay==x.ay) (λi=>((l,x,(l.length:Int),(i:Int),()),())) (λi=>.inl (((i:Int),()),())) (.inr (.inl ((),()))) aV (λk h=>by
  unfold LU az bx xG xI;dsimp only;rw[aW,aq,aC ⟨by omega,by omega⟩];simp only[bD];rw[bI];cases (l[k].ay==x.ay)<;>rfl) (by
  unfold LU az bx xG xI;dsimp only;rw[aZ,av]) (bM hl)
 rw[cv]at e;rw[e];cases l.findIdx? (λa=>a.ay==x.ay)<;>rfl
def aC8(l:aa aM)(a:aM)(hl:l.length<1000000):RU l a=some (l.filter (λx=>!iP a x),([],())):=by
 unfold RU;rw[aC6 l a (by omega),ak];unfold gR;cases C:l.findIdx? (iP a)with
 | none=>
  have e:l.filter (λx=>!iP a x)=l:=by
   rw[List.filter_eq_self];intro x D;have:=List.findIdx?_eq_none_iff.1 C x D;simp[this]
  rw[e];rfl
 | some k=>
  obtain⟨O,U,Y⟩:=nO.1 C;rw[aaV C];simp only;rw[iw (show ¬ (k:Int) = -1 by omega),av,bI];obtain⟨s',i',E,h2,h3,I⟩:=amr (step:=LP) (iP a) (λi j s=>(((),a,(i:Int),(j:Int),()),(s,()))) (λi s=>.inl (((),(i:Int),()),(s,()))) (λi j s hj hi hb=>by
   unfold LP iP az xG xL;dsimp only;rw[aW,aq,aC ⟨by omega,by omega⟩,aC];simp only[bD];rw[bI,bI,aC ⟨by omega,by omega⟩,aC];cases (s[j].ay==a.ay&&(s[j].row==a.row&&(s[j].bV==a.bV&&true)))<;>rfl) (λi s hi=>by
   unfold LP az xG xL;dsimp only;rw[aZ,av]) (l.length-(k+1)) k (k+1) aV l (by omega) (by omega) (by omega) (by unfold aV;omega)
  rw[E,ak,dH];dsimp only;rw[bg ⟨by omega,by omega,by omega⟩,bg ⟨by omega,by omega⟩,bg ⟨by omega,by omega,by
   rw[uG _ _ _ (by simp;omega)];omega⟩]
  rw[aaW _ _ _ (by omega),bD,I]
def aC9(l:aa aM)(c:aF)(hl:l.length<1000000):R4 l c=some (l.filter (λx=>!(x.ay==c.ay)),([],())):=by
 unfold R4;rw[aC7 l c (by omega),ak];unfold gR;cases C:l.findIdx? (λa=>a.ay==c.ay)with
 | none=>
  have e:l.filter (λx=>!(x.ay==c.ay))=l:=by
   rw[List.filter_eq_self];intro x D;have:=List.findIdx?_eq_none_iff.1 C x D;simp[this]
  rw[e];rfl
 | some k=>
  obtain⟨O,U,Y⟩:=nO.1 C;rw[aaV C];simp only;rw[iw (show ¬ (k:Int) = -1 by omega),av,bI];obtain⟨s',i',E,h2,h3,I⟩:=amr (step:=LV) (λx=>x.ay==c.ay) (λi j s=>(((),c,(i:Int),(j:Int),()),(s,()))) (λi s=>.inl (((),(i:Int),()),(s,()))) (λi j s hj hi hb=>by
   unfold LV az xG xL;dsimp only;rw[aW,aq,aC ⟨by omega,by omega⟩,aC];simp only[bD];rw[bI,bI,aC ⟨by omega,by omega⟩,aC];cases (s[j].ay==c.ay)<;>rfl) (λi s hi=>by
   unfold LV az xG xL;dsimp only;rw[aZ,av]) (l.length-(k+1)) k (k+1) aV l (by omega) (by omega) (by omega) (by unfold aV;omega)
  rw[E,ak,dH];dsimp only;rw[bg ⟨by omega,by omega,by omega⟩,bg ⟨by omega,by omega⟩,bg ⟨by omega,by omega,by
   rw[uG _ _ _ (by simp;omega)];omega⟩]
  rw[aaW _ _ _ (by omega),bD,I]
def nK(b:Int)(pd:aa aM)(n:Int):aa aM:=bif pd.any (iP ⟨b,n,0⟩)then pd else pd++[⟨b,n,0⟩]
def r8(c:ax)(t:aa cq)(C:aa Int)(pd:aa aM):ax:=⟨c.config,c.box,c.now,c.aO,c.ready,c.array,c.spare,c.aS,t,C,pd,c.queue,c.shares,c.drain,c.aR,c.cY,c.errors,c.trace,c.bP⟩
def aaX{T:Type}(p:T -> Bool)(l:aa T):decide (gR p l<0) = !l.any p/\decide (gR p l >= 0)=l.any p:=by
 unfold gR
 grind
def TY(b:Int):∀ (ns:aa Int) (pd:aa aM),(ns.foldl (nK b) pd).length <= pd.length+ns.length
 |[],pd=>dc _
 | n :: ns,pd=>by
  have:=TY b ns (nK b pd n);have C:(nK b pd n).length <= pd.length+1:=by
   unfold nK
   grind
  grind
def ams{T U:Type}(f:U->T->U)(l:aa T)(u:U){k:Nat}(h:k<l.length):(l.take (k+1)).foldl f u=f ((l.take k).foldl f u) l[k]:=by
 rw[List.take_add_one,bT h,List.foldl_append];rfl
def aDa(c:ax)(x:aF)(ns:aa Int)(C:ns.length <= 1000)(D:c.pending.length <= 1000):iter GZ aV (((),(),(),(ns.length:Int),(0:Int),()),(c,(x.kind,x.ay,x.row,x.bV,()),ns,()))=some (.inl ((),(r8 c c.bH c.guard (ns.foldl (nK x.ay) c.pending),()))):=by
 have e:=cI (step:=GZ) _ (λi=>(((),(),(),ns.length,i,()),(r8 c c.bH c.guard ((ns.take i).foldl _ _),(x.kind,x.ay,x.row,x.bV,()),ns,()))) _ aV (λk h=>by
  have hl:=TY x.ay (ns.take k) c.pending;rw[jf]at hl;rw[ams _ _ _ h];generalize (ns.take k).foldl (nK x.ay) c.pending=pd at hl;unfold GZ nK r8 Zp az xG xL;dsimp only;rw[aW,aq,aC ⟨by omega,by omega⟩,aC];simp only[bD];rw[ala _ _ (by omega),ak,ak,(aaX _ _).2,bI,cF (by simp;omega)];cases pd.any (iP ⟨x.ay,ns[k],0⟩)<;>rfl) (by
  unfold GZ r8 az xG xL;dsimp only;rw[aZ,av]) (bM)
 rw[ iR]at e;exact e
def aDb(c:ax)(x:aF)(ns:aa Int)(C:ns.length <= 1000)(D:c.pending.length <= 1000):iter vw aV (((),(),true,(),(0:Int),()),(c,(x.kind,x.ay,x.row,x.bV,()),ns,()))=some (.inl ((),(r8 c c.bH c.guard (ns.foldl (nK x.ay) c.pending),()))):=by
 have e:=cI (step:=vw) _ (λi=>(((),(),true,(),i,()),(r8 c c.bH c.guard ((ns.take i).foldl _ _),(x.kind,x.ay,x.row,x.bV,()),ns,()))) _ aV (λk h=>by
  have hl:=TY x.ay (ns.take k) c.pending;rw[jf]at hl;rw[ams _ _ _ h];generalize (ns.take k).foldl (nK x.ay) c.pending=pd at hl;unfold vw nK r8 az xG xL;dsimp only;rw[aW,aq,aq,aC ⟨by omega,by omega⟩,aC];simp only[bD];rw[ak9 _ _ (by omega),ak,(aaX _ _).1,bI,cF (by simp;omega)];cases pd.any (iP ⟨x.ay,ns[k],0⟩)<;>rfl) (by
  unfold vw r8 az xG xL;dsimp only;rw[aZ,av]) (bM)
 rw[ iR]at e;exact e
def aDc(c:ax)(x:aF)(ns:aa Int):iter vw aV (((),(),false,(),(0:Int),()),(c,(x.kind,x.ay,x.row,x.bV,()),ns,()))=some (.inl ((),(c,()))):=by
 have e:=cI (step:=vw) 0 (λi=>(((),(),false,(),i,()),(c,(x.kind,x.ay,x.row,x.bV,()),ns,()))) _ aV (λk h=>by omega) (by
  unfold vw az xG xL;cases decide ((0:Int)<ns.length)<;>rfl) (bM)
 simp_all
def zT:cq:=⟨[],[],0⟩
def q6(c:ax)(x:aF):cq×Bool:=r7 (c.bH.getD x.ay.toNat zT) x.row (c.guard.getD x.ay.toNat 0)
def ot(c:ax)(x:aF):aa aM:=c.pending.filter (λa=>!iP ⟨x.ay,x.row,0⟩ a)
def uw(c:ax)(x:aF):ax:=
 r8 (cP c (qY c.config.au c.config.dg c.array x.ay x.row)) (c.bH.set x.ay.toNat (q6 c x).1) c.guard (bif (q6 c x).2 then (mP c.config.au.rows x.row).foldl (nK x.ay) (ot c x)else ot c x)
def gu{T:Type}{l:aa T}{i:Nat}(d:T)(h:i<l.length):l.getD i d=l[i]:=by
 rw[cV,bT h];rfl
def aaY(R r:Int):(mP R r).length <= 2:=by
 unfold mP
 grind
def aaZ{T:Type}(p:T->Bool)(l:aa T):(l.filter p).length<=l.length:=List.length_filter_le p l
def aDd{B:Int}(c:ax)(x:aF)(I:ct c.config.au=true)(ha:fA c.config.au B c.array)(hp:c.pending.length <= 200)(hz:∀ t∈c.bH,lQ t)(D:0 <= x.ay)(h2:x.ay<aU c.config.au)(O:0 <= x.row)(U:x.row<c.config.au.rows)(C:x.ay.toNat<c.bH.length)(E:x.ay.toNat<c.guard.length):RX c x=some ((),(uw c x,())):=by
 have⟨_,_,_,_,g5,g6,g7,g8⟩:=fJ I;have Y:=al4 I c.config.dg c ha D h2 O U;have e2:=aC8 c.pending ⟨x.ay,x.row,0⟩ (by omega);have hf:(ot c x).length <= c.pending.length:=List.length_filter_le _ _;have sG:=aaY c.config.au.rows x.row;simp only[cP]at Y;unfold RX bw xL xM
 refine(bC (λo=>Option.bind o _) Y).trans ?_
 rw[ak];dsimp only
 refine(bC (λo=>Option.bind o _) e2).trans ?_
 rw[ak];dsimp only;rw[aC ⟨D,C⟩,aC C,aC ⟨D,E⟩,aC E,aC C,aC C];rw[aC0 _ (hz _ (cQ C)),ak,aC ⟨D,C⟩,aC C];unfold uw q6;rw[gu _ C,gu _ E];cases (r7 (c.bH[x.ay.toNat]'C) x.row (c.guard[x.ay.toNat]'E)).2 with
 |false=>rfl
 | true=>
  rw[bG,av,aaA (by omega) (by omega) O U,ak]
  refine(bC (λo=>Option.bind o _) (aDa (r8 (cP c (qY _ _ c.array x.ay x.row)) _ c.guard (ot c x)) x _ (by omega) (by unfold r8;dsimp only;omega))).trans ?_
  rfl
def xK(l:aa aM):Prop:=∀i (h:i<l.length),(l.take i).any (iP l[i])=false
def NW{a b:aM}:iP a b=true ↔ a=b:=by
 have⟨C,D,E⟩:=a;have⟨I,O,U⟩:=b;simp[iP,aP,eZ,and_true,aM.mk.injEq]
 grind
def xK.cut{l:aa aM}(h:xK l){a:aM}{k:Nat}(C:l.findIdx? (iP a)=some k):l.take k++l.drop (k+1)=l.filter (λx=>!iP a x):=by
 have⟨O,D,U⟩:=nO.1 C;rw[aaV C];congr 1;symm;rw[List.filter_eq_self];intro x E;obtain⟨i,hi,rfl⟩:=jI.1 E;rw[List.length_drop]at hi;rw[List.getElem_drop];cases I:iP a _ with
 |false=>rfl
 | true=>
  have Y:=NW.1 I;have e2:=NW.1 D;have:=mz.1 (h (k+1+i) (by omega)) l[k] (jI.2 ⟨k,by rw[jf];omega,by rw[List.getElem_take]⟩);simp_all
def aDe{B:Int}(c:ax)(x:aF)(I:ct c.config.au=true)(ha:fA c.config.au B c.array)(hp:c.pending.length <= 200)(hu:xK c.pending)(O:∀ t∈c.bH,lQ t)(D:0 <= x.ay)(h2:x.ay<aU c.config.au)(U:0 <= x.row)(Y:x.row<c.config.au.rows)(C:x.ay.toNat<c.bH.length)(E:x.ay.toNat<c.guard.length):SR c x=some ((),(uw c x,())):=by
 have⟨_,_,_,_,g5,g6,g7,g8⟩:=fJ I;have e1:=al8 I c.config.dg c ha D h2 U Y;have e2:=ak9 c.pending ⟨x.ay,x.row,0⟩ (by omega);have hf:(ot c x).length <= c.pending.length:=List.length_filter_le _ _;have sG:=aaY c.config.au.rows x.row;have hN:ZL c.config.au.rows x.row=some (mP c.config.au.rows x.row):=aaA (by omega) (by omega) U Y;simp only[cP]at e1;unfold SR xA bw xL xM xZ
 refine(bC (λo=>Option.bind o _) e1).trans ?_
 rw[ak];dsimp only
 refine(bC (λo=>Option.bind o _) e2).trans ?_
 rw[ak];have CM:∀ pd:aa aM,pd=ot c x -> ∀ t:cq×Bool,t=q6 c x -> (iter vw aV (((),(),t.2,(),(0:Int),()),((⟨c.config,c.box,c.now,c.aO,c.ready,qY c.config.au c.config.dg c.array x.ay x.row,c.spare,c.aS,(c.bH.set x.ay.toNat t.1),c.guard,pd,c.queue,c.shares,c.drain,c.aR,c.cY,c.errors,c.trace,c.bP⟩:ax),(x.kind,x.ay,x.row,x.bV,()),mP c.config.au.rows x.row,()))).bind (Sum.elim (λLQ=>some ((),(LQ.2.1,()))) (λz=>nomatch z))=some ((),(uw c x,())):=by
  rintro pd rfl ⟨t1,t2⟩ C;unfold uw;rw[<- C];cases t2 with
  | false=>
   refine(bC (λo=>Option.bind o _) (aDc _ x _)).trans ?_
   rfl
  | true=>
   refine(bC (λo=>Option.bind o _) (aDb _ x _ (by omega) (by dsimp only;omega))).trans ?_
   rfl
 have hT:q6 c x=r7 (c.bH[x.ay.toNat]'C) x.row (c.guard[x.ay.toNat]'E):=by
  unfold q6;simp[*]
 unfold gR;cases hi:c.pending.findIdx? (iP ⟨x.ay,x.row,0⟩)with
 | none=>
  have e:ot c x=c.pending:=by
   unfold ot;rw[List.filter_eq_self];simp_all
  dsimp only;rw[aZ,av,aC ⟨D,C⟩,aC C,aC ⟨D,E⟩,aC E,aC C,aC C];rw[amq _ (O _ (cQ C)),ak,aC ⟨D,C⟩,aC C,hN,ak];exact CM _ e.symm _ hT.symm
 | some k=>
  have⟨k1,Ql,hq⟩:=nO.1 hi;have e:=hu.cut hi;dsimp only;rw[aW,aq,bI,bg ⟨by omega,by omega,by omega⟩,bg ⟨by omega,by omega,by omega⟩];simp only[bD,Int.toNat_zero,List.drop_zero,kJ,iR];rw[cF (by simp;omega),aq,cF (by simp;omega),aq,aC ⟨D,C⟩,aC C,aC ⟨D,E⟩,aC E,aC C,aC C];rw[amq _ (O _ (cQ C)),ak,aC ⟨D,C⟩,aC C,hN,ak];exact CM _ e _ hT.symm
def qd{U:Type}(f:U->Nat->U)(u:U)(k:Nat):(List.range (k+1)).foldl f u=f ((List.range k).foldl f u) k:=by
 rw[List.range_succ,List.foldl_append];rfl
def gJ(g:aG)(l:jh)(a:cJ)(b:Int)(n:Nat):cJ:=(List.range n).foldl (λa (r:Nat)=>qY g l a b (r:Int)) a
def HW{g:aG}(C:ct g=true)(l:jh){B:Int}(hB:0<=B){a:cJ}(D:fA g B a){b:Int}(E:0<=b)(I:b<aU g):∀ n:Nat,(n:Int)<=g.rows->fA g B (gJ g l a b n)
 |0,_=>D
 | n+1,h=>by
  unfold gJ;rw[qd];exact aaK C l hB (HW C l hB D E I n (by omega)) E I (by omega) (by omega)
def amt{B:Int}(hB:0 <= B)(c:ax)(C:ct c.config.au=true)(O:fA c.config.au B c.array){b:Int}(D:0 <= b)(E:b<aU c.config.au):RY c b=some ((),(cP c (gJ c.config.au c.config.dg c.array b c.config.au.rows.toNat),())):=by
 have⟨_,_,_,_,U,Y,g7,g8⟩:=fJ C;have e:=cI (step:=LR) c.config.au.rows.toNat (λi=>(((),b,i,()),(cP c (gJ _ _ _ b i),()))) _ aV (λk h=>by
  have I:=al4 C c.config.dg (cP c (gJ c.config.au c.config.dg c.array b k)) (HW C c.config.dg hB O D E k (by omega)) D E (show 0 <= (k:Int) by omega) (by omega);simp only[cP]at I;unfold LR cP az xG;dsimp only;rw[aW,aq,I,ak,bI];dsimp only;unfold gJ;rw[qd]) (by
  unfold LR cP az xG;dsimp only;rw[aZ,av]) (bM)
 refine(bC (λo=>Option.bind o _) e).trans ?_
 rfl
def aDf{B:Int}(hB:0 <= B)(c:ax)(C:ct c.config.au=true)(O:fA c.config.au B c.array){b:Int}(D:0 <= b)(E:b<aU c.config.au):ZM c.config.au c.config.dg c b=some ((),(cP c (gJ c.config.au c.config.dg c.array b c.config.au.rows.toNat),())):=by
 have⟨_,_,_,_,U,Y,g7,g8⟩:=fJ C;have e:=cI (step:=MX) c.config.au.rows.toNat (λi=>(((),b,(),(),i,()),(cP c _,(c.config.au.bK,c.config.au.aA,c.config.au.rows,c.config.au.aK,()),(c.config.dg.bu,c.config.dg.bq,()),()))) _ aV (λk h=>by
  have I:=al8 C c.config.dg (cP c (gJ c.config.au c.config.dg c.array b k)) (HW C c.config.dg hB O D E k (by omega)) D E (show 0 <= (k:Int) by omega) (by omega);simp only[cP]at I;unfold MX cP az xG;dsimp only;rw[aW,aq,I,ak,bI];dsimp only;unfold gJ;rw[qd]) (by
  unfold MX cP az xG;dsimp only;rw[aZ,av]) (bM)
 refine(bC (λo=>Option.bind o _) e).trans ?_
 rfl
def NX(c:ax)(b:Int)(pd:aa aM):ax:=
 r8 (cP c (gJ c.config.au c.config.dg c.array b c.config.au.rows.toNat)) (c.bH.set b.toNat (qZ c.config.gO)) (c.guard.set b.toNat c.box.cr.eC) pd
def amu(c:ax)(I:aQ c.config.gO 1 16=true){b:Int}(C:0<=b)(D:b.toNat<c.bH.length)(E:b.toNat<c.guard.length):LS c b=some ((),(r8 c (c.bH.set b.toNat (qZ c.config.gO)) (c.guard.set b.toNat c.box.cr.eC) c.pending,())):=by
 unfold LS xL;rw[aC1 I,ak,aC ⟨C,D⟩,aC D,aC ⟨C,E⟩,aC E];rfl
def aDg(c:ax)(b:Int)(D:c.pending.length <= 1000):iter Hw aV (((),b,(),(0:Int),()),(c,([]:aa aM),()))=some (.inl (((),(),()),(c,c.pending.filter (λa=>!(a.ay==b)),()))):=by
 have e:=cI (step:=Hw) c.pending.length (λi=>(((),b,(),(i:Int),()),(c,(c.pending.take i).filter (λa=>!(a.ay==b)),()))) (.inl (((),(),()),(c,(c.pending.take c.pending.length).filter (λa=>!(a.ay==b)),()))) aV (λk h=>by
  have hl:=aaZ (λa:aM=>!(a.ay==b)) (c.pending.take k);rw[jf]at hl;have C:c.pending.take (k+1)=c.pending.take k++[c.pending[k]]:=by rw[List.take_add_one,bT h];rfl
  rw[C,List.filter_append];generalize (c.pending.take k).filter (λa=>!(a.ay==b))=ls at hl;unfold Hw az xG xL;dsimp only;rw[aW,aq,aC ⟨by omega,by omega⟩,aC];simp only[bD];rw[bI,bne];cases hb:c.pending[k].ay==b with
  |true=>rw[List.filter_cons_of_neg (by simp[hb])];simp
  | false=>
   rw[jx,aC ⟨by omega,by omega⟩,aC,cF (by simp;omega),List.filter_cons_of_pos (by simp[hb])];rfl) (by
  unfold Hw az xG xL;dsimp only;rw[aZ,av]) (bM)
 rw[cv,iR]at e;exact e
def amv{B:Int}(hB:0 <= B)(c:ax)(O:ct c.config.au=true)(U:fA c.config.au B c.array)(Y:aQ c.config.gO 1 16=true)(hp:c.pending.length <= 200){b:Int}(C:0 <= b)(h2:b<aU c.config.au)(D:b.toNat<c.bH.length)(E:b.toNat<c.guard.length):MY c b=some ((),(NX c b (c.pending.filter (λa=>!(a.ay==b))),())):=by
 have I:=aDf hB c O U C h2;simp only[cP]at I;unfold MY bw xL
 refine(bC (λo=>Option.bind o _) I).trans ?_
 rw[ak];rw[aC2 Y,ak,aC ⟨C,D⟩,aC D,aC ⟨C,E⟩,aC E]
 refine(bC (λo=>Option.bind o _) (aDg _ b (by dsimp only;omega))).trans ?_
 rfl
def gX(c:ax)(k:Nat)(pd:aa aM):ax:=
 ⟨c.config,c.box,c.now,c.aO,c.ready,(List.range k).foldl (λa (b:Nat)=>gJ c.config.au c.config.dg a (b:Int) c.config.au.rows.toNat) c.array,c.spare,⟨(List.range k).foldl (λd b=>d.set b 0) c.aS.aJ,c.aS.wait,c.aS.dX⟩,(List.range k).foldl (λd b=>d.set b (qZ c.config.gO)) c.bH,(List.range k).foldl (λd b=>d.set b c.box.cr.eC) c.guard,pd,c.queue,c.shares,c.drain,c.aR,c.cY,c.errors,c.trace,c.bP⟩
def xN{T:Type}(x:T)(l:aa T):∀ k:Nat,((List.range k).foldl (λd b=>d.set b x) l).length=l.length
 |0=>rfl
 |k+1=>by rw[qd,ki,xN x l k]
def TZ{g:aG}(C:ct g=true)(l:jh){B:Int}(hB:0 <= B){a:cJ}(D:fA g B a):∀ k:Nat,(k:Int) <= aU g -> fA g B ((List.range k).foldl (λa (b:Nat)=>gJ g l a (b:Int) g.rows.toNat) a)
 |0,_=>D
 | k+1,h=>by
  have⟨_,_,_,_,E,I,O,U⟩:=fJ C;rw[qd];exact HW C l hB (TZ C l hB D k (by omega)) (by omega) (by omega) _ (by omega)
structure vT (B:Int) (c:ax):Prop where
 hB:0<=B
 g:ct c.config.au=true
 a:fA c.config.au B c.array
 k:aQ c.config.gO 1 16=true
 p:c.pending.length<=200
 t:(c.bH.length:Int)=aU c.config.au
 d:(c.guard.length:Int)=aU c.config.au
 r:(c.aS.aJ.length:Int)=aU c.config.au
def vT.T0{B:Int}{c:ax}(h:vT B c)(k:Nat)(C:(k:Int)<=aU c.config.au)(pd:aa aM)(D:pd.length<=200):vT B (gX c k pd):=
 ⟨h.hB,h.g,TZ h.g c.config.dg h.hB h.a k C,h.k,D,(bC (λn:Nat=>(n:Int)) (xN _ _ k)).trans h.t,(bC (λn:Nat=>(n:Int)) (xN _ _ k)).trans h.d,(bC (λn:Nat=>(n:Int)) (xN _ _ k)).trans h.r⟩
def amw(c:ax)(k:Nat)(pd C:aa aM):gX c (k+1) C=⟨c.config,c.box,c.now,c.aO,c.ready,(NX (gX c k pd) (k:Int) C).array,c.spare,⟨(gX c k pd).aS.aJ.set k 0,c.aS.wait,c.aS.dX⟩,(NX (gX c k pd) (k:Int) C).bH,(NX (gX c k pd) (k:Int) C).guard,C,c.queue,c.shares,c.drain,c.aR,c.cY,c.errors,c.trace,c.bP⟩:=by
 unfold gX;simp only[qd];rfl
def aDh{B:Int}{c:ax}(h:vT B c):iter zy aV (((),(c.bH.length:Int),(0:Int),()),(gX c 0 [],()))=some (.inl ((),(gX c c.bH.length [],()))):=by
 have Y:=eM c.config.au;have htr:=h.t;have e:=cI (step:=zy) c.bH.length (λi=>(((),c.bH.length,i,()),(gX c i [],()))) _ aV (λk hk=>by
  have C:=h.T0 k (by omega) [] (by simp);have w1:=C.t;have E:=C.d;have I:=C.r;have D:aU (gX c k []).config.au=aU c.config.au:=rfl;rw[D]at w1 E I;have O:=amt C.hB _ C.g C.a (b:=(k:Int)) (by omega) (by rw[D];omega);have U:=amu (cP (gX c k []) (gJ (gX c k []).config.au (gX c k []).config.dg (gX c k []).array (k:Int) (gX c k []).config.au.rows.toNat)) C.k (b:=(k:Int)) (by omega) (by show (k:Int).toNat<(gX c k []).bH.length;omega) (by show (k:Int).toNat<(gX c k []).guard.length;omega);rw[amw c k [] []];unfold zy az xG xL;dsimp only;rw[aW,aq,O,ak,U,ak,bI];have w4:k<(gX c k []).aS.aJ.length:=by omega
  rw[aC ⟨by omega,by show (k:Int).toNat<(gX c k []).aS.aJ.length;omega⟩,aC (by show (k:Int).toNat<(gX c k []).aS.aJ.length;omega)];rfl) (by
  unfold zy az xG xL;dsimp only;rw[aZ,av]) (bM)
 simp_all
def r9(pd:aa aM):Nat->aa aM
 |0=>pd
 |k+1=>(r9 pd k).filter (λa=>!(a.ay==(k:Int)))
def amx(pd:aa aM):∀ k,(r9 pd k).length<=pd.length
 |0=>dc _
 |k+1=>Nat.le_trans (aaZ _ _) (amx pd k)
def amy(pd:aa aM){a:aM}:∀ k,a∈r9 pd k -> a∈pd /\ ∀ b:Nat,b<k -> a.ay≠(b:Int)
 |0,h=>⟨h,λb hb=>by omega⟩
 | k+1,h=>by
  have⟨C,D⟩:=List.mem_filter.1 h;have⟨E,I⟩:=amy pd k C
  grind
def aDi{pd:aa aM}{k:Nat}(h:∀ a∈pd,0 <= a.ay/\a.ay<(k:Int)):r9 pd k=[]:=by
 rw[List.eq_nil_iff_forall_not_mem];intro a C;have⟨D,E⟩:=amy pd k C;have:=h a D;exact E a.ay.toNat (by omega) (by omega)
def aDj{B:Int}{c:ax}(h:vT B c)(hr:c.aO.aA.length=c.bH.length)(E:∀ a∈c.pending,0<=a.ay/\a.ay<aU c.config.au):iter D8 aV (((),(0:Int),()),(c,()))=some (.inl ((),(gX c c.bH.length [],()))):=by
 have b1:=eM c.config.au;have htr:=h.t;have e:=cI (step:=D8) c.bH.length (λi=>(((),(i:Int),()),(gX c i (r9 c.pending i),()))) (.inl ((),(gX c c.bH.length (r9 c.pending c.bH.length),()))) aV (λk hk=>by
  have C:=h.T0 k (by omega) (r9 c.pending k) (Nat.le_trans (amx _ _) h.p);have w1:=C.t;have I:=C.d;have O:=C.r;have D:aU (gX c k (r9 c.pending k)).config.au=aU c.config.au:=rfl;rw[D]at w1 I O;have U:=amv C.hB _ C.g C.a C.k C.p (b:=(k:Int)) (by omega) (by rw[D];omega) (by omega) (by omega);rw[amw c k (r9 c.pending k) (r9 c.pending (k+1))];unfold D8 az xG xL;dsimp only;rw[aW (by show (k:Int)<((c.aO.aA.length:Nat):Int);omega),aq,U,ak,bI];rw[aC ⟨by omega,by show (k:Int).toNat<(gX c k (r9 c.pending k)).aS.aJ.length;omega⟩,aC (by show (k:Int).toNat<(gX c k (r9 c.pending k)).aS.aJ.length;omega)];rfl) (by
  unfold D8 az xG xL;dsimp only;rw[aZ (by show ¬ ((c.bH.length:Nat):Int)<((c.aO.aA.length:Nat):Int);omega),av]) (bM)
 have Y:r9 c.pending c.bH.length=[]:=aDi (λa ha=>by have:=E a ha;omega);have e0:gX c 0 (r9 c.pending 0)=c:=rfl;rw[cv,Y,e0]at e;exact e
end Go.Proofs.YtdfkhfiglknaoaaGreat
