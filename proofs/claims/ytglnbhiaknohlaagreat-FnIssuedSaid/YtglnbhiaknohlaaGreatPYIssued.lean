/-
  Plain laws. Nothing here is a claim.
-/
import Derived.Test.YtglnbhiaknohlaaGreatVZ
import Derived.Test.YtglnbhiaknohlaaGreatOpenV
import Derived.Test.YtglnbhiaknohlaaGreatG1
import Derived.Test.YtglnbhiaknohlaaGreatG2
import Derived.Test.YtglnbhiaknohlaaGreatG3
import Derived.Test.YtglnbhiaknohlaaGreatG4
import Derived.Test.YtglnbhiaknohlaaGreatG5
import Derived.Test.YtglnbhiaknohlaaGreatG6
import Derived.Test.YtglnbhiaknohlaaGreatG7
import Derived.Test.YtglnbhiaknohlaaGreatG8
import Derived.Test.YtglnbhiaknohlaaGreatGX
namespace Go.Proofs.YtglnbhiaknohlaaGreat
set_option linter.defProp false
open Go.RowKit
set_option linter.unusedVariables false
set_option linter.unusedSimpArgs false
set_option maxRecDepth 100000
def aY{n:Int}(C:-9223372036854775808<=n:=by omega)(D:n<9223372036854775808:=by omega):W6 n=n:=by
 exact(IntKind.wrap_i64 n).trans (by omega)
def ajA{α β:Type}{step:α -> ah (α⊕β)}(I:α -> Prop)(m:α -> Nat)(Q:β -> Prop)
  (h:∀x,I x -> (∃y,step x=some (.inl y)/\I y/\m y<m x) \/ ∃z,step x=some (.inr z)/\Q z):
  ∀(n:Nat) (x:α),I x -> m x<n -> ∃z,iter step n x=some z/\Q z
 |0,x,_,E=>by omega
 | n+1,x,L,E=>by
  unfold iter;rcases h x L with ⟨y,C,D,O⟩|⟨z,C,D⟩
  ·rw[C];exact ajA I m Q h n y D (by omega)
  ·simp_all
def ak{α β:Type}(x:α)(f:α->ah β):(some x).bind f=f x:=rfl
def gi{α β T:Type}{step:α -> ah (α⊕β)}(l:aa T)(q:T -> Bool)(S:Nat -> α)(D z:β)(fuel:Nat)(I:∀ k (h:k<l.length),step (S k)=some (bif q l[k]then .inl (S (k+1))else .inr D))(L:step (S l.length)=some (.inr z))(C:l.length<fuel):
  iter step fuel (S 0)=some (bif l.all q then z else D):=by
 have key:∀ (n i fuel:Nat),i+n=l.length -> n<fuel -> iter step fuel (S i)=some (bif (l.drop i).all q then z else D):=by
  intro n
  induction n with
  | zero=>
   intro i fuel hi C
   match fuel,C with
   | f+1,_=>
    have:i=l.length:=by omega
    subst this;unfold iter;simp_all
  | succ n O=>
   intro i fuel hi C
   match fuel,C with
   | f+1,C=>
    have E:i<l.length:=by omega
    unfold iter;rw[I i E,List.drop_eq_getElem_cons E,List.all_cons];cases q l[i]with
    |true=>grind
    |false=>rfl
 exact key l.length 0 fuel (by omega) C
def cz{α β:Type}{step:α -> ah (α⊕β)}(n:Nat)(S:Nat -> α)(z:β)(fuel:Nat)(E:∀ k,k<n -> step (S k)=some (.inl (S (k+1))))(D:step (S n)=some (.inr z))(C:n<fuel):iter step fuel (S 0)=some z:=by
 have key:∀ (m i fuel),i+m=n -> m<fuel -> iter step fuel (S i)=some z:=by
  intro m
  induction m with
  | zero=>
   intro i fuel hi C
   match fuel,C with
   | f+1,_=>
    have:i=n:=by omega
    subst this;unfold iter;rw[D]
  | succ m I=>
   intro i fuel hi C
   match fuel,C with
   | f+1,C=>
    unfold iter
    grind
 simp_all
def Yg{α β:Type}{step:α -> ah (α⊕β)}(n:Nat)(I:Nat -> α -> Prop)(Q:β -> Prop){x:α}(fuel:Nat)(U:I 0 x)(E:∀ k,k<n -> ∀ x,I k x -> ∃ y,step x=some (.inl y)/\I (k+1) y)(L:∀ x,I n x -> ∃ z,step x=some (.inr z)/\Q z)(C:n<fuel):∃ z,iter step fuel x=some z/\Q z:=by
 have key:∀ (m i fuel:Nat) (x:α),i+m=n -> m<fuel -> I i x -> ∃ z,iter step fuel x=some z/\Q z:=by
  intro m
  induction m with
  | zero=>
   intro i fuel x hi C D
   match fuel,C with
   | f+1,_=>
    have:i=n:=by omega
    subst this;have⟨z,O,T⟩:=L x D;unfold iter;simp_all
  | succ m Y=>
   intro i fuel x hi C D
   match fuel,C with
   | f+1,C=>
    have⟨y,O,T⟩:=E i (by omega) x D;unfold iter
    grind
 grind
def Yh{α β:Type}{step:α -> ah (α⊕β)}(n:Nat)(I:Nat -> α -> Prop)(Q:β -> Prop){x:α}(fuel:Nat)(E:I 0 x)(O:∀ k,k<n -> ∀ x,I k x -> (∃ y,step x=some (.inl y)/\I (k+1) y) \/ ∃ z,step x=some (.inr z)/\Q z)(L:∀ x,I n x -> ∃ z,step x=some (.inr z)/\Q z)(C:n<fuel):∃ z,iter step fuel x=some z/\Q z:=by
 have key:∀ (m i fuel:Nat) (x:α),i+m=n -> m<fuel -> I i x -> ∃ z,iter step fuel x=some z/\Q z:=by
  intro m
  induction m with
  | zero=>
   intro i fuel x hi C D
   match fuel,C with
   | f+1,_=>
    have:i=n:=by omega
    subst this;have⟨z,T,U⟩:=L x D;unfold iter;simp_all
  | succ m Y=>
   intro i fuel x hi C D
   match fuel,C with
   | f+1,C=>
    unfold iter
    grind
 exact key n 0 fuel x (by omega) C E
def upto{α:Type}(f:α->α)(l:aa α)(i:Nat):aa α:=(l.take i).map f++l.drop i
def Lg{α:Type}(f:α->α)(l:aa α)(i:Nat):(upto f l i).length=l.length:=by
 simp[upto];omega
def ajB{α:Type}(f:α->α)(l:aa α):upto f l 0=l:=by simp[upto]
def QZ{α:Type}(f:α->α)(l:aa α):upto f l l.length=l.map f:=by simp[upto]
def Q0{α:Type}(f:α -> α)(l:aa α)(i:Nat)(h:i<l.length)(C:i<(upto f l i).length):(upto f l i)[i]=l[i]:=by
 simp[upto]
 grind
def Q1{α:Type}(f:α -> α)(l:aa α)(i:Nat)(h:i<l.length):(upto f l i).set i (f l[i])=upto f l (i+1):=by
 have C:min i l.length=i:=by omega
 have e:=List.drop_eq_getElem_cons h;simp only[upto];rw[List.set_append_right _ _ (by simp;omega),e,List.take_succ_eq_append_getElem h];simp only[List.map_append,List.map_cons,List.map_nil,eM,gF,C,Nat.sub_self,List.set_cons_zero,List.append_assoc,List.cons_append,kZ]
def kR{x y:Int}(h:¬ x=y):(x==y)=false:=by simp[h]
def fZ{x y:Int}(h:¬ x=y):(x != y)=true:=by simp[h]
def cM{n:Nat}(h:n<1073741824:=by omega):bF n=true:=aZ h
def bE{i:Nat}(h:i<4611686018427387904:=by omega):W6 ((i:Int)+1)=((i+1:Nat):Int):=by
 rw[aY];simp
def bJ{n:Nat}(h:n<1073741824:=by omega):n<aS:=by unfold aS;omega
def aP(x a b:Int):Bool:=decide (a<=x)&&decide (x<=b)
def bG{x a b:Int}:aP x a b=true ↔ a<=x/\x<=b:=by simp[aP]
def dY(x a b:Int):cC x a b=some (aP x a b):=by
 unfold cC aP;by_cases h:a<=x<;>simp[h]
def dO(x a b:Int):cx x a b=some (aP x a b):=dY x a b
def cy(g:aN):Bool:=aP g.bR 1 2&&aP g.aB 1 4&&aP g.rows 2 16&&aP g.aM 1 8
def xT(g:aN):sr g=some (cy g):=by
 unfold sr cy;simp[dY]
 grind
def xU(g:aN):sq g=some (cy g):=by
 unfold sq cy;simp[dO]
 grind
def fm{g:aN}(h:cy g=true):1<=g.bR/\g.bR<=2/\1<=g.aB/\g.aB<=4/\2<=g.rows/\g.rows<=16/\1<=g.aM/\g.aM<=8:=by
 simp only[cy,aP,aQ,gS]at h;omega
def aW(g:aN):Int:=bif cy g then g.bR*g.aB else 0
def eN(g:aN):0 <= aW g/\aW g <= 8:=by
 unfold aW;cases h:cy g with
 |false=>simp
 | true=>
  have⟨C,D,E,I,_⟩:=fm h;simp;rcases(by omega:g.bR=1 \/ g.bR=2)with e|e<;>rw[e]<;>omega
def FB{g:aN}(h:cy g=true):1 <= aW g:=by
 have⟨C,D,E,I,_⟩:=fm h;simp[aW,h,aq];rcases(by omega:g.bR=1 \/ g.bR=2)with e|e<;>rw[e]<;>omega
def oa(g:aN):n9 g=some (aW g):=by
 have hb:=eN g;unfold n9;rw[xT,ak];unfold aW at hb ⊢;cases h:cy g with
 |false=>rfl
 | true=>
  rw[h]at hb;simp at hb;simp;rw[aY]
def mg(g:aN):kQ g=some (aW g):=by
 have hb:=eN g;unfold kQ;rw[xU,ak];unfold aW at hb ⊢;cases h:cy g with
 |false=>rfl
 | true=>
  rw[h]at hb;simp at hb;simp;rw[aY]
def fP(g:aN):Int:=bif cy g then aW g*g.rows else 0
def eI(g:aN):Int:=bif cy g then aW g*g.rows*g.aM else 0
def Q2{a b A B:Int}(D:0<=a)(E:a<=A)(C:0<=b)(I:b<=B):0<=a*b/\a*b<=A*B:=
 ⟨Int.mul_nonneg D C,Int.le_trans (Int.mul_le_mul_of_nonneg_right E C) (Int.mul_le_mul_of_nonneg_left I (by omega))⟩
def p7(g:aN):0 <= fP g/\fP g <= 128:=by
 unfold fP;cases h:cy g with
 |false=>simp
 | true=>
  have⟨_,_,_,_,D,C,_⟩:=fm h;have:=eN g;exact Q2 this.1 this.2 (by omega) C
def mQ(g:aN):0 <= eI g/\eI g <= 1024:=by
 have C:=p7 g;unfold eI fP at *
 cases h:cy g with
 |false=>simp
 | true=>
  rw[h]at C;have⟨_,_,_,_,E,I,L,D⟩:=fm h;exact Q2 C.1 C.2 (by omega) D
def Yi(g:aN):Ah g=some (eI g):=by
 have C:=mQ g;have D:=p7 g;unfold Ah;rw[oa,ak];unfold eI fP at *
 cases h:cy g with
 |false=>simp only[aW,h,au,Int.zero_mul];rw[show W6 0=0 from rfl,Int.zero_mul];rfl
 | true=>
  rw[h]at C D;simp only[aq]at C D;simp only[aq];rw[aY (n:=aW g*g.rows),aY]
def xV(g:aN):pW g=some (eI g):=by
 have C:=mQ g;have D:=p7 g;unfold pW;rw[xU,ak,mg,ak];unfold eI fP at *
 cases h:cy g with
 |false=>rfl
 | true=>
  rw[h]at C D;simp at C D;simp;rw[aY (n:=aW g*g.rows),aY]
def dx(g:aN)(a:aJ):Bool:=cy g&&aP a.ay 0 (aW g-1)&&aP a.row 0 (g.rows-1)&&aP a.bL 0 (g.aM-1)
def q9{g:aN}{a:aJ}(h:dx g a=true):cy g=true/\0 <= a.ay/\a.ay<aW g/\0 <= a.row/\a.row<g.rows/\0 <= a.bL/\a.bL<g.aM:=by
 simp[dx,aP,aQ,gS]at h
 grind
def vw{g:aN}{a:aJ}(h:cy g=true)(C:0 <= a.ay)(D:a.ay<aW g)(E:0 <= a.row)(I:a.row<g.rows)(L:0 <= a.bL)(O:a.bL<g.aM):dx g a=true:=by
 simp[dx,aP,aQ,gS]
 grind
def Yj(g:aN)(a:aJ):Cv g a=some (dx g a):=by
 unfold Cv dx;simp[xT,oa,dY,ak];have hb:=eN g;cases h:cy g with
 |false=>rfl
 | true=>
  have⟨_,_,_,_,C,D,E,I⟩:=fm h;rw[aY,aY,aY]
  grind
def Q3(g:aN)(a:aJ):zR g a=some (dx g a):=by
 unfold zR dx;simp only[mg,dO,ak];have hb:=eN g;rw[aY];cases h:cy g with
 | false=>
  have:aP a.ay 0 (aW g-1)=false:=by
   simp[aW,h,aP]
   grind
  simp_all
 | true=>
  have⟨_,_,_,_,C,D,E,I⟩:=fm h;rw[aY,aY]
  grind
def vA{b n r R:Int}(C:0 <= b)(D:b<n)(E:0 <= r)(I:r<R):0 <= b*R/\0 <= b*R+r/\b*R+r<n*R:=by
 have L:0 <= b*R:=Int.mul_nonneg C (by omega);have O:(b+1)*R <= n*R:=Int.mul_le_mul_of_nonneg_right (by omega) (by omega)
 grind
def p9(g:aN)(a:aJ):Int:=bif dx g a then (a.ay*g.rows+a.row)*g.aM+a.bL else -1
def Yk{g:aN}{a:aJ}(h:dx g a=true):0 <= p9 g a/\p9 g a<eI g/\0 <= a.ay*g.rows/\0 <= a.ay*g.rows+a.row/\a.ay*g.rows+a.row<fP g/\0 <= (a.ay*g.rows+a.row)*g.aM:=by
 have⟨C,D,E,I,L,O,T⟩:=q9 h;have⟨Z,U,Y⟩:=vA D E I L;have⟨l0,l1,l2⟩:=vA U Y O T;simp[p9,h,eI,fP,C,aq];omega
def Yl(g:aN)(a:aJ):Kw g a=some (p9 g a):=by
 unfold Kw;rw[Yj,ak];cases h:dx g a with
 |false=>simp[p9,h]
 | true=>
  have hb:=Yk h;have D:=mQ g;have E:=p7 g;have⟨C,I,L,O,T,U,Y⟩:=q9 h;have⟨_,_,_,_,Z,g6,g7,g8⟩:=fm C;simp only[p9,h,aq]at hb ⊢;simp only[bK,au];rw[aY (n:=a.ay*g.rows),aY (n:=a.ay*g.rows+a.row),aY (n:=(a.ay*g.rows+a.row)*g.aM),aY]
def Q4(g:aN)(a:aJ):B5 g a=some (p9 g a):=by
 unfold B5;rw[Q3,ak];cases h:dx g a with
 |false=>simp[p9,h]
 | true=>
  have hb:=Yk h;have D:=mQ g;have E:=p7 g;have⟨C,I,L,O,T,U,Y⟩:=q9 h;have⟨_,_,_,_,Z,g6,g7,g8⟩:=fm C;simp only[p9,h,aq]at hb ⊢;simp only[bK,au];rw[aY (n:=a.ay*g.rows),aY (n:=a.ay*g.rows+a.row),aY (n:=(a.ay*g.rows+a.row)*g.aM),aY]
def sy{α β:Type}{step:α -> ah (α⊕β)}(S:Nat -> α){z:β}:∀ (n i fuel:Nat),(∀ k,i <= k -> k<i+n -> step (S k)=some (.inl (S (k+1)))) -> step (S (i+n))=some (.inr z) -> n<fuel -> iter step fuel (S i)=some z
 | 0,i,fuel,_,C,D=>by
  match fuel,D with
  |f+1,_=>unfold iter;rw[Nat.add_zero]at C;rw[C]
 | n+1,i,fuel,E,C,D=>by
  match fuel,D with
  | f+1,D=>
   unfold iter;rw[E i (dJ _) (by omega)];exact sy S n _ f (λk I L=>E k (by omega) (by omega)) (by rw[show i+1+n=i+(n+1) by omega];exact C) (by omega)
def sA{i:Nat}(h:i<4611686018427387904:=by omega):W6 ((i:Int)+1)=((i+1:Nat):Int):=by
 rw[aY];simp
def ajC(y:Int):0 <= bits .and .i64 y 255/\bits .and .i64 y 255 <= 255:=by
 have e:bits .and .i64 y 255=IntKind.wrap .i64 ((BitVec.ofInt 64 y &&& BitVec.ofInt 64 255).toNat):=rfl;have h:(BitVec.ofInt 64 y &&& BitVec.ofInt 64 255).toNat <= 255:=by
  exact Nat.le_trans Nat.and_le_right (by decide)
 rw[e,IntKind.wrap_i64];omega
structure fQ (b:List Int) (c:aX):Prop where
 eq:c.b=b
 lo:0<=c.i
 hi:c.i<=b.length
 len:b.length<=1073741823
def fQ.eta{b:aa Int}{c:aX}(h:fQ b c):(⟨b,c.i,c.h⟩:aX)=c:=by
 have⟨C,i,D⟩:=c;have:=h.eq;simp_all
def Dr{α:Type}(b:aa Int)(f:ah (α×(aX×af)))(P:α->Prop):Prop:=∃x c,f=some (x,(c,()))/\fQ b c/\P x
def Dr.bind{α β:Type}{b:aa Int}{f:ah (α×(aX×af))}{g:α×(aX×af) -> ah (β×(aX×af))}{P:α -> Prop}{Q:β -> Prop}(h:Dr b f P)(C:∀ x c,P x -> fQ b c -> Dr b (g (x,(c,()))) Q):Dr b (f.bind g) Q:=by
 have⟨x,c,D,E,I⟩:=h;simp_all
def Dr.pure{α:Type}{b:aa Int}{x:α}{c:aX}{P:α->Prop}(C:fQ b c)(D:P x):Dr b (some (x,(c,()))) P:=⟨x,c,rfl,C,D⟩
def aAp(l:aa Int)(h:l.length<=1073741823):∃ y,BY l=some y:=by
 unfold BY bA;obtain⟨z,C,I⟩:=ajA (step:=H6)
  (λx=>∃(i:Nat) (y:Int),x=(((),y,(i:Int),()),(l,()))/\i<=l.length)
  (λx=>l.length-x.1.2.2.1.toNat) (λz=>∃ y,(Sum.elim (λL:((af×Int×af)×((aa Int)×af))=>some L.1.2.1) (λz=>nomatch z)) z=some y) (by
   rintro x ⟨i,y,rfl,hi⟩;unfold H6 az xG xI;dsimp only;by_cases D:i<l.length
   ·have E:decide ((i:Int)<(l.length:Int))=true:=by simpa using D
    have O:0<=(i:Int)/\(i:Int).toNat<l.length:=⟨by omega,by simpa using D⟩
    rw[E,aq];cases T:decide ((i:Int)<4000)with
    | true=>
     rw[aq,aA O];left;refine⟨_,rfl,⟨i+1,_,by rw[sA],by omega⟩,?_⟩;dsimp only;rw[sA];omega
    | false=>
     rw[au];right;exact⟨_,rfl,_,rfl⟩
   ·have E:decide ((i:Int)<(l.length:Int))=false:=by simpa using D
    rw[E,au];right;exact⟨_,rfl,_,rfl⟩)
  aS (((),(W6 ((97301:Int)+(l.length:Int))),((0:Nat):Int),()),(l,())) ⟨0,_,rfl,by omega⟩ (by dsimp only;unfold aS;omega)
 have C:iter H6 aS (((),(W6 ((97301:Int)+(l.length:Int))),(0:Int),()),(l,()))=some z:=C;rw[C];exact I
def aAq(l:aa Int)(y:Int)(h:l.length<=1073741823):fQ l ⟨l,0,y⟩:=⟨rfl,Int.le_refl _,by simp,h⟩
def Lh{b:aa Int}{c:aX}(C:fQ b c):Dr b (zO c) λx=>0<=x/\x<=255:=by
 have hb:=C.eq;have E:=C.lo;have L:=C.hi;have I:=C.len;unfold zO xI;by_cases h:c.i<(c.b.length:Int)
 ·have D:decide (c.i<(c.b.length:Int))=true:=by simpa using h
  rw[D,aq,aA ⟨E,by omega⟩];refine Dr.pure ⟨hb,?_,?_,I⟩ (ajC _)
  ·show 0<=W6 (c.i+1);rw[hb]at h;rw[aY];omega
  ·show W6 (c.i+1)<=_;rw[hb]at h;rw[aY];omega
 ·have D:decide (c.i<(c.b.length:Int))=false:=by simpa using h
  rw[D,au];exact Dr.pure ⟨hb,E,L,I⟩ (ajC _)
def ajD{x n:Int}(h:0<=x)(C:0<n):0<=x.tmod n/\x.tmod n<n:=by
 rw[qt h];exact⟨Int.emod_nonneg _ (by omega),Int.emod_lt_of_pos _ C⟩
def cZ{b:aa Int}{c:aX}(C:fQ b c)(n:Int):Dr b (cX c n) λx=>0 <= x/\(n <= 0 -> x=0)/\(0<n -> x<n):=by
 unfold cX;by_cases T:n <= 0
 ·have L:decide (n <= 0)=true:=by simpa using T
  rw[L];exact Dr.pure C ⟨Int.le_refl _,λ_=>rfl,λh=>by omega⟩
 ·have L:decide (n <= 0)=false:=by simpa using T
  have U:¬ n=0:=by omega
  rw[L];by_cases Y:n <= 256
  ·have O:decide (n <= 256)=true:=by simpa using Y
   rw[O,aq]
   refine(Lh C).bind λx c' hx Z=>?_
   rw[bO U];rw[C.eq,Z.eta];have:=ajD hx.1 (show 0<n by omega);exact Dr.pure Z ⟨this.1,λh=>by omega,λ_=>this.2⟩
  ·have O:decide (n <= 256)=false:=by simpa using Y
   rw[O,au,C.eq]
   refine(Lh C).bind λD k1 T0 HF=>?_
   dsimp only;rw[HF.eta]
   refine(Lh HF).bind λE k2 Gi uZ=>?_
   dsimp only;rw[uZ.eta]
   refine(Lh uZ).bind λI k3 V0 va=>?_
   dsimp only;rw[va.eta]
   refine(Lh va).bind λx4 k4 hx4 vb=>?_
   rw[bO U];dsimp only;rw[vb.eta];rw[aY (n:=D*16777216),aY (n:=E*65536),aY (n:=D*16777216+E*65536),aY (n:=I*256),aY (n:=D*16777216+E*65536+I*256),aY (n:=D*16777216+E*65536+I*256+x4)];have:=ajD (x:=D*16777216+E*65536+I*256+x4) (by omega) (show 0<n by omega);exact Dr.pure vb ⟨this.1,λh=>by omega,λ_=>this.2⟩
structure Gok (g:aN):Prop where
 bR:1<=g.bR/\g.bR<=2
 aB:1<=g.aB/\g.aB<=4
 rows:2<=g.rows/\g.rows<=8
 aM:1<=g.aM/\g.aM<=4
def aAr{b:aa Int}{c:aX}(C:fQ b c):Dr b (JO c) Gok:=by
 unfold JO;rw[C.eq]
 refine(cZ C 2).bind λZ k1 O D=>?_
 dsimp only;rw[D.eta]
 refine(cZ D 4).bind λx2 k2 T E=>?_
 dsimp only;rw[E.eta]
 refine(cZ E 7).bind λx3 k3 U I=>?_
 dsimp only;rw[I.eta]
 refine(cZ I 4).bind λx4 k4 Y L=>?_
 dsimp only;rw[L.eta];have a1:=O.2.2 (by omega);have a2:=T.2.2 (by omega);have a3:=U.2.2 (by omega);have a4:=Y.2.2 (by omega);rw[aY,aY,aY,aY];exact Dr.pure L ⟨⟨by dsimp only;omega,by dsimp only;omega⟩,⟨by dsimp only;omega,by dsimp only;omega⟩,⟨by dsimp only;omega,by dsimp only;omega⟩,⟨by dsimp only;omega,by dsimp only;omega⟩⟩
def aAs(x a b:Int):cC x a b=some (decide (a <= x)&&decide (x <= b)):=by
 unfold cC
 grind
def ajE{x a b:Int}(h:a<=x)(C:x<=b):cC x a b=some true:=by
 rw[aAs,aZ h,aZ C];rfl
def aAt{x a b:Int}(h:a<=x)(C:x<=b):cx x a b=some true:=ajE h C
def opens:Nat->aa eP->aa Int
 |_,[]=>[]
 |i,b::bs=>bif b.open_ then (i:Int)::opens (i+1) bs else opens (i+1) bs
def Ym(i:Nat)(a b:aa eP):opens i (a++b)=opens i a++opens (i+a.length) b:=by
 induction a generalizing i with
 |nil=>simp[opens]
 | cons x a C=>
  simp[List.cons_append,opens]
  grind
def Q5(i:Nat)(l:aa eP):(opens i l).length <= l.length:=by
 induction l generalizing i with
 |nil=>simp[opens]
 | cons x a C=>
  have:=C (i+1);simp[opens]
  grind
def qa{α:Type}{l:aa α}{i:Nat}(h:i<l.length):l.take (i+1)=l.take i++[l[i]]:=by
 rw[List.take_succ_eq_append_getElem h]
def Q6(r:cD)(h:r.aB.length<1073741823):Aj r=some (opens 0 r.aB):=by
 unfold Aj bA;have e:=sy (step:=E6) (λi=>(((),r.aB,(r.aB.length:Int),(i:Int),()),(opens 0 (r.aB.take i),()))) (z:=.inl (((),()),(opens 0 r.aB,()))) r.aB.length 0 aS (λk _ C=>?_) ?_ (by unfold aS;omega)
 ·have e:iter E6 aS (((),r.aB,r.aB.length,0,()),(([]),()))=_:=e;simp_all
 ·have C:k<r.aB.length:=by omega
  unfold E6 az xG xI;dsimp only;have D:decide ((k:Int)<(r.aB.length:Int))=true:=aZ;have E:0 <= (k:Int)/\(k:Int).toNat<r.aB.length:=⟨by omega,by simpa using C⟩
  have hl:=Q5 0 (r.aB.take k);rw[gF]at hl;have I:bF ((opens 0 (r.aB.take k)).length+([(k:Int)]:aa Int).length)=true:=by
   unfold bF;simp;omega
  rw[D,aq,aA E,sA,qa C,Ym];simp only[bC,opens,gF,fh,Nat.min_eq_left (Nat.le_of_lt C)];cases r.aB[k].open_ with
  |true=>grind
  |false=>grind
 ·rw[fh];unfold E6 az xG xI;simp_all
def tT(l:aa Int)(h:l.length<1073741823):p6 l l=some true:=by
 unfold p6 bM;have c0:((l.length:Int) != (l.length:Int))=false:=by simp
 rw[c0,au];have e:=sy (step:=Ft) (λi=>((l,l,(i:Int),()),())) (z:=.inr (.inl ((),()))) l.length 0 aS (λk _ E=>?_) ?_ (by unfold aS;omega)
 ·have e:iter Ft aS ((l,l,(0:Int),()),())=_:=e;rw[e];rfl
 ·have E:k<l.length:=by omega
  unfold Ft az aT xG xI;dsimp only;have D:decide ((k:Int)<(l.length:Int))=true:=aZ;have C:0<=(k:Int)/\(k:Int).toNat<l.length:=⟨by omega,by simpa using E⟩
  rw[D,aq,aA C,aA C,sA];have:(l[(k:Int).toNat]'C.2 != l[(k:Int).toNat]'C.2)=false:=by simp
  rw[this];rfl
 ·rw[fh];unfold Ft az aT xG xI;dsimp only;have D:decide ((l.length:Int)<(l.length:Int))=false:=bq;rw[D,au]
def aAu(l:aa eP)(h:l.length<1073741823):QA l l=some true:=by
 unfold QA bM;have c0:((l.length:Int) != (l.length:Int))=false:=by simp
 rw[c0,au];have e:=sy (step:=Fu) (λi=>((l,l,(i:Int),()),())) (z:=.inr (.inl ((),()))) l.length 0 aS (λk _ D=>?_) ?_ (by unfold aS;omega)
 ·have e:iter Fu aS ((l,l,(0:Int),()),())=_:=e;rw[e];rfl
 ·have D:k<l.length:=by omega
  unfold Fu az aT xG xI;dsimp only;have C:decide ((k:Int)<(l.length:Int))=true:=aZ;have E:0<=(k:Int)/\(k:Int).toNat<l.length:=⟨by omega,by simpa using D⟩
  rw[C,aq,aA E,aA E,sA];simp
 ·rw[fh];unfold Fu az aT xG xI;dsimp only;have C:decide ((l.length:Int)<(l.length:Int))=false:=bq;rw[C,au]
def gmT:Nat:=116196760129267793630862849262464326346044543732748708940920453221664288556434379745879494961270582141731748813355742142288220638766218855867759359510984593843506004200114943278699875244065120512813025380665946106619127097398772031257643617143689515450995722003729973585221105779229319991106539050771048038400
def gm(a b:Nat):Nat:=(gmT / 2 ^ (4*(16*a+b))) % 16
def pwT:Nat:=44684875893970114885940500792407720993
def pw(n:Nat):Nat:=(pwT / 2 ^ (4*n)) % 16
def js(f:Nat->Bool):Bool:=(List.range 16).all f
def gK{f:Nat->Bool}(h:js f=true){a:Nat}(C:a<16):f a=true:=by
 have:=cv.1 h a (fz.2 C);exact this
def gI(a b:Nat):gm a b<16:=Nat.mod_lt _ (by decide)
def tU(n:Nat):pw n<16:=Nat.mod_lt _ (by decide)
def aAv:(js λa=>js λb=>jI (Int.ofNat a) (Int.ofNat b)==some (Int.ofNat (gm a b)))=true:=by kernel_rfl
def aAw:((List.range 31).all λn=>KE 2 (Int.ofNat n)==some (Int.ofNat (pw n)))=true:=by kernel_rfl
def ajF:(js λa=>js λb=>decide (bits .xor .i64 (Int.ofNat a) (Int.ofNat b)=Int.ofNat (a ^^^ b))&&Nat.blt (a ^^^ b) 16)=true:=by kernel_rfl
def aAx:(js λa=>js λb=>js λc=>Nat.beq (gm (a ^^^ b) c) (gm a c ^^^ gm b c))=true:=by kernel_rfl
def ajG:(js λa=>Nat.beq (gm a 1) a&&Nat.beq (gm 0 a) 0)=true:=by kernel_rfl
def aAy:(js λC=>js λs1=>js λs2=>
  (λy z=>(λx=>Nat.beq (gm x 1 ^^^ (gm y 1 ^^^ (gm z 1 ^^^ C))) 0&&Nat.beq (gm x 1 ^^^ (gm y 2 ^^^ (gm z 4 ^^^ s1))) 0&&Nat.beq (gm x 1 ^^^ (gm y 4 ^^^ (gm z 3 ^^^ s2))) 0) (C ^^^ y ^^^ z))
   (gm (gm 2 (C ^^^ s1) ^^^ gm 5 (C ^^^ s2)) 13) (gm (gm 3 (C ^^^ s2) ^^^ gm 5 (C ^^^ s1)) 13))=true:=by kernel_rfl
def aAz:CB 4=some 13:=by kernel_rfl
def CG{a b:Nat}(C:a<16)(hb:b<16):jI (a:Int) (b:Int)=some (gm a b:Int):=by
 have h:=gK (gK aAv C) hb;exact eq_of_beq h
def aAA{n:Nat}(h:n<31):KE 2 (n:Int)=some (pw n:Int):=eq_of_beq (cv.1 aAw n (fz.2 h))
def ri{a b:Nat}(C:a<16)(hb:b<16):bits .xor .i64 (a:Int) (b:Int)=((a ^^^ b:Nat):Int):=by
 have h:=gK (gK ajF C) hb;simp_all
def mh{a b:Nat}(C:a<16)(hb:b<16):a ^^^ b<16:=by
 have h:=gK (gK ajF C) hb;simp_all
def aAB{a b c:Nat}(C:a<16)(hb:b<16)(D:c<16):gm (a ^^^ b) c=gm a c ^^^ gm b c:=cB (gK (gK (gK aAx C) hb) D)
def aAC{a:Nat}(C:a<16):gm a 1=a:=by
 have h:=gK ajG C;rw[aQ]at h;exact cB h.1
def Q7{a:Nat}(C:a<16):gm 0 a=0:=by
 have h:=gK ajG C;rw[aQ]at h;exact cB h.2
abbrev bu (w:aa Nat):aa Int:=w.map λ(n:Nat)=>(n:Int)
def dD(w:aa Nat):Prop:=∀x∈w,x<16
def ic(w:aa Nat):(bu w).length=w.length:=by simp[bu]
def tV{w:aa Nat}{k:Nat}(h:k<(bu w).length):(bu w)[k]=((w.getD k 0:Nat):Int):=by grind
def dD.get{w:aa Nat}(h:dD w)(k:Nat):w.getD k 0<16:=by
 by_cases C:k<w.length
 ·simp[fj,bS C];exact h _ (cS C)
 ·simp_all
def Yn{w:aa Nat}(E:dD w)(hl:w.length<1000)(n:Int):vp (bu w) n=some ((w.length:Int)==n):=by
 unfold vp bM;have e:=sy (step:=Ak) (λi=>((bu w,n,bu w,((bu w).length),i,()),())) (z:=.inr (.inl ((bu w,n,()),()))) w.length 0 aS (λk _ C=>?_) ?_ (by unfold aS;omega)
 ·simp_all
 ·have C:k<(bu w).length:=by rw[ic];omega
  unfold Ak az aT xG xI;dsimp only;have I:decide ((k:Int)<((bu w).length:Int))=true:=aZ;have D:0 <= (k:Int)/\(k:Int).toNat<(bu w).length:=⟨by omega,by simpa using C⟩
  rw[I,aq,aA D];have L:(bu w)[(k:Int).toNat]'D.2=((w.getD k 0:Nat):Int):=tV C;rw[L];have:=E.get k;unfold Ct;rw[ajE (by omega) (by omega),ak,ak,sA];rfl
 ·unfold Ak az aT xG xI;simp_all
def bQ(w:aa Nat)(j:Nat):Nat->Nat
 |0=>0
 |i+1=>bQ w j i ^^^ gm (w.getD i 0) (pw (i*j))
def rj(w:aa Nat)(j:Nat):∀ i,bQ w j i<16
 |0=>Nat.zero_lt_succ _
 |i+1=>mh (rj w j i) (gI _ _)
def aAD{w:aa Nat}(L:dD w)(hl:w.length=11)(j:Nat)(hj:j<3)(a b:Int)(o:aa Int)(O:j<o.length)(T:o.set j 0=o):
  iter CA aS ((bu w,(),(j:Int),a,b,bu w,((bu w).length:Int),(0:Int),()),(o,()))=some (.inl ((bu w,(),a,b,()),(o.set j (bQ w j 11:Int),()))):=by
 have e:=sy (step:=CA) (λi=>((bu w,(),(j:Int),a,b,bu w,((bu w).length:Int),(i:Int),()),(o.set j (bQ w j i:Int),()))) (z:=.inl ((bu w,(),a,b,()),(o.set j (bQ w j 11:Int),()))) 11 0 aS (λk _ D=>?_) ?_ (by unfold aS;omega)
 ·have e:iter CA aS ((bu w,(),(j:Int),a,b,bu w,((bu w).length:Int),(0:Int),()),(o.set j 0,()))=_:=e;rw[T]at e;exact e
 ·have D:k<(bu w).length:=by rw[ic];omega
  unfold CA az xG xI xL;dsimp only;have E:decide ((k:Int)<((bu w).length:Int))=true:=aZ;have I:0<=(k:Int)/\(k:Int).toNat<(bu w).length:=⟨by omega,by simpa using D⟩
  have C:0<=(j:Int)/\(j:Int).toNat<(o.set j (bQ w j k:Int)).length:=⟨by omega,by simpa using O⟩
  have U:(bu w)[(k:Int).toNat]'I.2=((w.getD k 0:Nat):Int):=tV D;have Y:(o.set j (bQ w j k:Int))[(j:Int).toNat]'C.2=(bQ w j k:Int):=List.getElem_set_self _;rw[E,aq,aA I,aA C,aA C.2,U,Y];have hkj:k*j<=20:=Nat.le_trans (Nat.mul_le_mul (show k<=10 by omega) (show j<=2 by omega)) (by decide);have Z:W6 ((k:Int)*(j:Int))=((k*j:Nat):Int):=by
   rw[<-Int.natCast_mul,aY]
  rw[Z,aAA (by omega),ak,CG (L.get k) (tU _),ak,aA C,aA C.2,ri (rj _ _ _) (gI _ _),sA];have c7:(o.set j (bQ w j k:Int)).set (j:Int).toNat ((bQ w j k ^^^ gm (w.getD k 0) (pw (k*j)):Nat):Int)=o.set j (bQ w j (k+1):Int):=List.set_set ..;rw[c7]
 ·unfold CA az xG xI xL;dsimp only;have E:decide (((0+11:Nat):Int)<((bu w).length:Int))=false:=bq (by rw[ic];omega);rw[E,au]
def sB(w:aa Nat):Nat->aa Int
 |0=>[0,0,0]
 |1=>[(bQ w 0 11:Int),0,0]
 |2=>[(bQ w 0 11:Int),(bQ w 1 11:Int),0]
 |_=>[(bQ w 0 11:Int),(bQ w 1 11:Int),(bQ w 2 11:Int)]
def Yo{w:aa Nat}(D:dD w)(hl:w.length=11):Ap (bu w)=some [(bQ w 0 11:Int),(bQ w 1 11:Int),(bQ w 2 11:Int)]:=by
 unfold Ap bA;have c0:((w.length:Int)==(11:Int))=true:=by rw[hl];rfl
 rw[Yn D (by omega),c0,ak];have e:=sy (step:=Fm) (λj=>((bu w,(),(3:Int),(j:Int),()),(sB w j,()))) (z:=.inl (((),()),(sB w 3,()))) 3 0 aS (λk _ I=>?_) ?_ (by unfold aS;omega)
 ·have e:iter Fm aS ((bu w,(),((List.replicate (3:Int).toNat (0:Int)).length:Int),(0:Int),()),(List.replicate (3:Int).toNat (0:Int),()))=_:=e;rw[show (!true)=false from rfl,au,bN (by decide),e];rfl
 ·unfold Fm az xG bA;dsimp only;have E:decide ((k:Int)<(3:Int))=true:=aZ;have C:sB w k=(sB w k).set k 0/\k<(sB w k).length/\(sB w k).set k (bQ w k 11:Int)=sB w (k+1):=by
   have:k=0\/k=1\/k=2:=by omega
   rcases this with rfl|rfl|rfl
   ·exact⟨rfl,by simp[sB],rfl⟩
   ·exact⟨rfl,by simp[sB],rfl⟩
   ·exact⟨rfl,by simp[sB],rfl⟩
  rw[E,aq,aAD D hl k (by omega) (3:Int) (k:Int) (sB w k) C.2.1 C.1.symm,C.2.2];show some (Sum.inl ((bu w,(),(3:Int),W6 ((k:Int)+1),()),(sB w (k+1),())))=_;rw[sA]
 ·unfold Fm az xG bA;dsimp only;rfl
def aAE{w:aa Nat}(C:dD w)(hl:w.length=11):Qm (bu w)=some (Nat.beq (bQ w 0 11) 0&&(Nat.beq (bQ w 1 11) 0&&Nat.beq (bQ w 2 11) 0)):=by
 unfold Qm xL;rw[Yo C hl,ak];generalize bQ w 0 11=a;generalize bQ w 1 11=b;generalize bQ w 2 11=c;have q:∀ n:Nat,((n:Int)==(0:Int))=Nat.beq n 0:=by
  intro n;cases n with
  |zero=>rfl
  |succ n=>rfl
 show (bif ((a:Int)==(0:Int))then (bif ((b:Int)==(0:Int))then some ((c:Int)==(0:Int))else some false)else some false)=_
 grind
def aAF(C D E:Nat)(I:C<16)(L:D<16)(O:E<16):
  (λy z=>(λx=>(gm x 1 ^^^ (gm y 1 ^^^ (gm z 1 ^^^ C)))=0/\(gm x 1 ^^^ (gm y 2 ^^^ (gm z 4 ^^^ D)))=0/\(gm x 1 ^^^ (gm y 4 ^^^ (gm z 3 ^^^ E)))=0) (C ^^^ y ^^^ z))
   (gm (gm 2 (C ^^^ D) ^^^ gm 5 (C ^^^ E)) 13) (gm (gm 3 (C ^^^ E) ^^^ gm 5 (C ^^^ D)) 13):=by
 have h:=gK (gK (gK aAy I) L) O;simp_all
def aAG{d:aa Nat}(T:dD d)(hl:d.length=8):∃ w,KM (bu d)=some (bu w)/\w.length=11/\dD w/\w.drop 3=d/\bQ w 0 11=0/\bQ w 1 11=0/\bQ w 2 11=0:=by
 have Y:dD (0 :: 0 :: 0 :: d):=by
  intro x hx;simp only[gJ]at hx;rcases hx with rfl|rfl|rfl|hx
  ·decide
  ·decide
  ·decide
  ·exact T x hx
 have key:∀ j x y z,j<3->x<16->y<16->z<16->bQ (x :: y :: z :: d) j 11=gm x (pw (0*j)) ^^^ (gm y (pw (1*j)) ^^^ (gm z (pw (2*j)) ^^^ bQ (0 :: 0 :: 0 :: d) j 11)):=by
  intro j x y z hj hx hy Y;simp only[bQ,List.getD_cons_zero,List.getD_cons_succ,Nat.xor_assoc,Nat.zero_xor,Q7 (tU _)]
 have e0:∀ C E I:Nat,C<16->E<16->I<16->Ap (bu (0 :: 0 :: 0 :: d))=some [(C:Int),(E:Int),(I:Int)]->
   KM (bu d)=some (bu ((C ^^^ gm (gm 2 (C ^^^ E) ^^^ gm 5 (C ^^^ I)) 13 ^^^ gm (gm 3 (C ^^^ I) ^^^ gm 5 (C ^^^ E)) 13)::gm (gm 2 (C ^^^ E) ^^^ gm 5 (C ^^^ I)) 13::gm (gm 3 (C ^^^ I) ^^^ gm 5 (C ^^^ E)) 13::d)):=by
  intro C E I D L O hs;unfold KM xL;have c0:((d.length:Int)==(8:Int))=true:=by rw[hl];rfl
  have c1:bF ((List.replicate (3:Int).toNat (0:Int)).length+(bu d).length)=true:=by
   rw[ic,hl];rfl
  rw[Yn T (by omega),ak,c0,show (!true)=false from rfl,au,bN (by decide),c1,aq];have U:Ap (List.replicate (3:Int).toNat (0:Int)++bu d)=some [(C:Int),(E:Int),(I:Int)]:=hs;rw[U,ak];show (CB (4:Int)).bind (λZ=>(jI (2:Int) (bits .xor .i64 (C:Int) (E:Int))).bind λjG=>(jI (5:Int) (bits .xor .i64 (C:Int) (I:Int))).bind λjW=>(jI (bits .xor .i64 jG jW) Z).bind λoZ=>(jI (3:Int) (bits .xor .i64 (C:Int) (I:Int))).bind λjH=>(jI (5:Int) (bits .xor .i64 (C:Int) (E:Int))).bind λtS=>(jI (bits .xor .i64 jH tS) Z).bind λvn=>some (bits .xor .i64 (bits .xor .i64 (C:Int) oZ) vn::oZ::vn::bu d))=_;have m2:∀b:Nat,b<16->jI (2:Int) (b:Int)=some (gm 2 b:Int):=λb hb=>CG (a:=2) (by decide) hb
  have m3:∀b:Nat,b<16->jI (3:Int) (b:Int)=some (gm 3 b:Int):=λb hb=>CG (a:=3) (by decide) hb
  have m5:∀b:Nat,b<16->jI (5:Int) (b:Int)=some (gm 5 b:Int):=λb hb=>CG (a:=5) (by decide) hb
  have m13:∀b:Nat,b<16->jI (b:Int) (13:Int)=some (gm b 13:Int):=λb hb=>CG (b:=13) hb (by decide)
  rw[aAz,ak,ri D L,ri D O,m2 _ (mh D L),ak,m5 _ (mh D O),ak,ri (gI _ _) (gI _ _),m13 _ (mh (gI _ _) (gI _ _)),ak,m3 _ (mh D O),ak,m5 _ (mh D L),ak,ri (gI _ _) (gI _ _),m13 _ (mh (gI _ _) (gI _ _)),ak,ri D (gI _ _),ri (mh D (gI _ _)) (gI _ _)];rfl
 have D:=rj (0::0::0::d) 0 11;have L:=rj (0::0::0::d) 1 11;have O:=rj (0::0::0::d) 2 11;have U:=e0 _ _ _ D L O (Yo Y (by simp[hl]));have f:=aAF _ _ _ D L O;dsimp only at f;refine⟨_,U,by simp[hl],?_,rfl,?_,?_,?_⟩
 ·intro x hx;simp only[gJ]at hx;rcases hx with rfl | rfl | rfl | hx
  ·exact mh (mh D (gI _ _)) (gI _ _)
  ·exact gI _ _
  ·exact gI _ _
  ·exact T x hx
 ·rw[key 0 _ _ _ (by decide) (mh (mh D (gI _ _)) (gI _ _)) (gI _ _) (gI _ _)];exact f.1
 ·rw[key 1 _ _ _ (by decide) (mh (mh D (gI _ _)) (gI _ _)) (gI _ _) (gI _ _)];exact f.2.1
 ·rw[key 2 _ _ _ (by decide) (mh (mh D (gI _ _)) (gI _ _)) (gI _ _) (gI _ _)];exact f.2.2
def ajH{w:aa Nat}(C:dD w){k e:Nat}(D:e<16)(I:k<w.length)(j:Nat):∀ i,bQ (w.set k (w.getD k 0 ^^^ e)) j i=if i <= k then bQ w j i else bQ w j i ^^^ gm e (pw (k*j))
 |0=>by rw[bN (Nat.zero_le _)];rfl
 | i+1=>by
  have L:=ajH C D I j i;have O:(w.set k (w.getD k 0 ^^^ e)).getD i 0=if i=k then w.getD k 0 ^^^ e else w.getD i 0:=by
   grind
  show bQ _ j i ^^^ gm _ (pw (i*j))=_;rw[L,O];by_cases T:i<k
  ·rw[bN,bO,bN];rfl
  ·by_cases E:i=k
   ·subst E;rw[bN (dJ _),bN rfl,bO,aAB (C.get _) D (tU _),<- Nat.xor_assoc];rfl
   ·rw[bO,bO E,bO];show _=bQ w j i ^^^ gm _ _ ^^^ gm e _
    grind
def dD.set{w:aa Nat}(h:dD w){k v:Nat}(D:v<16):dD (w.set k v):=by
 intro x C;rcases List.mem_or_eq_of_mem_set C with C|rfl
 ·exact h x C
 ·exact D
def ivT:Nat:=9460475325918865680
def iv(a:Nat):Nat:=(ivT / 2 ^ (4*a)) % 16
def aAH(a:Nat):iv a<16:=Nat.mod_lt _ (by decide)
def aAI:(js λa=>Nat.beq a 0 ||CB (Int.ofNat a)==some (Int.ofNat (iv a)))=true:=by kernel_rfl
def oc:aa Nat:=[8,14,7,1]
def aAJ:((List.range 8).all λm=>js λf=>(List.range 3).all λj=>
  Nat.beq (gm (gm 8 f) (pw (m*j)) ^^^ (gm (gm 14 f) (pw ((m+1)*j)) ^^^ (gm (gm 7 f) (pw ((m+2)*j)) ^^^ gm f (pw ((m+3)*j))))) 0)=true:=by kernel_rfl
def aAK:(js λa=>js λb=>tR (Int.ofNat a) (Int.ofNat b)==some (Int.ofNat (gm a b)))=true:=by kernel_rfl
def Li{a b:Nat}(C:a<16)(hb:b<16):tR (a:Int) (b:Int)=some (gm a b:Int):=by
 have h:=gK (gK aAK C) hb;exact eq_of_beq h
def ajI(W:aa Int):iter WY aS (((),(),(1:Int),()),(W,([(1:Int),(1:Int)]:aa Int),()))=some (.inl (((),(),()),(W,bu oc,()))):=by kernel_rfl
def ajJ{w:aa Nat}(E:dD w)(hl:w.length<1000)(n:Int):tQ (bu w) n=some ((w.length:Int)==n):=by
 unfold tQ bM;have e:=sy (step:=Aa) (λi=>((bu w,n,i,()),())) (z:=.inr (.inl ((bu w,n,()),()))) w.length 0 aS (λk _ C=>?_) ?_ (by unfold aS;omega)
 ·simp_all
 ·have C:k<(bu w).length:=by rw[ic];omega
  unfold Aa az aT xG xI;dsimp only;have I:decide ((k:Int)<((bu w).length:Int))=true:=aZ;have D:0 <= (k:Int)/\(k:Int).toNat<(bu w).length:=⟨by omega,by simpa using C⟩
  rw[I,aq,aA D];have L:(bu w)[(k:Int).toNat]'D.2=((w.getD k 0:Nat):Int):=tV C;rw[L];have:=E.get k;unfold xw;rw[aAt (by omega) (by omega),ak,ak,sA];rfl
 ·unfold Aa az aT xG xI;simp_all
def tW(k:Nat):Nat:=oc.getD k 0
def aAL(k:Nat):tW k<16:=by
 have:dD oc:=by
  intro x C;simp[oc,gJ,List.not_mem_nil,or_false]at C;omega
 exact this.get k
def kS(r:aa Nat)(m f:Nat):Nat->aa Nat
 |0=>r
 |k+1=>(kS r m f k).set (m+k) ((kS r m f k).getD (m+k) 0 ^^^ gm (tW k) f)
def Lj(r:aa Nat)(m f:Nat):∀ k,(kS r m f k).length=r.length
 |0=>rfl
 |k+1=>by show (List.set _ _ _).length=_;rw[iY,Lj]
def Lk{r:aa Nat}(C:dD r)(m f:Nat):∀ k,dD (kS r m f k)
 |0=>C
 |k+1=>(Lk C m f k).set (mh ((Lk C m f k).get _) (gI _ _))
def Q8(w:aa Nat)(k v:Nat):(bu w).set k (v:Int)=bu (w.set k v):=(List.map_set ..).symm
def aAM{r:aa Nat}(O:dD r)(hl:r.length=11){m f:Nat}(hm:m<8)(T:f<16)(W:aa Int):
  iter EA aS (((),(),(),((m+3:Nat):Int),(f:Int),(0:Int),()),(W,bu oc,bu r,()))=some (.inl (((),(),(),((m+3:Nat):Int),()),(W,bu oc,bu (kS r m f 4),()))):=by
 have e:=sy (step:=EA) (λk=>(((),(),(),((m+3:Nat):Int),(f:Int),(k:Int),()),(W,bu oc,bu (kS r m f k),()))) (z:=.inl (((),(),(),((m+3:Nat):Int),()),(W,bu oc,bu (kS r m f 4),()))) 4 0 aS (λk _ hk=>?_) ?_ (by unfold aS;omega)
 ·exact e
 ·unfold EA az xG xL;dsimp only;have D:decide ((k:Int)<((bu oc).length:Int))=true:=aZ (by show (k:Int)<4;omega);have U:W6 (W6 (((m+3:Nat):Int)-3)+(k:Int))=((m+k:Nat):Int):=by
   rw[aY (n:=((m+3:Nat):Int)-3),aY];omega
  have I:m+k<(bu (kS r m f k)).length:=by rw[ic,Lj,hl];omega
  have C:0<=((m+k:Nat):Int)/\((m+k:Nat):Int).toNat<(bu (kS r m f k)).length:=⟨by omega,I⟩
  have L:k<(bu oc).length:=by show k<4;omega
  have E:0<=(k:Int)/\(k:Int).toNat<(bu oc).length:=⟨by omega,L⟩
  have Y:(bu (kS r m f k))[((m+k:Nat):Int).toNat]'C.2=(((kS r m f k).getD (m+k) 0:Nat):Int):=tV I;have Z:(bu oc)[(k:Int).toNat]'E.2=((tW k:Nat):Int):=tV L;rw[D,aq];simp only[U];rw[aA C,aA C.2];rw[aA E,aA E.2,Z,Li (aAL k) T,ak,aA C,aA C.2,Y,ri ((Lk O m f k).get _) (gI _ _),sA];have c7:(bu (kS r m f k)).set ((m+k:Nat):Int).toNat (((kS r m f k).getD (m+k) 0 ^^^ gm (tW k) f:Nat):Int)=bu (kS r m f (k+1)):=Q8 _ _ _;rw[c7]
 ·unfold EA az xG xL;dsimp only;have D:decide (((0+4:Nat):Int)<((bu oc).length:Int))=false:=rfl;rw[D,au]
def out(r:aa Nat):Nat->aa Nat
 |0=>r
 |t+1=>kS (out r t) (7-t) ((out r t).getD (10-t) 0) 4
def CH(r:aa Nat):∀ t,(out r t).length=r.length
 |0=>rfl
 |t+1=>by show (kS _ _ _ _).length=_;rw[Lj,CH]
def CI{r:aa Nat}(C:dD r):∀ t,dD (out r t)
 |0=>C
 |t+1=>Lk (CI C t) _ _ _
def ajK{r:aa Nat}(D:dD r)(hl:r.length=11)(W:aa Int):
  iter EB aS (((),(),(),(10:Int),()),(W,bu oc,bu r,()))=some (.inl (((),(),()),(W,bu (out r 8),()))):=by
 have e:=sy (step:=EB) (λt=>(((),(),(),(10:Int)-(t:Int),()),(W,bu oc,bu (out r t),()))) (z:=.inl (((),(),()),(W,bu (out r 8),()))) 8 0 aS (λt _ O=>?_) ?_ (by unfold aS;omega)
 ·exact e
 ·unfold EB az xG bA xL;dsimp only;have hi:(10:Int)-(t:Int)=((7-t+3:Nat):Int):=by omega
  have I:decide ((10:Int)-(t:Int) >= 3)=true:=aZ;have E:7-t+3<(bu (out r t)).length:=by rw[ic,CH,hl];omega
  have C:0<=((7-t+3:Nat):Int)/\((7-t+3:Nat):Int).toNat<(bu (out r t)).length:=⟨by omega,E⟩
  have L:(bu (out r t))[((7-t+3:Nat):Int).toNat]'C.2=(((out r t).getD (10-t) 0:Nat):Int):=(tV E).trans (by rw[show 7-t+3=10-t by omega]);rw[I,aq];simp only[hi];rw[aA C,aA C.2,L,aAM (CI D t) (by rw[CH,hl]) (by omega) ((CI D t).get _)];show some (Sum.inl (((),(),(),W6 (((7-t+3:Nat):Int)-1),()),(W,bu oc,bu (out r (t+1)),())))=_;rw[aY,show ((7-t+3:Nat):Int)-1=10-((t+1:Nat):Int) by omega]
 ·unfold EB az xG bA xL;dsimp only;rfl
def aAN:(js λa=>Nat.beq (gm 1 a) a)=true:=by kernel_rfl
def ajL{a:Nat}(C:a<16):gm 1 a=a:=cB (gK aAN C)
def ajM{r:aa Nat}(C:dD r)(hl:r.length=11){k e:Nat}(D:e<16)(E:k<11)(j:Nat):bQ (r.set k (r.getD k 0 ^^^ e)) j 11=bQ r j 11 ^^^ gm e (pw (k*j)):=by
 rw[ajH C D (by omega) j 11,bO]
def aAO{r:aa Nat}(D:dD r)(hl:r.length=11){m f j:Nat}(E:m<8)(C:f<16)(I:j<3):bQ (kS r m f 4) j 11=bQ r j 11:=by
 have st:∀ k,k<4 -> bQ (kS r m f (k+1)) j 11=bQ _ j 11 ^^^ gm _ _:=λk O=>
  ajM (Lk D m f k) (by rw[Lj,hl]) (gI _ _) (by omega) j
 have h:=cv.1 (gK (cv.1 aAJ m (fz.2 E)) C) j (fz.2 I);have h:gm (gm (tW 0) f) (pw ((m+0)*j)) ^^^ (gm (gm (tW 1) f) (pw ((m+1)*j)) ^^^ (gm (gm (tW 2) f) (pw ((m+2)*j)) ^^^ gm (gm (tW 3) f) (pw ((m+3)*j))))=0:=by
  have L:gm (tW 3) f=f:=ajL C;rw[L];exact cB h
 rw[st 3 (by decide),st 2 (by decide),st 1 (by decide),st 0 (by decide),Nat.xor_assoc,Nat.xor_assoc,Nat.xor_assoc,h,Nat.xor_zero];rfl
def ajN{r:aa Nat}(C:dD r)(hl:r.length=11){j:Nat}(D:j<3):∀ t,t<=8->bQ (out r t) j 11=bQ r j 11
 |0,_=>rfl
 |t+1,E=>(aAO (CI C t) (by rw[CH,hl]) (by omega) ((CI C t).get _) D).trans (ajN C hl D t (by omega))
def ajO(r:aa Nat)(k v n:Nat):(r.set k v).getD n 0=if n=k/\k<r.length then v else r.getD n 0:=by grind
def Yp(r:aa Nat)(m f:Nat):∀ k n,m+k<=n->(kS r m f k).getD n 0=r.getD n 0
 |0,n,_=>rfl
 | k+1,n,h=>by
  show (List.set _ _ _).getD n 0=_;rw[ajO,bO,Yp r m f k n (by omega)]
def aAP{r:aa Nat}{m f:Nat}(h:m+3<r.length):(kS r m f 4).getD (m+3) 0=r.getD (m+3) 0 ^^^ gm (tW 3) f:=by
 show (List.set _ _ _).getD _ 0=_;rw[ajO,bN ⟨rfl,by rw[Lj];exact h⟩,Yp r m f 3 _ (dJ _)]
def ajP{r:aa Nat}(C:dD r)(hl:r.length=11):∀ t,t <= 8 -> ∀ n,10-t<n -> n<11 -> (out r t).getD n 0=0
 |0,_,n,h,D=>by omega
 | t+1,I,n,h,D=>by
  show (kS _ _ _ 4).getD n 0=0;by_cases E:n=10-t
  ·have e:n=7-t+3:=by omega
   subst e;rw[aAP (by rw[CH];omega),<- E];have:gm (tW 3) _=(out r t).getD (7-t+3) 0:=ajL ((CI C t).get _);simp_all
  ·rw[Yp _ _ _ 4 n (by omega)];exact ajP C hl t (by omega) n (by omega) D
def qb(w r:aa Nat):Nat->aa Nat
 |0=>w
 |k+1=>(qb w r k).set k (r.getD k 0)
def Yq(w r:aa Nat):∀ k,(qb w r k).length=w.length
 |0=>rfl
 |k+1=>by show (List.set _ _ _).length=_;rw[iY,Yq]
def ajQ{w r:aa Nat}(U:w.length=11)(Y:r.length=11):
  iter IZ aS (((),(),(0:Int),()),(bu w,bu r,()))=some (.inl (((),()),(bu (qb w r 3),()))):=by
 have e:=sy (step:=IZ) (λi=>(((),(),i,()),(bu (qb w r i),bu r,()))) (z:=.inl (((),()),(bu (qb w r 3),()))) 3 0 aS (λk _ Z=>?_) ?_ (by unfold aS;omega)
 ·exact e
 ·unfold IZ az xG xL;dsimp only;have I:decide ((k:Int)<(3:Int))=true:=aZ;have D:k<(bu r).length:=by rw[ic];omega
  have L:k<(bu (qb w r k)).length:=by rw[ic,Yq];omega
  have C:0 <= (k:Int)/\(k:Int).toNat<(bu r).length:=⟨by omega,D⟩
  have E:0 <= (k:Int)/\(k:Int).toNat<(bu (qb w r k)).length:=⟨by omega,L⟩
  have O:(bu r)[(k:Int).toNat]'C.2=((r.getD k 0:Nat):Int):=tV D;rw[I,aq,aA C,aA C.2,O,aA E,aA E.2,sA];have T:(bu (qb w r k)).set (k:Int).toNat ((r.getD k 0:Nat):Int)=bu (qb w r (k+1)):=Q8 _ _ _;rw[T]
 ·rfl
def aAQ{d:aa Nat}(O:dD d)(hl:d.length=8):∃ w,Ab (bu d)=some (bu w)/\w.length=11/\dD w/\bQ w 0 11=0/\bQ w 1 11=0/\bQ w 2 11=0:=by
 have D:dD (0 :: 0 :: 0 :: d):=by
  intro x hx;simp only[gJ]at hx;rcases hx with rfl|rfl|rfl|hx
  ·decide
  ·decide
  ·decide
  ·exact O x hx
 have C:(0::0::0::d).length=11:=by simp[hl]
 have T:Ab (bu d)=some (bu (qb (0 :: 0 :: 0 :: d) (out (0 :: 0 :: 0 :: d) 8) 3)):=by
  unfold Ab xA bA xZ;have c0:((d.length:Int)==(8:Int))=true:=by rw[hl];rfl
  have U:bF ((List.replicate (3:Int).toNat (0:Int)).length+(bu d).length)=true:=by
   rw[ic,hl];rfl
  have Y:bF (([]:aa Int).length+(bu (0 :: 0 :: 0 :: d)).length)=true:=by
   rw[ic,C];rfl
  have Z:W6 (((bu (0 :: 0 :: 0 :: d)).length:Int)-(1:Int))=10:=by
   rw[ic,C];rfl
  have eW:List.replicate (3:Int).toNat (0:Int)++bu d=bu (0::0::0::d):=rfl;rw[ajJ O (by omega),ak,c0,show (!true)=false from rfl,au,bN (by decide),U,aq,eW,ajI,ak,dZ];dsimp only;rw[kZ,Y,aq,Z,ajK D C,ak,dZ];dsimp only;rw[ajQ C (by rw[CH,C]),ak,dZ]
 have E:=CI D 8;have I:∀ j,j<3->bQ (qb (0 :: 0 :: 0 :: d) (out (0 :: 0 :: 0 :: d) 8) 3) j 11=0:=by
  intro j hj;have L:=ajN D C hj 8 (dJ _);have z:=ajP D C 8 (dJ _);revert L z;generalize out (0 :: 0 :: 0 :: d) 8=r;intro L z;have h2:bQ (qb (0 :: 0 :: 0 :: d) r 3) j 11=gm (r.getD 0 0) (pw (0*j)) ^^^ (gm (r.getD 1 0) (pw (1*j)) ^^^ (gm (r.getD 2 0) (pw (2*j)) ^^^ bQ (0 :: 0 :: 0 :: d) j 11)):=by
   show bQ (r.getD 0 0::r.getD 1 0::r.getD 2 0::d) j 11=_;simp only[bQ,List.getD_cons_zero,List.getD_cons_succ,Nat.xor_assoc,Nat.zero_xor,Q7 (tU _)]
  have h3:bQ r j 11=gm (r.getD 0 0) (pw (0*j)) ^^^ (gm (r.getD 1 0) (pw (1*j)) ^^^ gm (r.getD 2 0) (pw (2*j))):=by
   simp only[bQ,z 3 (by decide) (by decide),z 4 (by decide) (by decide),z 5 (by decide) (by decide),z 6 (by decide) (by decide),z 7 (by decide) (by decide),z 8 (by decide) (by decide),z 9 (by decide) (by decide),z 10 (by decide) (by decide),Nat.xor_assoc,Nat.zero_xor,Nat.xor_zero,Q7 (tU _)]
  rw[h2,<-L,h3,<-Nat.xor_assoc (gm (r.getD 1 0) _) (gm (r.getD 2 0) _),<-Nat.xor_assoc (gm (r.getD 0 0) _),Nat.xor_self]
 refine⟨_,T,by rw[Yq,C],?_,I 0 (by decide),I 1 (by decide),I 2 (by decide)⟩;exact((D.set (E.get _)).set (E.get _)).set (E.get _)
def vB(s:Int):Bool:=aP s 0 15
def rm(l:aa Int)(n:Int):Bool:=l.all vB&&decide ((l.length:Int)=n)
def ajR(l:aa Int)(n:Int)(hl:l.length<1073741824):vp l n=some (rm l n):=by
 unfold vp rm bM;have e:=gi (step:=Ak) l vB (λi=>((l,n,l,l.length,i,()),())) _ (.inr (.inl ((l,n,()),()))) aS (λk h=>by
  unfold Ak Ct az aT xG xI;simp (disch:=omega) [h,bE,dY,vB];cases aP l[k] 0 15<;>rfl) (by unfold Ak az aT xG xI;simp) (bJ hl)
 rw[cc]at e;rw[e];cases l.all vB<;>simp;rfl
def Ll(l:aa Int)(n:Int)(hl:l.length<1073741824):tQ l n=some (rm l n):=by
 unfold tQ rm bM;have e:=gi (step:=Aa) l vB (λi=>((l,n,i,()),())) _ (.inr (.inl ((l,n,()),()))) aS (λk h=>by
  unfold Aa xw az aT xG xI;simp (disch:=omega) [h,bE,dO,vB];cases aP l[k] 0 15<;>rfl) (by unfold Aa az aT xG xI;simp) (bJ hl)
 rw[cc]at e;rw[e];cases l.all vB<;>simp;rfl
def Sy(l:aa Int):Prop:=l.length=11/\∀s∈l,0<=s/\s<=15
def Sy.ok{l:aa Int}(h:Sy l):rm l 11=true:=by
 simp[rm,aQ,cv,vB,bG];exact⟨λx C=>h.2 x C,by rw[h.1];rfl⟩
def Sy.of{l:aa Int}(h:rm l 11=true):Sy l:=by
 simp[rm,aQ,cv,gS,vB,bG]at h;exact⟨by omega,h.1⟩
def Yr{a b:Int}(E:0 <= a/\a <= 15)(hb:0 <= b/\b <= 15):0 <= bits .xor .i64 a b/\bits .xor .i64 a b <= 15/\bits .xor .i64 (bits .xor .i64 a b) b=a:=by
 obtain⟨x,rfl⟩:=fA E.1;obtain⟨y,rfl⟩:=fA hb.1;have D:x<16:=by omega
 have C:y<16:=by omega
 have:=mh D C;rw[ri D C];rw[ri this C]
 grind
def Sy.set{l:aa Int}(h:Sy l){k:Nat}{v:Int}(D:0<=v/\v<=15):Sy (l.set k v):=by
 refine⟨by simp[h.1],λs C=>?_⟩
 rcases List.mem_or_eq_of_mem_set C with C|rfl
 ·exact h.2 s C
 ·exact D
def Sy.get{l:aa Int}(h:Sy l){k:Nat}(C:k<l.length):0<=l[k]/\l[k]<=15:=h.2 _ (cS C)
structure fy (g:aN) (B:Int) (a:dU):Prop where
 cells:(a.cells.length:Int)=eI g
 syms:∀c∈a.cells,Sy c.symbols
 br:(a.br.length:Int)=fP g
 bh:(a.bh.length:Int)=fP g
 Ln:∀x∈a.br,0<=x/\x<=B
 jt:∀x∈a.bh,0<=x/\x<=100000
def aAR(c:bX)(h:c.symbols.length<1073741824):P3 c=some c:=by
 unfold P3 xA xZ;simp[bF,h]
def ajS(c:bX)(h:c.symbols.length<1073741824):H9 c=some c:=by
 unfold H9 xA xZ;simp[bF,h]
def aAS(a:dU)(O:a.cells.length<1073741823)(C:a.br.length<1073741824)(D:a.bh.length<1073741824)(E:∀ c∈a.cells,c.symbols.length<1073741824):Kp a=some a:=by
 unfold Kp xA bA xZ;have e:=cz (step:=Ko) a.cells.length (λi=>(((),(),a.cells,(a.cells.length:Int),(i:Int),()),(((),(),(),()),((),(),(),()),([]:aa bX),([]:aa Int),([]:aa Int),a.cells.take i,(([]:aa Int)++a.br),(([]:aa Int)++a.bh),())))
  (.inl (((),(),()),(((),(),(),()),((),(),(),()),([]:aa bX),([]:aa Int),([]:aa Int),a.cells,(([]:aa Int)++a.br),(([]:aa Int)++a.bh),()))) aS (λk h=>by
  unfold Ko az xG xI;have I:min k a.cells.length=k:=by omega
  have L:bF (k+1)=true:=cM;simp (disch:=omega) [h,bE,aAR _ (E _ (cS h)),I,L]) (by unfold Ko az xG xI;simp) (bJ)
 rw[cc,List.take_zero]at e;rw[e];simp[bF,C,D]
def aAT(a:dU)(O:a.cells.length<1073741823)(C:a.br.length<1073741824)(D:a.bh.length<1073741824)(E:∀ c∈a.cells,c.symbols.length<1073741824):Oh a=some a:=by
 unfold Oh xA bA xZ;have e:=cz (step:=Ia) a.cells.length (λi=>(((),(),(),(i:Int),()),((a.cells,a.br,a.bh,()),((),(),(),()),((),(),(),()),([]:aa bX),([]:aa Int),([]:aa Int),a.cells.take i,(([]:aa Int)++a.br),(([]:aa Int)++a.bh),())))
  (.inl (((),(),()),(((),(),(),()),((),(),(),()),([]:aa bX),([]:aa Int),([]:aa Int),a.cells,(([]:aa Int)++a.br),(([]:aa Int)++a.bh),()))) aS (λk h=>by
  unfold Ia az xG xI;have I:min k a.cells.length=k:=by omega
  have L:bF (k+1)=true:=cM;simp (disch:=omega) [h,bE,ajS _ (E _ (cS h)),I,L]) (by unfold Ia az xG xI;simp) (bJ)
 rw[cc,List.take_zero]at e;rw[e];simp[bF,C,D]
def CJ(c:bX):Bool:=rm c.symbols 11
def vC(p:Int×Int):Bool:=aP p.1 0 100000&&aP p.2 0 100000
def od(g:aN)(a:dU):Bool:=cy g&&(decide ((a.cells.length:Int)=eI g)&&(decide ((a.br.length:Int)=fP g)&&(decide ((a.bh.length:Int)=fP g)&&(a.cells.all CJ&&(a.br.zip a.bh).all vC))))
def aAU(g:aN)(a:dU)(I:∀ c∈a.cells,c.symbols.length<1073741824):Ke g a=some (od g a):=by
 unfold Ke od bM;rw[oa,ak,xT,ak,Yi];cases L:cy g with
 |false=>rfl
 | true=>
  have U:=mQ g;have Y:=p7 g;have er:aW g*g.rows=fP g:=by simp[fP,L]
  simp only[bK,au,ak,cm,er];rw[aY];by_cases C:(a.cells.length:Int)=eI g
  ·by_cases D:(a.br.length:Int)=fP g
   ·by_cases E:(a.bh.length:Int)=fP g
    ·have hl:a.br.length=a.bh.length:=by omega
     have l1:=gi (step:=Kc) a.cells CJ (λi=>(((),a.cells,(a.cells.length:Int),(i:Int),()),((a.cells,a.br,a.bh,()),()))) (.inl ((false,()),())) (.inr (.inl (((),()),((a.cells,a.br,a.bh,()),())))) aS (λk h=>by
      unfold Kc az aT xG xI;simp (disch:=omega) [h,bE,ajR _ 11 (I _ (cS h)),CJ];cases rm a.cells[k].symbols 11<;>rfl) (by unfold Kc az aT xG xI;simp) (bJ)
     have l2:=gi (step:=Kd) (a.br.zip a.bh) vC (λi=>(((),(a.br.length:Int),(i:Int),()),((a.cells,a.br,a.bh,()),()))) (.inl ((false,()),())) (.inr (.inl ((),()))) aS (λk h=>by
      have O:k<a.br.length:=by simp at h;omega
      have T:k<a.bh.length:=by omega
      unfold Kd az aT xG xI;simp (disch:=omega) [O,T,bE,dY,vC];cases aP a.br[k] 0 100000<;>cases aP a.bh[k] 0 100000<;>rfl) (by unfold Kd az aT xG xI;simp[hl]) (bJ (by simp;omega))
     rw[cc]at l1 l2;simp only[C,D,E,bne_self_eq_false,au,decide_true,cm];rw[<-C,l1];cases Z:a.cells.all CJ with
     |false=>simp
     | true=>
      simp only[aq,Option.bind_some,Sum.elim_inr,dZ];rw[l2];cases (a.br.zip a.bh).all vC<;>simp
    ·simp[C,D,fZ E,E]
   ·simp[C,fZ D,D]
  ·simp[fZ C,C]
def iL{b:aa Int}{c:aX}(C:fQ b c)(l:aa Int)(hl:0<l.length):Dr b (fO c l) λx=>x∈l:=by
 unfold fO xI;rw[C.eq]
 refine(cZ C _).bind λI L E D=>?_
 rw[aA ⟨E.1,by dsimp only;omega⟩];rw[D.eta];exact Dr.pure D (cS _)
def Av{b:aa Int}{c:aX}(C:fQ b c)(n:Int):Dr b (qZ c n) λ_=>True:=by
 unfold qZ;rw[C.eq]
 refine(cZ C _).bind λE I L D=>?_
 rw[D.eta];exact Dr.pure D trivial
def mR(g:aN):(⟨g.bR,g.aB,g.rows,g.aM⟩:aN)=g:=rfl
def ajT{b:aa Int}{c:aX}(D:fQ b c){g:aN}(C:cy g=true):Dr b (JJ c g) λa=>dx g a=true:=by
 have Y:=FB C;have⟨_,_,_,_,Z,g6,g7,g8⟩:=fm C;unfold JJ;rw[mg,ak,D.eq]
 refine(cZ D _).bind λx1 k1 E I=>?_
 dsimp only;rw[I.eta]
 refine(cZ I _).bind λx2 k2 L O=>?_
 dsimp only;rw[O.eta]
 refine(cZ O _).bind λx3 k3 T U=>?_
 dsimp only;rw[U.eta];exact Dr.pure U (vw C E.1 (E.2.2 (by omega)) L.1 (L.2.2 (by omega)) T.1 (T.2.2 (by omega)))
def rq(n x:Int):Int:=if 100000<x+n then 100000 else x+n
def Ys(l:aa Int)(h:∀ s∈l,0 <= s/\s <= 15):bu (l.map Int.toNat)=l/\dD (l.map Int.toNat):=by
 constructor
 ·induction l with
  |nil=>rfl
  | cons x l C=>
   have D:=h x (.head _);have:=C λs E=>h s (.tail _ E)
   grind
 ·intro x D
  grind
def Lo{w:aa Nat}(D:dD w)(hl:w.length=11):Sy (bu w):=by
 refine⟨by rw[ic,hl],λs C=>?_⟩
 simp at C;obtain⟨x,E,rfl⟩:=C;have:=D x E;omega
def Sy.mem{l:aa bX}(h:∀c∈l,Sy c.symbols){k:Nat}(C:k<l.length):Sy l[k].symbols:=h _ (cS C)
def Sy.bW{l:aa bX}(h:∀c∈l,Sy c.symbols){k:Nat}{d:bX}(C:Sy d.symbols):∀c∈l.set k d,Sy c.symbols:=by grind
def Lp{l:aa Int}{B C:Int}(h:∀x∈l,B <= x/\x <= C){k:Nat}{v:Int}(D:B <= v/\v <= C):∀x∈l.set k v,B <= x/\x <= C:=by grind
def xW(l:nc)(a:dU)(i:Nat):Bool:=decide (a.br.getD i 0 > l.br) ||decide (a.bh.getD i 0 > l.bh)
def aAV(g:aN)(l:nc)(a:dU)(i:Nat)(C:i<a.br.length)(D:i<a.bh.length):IG g l a (i:Int)=some (xW l a i):=by
 unfold IG xW xI
 grind
def aAW{l:aa Int}{B C:Int}(h:∀ x∈l,B<=x/\x<=C)(k:Nat)(D:B<=0/\0<=C):B<=l.getD k 0/\l.getD k 0<=C:=by
 rw[fj];cases E:l[k]? with
 |none=>exact D
 |some x=>exact h x (gX E)
def ajU{x:Int}(h:0<=x/\x<=100000){n:Int}(C:0<=n):0<=rq n x/\rq n x<=100000:=by
 unfold rq;split<;>omega
def o6(k:Nat)(h:aa Int):aa Int:=h.set k (rq 1 (h.getD k 0))
def Lq(k:Nat)(h:aa Int):(o6 k h).length=h.length:=by simp[o6]
def Q9{k:Nat}{h:aa Int}(hb:∀ x∈h,0<=x/\x<=100000):∀ x∈o6 k h,0<=x/\x<=100000:=
 Lp hb (ajU (aAW hb k ⟨by omega,by omega⟩) (by omega))
def Yt{k:Nat}{h:aa Int}(C:k<h.length):o6 k h=h.set k (rq 1 h[k]):=by
 unfold o6;rw[fj,bS C];rfl
def Aw(row:Int)(i:Nat)(h:aa Int):aa Int:=bif decide (0<row)then o6 (i-1) (h.set i 0)else h.set i 0
def vD(R row:Int)(i:Nat)(h:aa Int):aa Int:=bif decide (row<R-1)then o6 (i+1) (Aw row i h)else Aw row i h
def aAX(row:Int)(i:Nat)(h:aa Int):(Aw row i h).length=h.length:=by
 unfold Aw;cases decide (0<row)<;>simp[Lq]
def aAY(R row:Int)(i:Nat)(h:aa Int):(vD R row i h).length=h.length:=by
 unfold vD;cases decide (row<R-1)<;>simp[Lq,aAX]
def aAZ{row:Int}{i:Nat}{h:aa Int}(hb:∀ x∈h,0<=x/\x<=100000):∀ x∈Aw row i h,0<=x/\x<=100000:=by
 have C:=Lp hb (k:=i) (v:=0) ⟨by omega,by omega⟩;unfold Aw;cases decide (0<row)
 ·exact C
 ·exact Q9 C
def aA0{R row:Int}{i:Nat}{h:aa Int}(hb:∀ x∈h,0<=x/\x<=100000):∀ x∈vD R row i h,0<=x/\x<=100000:=by
 have C:=aAZ (row:=row) (i:=i) hb;unfold vD;cases decide (row<R-1)
 ·exact C
 ·exact Q9 C
def Gv{C:Type}(P:C->Prop)(o:ah C):Prop:=∃y,o=some y/\P y
def Gv.pure{C:Type}{P:C->Prop}{y:C}(h:P y):Gv P (some y):=⟨y,rfl,h⟩
def Gv.bind{α C:Type}{Q:α->Prop}{P:C->Prop}{f:ah α}{g:α->ah C}(h:Gv Q f)(D:∀ y,Q y->Gv P (g y)):Gv P (f.bind g):=by
 obtain⟨y,rfl,E⟩:=h;exact D y E
def aA1(x a b:Int):Gv (λy=>y=aP x a b) (cx x a b):=⟨_,dO x a b,rfl⟩
def aA2(k:Int):Gv (λy=>y=(aP k 1 5,k==1,(k==2 || k==3))) (Iu k):=by
 refine Gv.bind (aA1 _ _ _) (λ_ h=>?_)
 subst h;cases h:k==2<;>exact Gv.pure (by simp)
def qc(t:cP):aa Int:=[t.fB,t.rp,t.ef,t.gn,t.fo,t.fC,t.gp,t.ga,t.eT,t.wr,t.gd,t.gq,t.gO,t.gu,t.gv,t.xp,t.xs]
def Ax(x:Int):Bool:=aP x 1 64
def ju(t:cP):Bool:=(qc t).all Ax&&(decide (t.fB<=t.ef)&&(decide (t.gn<=t.fo)&&(decide (t.gp<=t.ga)&&decide (t.gd<=t.gq))))
def Ra(t:cP):E4 t=some (ju t):=by
 unfold E4 ju bM;change (iter E3 aS (((),(),((qc t).length:Int),(0:Int),()),(t,qc t,()))).bind _=_;have C:(qc t).length=17:=rfl;generalize qc t=l at *
 have e:=gi (step:=E3) l Ax (λi=>(((),(),(l.length:Int),(i:Int),()),(t,l,()))) _ (.inr (.inl (((),()),(t,())))) aS (λk h=>by
  unfold E3 az aT xG xL;simp (disch:=omega) [h,bE,dY,Ax];cases aP l[k] 1 64<;>rfl) (by unfold E3 az aT xG xL;simp) (bJ)
 rw[cc]at e;rw[e];cases l.all Ax<;>simp
 grind
def Rb(t:cP):B2 t=some (ju t):=by
 unfold B2 ju WB bM;rw[ak];change (iter Eh aS (((),(),(0:Int),()),(t,qc t,()))).bind _=_;have C:(qc t).length=17:=rfl;generalize qc t=l at *
 have e:=gi (step:=Eh) l Ax (λi=>(((),(),(i:Int),()),(t,l,()))) (.inl ((false,()),())) (.inr (.inl (((),()),(t,())))) aS (λk h=>by
  unfold Eh az aT xG xL;simp (disch:=omega) [h,bE,dO,Ax];cases aP l[k] 1 64<;>rfl) (by unfold Eh az aT xG xL;simp) (bJ)
 rw[cc]at e;rw[e];cases l.all Ax<;>simp
 grind
def aA3(t:cP):Ig t=q7 t:=by
 unfold Ig q7;rw[Ra,Rb]
def aA4(t:cP):∃ y,q7 t=some y:=by
 unfold q7;rw[Ra];cases ju t<;>exact⟨_,rfl⟩
def Lr(R i:Nat):Int:=((i % R:Nat):Int)
def mj(n R:Nat):aa Int:=(List.range n).map (Lr R)
def Yu(n R:Nat):(mj n R).length=n:=by simp[mj]
def aA5(n R:Nat):mj (n+1) R=mj n R++[Lr R n]:=by simp[mj,List.range_succ]
def jJ(g:aN)(n:Int):Bool:=cy g&&(aP n 0 2&&decide (2<=g.rows-n))
def sC(g:aN)(n:Int):dG×Bool:=bif jJ g n then (⟨n,mj ((aW g).toNat*(g.rows-n).toNat) (g.rows-n).toNat⟩,true)else (⟨0,[]⟩,false)
def Rc{g:aN}{n:Int}(h:jJ g n=true):cy g=true/\0 <= n/\n <= 2/\2 <= g.rows-n/\g.rows <= 16:=by
 simp[jJ,aQ,bG,gS]at h;have⟨C,⟨D,E⟩,I⟩:=h;have:=fm C;simp_all
def Yv(g:aN)(n:Int):Ef g n=some (sC g n):=by
 unfold Ef sC bA;rw[xU,ak];cases D:cy g with
 |false=>simp[jJ,D]
 | true=>
  simp only[bK,au,dO,ak];cases E:aP n 0 2 with
  |false=>simp[jJ,E]
  | true=>
   have Z:=bG.1 E;have gb:=fm D;simp only[bK,au];rw[aY];by_cases I:g.rows-n<2
   ·have:decide (2<=g.rows-n)=false:=bq;rw[aZ I,aq];simp[jJ,this]
   ·have O:jJ g n=true:=by simp[jJ,D,E];omega
    rw[bq I,au,O,aq];have T:=eN g;obtain⟨C,hb⟩:=fA T.1;obtain⟨R,hR⟩:=fA (show 0<=g.rows-n by omega);have hm:C*R<=8*16:=Nat.mul_le_mul (by omega) (by omega);have hmul:W6 ((C:Int)*(R:Int))=((C*R:Nat):Int):=by
     rw[<-Int.natCast_mul];exact aY
    have L:W6 (g.rows-n)=(R:Int):=by rw[hR];exact aY
    have e:=cz (step:=Ie) (C*R) (λi=>((n,(),(),(),(i:Int),()),((g.bR,g.aB,g.rows,g.aM,()),((0:Int),(),()),(n,(),()),([]:aa Int),mj i R,())))
     (.inl (((),(),()),(((0:Int),(),()),(n,(),()),([]:aa Int),mj (C*R) R,()))) aS (λk h=>by
     unfold Ie az xG;have U:bF ((mj k R).length+1)=true:=cM (by rw[Yu];omega);have Y:(k:Int).tmod (R:Int)=Lr R k:=by unfold Lr;exact(Int.ofNat_tmod k R).symm
     dsimp only;rw[mR,mg,ak,L,hb,hmul,aZ,aq,bO,Y];simp only[List.length_cons,List.length_nil,fh];rw[U,aq,bE,aA5]) (by
     unfold Ie az xG;dsimp only;rw[mR,mg,ak,L,hb,hmul,bq,au]) (bJ)
    rw[cc]at e
    refine(bx (λo=>Option.bind o _) e).trans ?_
    rw[hb,hR];rfl
def aA6(b R:Nat)(hR:0<R)(j:Nat)(C:j <= R):mj (b*R+j) R=mj (b*R) R++(List.range j).map (λi:Nat=>(i:Int)):=by
 unfold mj;rw[List.range_add,List.map_append,List.map_map];congr 1
 refine List.map_congr_left λi hi=>?_
 have hi:=fz.1 hi;simp only[Function.comp,Lr];rw[Nat.mul_comm,Nat.mul_add_mod,Nat.mod_eq_of_lt (by omega)]
def ajV(g:aN)(n:Int):JZ g n=some (sC g n):=by
 unfold JZ sC bA;rw[xT,ak];cases C:cy g with
 |false=>simp[jJ,C]
 | true=>
  simp only[bK,au,dY,ak];cases D:aP n 0 2 with
  |false=>simp[jJ,D]
  | true=>
   have Y:=bG.1 D;have Z:=fm C;simp only[bK,au];rw[aY];by_cases I:g.rows-n<2
   ·have:decide (2<=g.rows-n)=false:=bq;rw[aZ I,aq];simp[jJ,this]
   ·have O:jJ g n=true:=by simp[jJ,C,D];omega
    rw[bq I,au,O,aq];have T:=eN g;obtain⟨E,hb⟩:=fA T.1;obtain⟨R,hR⟩:=fA (show 0<=g.rows-n by omega);have L:W6 (g.rows-n)=(R:Int):=by rw[hR];exact aY
    have inner:∀ b:Nat,b<E->iter EZ aS ((n,(),(),(),(b:Int),(0:Int),()),((g.bR,g.aB,g.rows,g.aM,()),((0:Int),(),()),(n,(),()),([]:aa Int),mj (b*R) R,()))=some (.inl ((n,(),(),(),(b:Int),()),((g.bR,g.aB,g.rows,g.aM,()),((0:Int),(),()),(n,(),()),([]:aa Int),mj ((b+1)*R) R,()))):=by
     intro b Ls;have hm:b*R<=8*16:=Nat.mul_le_mul (by omega) (by omega);have e:=cz (step:=EZ) R (λj=>((n,(),(),(),(b:Int),(j:Int),()),((g.bR,g.aB,g.rows,g.aM,()),((0:Int),(),()),(n,(),()),([]:aa Int),mj (b*R) R++(List.range j).map (λi:Nat=>(i:Int)),())))
      (.inl ((n,(),(),(),(b:Int),()),((g.bR,g.aB,g.rows,g.aM,()),((0:Int),(),()),(n,(),()),([]:aa Int),mj (b*R) R++(List.range R).map (λi:Nat=>(i:Int)),()))) aS (λk h=>by
      unfold EZ az xG;have U:bF ((mj (b*R) R++(List.range k).map (λi:Nat=>(i:Int))).length+1)=true:=cM (by simp[Yu];omega);dsimp only;rw[L,aZ,aq];simp only[List.length_cons,List.length_nil,fh];rw[U,aq,bE,List.range_succ,List.map_append,List.append_assoc];rfl) (by
      unfold EZ az xG;dsimp only;rw[L,bq,au]) (bJ)
     rw[cc,List.range_zero,List.map_nil,List.append_nil]at e;rw[e,<-aA6 b R (by omega) R (dJ _),iP]
    have e:=cz (step:=JY) E (λi=>((n,(),(),(),(i:Int),()),((g.bR,g.aB,g.rows,g.aM,()),((0:Int),(),()),(n,(),()),([]:aa Int),mj (i*R) R,())))
     (.inl (((),(),()),(((0:Int),(),()),(n,(),()),([]:aa Int),mj (E*R) R,()))) aS (λk h=>by
     unfold JY az xG bA;dsimp only;rw[mR,oa,ak,hb,aZ,aq]
     refine(bx (λo=>Option.bind o _) (inner k h)).trans ?_
     rw[ak];simp only[dZ];rw[bE]) (by
     unfold JY az xG bA;dsimp only;rw[mR,oa,ak,hb,bq,au]) (bJ)
    rw[cc,Nat.zero_mul]at e
    refine(bx (λo=>Option.bind o _) e).trans ?_
    rw[hb,hR];rfl
def CK(t:cP):Int:=(q7 t).getD 0
def Yw(t:cP):q7 t=some (CK t):=by
 obtain⟨y,e⟩:=aA4 t;unfold CK;rw[e];rfl
def aA7(t:cP):Ig t=some (CK t):=by rw[aA3,Yw]
def Yx(m:m9):J3 m=some (aP m.order 0 2):=by
 unfold J3;rw[dY];rfl
def aA8(m:m9):Ei m=some (aP m.order 0 2):=by
 unfold Ei;rw[dO];rfl
def nH(c:eB):Bool:=cy c.ax&&(ju c.aE&&(aP c.mapping.order 0 2&&(jJ c.ax c.bB&&(aP c.interval (CK c.aE) 10000&&(aP c.eD 1 16&&(aP c.cA.br (W6 ((6:Int)*c.interval)) 100000&&aP c.cA.bh 0 100000))))))
def Rd(g:aN)(n:Int):(sC g n).2=jJ g n:=by
 unfold sC;cases jJ g n<;>rfl
def Re(c:eB):PT c=some (nH c):=by
 unfold PT nH;simp only[ajV,xT,Ra,Yx,Yw,dY,ak,Rd];cases cy c.ax<;>cases ju c.aE<;>cases aP c.mapping.order 0 2<;>cases jJ c.ax c.bB<;>cases aP c.interval (CK c.aE) 10000<;>cases aP c.eD 1 16<;>cases aP c.cA.br (W6 ((6:Int)*c.interval)) 100000<;>rfl
def aA9(c:eB):Ok c=some (nH c):=by
 unfold Ok nH;simp only[Yv,Rb,aA8,aA7,dO,ak,Rd];cases h:jJ c.ax c.bB with
 |false=>cases cy c.ax<;>cases ju c.aE<;>cases aP c.mapping.order 0 2<;>rfl
 | true=>
  rw[(Rc h).1];cases ju c.aE<;>cases aP c.mapping.order 0 2<;>cases aP c.interval (CK c.aE) 10000<;>cases aP c.eD 1 16<;>cases aP c.cA.br (W6 ((6:Int)*c.interval)) 100000<;>rfl
def ajW{c:eB}(h:nH c=true):cy c.ax=true/\ju c.aE=true/\jJ c.ax c.bB=true/\aP c.eD 1 16=true:=by
 simp[nH,aQ]at h;simp_all
def ajX{t:cP}(h:ju t=true):(1 <= t.ef/\t.ef <= 64)/\1 <= t.rp/\t.rp <= 64:=by
 simp[ju,aQ,cv]at h;have C:=h.1 t.ef (by simp[qc]);have D:=h.1 t.rp (by simp[qc]);simp[Ax,bG]at C D;simp_all
def nI(s:cw):Bool:=aP s.weight 1 9&&aP s.fD 0 s.weight
def iA(l:aa cw):Bool:=l.all nI&&aP (l.length:Int) 1 4
def Lt(l:aa cw)(hl:l.length<1073741824):E5 l=some (iA l):=by
 unfold E5 iA bM;have e:=gi (step:=J4) l nI (λi=>((l,l,l.length,i,()),())) _ (.inr (.inl ((l,()),()))) aS (λk h=>by
  unfold J4 az aT xG xI;simp (disch:=omega) [h,bE,dY,nI];cases aP l[k].weight 1 9<;>cases aP l[k].fD 0 l[k].weight<;>rfl) (by unfold J4 az aT xG xI;simp) (bJ hl)
 rw[cc]at e;rw[e];cases l.all nI<;>simp[dY]
def Yy(l:aa cw)(hl:l.length<1073741824):Ej l=some (iA l):=by
 unfold Ej iA bM;have e:=gi (step:=Ih) l nI (λi=>((l,i,()),())) _ (.inr (.inl ((l,()),()))) aS (λk h=>by
  unfold Ih az aT xG xI;simp (disch:=omega) [h,bE,dO,nI];cases aP l[k].weight 1 9<;>cases aP l[k].fD 0 l[k].weight<;>rfl) (by unfold Ih az aT xG xI;simp) (bJ hl)
 rw[cc]at e;rw[e];cases l.all nI<;>simp[dO]
def jX(w:Int):cw:=⟨w,w⟩
def xX(l:aa Int):aa cw×Bool:=bif iA (l.map jX)then (l.map jX,true)else ([],false)
def ajY{l:aa Int}{k:Nat}(h:k<l.length):(l.take (k+1)).map jX=(l.take k).map jX++[⟨l[k],l[k]⟩]:=by
 rw[List.take_succ_eq_append_getElem h,List.map_append];rfl
def Yz(l:aa Int)(hl:l.length<1073741823):Cr l=some (xX l):=by
 unfold Cr xX bA;have e:=cz (step:=J5) l.length (λi=>(((),l,(l.length:Int),(i:Int),()),((l.take i).map jX,()))) _ aS (λk h=>by
  unfold J5 az xG xI;have C:bF (((l.take k).map jX).length+1)=true:=cM (by simp;omega);dsimp only;rw[aZ,aq,aA ⟨by omega,by omega⟩];simp only[List.length_cons,List.length_nil,fh,bC];rw[C,aq,bE,ajY h]) (by
  unfold J5 az xG xI;dsimp only;rw[bq,au,jz]) (bJ)
 refine(bx (λo=>Option.bind o _) e).trans ?_
 rw[ak];simp only[dZ];rw[Lt _ (by simp;omega),ak]
 grind
def YA(l:aa Int)(hl:l.length<1073741823):zP l=some (xX l):=by
 unfold zP xX bA;have e:=cz (step:=Ii) (min l.length 5) (λi=>((l,(),(i:Int),()),((l.take i).map jX,()))) (.inl (((),()),((l.take 5).map jX,()))) aS (λk h=>by
  have C:k<l.length:=by omega
  unfold Ii az xG xI;have D:bF (((l.take k).map jX).length+1)=true:=cM (by simp;omega);dsimp only;rw[aZ,aq,aZ,aq,aA ⟨by omega,by omega⟩,aA ⟨by omega,by omega⟩];simp only[List.length_cons,List.length_nil,fh,bC];rw[D,aq,bE,ajY C]) (by
  unfold Ii az xG xI;dsimp only;by_cases c:l.length <= 5
  ·rw[Nat.min_eq_left c,jz,List.take_of_length_le c];by_cases L:l.length=5
   ·rw[bq,au]
   ·rw[bq,au]
  ·rw[Nat.min_eq_right (by omega),aZ,aq,bq,au]) (bJ)
 rw[cc,List.take_zero,List.map_nil]at e
 refine(bx (λo=>Option.bind o _) e).trans ?_
 rw[ak];simp only[dZ];rw[Yy _ (by simp;omega),ak];by_cases c:l.length <= 5
 ·rw[List.take_of_length_le c];cases iA _<;>rfl
 ·have E:iA (l.map jX)=false:=by
   unfold iA;have:aP ((l.map jX).length:Int) 1 4=false:=by
    rw[Bool.eq_false_iff];intro h;have:=(bG.1 h).2
    grind
   rw[this,Bool.and_false]
  have I:iA ((l.take 5).map jX)=false:=by
   unfold iA;have:aP (((l.take 5).map jX).length:Int) 1 4=false:=by
    rw[Bool.eq_false_iff];intro h;have:=(bG.1 h).2
    grind
   rw[this,Bool.and_false]
  rw[E,I];rfl
def ajZ(l:aa Int):(xX l).2=iA (l.map jX):=by
 unfold xX;cases iA (l.map jX)<;>rfl
def mS(d:jn):Bool:=decide (d.low >= 0)&&(decide (d.low<d.high)&&decide (d.high<=12))
def YB(d:jn):Cq d=some (mS d):=by
 unfold Cq mS
 grind
def Rf(d:jn):B3 d=some (mS d):=by
 unfold B3 mS
 grind
def xY(r:qx):Bool:=aP r.down 1 10000&&(decide (r.sleep > r.down)&&decide (r.sleep<=20000))
def aj0(r:qx):J6 r=some (xY r):=by
 unfold J6 xY;rw[dY]
 grind
def aj1(r:qx):Ij r=some (xY r):=by
 unfold Ij xY;rw[dO]
 grind
def o7(p:dM):Bool:=aP p.dz 0 1&&(aP p.cap 0 100000&&(aP p.dK 3 1000&&(mS ⟨false,p.low,p.high⟩&&((p.weights.length:Int)==4&&(iA (p.weights.map jX)&&xY p.cN)))))
def YC(p:dM)(hl:p.weights.length<1073741823):El p=some (o7 p):=by
 unfold El o7;simp[YA _ hl,ak,dO,Rf,aj1,ajZ]
 grind
def aBa(x:Int):aP x 0 1=(x==0 || x==1):=by
 rw[Bool.eq_iff_iff];simp[aP];omega
def Rg(p:dM)(hl:p.weights.length<1073741823):PU p=some (o7 p):=by
 unfold PU o7;simp[Yz _ hl,ak,dY,YB,aj0,ajZ,aBa]
 grind
def aBb(x:Int):Om x=Ai x:=by
 unfold Om Ai;rw[dO,dY]
def YD(x:Int):∃ y,Ai x=some y:=by
 unfold Ai;rw[dY];cases aP x 3 1000<;>exact⟨_,rfl⟩
def YE(c:eB)(p:dM)(hl:p.weights.length<1073741823):∃ b,su c p=some b/\(b=true->nH c=true):=by
 unfold su;obtain⟨y,e⟩:=YD p.dK;simp only[Re,Rg _ hl,e,ak];cases C:nH c with
 |false=>exact⟨false,rfl,λh=>by cases h⟩
 | true=>
  have E:=ajX (ajW C).2.1;have D:¬ W6 (c.aE.ef+c.aE.rp)=0:=by
   rw[aY];omega
  cases o7 p with
  |false=>exact⟨false,rfl,λ_=>rfl⟩
  | true=>
   simp only[bO D,bK,au,aq];cases decide (W6 (y+2)<=c.cA.bh)<;>exact⟨_,rfl,λ_=>by first|rfl|trivial⟩
def aBc(c:eB)(p:dM)(hl:p.weights.length<1073741823):∃ b,su c p=some b/\xj c p=some b/\(b=true->nH c=true):=by
 unfold su xj;obtain⟨y,e⟩:=YD p.dK;simp only[Re,aA9,Rg _ hl,YC _ hl,aBb,e,ak];cases C:nH c with
 |false=>exact⟨false,rfl,rfl,λh=>by cases h⟩
 | true=>
  have E:=ajX (ajW C).2.1;have D:¬ W6 (c.aE.ef+c.aE.rp)=0:=by
   rw[aY];omega
  cases o7 p with
  |false=>exact⟨false,rfl,rfl,λ_=>rfl⟩
  | true=>
   simp only[bO D,bK,au,aq];cases decide (W6 (y+2)<=c.cA.bh)<;>exact⟨_,rfl,rfl,λ_=>by first|rfl|trivial⟩
def aj2(i:Nat)(l:aa eP):((opens i l).length==0)=l.all λb=>!b.open_:=by
 induction l generalizing i with
 |nil=>rfl
 | cons x a C=>
  simp[opens,List.all_cons]
  grind
def ru(g:aN)(b:eP):Bool:=aP b.row 0 (g.rows-1)&&(b.open_ ||b.row==0)
def lP(g:aN)(r:cD):Bool:=cy g&&(((r.aB.length:Int)==aW g)&&(aP r.aR 0 2&&(r.aB.all (ru g)&&(r.aR != 2 ||r.aB.all λb=>!b.open_))))
def aj3(g:aN)(r:cD):J8 g r=some (lP g r):=by
 unfold J8 lP bM;rw[xT,ak,oa];cases D:cy g with
 |false=>rfl
 | true=>
  simp only[bK,au,ak,cm];by_cases C:(r.aB.length:Int)=aW g
  ·have I:=eN g;have L:=fm D;simp only[C,bne_self_eq_false,au,lT,cm,dY,ak];cases O:aP r.aR 0 2 with
   |false=>rfl
   | true=>
    have e:=gi (step:=J7) r.aB (ru g) (λi=>(((),(),r.aB,(r.aB.length:Int),(i:Int),()),((g.bR,g.aB,g.rows,g.aM,()),(r.aB,r.aR,()),()))) (.inl ((false,()),())) (.inr (.inl (((),()),((r.aB,r.aR,()),())))) aS (λk h=>by
     unfold J7 az aT xG xI;dsimp only;rw[aZ,aq,aA ⟨by omega,by omega⟩];simp only[bC,dY,ak];rw[aY (n:=g.rows-1),bE];unfold ru;cases aP r.aB[k].row 0 (g.rows-1)with
     |false=>rfl
     | true=>
      cases r.aB[k].open_ with
      |true=>rfl
      | false=>
       simp[bne];cases r.aB[k].row==0<;>rfl) (by
     unfold J7 az aT xG xI;dsimp only;rw[bq,au]) (bJ)
    rw[cc,C]at e;simp only[bK,au,cm]
    refine(bx (λo=>Option.bind o _) e).trans ?_
    rw[ak];cases r.aB.all (ru g)with
    |false=>rfl
    | true=>
     simp only[aq,Sum.elim_inr,dZ,cm];cases T:r.aR != 2 with
     |true=>rfl
     | false=>
      simp;rw[Q6 ⟨r.aB,r.aR⟩ (by show r.aB.length<_;omega),ak,<- aj2 0 r.aB];congr 1
      grind
  ·have E:((r.aB.length:Int)==aW g)=false:=by simp[C]
   rw[fZ C,E];rfl
def aBd(g:aN)(r:cD):PI g r=some (lP g r):=by
 unfold PI lP bM;rw[xU,ak,mg];cases E:cy g with
 |false=>rfl
 | true=>
  simp only[bK,au,ak,cm];by_cases D:(r.aB.length:Int)=aW g
  ·have O:=eN g;have T:=fm E;simp only[D,bne_self_eq_false,au,lT,cm,dO,ak];cases U:aP r.aR 0 2 with
   |false=>rfl
   | true=>
    have e:=gi (step:=JR) r.aB (λb=>ru g b&&(r.aR != 2 || !b.open_)) (λi=>(((),(),(i:Int),()),((g.bR,g.aB,g.rows,g.aM,()),(r.aB,r.aR,()),()))) (.inl ((false,()),())) (.inr (.inl ((),()))) aS (λk h=>by
     unfold JR az aT xG xI;dsimp only;rw[aZ,aq,aA ⟨by omega,by omega⟩];simp only[bC,dO,ak];rw[aY (n:=g.rows-1),bE];unfold ru;simp only[bne];cases aP r.aB[k].row 0 (g.rows-1)with
     |false=>rfl
     |true=>cases r.aB[k].open_<;>cases r.aB[k].row==0<;>cases r.aR==2<;>rfl) (by
     unfold JR az aT xG xI;dsimp only;rw[bq,au]) (bJ)
    rw[cc]at e;simp only[bK,au,cm]
    refine(bx (λo=>Option.bind o _) e).trans ?_
    rw[ak];have I:(r.aB.all λb=>ru g b&&(r.aR != 2 || !b.open_))=(r.aB.all (ru g)&&(r.aR != 2 || r.aB.all λb=>!b.open_)):=by
     cases r.aR != 2 with
     |true=>simp
     | false=>
      simp only[Bool.false_or];rw[Bool.eq_iff_iff];simp only[cv,aQ];exact⟨λh=>⟨λx C=>(h x C).1,λx C=>(h x C).2⟩,λh x C=>⟨h.1 x C,h.2 x C⟩⟩
    rw[I];cases (r.aB.all (ru g)&&(r.aR != 2 ||r.aB.all λb=>!b.open_))<;>rfl
  ·have L:((r.aB.length:Int)==aW g)=false:=by simp[D]
   rw[fZ D,L];rfl
def Ay(d:Int):Bool:=aP d (-2) 5
def ff(r:dn):Bool:=r.aH.all Ay&&(aP (r.aH.length:Int) 1 8&&aP r.wait 1 10000)
def Rh(r:dn)(hl:r.aH.length<1073741824):Al r=some (ff r):=by
 unfold Al ff bM;have e:=gi (step:=Kf) _ Ay (λi=>(((),r.aH,r.aH.length,i,()),((r.aH,r.wait,r.dL,()),()))) _ (.inr (.inl (((),()),((r.aH,r.wait,r.dL,()),())))) aS (λk h=>by
  unfold Kf az aT xG xI;simp (disch:=omega) [h,bE,dY,Ay];cases aP r.aH[k] _ 5<;>rfl) (by unfold Kf az aT xG xI;simp) (bJ hl)
 rw[cc]at e;rw[e];cases r.aH.all Ay<;>simp[dY]
 grind
def Lu(r:dn)(hl:r.aH.length<1073741824):z0 r=some (ff r):=by
 unfold z0 ff bM;have e:=gi (step:=IV) _ Ay (λi=>(((),i,()),((r.aH,r.wait,r.dL,()),()))) _ (.inr (.inl (((),()),((r.aH,r.wait,r.dL,()),())))) aS (λk h=>by
  unfold IV az aT xG xI;simp (disch:=omega) [h,bE,dO,Ay];cases aP r.aH[k] _ 5<;>rfl) (by unfold IV az aT xG xI;simp) (bJ hl)
 rw[cc]at e;rw[e];cases r.aH.all Ay<;>simp[dO]
 grind
def gL{T:Type}(p:T->Bool)(l:aa T):Int:=match l.findIdx? p with
 |some i=>(i:Int)
 |none=>-1
def vE{α β T:Type}{step:α -> ah (α⊕β)}(l:aa T)(p:T -> Bool)(S:Nat -> α)(D:Nat -> β)(z:β)(fuel:Nat)(E:∀ k (h:k<l.length),step (S k)=some (bif p l[k]then .inr (D k)else .inl (S (k+1))))(I:step (S l.length)=some (.inr z))(C:l.length<fuel):
  iter step fuel (S 0)=some (match l.findIdx? p with|some i=>D i|none=>z):=by
 have key:∀ (n i fuel:Nat),i+n=l.length -> n<fuel -> (∀ j (h:j<l.length),j<i -> p l[j]=false) -> iter step fuel (S i)=some (match l.findIdx? p with | some i=>D i | none=>z):=by
  intro n
  induction n with
  | zero=>
   intro i fuel hi C L
   match fuel,C with
   | f+1,_=>
    have:i=l.length:=by omega
    subst this;have e:l.findIdx? p=none:=by
     rw[List.findIdx?_eq_none_iff];intro x O;obtain⟨j,U,rfl⟩:=jN.1 O
     grind
    unfold iter;rw[I,e]
  | succ n Y=>
   intro i fuel hi C L
   match fuel,C with
   | f+1,C=>
    have Z:i<l.length:=by omega
    unfold iter;rw[E i Z];cases hp:p l[i]with
    | true=>
     have e:l.findIdx? p=some i:=by
      rw[m8]
      grind
     rw[e];rfl
    | false=>
     simp only[au]
     refine Y (i+1) f (by omega) (by omega) λj U Hz=>?_
     by_cases e:j=i
     ·grind
     ·grind
 exact key l.length 0 fuel (by omega) C λj _ h=>by omega
def FC{T:Type}{p:T -> Bool}{l:aa T}{i:Nat}(h:i<l.length)(E:p l[i]=true):(gL p l != (i:Int))=(l.take i).any p:=by
 unfold gL;cases C:(l.take i).any p with
 | false=>
  have e:l.findIdx? p=some i:=by
   rw[m8]
   refine⟨h,E,λj D=>?_⟩
   have:=List.any_eq_false.1 C l[j] (jN.2 ⟨j,by simp;omega,by simp⟩);exact this
  rw[e];simp
 | true=>
  have⟨x,I,O⟩:=List.any_eq_true.1 C;obtain⟨j,D,rfl⟩:=jN.1 I;rw[gF]at D;cases L:l.findIdx? p with
  |none=>simp
  | some k=>
   have⟨U,Y,Z⟩:=m8.1 L;have:k≠i:=by
    grind
   simp only;simp;omega
def Ri(x:Int):Bool:=aP x 0 4294967295
def o8(n:Int)(r:aU):Bool:=aP r.id 1 100000&&(aP r.dh 0 3&&(decide (r.line >= 0)&&(decide (r.line<n)&&(Ri r.data&&((r.write ||r.data==0)&&aP r.at_ 0 1000000)))))
def aBe(n:Int)(r:aU):P1 n r=some (o8 n r):=by
 unfold P1 o8 Cw Ri;simp[dY]
 grind
def aBf(n:Int)(r:aU):Ow n r=some (o8 n r):=by
 unfold Ow o8 Io Ri;simp[dO]
 grind
def gB(x y:aU):Bool:=decide (x.at_<y.at_) ||(x.at_==y.at_&&decide (x.id<y.id))
def aj4(x y:aU):P0 x y=some (gB x y):=by
 unfold P0 gB
 grind
def aj5(x y:aU):Ox x y=some (gB x y):=aj4 x y
def YF(l:aa aU)(id:Int)(hl:l.length<1073741824):Iq l id=some (gL (λr=>r.id==id) l):=by
 unfold Iq gL bM;have e:=vE (step:=Ip) l (λr=>r.id==id) (λi=>((l,id,i,()),())) _ (.inr (.inl ((),()))) aS (λk h=>by
  unfold Ip az aT xG xI;simp (disch:=omega) [h,bE];cases l[k].id==id<;>rfl) (by unfold Ip az aT xG xI;simp) (bJ hl)
 rw[cc]at e;rw[e];cases l.findIdx? _<;>rfl
def rz(n:Int)(q:aa aU)(i:Nat):Bool:=match q[i]? with
 |some r=>o8 n r&&((i==0 ||(match q[i-1]? with|some x=>gB x r|none=>false)) && !((q.take i).any λx=>x.id==r.id))
 |none=>false
def YG{n:Int}{q:aa aU}(h:0<q.length):rz n q 0=o8 n q[0]:=by
 unfold rz;rw[bS h];simp
def Lv{n:Int}{q:aa aU}{i:Nat}(h:i+1<q.length):rz n q (i+1)=(o8 n q[i+1]&&(gB q[i] q[i+1] && !((q.take (i+1)).any λx=>x.id==q[i+1].id))):=by
 unfold rz
 grind
def jl(n:Int)(q:aa aU):Bool:=(List.range q.length).all (rz n q)&&decide ((q.length:Int)<=12)
def YH(n:Int)(q:aa aU):vi n q=some (jl n q):=by
 unfold vi jl bM;by_cases c:(q.length:Int)<=12
 ·rw[bq (show ¬ (q.length:Int) > 12 by omega),au,aZ c,Bool.and_true];have e:=gi (step:=Ir) (List.range q.length) (rz n q) (λi=>((n,q,(i:Int),()),())) (.inl ((false,()),())) (.inr (.inl ((),()))) aS (λk h=>by
   rw[cT]at h;rw[jM];unfold Ir az aT xG xI;dsimp only;rw[aZ,aq,aA ⟨by omega,by omega⟩];simp only[bC,aBf,ak];cases k with
   | zero=>
    rw[YG h];cases o8 n q[0]with
    |false=>rfl
    | true=>
     simp only[bK,au,aq];rw[bq,au,aA ⟨by omega,h⟩,YF _ _ (by omega),ak,FC h (by simp)];simp;rfl
   | succ k=>
    rw[Lv h];cases o8 n q[k+1]with
    |false=>rfl
    | true=>
     simp only[bK,au,cm];have C:W6 (((k+1:Nat):Int)-1)=(k:Int):=by rw[aY];omega
     simp only[C,bC];rw[aZ,aq,aA ⟨by omega,by omega⟩,aA ⟨by omega,h⟩,aj5,ak];cases gB q[k] q[k+1]with
     |false=>rfl
     | true=>
      simp only[bK,au,cm];rw[aA ⟨by omega,h⟩,YF _ _ (by omega),ak,FC h (by simp),bE];cases (q.take (k+1)).any λx=>x.id==q[k+1].id<;>rfl) (by
   rw[cT];unfold Ir az aT xG xI;dsimp only;rw[bq,au]) (by rw[cT];exact bJ)
  rw[cc]at e
  refine(bx (λo=>Option.bind o _) e).trans ?_
  rw[ak];cases (List.range q.length).all (rz n q)<;>rfl
 ·rw[aZ (show (q.length:Int) > 12 by omega),aq,bq c,Bool.and_false]
def aBg(n:Int)(q:aa aU){i:Nat}(h:i<q.length)(hl:q.length<1073741824):
  iter E9 aS ((n,q,(),q,(q.length:Int),(i:Int),((q.take i).drop 0),(((q.take i).drop 0).length:Int),(0:Int),()),((q[i].id,q[i].dh,q[i].line,q[i].write,q[i].data,q[i].at_,()),()))=some (bif (q.take i).any (λx=>x.id==q[i].id)then .inl ((false,()),())else .inr (.inl ((n,q,q,(q.length:Int),(i:Int),()),()))):=by
 rw[List.drop_zero];have hlen:(q.take i).length=i:=by rw[gF];omega
 generalize C:q[i]=r;generalize D:q.take i=t at *
 have e:=gi (step:=E9) t (λx=>!(x.id==r.id)) (λj=>((n,q,(),q,(q.length:Int),(i:Int),t,(t.length:Int),(j:Int),()),((r.id,r.dh,r.line,r.write,r.data,r.at_,()),()))) (.inl ((false,()),())) _ aS (λk h=>by
  unfold E9 az aT xG xI;dsimp only;rw[aZ,aq,aA ⟨by omega,by omega⟩];simp only[bC];rw[bE];cases t[k].id==r.id<;>rfl) (by
  unfold E9 az aT xG xI;dsimp only;rw[bq,au]) (bJ)
 grind
def aBh(n:Int)(q:aa aU)(hl:q.length<1073741824):P2 n q=some (jl n q):=by
 unfold P2 jl bM;have e:=gi (step:=Kj) (List.range q.length) (rz n q) (λi=>((n,q,q,(q.length:Int),(i:Int),()),())) (.inl ((false,()),())) (.inr (.inl ((q,()),()))) aS (λk h=>by
   rw[cT]at h;rw[jM];unfold Kj az aT xG xI bM;dsimp only;rw[aZ,aq,aA ⟨by omega,by omega⟩];simp only[bC,aBe,ak];have C:=aBg n q h hl;cases k with
   | zero=>
    rw[YG h];cases o8 n q[0]with
    |false=>rfl
    | true=>
     simp only[bK,au,aq];rw[bq,au,bN ⟨by omega,by omega,by omega⟩]
     refine(bx (λo=>Option.bind o _) C).trans ?_
     simp;rfl
   | succ k=>
    rw[Lv h];cases o8 n q[k+1]with
    |false=>rfl
    | true=>
     simp only[bK,au,cm];have D:W6 (((k+1:Nat):Int)-1)=(k:Int):=by rw[aY];omega
     simp only[D,bC];rw[aZ,aq,aA ⟨by omega,by omega⟩,aj4,ak];cases gB q[k] q[k+1]with
     |false=>rfl
     | true=>
      simp only[bK,au,cm];rw[bN ⟨by omega,by omega,by omega⟩]
      refine(bx (λo=>Option.bind o _) C).trans ?_
      rw[ak];cases (q.take (k+1)).any λx=>x.id==q[k+1].id with
      |true=>rfl
      | false=>
       simp only[au,Sum.elim_inr,dZ];rw[bE];rfl) (by
   rw[cT];unfold Kj az aT xG xI bM;dsimp only;rw[bq,au]) (by rw[cT];exact bJ)
 rw[cc]at e
 refine(bx (λo=>Option.bind o _) e).trans ?_
 rw[ak];cases (List.range q.length).all (rz n q)<;>rfl
def kE(p:fE):Bool:=aP p.state 0 2&&(aP p.since 0 1000000&&aP p.idle 0 1000000)
def YI(p:fE):Cx p=some (kE p):=by
 unfold Cx kE;simp[dY]
 grind
def Rj(p:fE):vk p=some (kE p):=by
 unfold vk kE;simp[dO]
 grind
def x8(e:cq):Bool:=aP e.line 0 1023&&((e.code==1 ||e.code==2)&&aP e.times 1 999)
def lQ(e x:cq):Bool:=x.line==e.line&&x.code==e.code
def FD(l:aa cq)(i:Nat):Bool:=match l[i]? with
 |some e=>x8 e && !((l.take i).any (lQ e))
 |none=>false
def Rk{l:aa cq}{i:Nat}(h:i<l.length):FD l i=(x8 l[i] && !((l.take i).any (lQ l[i]))):=by
 unfold FD;rw[bS h]
def kT(l:aa cq):Bool:=(List.range l.length).all (FD l)&&decide ((l.length:Int)<=6)
def aj6(l:aa cq)(e:cq)(hl:l.length<1073741824):I4 l e.line e.code=some (gL (lQ e) l):=by
 unfold I4 gL bM;have e:=vE (step:=I3) l (lQ e) (λi=>((l,e.line,e.code,i,()),())) _ _ aS (λk h=>by
  unfold I3 lQ az aT xG xI;dsimp only;rw[aZ,aq,aA ⟨by omega,by omega⟩,aA ⟨by omega,by omega⟩];simp only[bC];rw[bE];cases l[k].line==e.line<;>cases l[k].code==e.code<;>rfl) (by
  unfold I3 az aT xG xI;dsimp only;rw[bq,au]) (bJ hl)
 rw[cc]at e;rw[e];cases l.findIdx? _<;>rfl
def aj7(l:aa cq):I6 l=some (kT l):=by
 unfold I6 kT bM;by_cases c:(l.length:Int) <= 6
 ·rw[bq (show ¬ (l.length:Int) > 6 by omega),au,aZ c,Bool.and_true];have e:=gi (step:=I5) _ (FD l) (λi=>((l,(i:Int),()),())) _ _ aS (λk h=>by
   rw[cT]at h;rw[jM,Rk h];unfold I5 EF x8 az aT xG xI;dsimp only;rw[aZ,aq,aA ⟨by omega,by omega⟩,aA ⟨by omega,by omega⟩,aA ⟨by omega,by omega⟩];simp only[bC,dO,ak];rw[aj6 _ _ (by omega),ak,FC h (by simp[lQ]),bE];cases aP l[k].line 0 1023<;>cases l[k].code==1<;>cases l[k].code==2<;>cases aP l[k].times 1 999<;>cases (l.take k).any (lQ l[k])<;>rfl) (by
   rw[cT];unfold I5 az aT xG xI;dsimp only;rw[bq,au]) (by rw[cT];exact bJ)
  refine(bx (λo=>Option.bind o _) e).trans ?_
  rw[ak];cases (List.range l.length).all (FD l)<;>rfl
 ·rw[aZ (show (l.length:Int) > 6 by omega),aq,bq c,Bool.and_false]
def aBi(l:aa cq){i:Nat}(h:i<l.length)(hl:l.length<1073741824):
  iter Fa aS ((l,(),l,(l.length:Int),(i:Int),((l.take i).drop 0),(((l.take i).drop 0).length:Int),(0:Int),()),((l[i].line,l[i].code,l[i].times,()),()))=some (bif (l.take i).any (lQ l[i])then .inl ((false,()),())else .inr (.inl ((l,l,(l.length:Int),(i:Int),()),()))):=by
 rw[List.drop_zero];have hlen:(l.take i).length=i:=by rw[gF];omega
 generalize C:l[i]=r;generalize D:l.take i=t at *
 have e:=gi (step:=Fa) t (λx=>!(lQ r x)) (λj=>((l,(),l,(l.length:Int),(i:Int),t,(t.length:Int),(j:Int),()),((r.line,r.code,r.times,()),()))) _ _ aS (λk h=>by
  unfold Fa lQ az aT xG xI;dsimp only;rw[aZ,aq,aA ⟨by omega,by omega⟩];simp only[bC];rw[bE,BEq.comm (a:=r.line),BEq.comm (a:=r.code)];cases t[k].line==r.line<;>cases t[k].code==r.code<;>rfl) (by
  unfold Fa az aT xG xI;dsimp only;rw[bq,au]) (bJ)
 grind
def aj8(l:aa cq)(hl:l.length<1073741824):Kl l=some (kT l):=by
 unfold Kl kT bM;have e:=gi (step:=Kk) _ (FD l) (λi=>((l,l,l.length,i,()),())) _ _ aS (λk h=>by
   rw[cT]at h;rw[jM,Rk h];have C:=aBi l h hl;unfold Kk x8 az aT xG xI bM;dsimp only;rw[aZ,aq,aA ⟨by omega,by omega⟩];simp only[bC,dY,ak,bne];rw[bN ⟨by omega,by omega,by omega⟩];rw[show (0:Int).toNat=0 from rfl,C];cases aP l[k].line 0 1023<;>cases l[k].code==1<;>cases l[k].code==2<;>cases aP l[k].times 1 999<;>cases (l.take k).any (lQ l[k])<;>first|rfl|(simp only[aq,au,bK,gZ,ak,Sum.elim_inr,dZ];rw[bE];rfl)) (by
   rw[cT];unfold Kk az aT xG xI bM;dsimp only;rw[bq,au]) (by rw[cT];exact bJ)
 refine(bx (λo=>Option.bind o _) e).trans ?_
 cases (List.range _).all _<;>rfl
def Ro(l:aa Int)(x:Int)(hl:l.length<1073741824):Cu l x=some (gL (λe=>x==e) l):=by
 unfold Cu gL;have e:=vE (step:=Kg) l (λe=>x==e) (λi=>((l,x,l.length,i,()),())) _ _ aS (λk h=>by
  unfold Kg az aT xG xI;dsimp only;rw[aZ,aq,aA ⟨by omega,by omega⟩];simp only[bC];rw[bE];cases x==l[k]<;>rfl) (by
  unfold Kg az aT xG xI;dsimp only;rw[bq,au]) (bJ hl)
 rw[cc]at e;rw[e];cases l.findIdx? _<;>rfl
def CL(t:ck)(i:Nat):Bool:=match t.rows[i]?,t.counts[i]? with
 |some r,some c=>aP r (-1) 15&&(aP c t.c9 100000&&((r != -1 ||c==0)&&(r == -1 ||!((t.rows.take i).any λx=>r==x))))
 |_,_=>false
def Rp{t:ck}{i:Nat}(h:i<t.rows.length)(C:i<t.counts.length):CL t i=(aP t.rows[i] (-1) 15&&(aP t.counts[i] t.c9 100000&&((t.rows[i] != -1 || t.counts[i]==0)&&(t.rows[i] == -1 || !((t.rows.take i).any λx=>t.rows[i]==x))))):=by
 unfold CL;rw[bS h,bS C]
def kF(t:ck):Bool:=aP (t.rows.length:Int) 1 16&&((t.rows.length:Int)==(t.counts.length:Int)&&(aP t.c9 0 100000&&(List.range t.rows.length).all (CL t)))
def YJ(t:ck):Am t=some (kF t):=by
 unfold Am kF bM;simp only[dY,ak];cases D:aP (t.rows.length:Int) 1 16 with
 |false=>rfl
 | true=>
  have D:=bG.1 D;by_cases C:(t.rows.length:Int)=(t.counts.length:Int)
  ·simp only[C,bne_self_eq_false,lT,bK,au,cm];cases O:aP t.c9 0 100000 with
   |false=>rfl
   | true=>
    have e:=gi (step:=Kh) (List.range t.rows.length) (CL t) (λi=>(((),t.rows,(t.rows.length:Int),(i:Int),()),((t.rows,t.counts,t.c9,()),()))) (.inl ((false,()),())) (.inr (.inl ((),()))) aS (λk h=>by
     rw[cT]at h;have E:k<t.counts.length:=by omega
     rw[jM,Rp h E];unfold Kh az aT xG xI;dsimp only;rw[aZ,aq,aA ⟨by omega,by omega⟩,aA ⟨by omega,by omega⟩,aA ⟨by omega,by omega⟩];simp only[bC,dY,ak,Ro _ _ (show t.rows.length<1073741824 by omega)];rw[FC (p:=λe=>t.rows[k]==e) h (by simp),bE];simp only[bne];cases aP t.rows[k] (-1) 15<;>cases aP t.counts[k] t.c9 100000<;>cases t.rows[k] == -1<;>cases t.counts[k]==0<;>cases (t.rows.take k).any (λe=>t.rows[k]==e)<;>rfl) (by
     rw[cT];unfold Kh az aT xG xI;dsimp only;rw[bq,au]) (by rw[cT];exact bJ)
    rw[cc,C]at e;simp only[bK,au,cm]
    refine(bx (λo=>Option.bind o _) e).trans ?_
    rw[ak];cases (List.range t.rows.length).all (CL t)<;>rfl
  ·have I:((t.rows.length:Int)==(t.counts.length:Int))=false:=by simp[C]
   have L:((t.counts.length:Int) != (t.rows.length:Int))=true:=fZ λh=>C h.symm
   rw[I,L];rfl
def aBj(t:ck){i:Nat}(h:i<t.rows.length)(hl:t.rows.length<1073741824):
  iter Er aS (((),(i:Int),(0:Int),()),((t.rows,t.counts,t.c9,()),()))=some (bif decide (t.rows[i] >= 0)&&(t.rows.take i).any (λx=>t.rows[i]==x)then .inl ((false,()),())else .inr (.inl (((),(i:Int),()),((t.rows,t.counts,t.c9,()),())))):=by
 have hlen:(t.rows.take i).length=i:=by rw[gF];omega
 have e:=gi (step:=Er) (t.rows.take i) (λx=>!(decide (t.rows[i] >= 0)&&t.rows[i]==x)) (λj=>(((),(i:Int),(j:Int),()),((t.rows,t.counts,t.c9,()),()))) _ _ aS (λk C=>by
  unfold Er az aT xG xI;dsimp only;rw[aZ,aq,aA ⟨by omega,by omega⟩,aA ⟨by omega,by omega⟩,aA ⟨by omega,by omega⟩];simp only[bC,List.getElem_take];rw[bE,BEq.comm (a:=t.rows[k])];cases decide (t.rows[i] >= 0)<;>cases t.rows[i]==t.rows[k]<;>rfl) (by
  rw[hlen];unfold Er az aT xG xI;dsimp only;rw[bq,au]) (bJ)
 grind
def YK(t:ck):B9 t=some (kF t):=by
 unfold B9 kF bM;simp only[dO,ak];cases D:aP (t.rows.length:Int) 1 16 with
 |false=>rfl
 | true=>
  have D:=bG.1 D;by_cases C:(t.rows.length:Int)=(t.counts.length:Int)
  ·simp only[C,bne_self_eq_false,lT,bK,au,cm];cases U:aP t.c9 0 100000 with
   |false=>rfl
   | true=>
    have e:=gi (step:=II) (List.range t.rows.length) (CL t) (λi=>(((),(i:Int),()),((t.rows,t.counts,t.c9,()),()))) (.inl ((false,()),())) (.inr (.inl ((),()))) aS (λk h=>by
     rw[cT]at h;have L:k<t.counts.length:=by omega
     have O:=aBj t h (by omega);rw[jM,Rp h L];unfold II az aT xG xI bM;dsimp only;rw[aZ,aq,aA ⟨by omega,by omega⟩,aA ⟨by omega,by omega⟩,aA ⟨by omega,by omega⟩,aA ⟨by omega,by omega⟩];simp only[bC,dO,ak];rw[O,ak];cases E:aP t.rows[k] (-1) 15 with
     |false=>rfl
     | true=>
      have E:=bG.1 E;cases aP t.counts[k] t.c9 100000 with
      |false=>rfl
      | true=>
       simp only[bK,au,cm,bne];by_cases I:t.rows[k] = -1
       ·rw[aZ (show t.rows[k]<0 by omega),bq (show ¬ t.rows[k] >= 0 by omega),show (t.rows[k] == -1)=true by simp[I]];simp;rw[bE]
        grind
       ·rw[bq (show ¬ t.rows[k]<0 by omega),aZ (show t.rows[k] >= 0 by omega),show (t.rows[k] == -1)=false by simp[I]];simp only[aq,au,cm];cases (t.rows.take k).any λx=>t.rows[k]==x with
        |true=>rfl
        | false=>
         simp;rw[bE];rfl) (by
     rw[cT];unfold II az aT xG xI bM;dsimp only;rw[bq,au]) (by rw[cT];exact bJ)
    rw[cc]at e;simp only[bK,au,cm]
    refine(bx (λo=>Option.bind o _) e).trans ?_
    rw[ak];cases (List.range t.rows.length).all (CL t)<;>rfl
  ·have T:((t.rows.length:Int)==(t.counts.length:Int))=false:=by simp[C]
   rw[T,fZ C];rfl
def aBk{b:aa Int}{c:aX}(D:fQ b c):Dr b (PE c) λ_=>True:=by
 unfold PE Oe;rw[ak,D.eq]
 refine(Av D _).bind λU Y Z C=>?_
 dsimp only;rw[C.eta];cases U with
 |false=>exact Dr.pure C trivial
 | true=>
  rw[aq]
  refine(cZ C _).bind λx2 k2 Gi E=>?_
  dsimp only;rw[E.eta]
  refine(cZ E _).bind λx3 k3 V0 I=>?_
  dsimp only;rw[I.eta]
  refine(cZ I _).bind λx4 k4 hx4 L=>?_
  dsimp only;rw[L.eta]
  refine(cZ L _).bind λx5 k5 hx5 O=>?_
  dsimp only;rw[O.eta]
  refine(cZ O _).bind λx6 k6 hx6 T=>?_
  dsimp only;rw[T.eta];exact Dr.pure T trivial
def w9(g:aN):W6 ((9:Int)*(W6 (aW g+(1:Int))))=9*(aW g+1):=by
 have:=eN g;rw[aY (n:=aW g+1),aY]
def Lw(k:Int):xK k=some (aP k 1 5):=by
 unfold xK;rw[dY];rfl
def aBl(n:Int)(u:Bool)(k:Int):Cy n u k=some (bif u then aP n 0 (W6 (k-1))else n==0):=by
 unfold Cy;rw[dY];cases u<;>rfl
def oe(g:aN)(i:Nat):Bool:=decide ((i:Int) / 9<aW g)==decide ((i:Int) % 9+1<=5)
def aBm(g:aN){i:Nat}(hi:i<1000):OH g (i:Int)=some (oe g i):=by
 unfold OH oe;rw[mg,ak,qv (by omega),qt (by omega),aY,aY,BEq.comm]
def aBn(g:aN){i:Nat}(hi:i<1000):∃ c,Cs g (i:Int)=some (c,oe g i):=by
 unfold Cs oe;rw[oa,ak,qv (by omega),qt (by omega),aY,aY,Lw];have:aP (i % 9+1) 1 5=decide ((i:Int) % 9+1 <= 5):=by
  simp[aP];omega
 rw[this];cases decide (i / 9<aW g)<;>exact⟨_,rfl⟩
def CM(g:aN)(l:aa Int)(i:Nat):Bool:=match l[i]? with
 |some e=>aP e (-1) 1000000&&(oe g i ||e == -1)
 |none=>false
def Lx{g:aN}{l:aa Int}{i:Nat}(h:i<l.length):CM g l i=(aP l[i] (-1) 1000000&&(oe g i || l[i] == -1)):=by
 unfold CM;rw[bS h]
def og(l:aa Int)(i:Nat):Bool:=match l[i]? with
 |some e=>aP e 0 1000000&&(i==0 ||(match l[i-1]? with|some x=>!(decide (x >= e))|none=>false))
 |none=>false
def Ly{l:aa Int}(h:0<l.length):og l 0=aP l[0] 0 1000000:=by
 unfold og;rw[bS h];simp
def FE{l:aa Int}{i:Nat}(h:i+1<l.length):og l (i+1)=(aP l[i+1] 0 1000000 && !(decide (l[i] >= l[i+1]))):=by
 unfold og
 grind
def kU(g:aN)(r:dy):Bool:=cy g&&((r.last.length:Int)==9*(aW g+1)&&(!(decide ((r.bf.length:Int) > 4))&&((List.range r.last.length).all (CM g r.last)&&(List.range r.bf.length).all (og r.bf))))
def YL(g:aN)(r:dy):E7 g r=some (kU g r):=by
 unfold E7 kU bM;rw[xT,ak,oa];cases O:cy g with
 |false=>rfl
 | true=>
  simp only[bK,au,ak,cm,w9];by_cases C:(r.last.length:Int)=9*(aW g+1)
  ·have T:=eN g;rw[C,bne_self_eq_false,au,lT,cm,<-C];cases D:decide ((r.bf.length:Int) > 4)with
   |true=>rfl
   | false=>
    have D:=of_decide_eq_false D;have l1:=gi (step:=J9) (List.range r.last.length) (CM g r.last) (λi=>(((),(),r.last,(r.last.length:Int),(i:Int),()),((g.bR,g.aB,g.rows,g.aM,()),(r.last,r.bf,()),()))) (.inl ((false,()),())) (.inr (.inl (((),()),((r.last,r.bf,()),())))) aS (λk h=>by
     rw[cT]at h;obtain⟨c,E⟩:=aBn g (i:=k) (by omega);rw[jM,Lx h];unfold J9 az aT xG xI;dsimp only;rw[aZ,aq,aA ⟨by omega,by omega⟩];simp only[bC,dY,ak,mR,E,bne];rw[bE];cases aP r.last[k] (-1) 1000000<;>cases oe g k<;>cases r.last[k] == -1<;>rfl) (by
     rw[cT];unfold J9 az aT xG xI;dsimp only;rw[bq,au]) (by rw[cT];exact bJ)
    have l2:=gi (step:=Ka) (List.range r.bf.length) (og r.bf) (λi=>(((),r.bf,(r.bf.length:Int),(i:Int),()),((r.last,r.bf,()),()))) (.inl ((false,()),())) (.inr (.inl ((),()))) aS (λk h=>by
     rw[cT]at h;rw[jM];unfold Ka az aT xG xI;dsimp only;rw[aZ,aq,aA ⟨by omega,by omega⟩];simp only[bC,dY,ak];cases k with
     | zero=>
      rw[Ly h];cases aP r.bf[0] 0 1000000 with
      |false=>rfl
      | true=>
       rw[bq];rfl
     | succ k=>
      rw[FE h];have I:W6 (((k+1:Nat):Int)-1)=(k:Int):=by rw[aY];omega
      simp only[I,bC];rw[aZ (show ((k+1:Nat):Int) > 0 by omega),aA ⟨by omega,by omega⟩,bE];cases aP r.bf[k+1] 0 1000000<;>cases decide (r.bf[k] >= r.bf[k+1])<;>rfl) (by
     rw[cT];unfold Ka az aT xG xI;dsimp only;rw[bq,au]) (by rw[cT];exact bJ)
    rw[cc]at l1 l2;simp only[gZ,au,cm]
    refine(bx (λo=>Option.bind o _) l1).trans ?_
    rw[ak];cases (List.range r.last.length).all (CM g r.last)with
    |false=>rfl
    | true=>
     simp only[aq,Sum.elim_inr,dZ,cm]
     refine(bx (λo=>Option.bind o _) l2).trans ?_
     rw[ak];cases (List.range r.bf.length).all (og r.bf)<;>rfl
  ·have L:((r.last.length:Int)==9*(aW g+1))=false:=by simp[C]
   rw[fZ C,L];rfl
def aj9(g:aN)(r:dy):ID g r=some (kU g r):=by
 unfold ID kU bM;rw[xU,ak,mg];cases L:cy g with
 |false=>rfl
 | true=>
  simp only[bK,au,ak,cm,w9];by_cases C:(r.last.length:Int)=9*(aW g+1)
  ·have O:=eN g;rw[C,bne_self_eq_false,au,lT,cm];cases D:decide ((r.bf.length:Int) > 4)with
   |true=>rfl
   | false=>
    have D:=of_decide_eq_false D;have l1:=gi (step:=IB) (List.range r.last.length) (CM g r.last) (λi=>(((),(),(i:Int),()),((g.bR,g.aB,g.rows,g.aM,()),(r.last,r.bf,()),()))) (.inl ((false,()),())) (.inr (.inl (((),()),((r.last,r.bf,()),())))) aS (λk h=>by
     rw[cT]at h;rw[jM,Lx h];unfold IB az aT xG xI;dsimp only;rw[aZ,aq,aA ⟨by omega,by omega⟩,aA ⟨by omega,by omega⟩];simp only[bC,dO,ak,mR,aBm g (show k<1000 by omega),bne];rw[bE];cases aP r.last[k] (-1) 1000000<;>cases oe g k<;>cases r.last[k] == -1<;>rfl) (by
     rw[cT];unfold IB az aT xG xI;dsimp only;rw[bq,au]) (by rw[cT];exact bJ)
    have l2:=gi (step:=IC) (List.range r.bf.length) (og r.bf) (λi=>(((),(i:Int),()),((r.last,r.bf,()),()))) (.inl ((false,()),())) (.inr (.inl ((),()))) aS (λk h=>by
     rw[cT]at h;rw[jM];unfold IC az aT xG xI;dsimp only;rw[aZ,aq,aA ⟨by omega,by omega⟩];simp only[bC,dO,ak];cases k with
     | zero=>
      rw[Ly h];cases aP r.bf[0] 0 1000000 with
      |false=>rfl
      | true=>
       rw[bq];rfl
     | succ k=>
      rw[FE h];have E:W6 (((k+1:Nat):Int)-1)=(k:Int):=by rw[aY];omega
      simp only[E,bC];rw[aZ (show ((k+1:Nat):Int) > 0 by omega),aA ⟨by omega,by omega⟩,aA ⟨by omega,by omega⟩,bE];cases aP r.bf[k+1] 0 1000000<;>cases decide (r.bf[k] >= r.bf[k+1])<;>rfl) (by
     rw[cT];unfold IC az aT xG xI;dsimp only;rw[bq,au]) (by rw[cT];exact bJ)
    rw[cc]at l1 l2;simp only[gZ,au,cm]
    refine(bx (λo=>Option.bind o _) l1).trans ?_
    rw[ak];cases (List.range r.last.length).all (CM g r.last)with
    |false=>rfl
    | true=>
     simp only[aq,Sum.elim_inr,dZ,cm]
     refine(bx (λo=>Option.bind o _) l2).trans ?_
     rw[ak];cases (List.range r.bf.length).all (og r.bf)<;>rfl
  ·have I:((r.last.length:Int)==9*(aW g+1))=false:=by simp[C]
   rw[fZ C,I];rfl
def aBo(l:aa Int)(x:Int)(hl:l.length<1073741824):Pp l x=some (l.any λe=>e==x):=by
 unfold Pp bM;have e:=gi (step:=JA) l (λe=>!(e==x)) (λi=>((l,x,i,()),())) _ _ aS (λk h=>by
  unfold JA az aT xG xI;dsimp only;rw[aZ,aq,aA ⟨by omega,by omega⟩];simp only[bC];rw[bE];cases l[k]==x<;>rfl) (by
  unfold JA az aT xG xI;dsimp only;rw[bq,au]) (bJ hl)
 rw[cc]at e;rw[e];have:l.all (λe=>!(e==x)) = !l.any λe=>e==x:=by rw[List.any_eq_not_all_not,Bool.not_not]
 rw[this];cases l.any λe=>e==x<;>rfl
def aBp(l:aa Int)(x:Int)(hl:l.length<1073741824):PS l x=some (l.count x:Int):=by
 unfold PS bA;have e:=cz (step:=J0) _ (λi=>((x,((l.take i).count x),l,l.length,i,()),())) _ aS (λk h=>by
  unfold J0 az xG xI;have C:(l.take k).count x <= k:=Nat.le_trans List.count_le_length (by rw[gF];omega);dsimp only;rw[aZ,aq,aA ⟨by omega,by omega⟩];simp only[bC];rw[List.take_succ_eq_append_getElem h,List.count_append,List.count_singleton,bE,bE];cases l[k]==x<;>rfl) (by
  unfold J0 az xG xI;dsimp only;rw[bq,au,jz]) (bJ hl)
 simp_all
def aka{x:Int}:∀ (l:aa Int),(∀ j (h:j<l.length),l[j]=x -> x ∉ l.take j) -> l.count x <= 1
 |[],_=>by simp
 | y :: ys,h=>by
  rw[List.count_cons];by_cases e:y=x
  ·have:x ∉ ys:=by
    intro C;have⟨j,E,D⟩:=jN.1 C;refine h (j+1) (by simp;omega) (by simpa using D) ?_;simp_all
   grind
  ·have:=aka ys λj E D C=>h (j+1) (by simp;omega) (by simpa using D) (by rw[List.take_succ_cons];exact List.mem_cons_of_mem _ C)
   simp_all
def aBq{x:Int}:∀ (l:aa Int) (j:Nat) (h:j<l.length),l[j]=x -> x∈l.take j -> 2 <= l.count x:=by
 intro l j h e C;have D:=List.count_pos_iff.2 C;have E:1 <= (l.drop j).count x:=List.count_pos_iff.2 (by rw[<- e];exact jN.2 ⟨0,by simp;omega,by simp⟩);have:l.count x=(l.take j).count x+(l.drop j).count x:=by rw[<- List.count_append,List.take_append_drop]
 omega
def rA(R M:Int)(L:aa Int)(j:Nat):Bool:=match L[j]? with
 |some e=>e==(j:Int) ||(aP e R M && !(decide ((L.count e:Int) > 1)))
 |none=>false
def vF(R M:Int)(L:aa Int)(j:Nat):Bool:=match L[j]? with
 |some e=>e==(j:Int) ||(aP e R M && !((L.take j).any λx=>x==e))
 |none=>false
def YM(R M:Int)(L:aa Int)(hR:(L.length:Int)=R):(List.range L.length).all (rA R M L)=(List.range L.length).all (vF R M L):=by
 rw[Bool.eq_iff_iff,cv,cv];simp only[fz];constructor
 ·intro h j C;have:=h j C;unfold rA at this;unfold vF;rw[bS C]at *
  simp only[eA,aQ,iq,qw]at *
  rcases this with D|⟨D,U⟩
  ·simp_all
  ·refine .inr ⟨D,?_⟩;rw[List.any_eq_false];intro x O I;have I:x=L[j]:=by simpa using I
   have:=aBq L j C rfl (I ▸ O);omega
 ·intro h j C;have:=h j C;unfold vF at this;unfold rA;rw[bS C]at *
  simp only[eA,aQ,iq,qw]at *
  rcases this with D|⟨D,U⟩
  ·simp_all
  ·refine .inr ⟨D,?_⟩;have Y:=(bG.1 D).1;have:=aka (x:=L[j]) L λk T e O=>by
    have E:=h k T;unfold vF at E;rw[bS T]at E;simp only[eA,aQ,iq]at E;rcases E with Z|⟨_,h4⟩
    ·grind
    ·grind
   omega
def iM(m:aa Int)(R b:Nat):aa Int:=(m.take ((b+1)*R)).drop (b*R)
def FF(m:aa Int)(R b:Nat):iM m R b=(m.drop (b*R)).take R:=by
 unfold iM;rw[List.drop_take,iP,Nat.add_sub_cancel_left]
def FG{m:aa Int}{R b:Nat}(h:(b+1)*R<=m.length):(iM m R b).length=R:=by
 rw[FF,gF,List.length_drop];rw[iP]at h;omega
def Az{C R b j:Nat}(hb:b<C)(D:j <= R):b*R+j <= C*R:=by
 have:=iZ R hb
 grind
def Lz(R:Nat)(M:Int)(m:aa Int)(i:Nat):Bool:=match m[i]? with
 |some e=>e==((i % R:Nat):Int) ||(aP e (R:Int) M && !(((m.take i).drop (i / R*R)).any λx=>x==e))
 |none=>false
def akb{R:Nat}{M:Int}{m:aa Int}{b j:Nat}(C:j<R):Lz R M m (b*R+j)=vF (R:Int) M (iM m R b) j:=by
 unfold Lz vF;have D:(b*R+j) % R=j:=by rw[Nat.mul_comm,Nat.mul_add_mod,Nat.mod_eq_of_lt C]
 have E:(b*R+j) / R=b:=by rw[Nat.mul_comm,Nat.mul_add_div (by omega),Nat.div_eq_of_lt C,Nat.add_zero]
 have I:(iM m R b)[j]?=m[b*R+j]?:=by rw[FF,List.getElem?_take_of_lt C,List.getElem?_drop]
 have L:(iM m R b).take j=(m.take (b*R+j)).drop (b*R):=by rw[FF,List.take_take,List.drop_take,Nat.add_sub_cancel_left,Nat.min_eq_left (Nat.le_of_lt C)]
 simp_all
def akc{n:Nat}(h:n<4611686018427387904):W6 (n:Int)=(n:Int):=aY
def aBr(R D:Nat)(hR:0<R)(M:Int)(m:aa Int):(List.range (D*R)).all (Lz R M m)=(List.range D).all λb=>(List.range R).all (vF (R:Int) M (iM m R b)):=by
 rw[Bool.eq_iff_iff,cv];simp;constructor
 ·intro h b hb j C;rw[<- akb C];refine h _ ?_;have:=Az hb (show j+1 <= R from C);omega
 ·intro h i hi;have hb:i / R<D:=Nat.div_lt_of_lt_mul (by rw[Nat.mul_comm];exact hi);have C:i % R<R:=Nat.mod_lt _ hR;have e:i / R*R+i % R=i:=by rw[Nat.mul_comm];exact Nat.div_add_mod i R
  have:=h _ hb _ C;rw[<- akb C,e]at this;exact this
def kG(g:aN)(s:dG):Bool:=jJ g s.bB&&((s.map.length:Int)==((aW g).toNat*(g.rows-s.bB).toNat:Nat)&&(List.range (aW g).toNat).all λb=>(List.range (g.rows-s.bB).toNat).all (rA (g.rows-s.bB) (g.rows-1) (iM s.map (g.rows-s.bB).toNat b)))
def akd{g:aN}{s:dG}{R C b:Nat}(hR:g.rows-s.bB=(R:Int))(D:R<=16)(E:C<=8)(hb:b<C)(hl:s.map.length=C*R):E0 g s (b:Int)=some (b*R,(b+1)*R):=by
 have T:C*R<=8*16:=Nat.mul_le_mul E D;have U:b*R+R<=C*R:=Az hb (dJ R);have I:W6 (g.rows-s.bB)=(R:Int):=by rw[hR];exact aY
 have L:W6 ((b:Int)*(R:Int))=((b*R:Nat):Int):=by rw[<-Int.natCast_mul];exact aY
 have O:W6 (((b+1:Nat):Int)*(R:Int))=(((b+1)*R:Nat):Int):=by
  rw[<-Int.natCast_mul];exact aY (by omega) (by rw[iP];omega)
 unfold E0;rw[I,bE,L,O,iP,bN ⟨by omega,by omega,by omega⟩];simp only[bC]
def aBs{g:aN}{s:dG}(R b:Int)(L:aa Int)(C:cy g=true)(D:L.length<1073741824):
  iter E1 aS (((),(),R,b,L,L,(L.length:Int),(0:Int),()),((g.bR,g.aB,g.rows,g.aM,()),(s.bB,s.map,()),()))=some (bif (List.range L.length).all (rA R (g.rows-1) L)then .inr (.inl (((),(),R,b,()),((g.bR,g.aB,g.rows,g.aM,()),(s.bB,s.map,()),())))else .inl ((false,()),())):=by
 have E:=fm C;have e:=gi (step:=E1) (List.range L.length) (rA R _ L) (λi=>(((),(),R,b,L,L,L.length,i,()),((g.bR,g.aB,g.rows,g.aM,()),(s.bB,s.map,()),()))) _ _ aS (λk h=>by
  rw[cT]at h;rw[jM];unfold E1 rA az aT xG xI;dsimp only;rw[aZ,aq,aA ⟨by omega,by omega⟩,bS h];simp only[bC,dY,ak,aBp _ _ D,bne];rw[bE,aY (n:=g.rows-1)];cases L[k]==(k:Int)<;>cases aP L[k] R (g.rows-1)<;>cases decide ((L.count L[k]:Int) > 1)<;>rfl) (by
  rw[cT];unfold E1 az aT xG xI;dsimp only;rw[bq,au]) (by rw[cT];exact bJ)
 simp_all
def ake(g:aN)(s:dG):J2 g s=some (kG g s):=by
 unfold J2 kG bM;rw[ajV,ak,Rd];cases D:jJ g s.bB with
 |false=>rfl
 | true=>
  obtain⟨I,s0,s2,AZ,Rq⟩:=Rc D;have L:=eN g;have O:((sC g s.bB).1.map.length:Int)=(((aW g).toNat*(g.rows-s.bB).toNat:Nat):Int):=by
   unfold sC;rw[D,aq,Yu]
  rw[O];obtain⟨C,hb⟩:=fA L.1;obtain⟨R,hR⟩:=fA (show 0<=g.rows-s.bB by omega);rw[hb,hR];simp only[bC,bK,au,cm];by_cases hl:(s.map.length:Int)=((C*R:Nat):Int)
  ·have E:s.map.length=C*R:=by omega
   rw[hl,bne_self_eq_false,au,lT,cm];have T:W6 (R:Int)=(R:Int):=aY;have e:=gi (step:=J1) (List.range C) (λb=>(List.range R).all (rA (R:Int) (g.rows-1) (iM s.map R b))) (λi=>(((),(),(R:Int),(i:Int),()),((g.bR,g.aB,g.rows,g.aM,()),(s.bB,s.map,()),()))) (.inl ((false,()),())) (.inr (.inl ((),()))) aS (λk h=>by
    rw[cT]at h;rw[jM];have U:=Az (R:=R) h (dJ R);have hlen:(iM s.map R k).length=R:=FG (by rw[iP,E];exact U);have Y:=aBs (g:=g) (s:=s) (R:Int) (k:Int) (iM s.map R k) I (by omega);unfold J1 az aT xG bM;dsimp only;rw[mR,oa,ak,hb,aZ,aq];have Z:E0 g (⟨s.bB,s.map⟩:dG) (k:Int)=some (k*R,(k+1)*R):=akd (s:=⟨s.bB,s.map⟩) hR (by omega) (by omega) h E;rw[Z,ak];have hc:(Nat.ble (k*R) ((k+1)*R)&&Nat.ble ((k+1)*R) s.map.length)=true:=by
     rw[aQ];exact⟨ja (by rw[iP];omega),ja (by rw[iP];omega)⟩
    rw[hc,aq]
    refine(bx (λo=>Option.bind o _) Y).trans ?_
    rw[ak,hlen];cases (List.range R).all (rA (R:Int) (g.rows-1) (iM s.map R k))with
    |false=>rfl
    | true=>
     simp only[aq,Sum.elim_inr,dZ];rw[bE]) (by
    rw[cT];unfold J1 az aT xG bM;dsimp only;rw[mR,oa,ak,hb,bq,au]) (by rw[cT];exact bJ)
   rw[cc]at e;rw[T]
   refine(bx (λo=>Option.bind o _) e).trans ?_
   rw[ak];cases (List.range C).all λb=>(List.range R).all (rA (R:Int) (g.rows-1) (iM s.map R b))<;>rfl
  ·have e2:((s.map.length:Int)==((C*R:Nat):Int))=false:=by simp only[beq_eq_false_iff_ne];exact hl
   rw[fZ hl,e2];rfl
def YN(g:aN)(s:dG):ER g s=some (kG g s):=by
 unfold ER kG bM;rw[Yv,ak,Rd];cases I:jJ g s.bB with
 |false=>rfl
 | true=>
  obtain⟨L,s0,s2,AZ,Rq⟩:=Rc I;have O:=eN g;have gb:=fm L;obtain⟨C,hb⟩:=fA O.1;obtain⟨R,hR⟩:=fA (show 0<=g.rows-s.bB by omega);have hm:C*R<=8*16:=Nat.mul_le_mul (by omega) (by omega);have T:W6 (R:Int)=(R:Int):=aY;have hmul:W6 ((C:Int)*(R:Int))=((C*R:Nat):Int):=by rw[<-Int.natCast_mul];exact aY
  rw[mg,ak,hb,hR,T,hmul];simp only[bC,bK,au,cm];by_cases hl:(s.map.length:Int)=((C*R:Nat):Int)
  ·have U:s.map.length=C*R:=by omega
   rw[hl,bne_self_eq_false,au,lT,cm];have e:=gi (step:=JB) (List.range (C*R)) (Lz R (g.rows-1) s.map) (λi=>(((),(),(R:Int),(i:Int),()),((g.bR,g.aB,g.rows,g.aM,()),(s.bB,s.map,()),()))) (.inl ((false,()),())) (.inr (.inl ((),()))) aS (λk h=>by
    rw[cT]at h;rw[jM];have Y:k<s.map.length:=by omega
    have Z:(k:Int).tmod (R:Int)=((k % R:Nat):Int):=(Int.ofNat_tmod k R).symm;have hd:(k:Int).tdiv (R:Int)=((k / R:Nat):Int):=(Int.ofNat_tdiv k R).symm;have hdl:k / R<=k:=Nat.div_le_self k R;have E:k / R*R<=k:=Nat.div_mul_le_self k R;have w1:W6 (((k / R:Nat):Int))=((k / R:Nat):Int):=akc (Nat.lt_of_le_of_lt hdl (by omega));have w2:W6 (((k / R:Nat):Int)*(R:Int))=((k / R*R:Nat):Int):=by rw[<-Int.natCast_mul];exact akc (Nat.lt_of_le_of_lt E (by omega))
    unfold JB Lz az aT xG xI;rw[bS Y];dsimp only;rw[aZ,aq,aA ⟨by omega,by omega⟩,bO,aA ⟨by omega,by omega⟩,bO,Z,hd,w1,w2,bN ⟨Int.natCast_nonneg _,Int.ofNat_le.2 E,by omega⟩,aA ⟨by omega,by omega⟩];simp only[bC,dO,ak];rw[aBo _ _ (by rw[List.length_drop,gF];omega),ak,bE,aY (n:=g.rows-1)];cases s.map[k]==((k % R:Nat):Int)<;>cases aP s.map[k] (R:Int) (g.rows-1)<;>cases ((s.map.take k).drop (k / R*R)).any (λx=>x==s.map[k])<;>rfl) (by
    rw[cT];unfold JB az aT xG xI;dsimp only;rw[bq,au]) (by rw[cT];exact bJ)
   rw[cc]at e
   refine(bx (λo=>Option.bind o _) e).trans ?_
   rw[ak,aBr R C (by omega)];have hAB:((List.range C).all λb=>(List.range R).all (vF (R:Int) (g.rows-1) (iM s.map R b)))=(List.range C).all λb=>(List.range R).all (rA (R:Int) (g.rows-1) (iM s.map R b)):=by
    rw[Bool.eq_iff_iff,cv,cv]
    refine forall_congr' λb=>?_
    refine imp_congr_right λD=>?_
    have D:=fz.1 D;have hk:=Az (R:=R) D (dJ R);have hlen:(iM s.map R b).length=R:=FG (by rw[iP,U];exact hk);have:=YM (R:Int) (g.rows-1) (iM s.map R b) (by rw[hlen]);rw[hlen]at this;rw[this]
   rw[hAB];cases (List.range C).all λb=>(List.range R).all (rA (R:Int) (g.rows-1) (iM s.map R b))<;>rfl
  ·have e2:((s.map.length:Int)==((C*R:Nat):Int))=false:=by simp only[beq_eq_false_iff_ne];exact hl
   rw[fZ hl,e2];rfl
def eC(g:aN)(s:dG):aN:=bif kG g s then ⟨g.bR,g.aB,W6 (g.rows-s.bB),g.aM⟩else ⟨0,0,0,0⟩
def YO(g:aN)(s:dG):E2 g s=some (eC g s):=by
 unfold E2 eC;rw[ake,ak];cases kG g s<;>rfl
def aBt(g:aN)(s:dG):PG g s=some (eC g s):=by
 unfold PG eC;rw[YN,ak];cases kG g s<;>rfl
def oh(c:av):av:=c
def gM(a x:aJ):Bool:=x.ay==a.ay&&(x.row==a.row&&(x.bL==a.bL&&true))
def YP(l:aa aJ)(a:aJ)(hl:l.length<1073741824):B8 l a=some (gL (gM a) l):=by
 unfold B8 gL bM;have e:=vE (step:=IF) l (gM a) (λi=>((l,(),i,()),((a.ay,a.row,a.bL,()),()))) _ _ aS (λk h=>by
  unfold IF gM az aT xG xI;dsimp only;rw[aZ,aq,aA ⟨by omega,by omega⟩];simp only[bC];rw[bE];cases (l[k].ay==a.ay&&(l[k].row==a.row&&(l[k].bL==a.bL&&true)))<;>rfl) (by
  unfold IF az aT xG xI;dsimp only;rw[bq,au]) (bJ hl)
 rw[cc]at e;rw[e];cases l.findIdx? _<;>rfl
def akf(l:aa aJ)(a:aJ)(hl:l.length<1073741824):E8 l a=some (gL (gM a) l):=by
 unfold E8 gL;have e:=vE (step:=Ki) l (gM a) (λi=>((l,(),l.length,i,()),((a.ay,a.row,a.bL,()),()))) _ _ aS (λk h=>by
  unfold Ki gM az aT xG xI;dsimp only;rw[aZ,aq,aA ⟨by omega,by omega⟩];simp only[bC];rw[bE,BEq.comm (a:=a.ay),BEq.comm (a:=a.row),BEq.comm (a:=a.bL)];cases (l[k].ay==a.ay&&(l[k].row==a.row&&(l[k].bL==a.bL&&true)))<;>rfl) (by
  unfold Ki az aT xG xI;dsimp only;rw[bq,au]) (bJ hl)
 rw[cc]at e;rw[e];cases l.findIdx? _<;>rfl
def partAt(c:av)(i:Nat):Bool:=match c.bH[i]?,c.guard[i]? with
 |some t,some x=>kF t&&aP x 3 1000
 |_,_=>false
def tX(c:av)(i:Nat):Bool:=match c.pending[i]? with
 |some a=>dx c.config.ax a&&(a.bL==0 && !((c.pending.take i).any (gM a)))
 |none=>false
def qd(c:av):Bool:=(c.aL.aH.length:Int)==aW c.config.ax&&((c.bH.length:Int)==aW c.config.ax&&((c.guard.length:Int)==aW c.config.ax&&(!(decide ((c.pending.length:Int) > 128))&&((List.range c.bH.length).all (partAt c)&&(List.range c.pending.length).all (tX c)))))
def akg(c:av)(n i:Int):PL (((),n,i,()),(oh c,()))=(bif (decide (i<n))then if C:0<=i/\i.toNat<c.bH.length then (B9 (c.bH[i.toNat]'C.2)).bind λD=>bif (!D)then some (.inr (.inl ((false,()),())))else if E:0<=i/\i.toNat<c.guard.length then (cx (c.guard[i.toNat]'E.2) (3:Int) (1000:Int)).bind λI=>bif (!I)then some (.inr (.inl ((false,()),())))else some (.inl (((),n,(W6 (i+(1:Int))),()),(oh c,())))else none else none else some (.inr (.inr (.inl (((),()),(oh c,())))))):=rfl
def akh(c:av)(i:Int):PN (((),i,()),(oh c,()))=(bif (decide (i<(c.pending.length:Int)))then if C:0<=i/\i.toNat<c.pending.length then (zR c.config.ax (c.pending[i.toNat]'C.2)).bind λD=>bif (!D)then some (.inr (.inl ((false,()),())))else bif ((c.pending[i.toNat]'C.2).bL != (0:Int))then some (.inr (.inl ((false,()),())))else (B8 c.pending (c.pending[i.toNat]'C.2)).bind λE=>bif (E != i)then some (.inr (.inl ((false,()),())))else some (.inl (((),(W6 (i+(1:Int))),()),(oh c,())))else none else some (.inr (.inr (.inl ((),()))))):=rfl
def aki(c:av)(G:(Int×Int×Int×Int×af))(n i:Int):PX (((),(),n,i,()),(oh c,G,()))=(bif (decide (i<n))then if C:0<=i/\i.toNat<c.bH.length then (Am (c.bH[i.toNat]'C.2)).bind λD=>bif (!D)then some (.inr (.inl ((false,()),())))else if E:0<=i/\i.toNat<c.guard.length then (cC (c.guard[i.toNat]'E.2) (3:Int) (1000:Int)).bind λI=>bif (!I)then some (.inr (.inl ((false,()),())))else some (.inl (((),(),n,(W6 (i+(1:Int))),()),(oh c,G,())))else none else none else some (.inr (.inr (.inl (((),(),()),(oh c,G,())))))):=rfl
def akj(c:av)(g:aN)(l:aa aJ)(n i:Int):PY (((),(),l,n,i,()),(oh c,(g.bR,g.aB,g.rows,g.aM,()),()))=(bif (decide (i<n))then if C:0<=i/\i.toNat<l.length then (Cv g (l[i.toNat]'C.2)).bind λD=>bif (!D)then some (.inr (.inl ((false,()),())))else bif ((l[i.toNat]'C.2).bL != (0:Int))then some (.inr (.inl ((false,()),())))else (E8 c.pending (l[i.toNat]'C.2)).bind λE=>bif (E != i)then some (.inr (.inl ((false,()),())))else some (.inl (((),(),l,n,(W6 (i+(1:Int))),()),(oh c,(g.bR,g.aB,g.rows,g.aM,()),())))else none else some (.inr (.inr (.inl ((),()))))):=rfl
def aBu(c:av):PO c=some (qd c):=by
 unfold PO qd bM;rw[mg,ak];have O:=eN c.config.ax;by_cases C:(c.aL.aH.length:Int)=aW c.config.ax
 ·by_cases D:(c.bH.length:Int)=aW c.config.ax
  ·by_cases E:(c.guard.length:Int)=aW c.config.ax
   ·rw[C,D,E,bne_self_eq_false,lT,au,cm,cm,cm,au,au];cases I:decide ((c.pending.length:Int) > 128)with
    |true=>rfl
    | false=>
     have I:=of_decide_eq_false I;have l1:=gi (step:=PL) (List.range c.bH.length) (partAt c) (λi=>(((),aW c.config.ax,(i:Int),()),(oh c,()))) (.inl ((false,()),())) (.inr (.inl (((),()),(oh c,())))) aS (λk h=>by
      rw[cT]at h;rw[jM,akg,aZ,aq,aA ⟨by omega,by omega⟩,aA ⟨by omega,by omega⟩];simp only[bC,YK,dO,ak];unfold partAt;rw[bS h,bS (show k<c.guard.length by omega),bE];simp only;cases kF c.bH[k]<;>cases aP (c.guard[k]'(by omega)) 3 1000<;>rfl) (by
      rw[cT,akg,bq,au]) (by rw[cT];exact bJ)
     have l2:=gi (step:=PN) (List.range c.pending.length) (tX c) (λi=>(((),(i:Int),()),(oh c,()))) (.inl ((false,()),())) (.inr (.inl ((),()))) aS (λk h=>by
      rw[cT]at h;rw[jM,akh,aZ,aq,aA ⟨by omega,by omega⟩];simp only[bC,Q3,ak,YP _ _ (show c.pending.length<1073741824 by omega),bne];have L:=FC (p:=gM c.pending[k]) h (by simp[gM]);rw[bne]at L;rw[L];unfold tX;rw[bS h,bE];simp only;cases dx c.config.ax c.pending[k]<;>cases c.pending[k].bL==0<;>cases (c.pending.take k).any (gM c.pending[k])<;>rfl) (by
      rw[cT,akh,bq,au]) (by rw[cT];exact bJ)
     rw[cc]at l1 l2;simp only[gZ,au,cm]
     refine(bx (λo=>Option.bind o _) l1).trans ?_
     rw[ak];cases (List.range c.bH.length).all (partAt c)with
     |false=>rfl
     | true=>
      simp only[aq,Sum.elim_inr,dZ,cm]
      refine(bx (λo=>Option.bind o _) l2).trans ?_
      rw[ak];cases (List.range c.pending.length).all (tX c)<;>rfl
   ·simp[C,D,fZ E,E]
  ·simp[C,fZ D,D]
 ·simp[fZ C,C]
def aBv(c:av)(O:c.aL.aH.length<1073741824):PZ c=some (ff c.aL&&qd c):=by
 unfold PZ qd bM;rw[oa,ak,Rh _ O,ak];cases ff c.aL with
 |false=>rfl
 |true=>
 simp only[bK,au,cm];have b1:=eN c.config.ax;by_cases C:(c.aL.aH.length:Int)=aW c.config.ax
 ·by_cases D:(c.bH.length:Int)=aW c.config.ax
  ·by_cases E:(c.guard.length:Int)=aW c.config.ax
   ·have T:((c.aL.aH.length:Int) != aW c.config.ax)=false:=by simp[C]
    have U:((c.bH.length:Int) != aW c.config.ax)=false:=by simp[D]
    have Y:((c.guard.length:Int) != aW c.config.ax)=false:=by simp[E]
    have Z:((c.aL.aH.length:Int)==aW c.config.ax)=true:=by simp[C]
    have q2:((c.bH.length:Int)==aW c.config.ax)=true:=by simp[D]
    have q3:((c.guard.length:Int)==aW c.config.ax)=true:=by simp[E]
    rw[T,U,Y,Z,q2,q3];simp only[au,cm];cases I:decide ((c.pending.length:Int) > 128)with
    |true=>rfl
    | false=>
     have I:=of_decide_eq_false I;have l1:=gi (step:=PX) (List.range c.bH.length) (partAt c) (λi=>(((),(),(c.bH.length:Int),(i:Int),()),(oh c,(c.config.ax.bR,c.config.ax.aB,c.config.ax.rows,c.config.ax.aM,()),()))) (.inl ((false,()),())) (.inr (.inl (((),(),()),(oh c,(c.config.ax.bR,c.config.ax.aB,c.config.ax.rows,c.config.ax.aM,()),())))) aS (λk h=>by
      rw[cT]at h;rw[jM,aki,aZ,aq,aA ⟨by omega,by omega⟩,aA ⟨by omega,by omega⟩];simp only[bC,YJ,dY,ak];unfold partAt;rw[bS h,bS (show k<c.guard.length by omega),bE];simp only;cases kF c.bH[k]<;>cases aP (c.guard[k]'(by omega)) 3 1000<;>rfl) (by
      rw[cT,aki,bq,au]) (by rw[cT];exact bJ)
     have l2:=gi (step:=PY) (List.range c.pending.length) (tX c) (λi=>(((),(),c.pending,(c.pending.length:Int),(i:Int),()),(oh c,(c.config.ax.bR,c.config.ax.aB,c.config.ax.rows,c.config.ax.aM,()),()))) (.inl ((false,()),())) (.inr (.inl ((),()))) aS (λk h=>by
      rw[cT]at h;rw[jM,akj,aZ,aq,aA ⟨by omega,by omega⟩];simp only[bC,Yj,ak,akf _ _ (show c.pending.length<1073741824 by omega),bne];have L:=FC (p:=gM c.pending[k]) h (by simp[gM]);rw[bne]at L;rw[L];unfold tX;rw[bS h,bE];simp only;cases dx c.config.ax c.pending[k]<;>cases c.pending[k].bL==0<;>cases (c.pending.take k).any (gM c.pending[k])<;>rfl) (by
      rw[cT,akj,bq,au]) (by rw[cT];exact bJ)
     rw[cc]at l1 l2;simp only[gZ,au,cm]
     refine(bx (λo=>Option.bind o _) l1).trans ?_
     rw[ak];cases (List.range c.bH.length).all (partAt c)with
     |false=>rfl
     | true=>
      simp only[aq,Sum.elim_inr,dZ,cm]
      refine(bx (λo=>Option.bind o _) l2).trans ?_
      rw[ak];cases (List.range c.pending.length).all (tX c)<;>rfl
   ·simp[C,D,fZ E,E]
  ·simp[C,fZ D,D]
 ·simp[fZ C,C]
def sD(n:Int)(u:Bool)(k:Int):Bool:=bif u then aP n 0 (k-1)else n==0
def dI(g:aN)(c:aF):Bool:=cy g&&(aP c.kind 1 9&&(sD c.ay (aP c.kind 1 5) (aW g)&&(sD c.row (c.kind==1) g.rows&&sD c.bL (c.kind==2 ||c.kind==3) g.aM)))
def aBw(k:Int):P5 k=some (k==1):=by
 unfold P5;rfl
def aBx(k:Int):P6 k=some (k==2 || k==3):=by
 unfold P6;cases k==2<;>rfl
def YQ{n k:Int}(u:Bool)(h:-1000<k/\k<1000):Cy n u k=some (sD n u k):=by
 rw[aBl,aY];rfl
def YR(g:aN)(c:aF):Fi g c=some (dI g c):=by
 unfold Fi dI;rw[xT];cases C:cy g with
 |false=>rfl
 | true=>
  have D:=eN g;have E:=fm C;unfold Xn;simp only[aq,oa,ak,dY,Lw,aBw,aBx,YQ _ (show -1000<aW g/\aW g<1000 by omega),YQ _ (show -1000<g.rows/\g.rows<1000 by omega),YQ _ (show -1000<g.aM/\g.aM<1000 by omega),cm]
  grind
def akk(k:Int):Iu k=some (aP k 1 5,k==1,(k==2 || k==3)):=by
 obtain⟨y,e,h⟩:=aA2 k;rw[e,h]
def LA(c:aF):Bool:=(aP c.kind 1 5 ||c.ay==0)&&((c.kind==1 ||c.row==0)&&(((c.kind==2 ||c.kind==3) ||c.bL==0)&&(aP c.kind 1 9&&(aP c.ay 0 7&&(aP c.row 0 15&&aP c.bL 0 7)))))
def aBy(c:aF):OA c=some (LA c):=by
 unfold OA LA;simp only[akk,ak,dO,bne]
 grind
def akl(g:aN)(c:aF):Iv g c=some (dI g c):=by
 unfold Iv;rw[aBy,ak,Q3,ak];have key:(LA c&&dx g ⟨c.ay,c.row,c.bL⟩)=dI g c:=by
  unfold dI dx;cases D:cy g with
  |false=>simp
  | true=>
   have I:=eN g;have L:=fm D;rw[Bool.eq_iff_iff];simp only[LA,sD,aQ,eA,fT,bG,cm];constructor
   ·rintro⟨⟨h1,h2,h3,C,O,T,U⟩,⟨Y,Z⟩,FH⟩;refine⟨C,?_,?_,?_⟩
    ·cases hu:aP c.kind 1 5 with
     |true=>simp[aq,bG];omega
     | false=>simp only[au,fT];rcases h1 with h1 | h1
              ·exact absurd (bG.2 h1) (by rw[hu];simp)
              ·exact h1
    ·cases hu:c.kind==1 with
     |true=>simp[aq,bG];omega
     | false=>simp only[au,fT];rcases h2 with h2 | h2
              ·simp_all
              ·exact h2
    ·cases hu:(c.kind==2 || c.kind==3)with
     |true=>simp[aq,bG];omega
     | false=>simp only[au,fT];rcases h3 with (h3 | h3) | h3
              ·simp_all
              ·simp_all
              ·exact h3
   ·rintro⟨h1,h2,h3,C⟩;have f1:(1 <= c.kind/\c.kind <= 5 \/ c.ay=0)/\0 <= c.ay/\c.ay <= aW g-1:=by
     cases hu:aP c.kind 1 5 with
     |true=>rw[hu,aq,bG]at h2;exact⟨.inl (bG.1 hu),h2⟩
     |false=>rw[hu,au,fT]at h2;have:=FB D;exact⟨.inr h2,by omega⟩
    have f2:(c.kind=1 \/ c.row=0)/\0 <= c.row/\c.row <= g.rows-1:=by
     cases hu:c.kind==1 with
     |true=>rw[hu,aq,bG]at h3;exact⟨.inl (by simpa using hu),h3⟩
     |false=>grind
    have E:((c.kind=2 \/ c.kind=3) \/ c.bL=0)/\0 <= c.bL/\c.bL <= g.aM-1:=by
     cases hu:(c.kind==2 ||c.kind==3)with
     |true=>rw[hu,aq,bG]at C;exact⟨.inl (by simpa using hu),C⟩
     |false=>simp_all
    exact⟨⟨f1.1,f2.1,E.1,h1,by omega,by omega,by omega⟩,⟨by omega,by omega⟩,by omega⟩
 rw[<- key];cases LA c<;>rfl
def CN{g:aN}{c:aF}(h:dI g c=true):cy g=true/\(1 <= c.kind/\c.kind <= 9)/\(c.kind <= 5 -> 0 <= c.ay/\c.ay<aW g)/\(5<c.kind -> c.ay=0):=by
 simp[dI,aQ,bG]at h
 refine⟨h.1,h.2.1,λD=>?_,λD=>?_⟩
 ·have:=h.2.2.1;rw[sD,show aP _ 1 5=true from bG.2 ⟨h.2.1.1,D⟩,aq,bG]at this;omega
 ·have:=h.2.2.1;have C:aP c.kind 1 5=false:=by
   cases C:aP _ 1 5 with
   |false=>rfl
   |true=>have:=bG.1 C;omega
  rwa [sD,C,au,fT]at this
def kinds{k:Int}(h:1<=k/\k<=9):k=1\/k=2\/k=3\/k=4\/k=5\/k=6\/k=7\/k=8\/k=9:=by omega
def jv(r:cD)(b:Int):eP:=r.aB.getD b.toNat ⟨false,0⟩
def o9(r:cD)(c:aF):Bool:=
 bif c.kind==1 ||c.kind==5 then r.aR==0 && !(jv r c.ay).open_ else
 bif c.kind==2 ||c.kind==3 ||c.kind==4 then r.aR==0&&(jv r c.ay).open_ else
 bif c.kind==6 then r.aR==0 else
 bif c.kind==8 then r.aR==0&&r.aB.all (λb=>!b.open_)else
 bif c.kind==7 then r.aR==1 else r.aR==2
def gj(r:cD)(c:aF):cD:=
 bif c.kind==1 then ⟨r.aB.set c.ay.toNat ⟨true,c.row⟩,r.aR⟩else
 bif c.kind==4 then ⟨r.aB.set c.ay.toNat ⟨false,0⟩,r.aR⟩else
 bif c.kind==6 then ⟨r.aB,1⟩else
 bif c.kind==8 then ⟨r.aB,2⟩else
 bif c.kind==7 ||c.kind==9 then ⟨r.aB,0⟩else r
def akm{r:cD}{b:Int}(h:b.toNat<r.aB.length):r.aB[b.toNat]=jv r b:=by
 simp[jv,h]
def akn(r:cD):(((opens 0 r.aB).length:Int)==0)=r.aB.all λb=>!b.open_:=by
 rw[<-aj2 0 r.aB,Bool.eq_iff_iff];simp only[fT];omega
def ako(r:cD)(h:r.aB.length<1073741823):Iw r=some (opens 0 r.aB):=by
 unfold Iw bA;have e:=sy (step:=Eo) (λi=>(((),(),(i:Int),()),((r.aB,r.aR,()),opens 0 (r.aB.take i),()))) (z:=.inl (((),()),(opens 0 r.aB,()))) r.aB.length 0 aS (λk _ C=>?_) ?_ (by unfold aS;omega)
 ·have e:iter Eo aS (((),(),0,()),((r.aB,r.aR,()),([]),()))=_:=e;simp_all
 ·have C:k<r.aB.length:=by omega
  unfold Eo az xG xI;dsimp only;have D:decide ((k:Int)<(r.aB.length:Int))=true:=aZ;have E:0 <= (k:Int)/\(k:Int).toNat<r.aB.length:=⟨by omega,by simpa using C⟩
  have hl:=Q5 0 (r.aB.take k);rw[gF]at hl;have I:bF ((opens 0 (r.aB.take k)).length+([(k:Int)]:aa Int).length)=true:=by
   unfold bF;simp;omega
  rw[D,aq,aA E,sA,qa C,Ym];simp only[bC,opens,gF,fh,Nat.min_eq_left (Nat.le_of_lt C)];cases r.aB[k].open_ with
  |true=>grind
  |false=>grind
 ·rw[fh];unfold Eo az xG xI;simp_all
def aBz{r:cD}{c:aF}(C:1 <= c.kind/\c.kind <= 9)(hb:c.kind <= 5 -> 0 <= c.ay/\c.ay.toNat<r.aB.length)(hl:r.aB.length<1073741823):OB r c=some (o9 r c):=by
 unfold OB o9 xI;rcases kinds C with h|h|h|h|h|h|h|h|h
 case inr.inr.inr.inr.inr.inr.inr.inl=>simp[h,ako r hl,akn];cases r.aR==0<;>rfl
 all_goals (try (have hb:=hb _))<;>simp[h,hb,akm]<;>(cases r.aR==0<;>rfl)
def Rr(g:aN)(r:cD)(c:aF):xN g r c=some (lP g r&&(dI g c&&o9 r c)):=by
 unfold xN xI;rw[aj3,ak];cases C:lP g r with
 |false=>rfl
 | true=>
  rw[YR,ak];cases D:dI g c with
  |false=>rfl
  | true=>
   have⟨I,E,hb,_⟩:=CN D;have hlen:(r.aB.length:Int)=aW g:=by
    simp[lP,aQ,fT]at C;simp_all
   have L:=eN g;have hb:c.kind <= 5 -> 0 <= c.ay/\c.ay.toNat<r.aB.length:=λh=>by have:=hb h;omega
   have hl:r.aB.length<1073741823:=by omega
   simp only[bK,au,cm];unfold o9;rcases kinds E with h|h|h|h|h|h|h|h|h
   case inr.inr.inr.inr.inr.inr.inr.inl=>simp[h,Q6 r hl,akn];cases r.aR==0<;>rfl
   all_goals (try (have hb:=hb (by omega)))<;>simp[h,hb,akm]<;>(cases r.aR==0<;>rfl)
def mT(g:aN)(r:cD)(c:aF):Bool:=lP g r&&(dI g c&&o9 r c)
def YS(g:aN)(r:cD)(c:aF):cD×Bool:=bif mT g r c then (gj r c,true)else (r,false)
def FI{g:aN}{r:cD}{c:aF}(h:mT g r c=true):cy g=true/\(r.aB.length:Int)=aW g/\(1 <= c.kind/\c.kind <= 9)/\(c.kind <= 5 -> 0 <= c.ay/\c.ay.toNat<r.aB.length):=by
 simp[mT,aQ]at h;have⟨D,E,hb,_⟩:=CN h.2.1;have C:=h.1;simp[lP,aQ,fT]at C;simp_all
def aBA(r:cD)(h:r.aB.length<1073741824):Fc r=some r:=by
 unfold Fc xA xZ;rw[show ([]).length+r.aB.length=r.aB.length by simp,cM h];rfl
def aBB(g:aN)(r:cD)(c:aF)(h:r.aB.length<1073741824):Kv g r c=some (YS g r c):=by
 unfold Kv YS xL;rw[aBA r h,Rr];change (bif !(mT g r c)then _ else _)=_;cases C:mT g r c with
 |false=>rfl
 | true=>
  have⟨D,hlen,E,hb⟩:=FI C;unfold gj
  grind
def LB(g:aN):cD:=⟨List.replicate (aW g).toNat ⟨false,0⟩,0⟩
def akp(g:aN):Eg g=some (LB g):=by
 have C:=eN g;unfold Eg LB;rw[mg,ak,bN ⟨by omega,by omega,by omega⟩]
def akq(r:cD)(c:aF):(gj r c).aB.length=r.aB.length:=by
 unfold gj
 grind
def CO(t:cP)(a b:Int):Int:=
 bif a==1 then (bif b==2 ||b==3 then t.fB else bif b==4 then t.ef else bif b==1 ||b==5 then W6 (t.ef+t.rp)else 0)else
 bif a==2 then (bif b==4 then t.eT else bif b==1 ||b==5 then W6 (t.eT+t.rp)else 0)else
 bif a==3 then (bif b==4 then t.wr else bif b==1 ||b==5 then W6 (t.wr+t.rp)else 0)else
 bif a==4 then (bif b==1 ||b==5 then t.rp else 0)else
 bif a==5 then (bif b==1 ||b==5 then t.gu else 0)else 0
def CP(t:cP)(a b:Int)(C:Bool):Int:=
 bif a==7 then t.xp else bif a==9 then t.xs else
 bif (a==6&&b==7) ||(a==8&&b==9)then t.gv else
 bif a==1&&b==1 then (bif C then t.fo else t.gn)else
 bif (a==2&&b==2) ||(a==3&&b==3)then (bif C then t.ga else t.gp)else
 bif a==3&&b==2 then (bif C then t.gq else t.gd)else
 bif a==2&&b==3 then t.gO else
 bif a==5&&b==5 then t.fo else
 bif a==2&&b==6 then t.eT else bif a==3&&b==6 then t.wr else
 bif b==8 then CO t a 1 else 0
def aBC(t:cP){a b:Int}(C:1<=a/\a<=9)(hb:1<=b/\b<=9):P7 t a b=some (CO t a b):=by
 rcases kinds C with rfl|rfl|rfl|rfl|rfl|rfl|rfl|rfl|rfl<;>rcases kinds hb with rfl|rfl|rfl|rfl|rfl|rfl|rfl|rfl|rfl<;>kernel_rfl
def YT(t:cP){a b:Int}(C:Bool)(D:1<=a/\a<=9)(hb:1<=b/\b<=9):P8 t a b C=some (CP t a b C):=by
 cases C<;>rcases kinds D with rfl|rfl|rfl|rfl|rfl|rfl|rfl|rfl|rfl<;>rcases kinds hb with rfl|rfl|rfl|rfl|rfl|rfl|rfl|rfl|rfl<;>kernel_rfl
def akr{t:cP}(C:ju t=true){a b:Int}(D:1 <= a/\a <= 9)(hb:1 <= b/\b <= 9):Ix t a b=some (CO t a b):=by
 unfold Ix;rw[Rb,ak,C,bK];rcases kinds D with rfl|rfl|rfl|rfl|rfl|rfl|rfl|rfl|rfl<;>rcases kinds hb with rfl|rfl|rfl|rfl|rfl|rfl|rfl|rfl|rfl<;>kernel_rfl
def YU{t:cP}(E:ju t=true){a b:Int}(D:Bool)(C:1 <= a/\a <= 9)(hb:1 <= b/\b <= 9):Iy t a b D=some (CP t a b D):=by
 unfold Iy;rw[Rb,ak,E,bK,au,dO,ak,bG.2 C,bK,au,dO,ak,bG.2 hb,bK];by_cases I:b=8/\a≠7/\a≠9
 ·obtain⟨rfl,L,O⟩:=I;have e:=akr E C (b:=1) (by omega);rcases kinds C with rfl|rfl|rfl|rfl|rfl|rfl|rfl|rfl|rfl<;>first|exact absurd rfl L|exact absurd rfl O|simp[e,CP]
 ·cases D<;>rcases kinds C with rfl|rfl|rfl|rfl|rfl|rfl|rfl|rfl|rfl<;>rcases kinds hb with rfl|rfl|rfl|rfl|rfl|rfl|rfl|rfl|rfl<;>first|exact absurd ⟨rfl,by omega,by omega⟩ I|kernel_rfl
def Rs(a b:aF):Bool:=aP a.kind 1 5&&aP b.kind 1 5
def LC(g:aN)(a b:aF):Bool:=Rs a b&&(W6 (a.ay.tdiv g.aB)==W6 (b.ay.tdiv g.aB))
def vG(g:aN)(t:cP)(a b:aF):Int:=
 bif Rs a b&&a.ay==b.ay then max (max 1 (CP t a.kind b.kind (LC g a b))) (CO t a.kind b.kind)else max 1 (CP t a.kind b.kind (LC g a b))
def Rt(x y:Int):(if x > y then x else y)=max x y:=by
 rw[Int.max_def];split<;>split<;>omega
def aks{g:aN}{b:Int}(h:0<=b/\b<aW g)(C:cy g=true):Kr g b=some (W6 (b.tdiv g.aB)):=by
 have D:=eN g;have E:=fm C;unfold Kr;rw[oa,ak,dY,ak,aY,bG.2 ⟨h.1,by omega⟩,bK,au,bO]
def LD{k:Int}(h:1<=k/\k<=9):aP k 1 5=decide (k<=5):=by
 unfold aP;rw[aZ h.1,cm]
def aBD{g:aN}(t:cP){a b:aF}(E:cy g=true)(C:1 <= a.kind/\a.kind <= 9)(D:1 <= b.kind/\b.kind <= 9)(I:a.kind <= 5 -> 0 <= a.ay/\a.ay<aW g)(L:b.kind <= 5 -> 0 <= b.ay/\b.ay<aW g):Kt g t a b=some (vG g t a b):=by
 unfold Kt vG LC Rs;simp only[Lw,ak];cases O:aP a.kind 1 5 with
 | false=>
  simp;rw[YT t false C D,ak,Rt,Int.max_comm]
 | true=>
  cases T:aP b.kind 1 5 with
  | false=>
   simp;rw[YT t false C D,ak,Rt,Int.max_comm]
  | true=>
   have U:=bG.1 O;have Y:=bG.1 T;simp only[aq,cm];rw[aks (I U.2) E,ak,aks (L Y.2) E,ak,YT t _ C D,ak,aBC t C D];cases a.ay==b.ay with
   |false=>grind
   |true =>grind
def aBE{g:aN}{t:cP}{a b:aF}(I:cy g=true)(E:ju t=true)(C:1 <= a.kind/\a.kind <= 9)(D:1 <= b.kind/\b.kind <= 9):zW g t a b=some (vG g t a b):=by
 have L:=fm I;unfold zW vG LC Rs;rw[LD C,LD D];cases decide (a.kind <= 5)with
 | false=>
  simp;rw[YU E false C D,ak,Rt]
 | true=>
  cases decide (b.kind <= 5)with
  | false=>
   simp;rw[YU E false C D,ak,Rt]
  | true=>
   simp only[aq,cm,Bool.and_self];rw[bO,bO,YU E _ C D,ak,akr E C D]
   grind
def YV{t:cP}(h:ju t=true):∀ x∈qc t,1 <= x/\x <= 64:=by
 simp[ju,aQ,cv]at h;exact λx C=>bG.1 (h.1 x C)
def akt{t:cP}(h:ju t=true)(a b:Int):0 <= CO t a b/\CO t a b <= 128:=by
 have hb:=YV h;simp only[qc,gJ,List.not_mem_nil,or_false,forall_eq_or_imp,forall_eq]at hb;have⟨C,D,E,I,L,O,T,U,Y,Z,AA,pR,sx,vH,ya,vI,At⟩:=hb;unfold CO;rw[aY (n:=t.ef+t.rp),aY (n:=t.eT+t.rp),aY (n:=t.wr+t.rp)]
 grind
def aBF{c:Bool}{x y a b:Int}(C:a<=x/\x<=b)(D:a<=y/\y<=b):a<=(bif c then x else y)/\(bif c then x else y)<=b:=by
 cases c
 ·exact D
 ·exact C
def aBG{t:cP}(h:ju t=true)(a b:Int)(n:Bool):0 <= CP t a b n/\CP t a b n <= 128:=by
 have hb:=YV h;simp[qc,gJ,forall_eq_or_imp,forall_eq]at hb;have C:=akt h a 1
 repeat' (first|exact C|refine aBF ?_ ?_|omega)
def jw(g:aN)(c:aF):Int:=9*(bif aP c.kind 1 5 then c.ay else aW g)+c.kind-1
def YW{g:aN}{c:aF}(h:dI g c=true):0 <= jw g c/\jw g c<9*(aW g+1):=by
 have⟨C,D,hb,_⟩:=CN h;have E:=eN g;unfold jw
 grind
def aBH{g:aN}{c:aF}(h:dI g c=true):Qb g c=some (jw g c):=by
 have⟨C,D,hb,_⟩:=CN h;have E:=eN g;unfold Qb jw;simp[oa,ak,Lw];cases hu:aP _ 1 5 with
 | true=>
  have:=bG.1 hu;simp;rw[aY (n:=9*c.ay),aY (n:=9*c.ay+c.kind),aY]
 | false=>
  simp;rw[aY (n:=9*aW g),aY (n:=9*aW g+c.kind),aY]
def aku(r:dy)(C:r.last.length<1073741824)(D:r.bf.length<1073741824):Fe r=some r:=by
 unfold Fe xA xZ;rw[show ([]).length+r.last.length=r.last.length by simp,cM C,show ([]).length+r.bf.length=r.bf.length by simp,cM D];rfl
def akv(r:dy)(C:r.last.length<1073741824)(D:r.bf.length<1073741824):tN r=some r:=aku r C D
def CQ(r:dy)(x:Int):Bool:=match r.bf.getLast? with
 |some y=>decide (x<=y)
 |none=>false
def CR(l:aa Int)(x:Int):aa Int:=(l++[x]).drop (l.length+1-4)
def tY(g:aN)(r:dy)(e:fk):dy:=
 bif kU g r&&(dI g e.cmd&&(aP e.at_ 0 1000000 && !(e.cmd.kind==1&&CQ r e.at_)))then ⟨r.last.set (jw g e.cmd).toNat e.at_,bif e.cmd.kind==1 then CR r.bf e.at_ else r.bf⟩else r
def Ru{g:aN}{r:dy}(h:kU g r=true):cy g=true/\(r.last.length:Int)=9*(aW g+1)/\r.bf.length <= 4:=by
 simp[kU,aQ,fT,iq,qw]at h
 grind
def akw{l:aa Int}(h:0<l.length)(C:(W6 ((l.length:Int)-1)).toNat<l.length)(hl:l.length<1073741824):l.getLast?=some (l[(W6 ((l.length:Int)-1)).toNat]'C):=by
 have e:(W6 ((l.length:Int)-1)).toNat=l.length-1:=by rw[aY];omega
 simp only[e];rw[List.getLast?_eq_getElem?,bS (by omega)]
def aBI(g:aN)(r:dy)(e:fk)(O:r.last.length<1073741824)(T:r.bf.length<1073741824):Qc g r e=some (tY g r e):=by
 unfold Qc tY xA xI xL xZ;rw[aku r O T,ak,YL,ak];cases U:kU g r with
 |false=>rfl
 | true=>
  simp only[bK,au,cm];rw[YR,ak];cases D:dI g e.cmd with
  |false=>rfl
  | true=>
   simp only[bK,au,cm];rw[dY,ak];cases Z:aP e.at_ 0 1000000 with
   |false=>rfl
   | true=>
    obtain⟨hg,hl,h4⟩:=Ru U;have E:=YW D;have b1:=eN g;simp only[bK,au,cm,aBH D,ak];cases hk:(e.cmd.kind==1)with
    | false=>
     simp only[au,Bool.false_and,gZ,aq];rw[aA ⟨E.1,by omega⟩,aA]
    | true=>
     have tl:∀ (A B:ah dy),(if pR:0<=jw g e.cmd/\(jw g e.cmd).toNat<r.last.length then if sx:(jw g e.cmd).toNat<r.last.length then (bif bF (r.bf.length+([e.at_]:aa Int).length)then if 0<=(if W6 (((r.bf++[e.at_]).length:Int)-4) > 0 then W6 (((r.bf++[e.at_]).length:Int)-4)else 0)/\(if W6 (((r.bf++[e.at_]).length:Int)-4) > 0 then W6 (((r.bf++[e.at_]).length:Int)-4)else 0)<=((r.bf++[e.at_]).length:Int)/\((r.bf++[e.at_]).length:Int)<=((r.bf++[e.at_]).length:Int)then bif bF (([]:aa Int).length+(((r.bf++[e.at_]).take (((r.bf++[e.at_]).length:Int).toNat)).drop ((if W6 (((r.bf++[e.at_]).length:Int)-4) > 0 then W6 (((r.bf++[e.at_]).length:Int)-4)else 0).toNat)).length)then some (⟨(r.last.set (jw g e.cmd).toNat e.at_),(([]:aa Int)++(((r.bf++[e.at_]).take (((r.bf++[e.at_]).length:Int).toNat)).drop ((if W6 (((r.bf++[e.at_]).length:Int)-4) > 0 then W6 (((r.bf++[e.at_]).length:Int)-4)else 0).toNat)))⟩:dy)else none else none else none)else A else B)=some ⟨r.last.set (jw g e.cmd).toNat e.at_,CR r.bf e.at_⟩:=by
      intro A B;have I:(r.bf++[e.at_]).length=r.bf.length+1:=by simp
      have Y:(if W6 (((r.bf.length+1:Nat):Int)-4) > 0 then W6 (((r.bf.length+1:Nat):Int)-4)else 0)=((r.bf.length+1-4:Nat):Int):=by
       rw[aY];split<;>omega
      rw[aA ⟨E.1,by omega⟩,aA,cM (by simp;omega),aq,I,Y,bN ⟨by omega,by omega,by omega⟩,cM (by simp;omega),aq];unfold CR;simp only[bC,kZ];rw[<-I,jz]
     simp only[aq,cm];unfold CQ;by_cases C:0<r.bf.length
     ·have L:(W6 ((r.bf.length:Int)-1))=((r.bf.length-1:Nat):Int):=by rw[aY];omega
      have hi:(W6 ((r.bf.length:Int)-1)).toNat<r.bf.length:=by rw[L];omega
      rw[aZ (show (r.bf.length:Int) > 0 by omega),aq,aA ⟨by rw[L];omega,hi⟩,akw C hi (by omega)];dsimp only;cases decide (e.at_<=r.bf[(W6 ((r.bf.length:Int)-1)).toNat])with
      |true=>rfl
      | false=>
       simp only[au,gZ,aq];exact tl _ _
     ·have C:r.bf=[]:=List.eq_nil_of_length_eq_zero (by omega);rw[bq (by rw[C];simp),au];rw[show r.bf.getLast?=none by rw[C];rfl];simp only[gZ,aq];exact tl _ _
def aBJ(g:aN)(r:dy)(e:fk)(Z:r.last.length<1073741824)(h2:r.bf.length<1073741824):OI g r e=some (tY g r e):=by
 unfold OI tY xA xI xL xZ;rw[akv r Z h2,ak,aj9,ak];cases hr:kU g r with
 |false=>rfl
 | true=>
  simp only[bK,au,cm];rw[akl,ak];cases L:dI g e.cmd with
  |false=>rfl
  | true=>
   simp only[bK,au,cm];rw[dO,ak];cases ha:aP e.at_ 0 1000000 with
   |false=>rfl
   | true=>
    obtain⟨hg,hl,h4⟩:=Ru hr;obtain⟨_,CS,hb,_⟩:=CN L;have hp:=YW L;have b1:=eN g;have pl:jw g e.cmd=bif decide (e.cmd.kind<=5)then 9*e.cmd.ay+e.cmd.kind-1 else 9*aW g+e.cmd.kind-1:=by
     unfold jw;rw[LD CS];cases decide (e.cmd.kind<=5)<;>rfl
    have O:decide (e.cmd.kind<=5)=true->W6 (W6 (W6 (9*e.cmd.ay)+e.cmd.kind)-1)=jw g e.cmd:=by
     intro C;have:=hb (of_decide_eq_true C);rw[aY (n:=9*e.cmd.ay),aY (n:=9*e.cmd.ay+e.cmd.kind),aY,pl,C];rfl
    have hW2:decide (e.cmd.kind<=5)=false->W6 (W6 (W6 (9*aW g)+e.cmd.kind)-1)=jw g e.cmd:=by
     intro C;rw[aY (n:=9*aW g),aY (n:=9*aW g+e.cmd.kind),aY,pl,C];rfl
    have E:∀l:aa Int,l.length<1073741824->tN ⟨r.last.set (jw g e.cmd).toNat e.at_,l⟩=some ⟨r.last.set (jw g e.cmd).toNat e.at_,l⟩:=λl Bb=>akv _ (by simp;omega) Bb
    have D:0<=jw g e.cmd/\(jw g e.cmd).toNat<r.last.length:=⟨hp.1,by omega⟩
    have o1:bF (([]:aa Int).length+r.bf.length)=true:=cM (by simp;omega);have o2:bF ((([]:aa Int)++r.bf).length+([e.at_]:aa Int).length)=true:=cM (by simp;omega);have T:((([]:aa Int)++r.bf)++([e.at_]:aa Int)).length=r.bf.length+1:=by simp
    have U:(bif decide ((((r.bf.length+1:Nat):Int)) > 4)then if 0<=(1:Int)/\(1:Int)<=((r.bf.length+1:Nat):Int)/\((r.bf.length+1:Nat):Int)<=((r.bf.length+1:Nat):Int)then (tN (⟨r.last.set (jw g e.cmd).toNat e.at_,(((([]:aa Int)++r.bf)++([e.at_]:aa Int)).take (((r.bf.length+1:Nat):Int).toNat)).drop ((1:Int).toNat)⟩:dy)).bind λfY=>some fY else none else (tN (⟨r.last.set (jw g e.cmd).toNat e.at_,((([]:aa Int)++r.bf)++([e.at_]:aa Int))⟩:dy)).bind λiz=>some iz)=some ⟨r.last.set (jw g e.cmd).toNat e.at_,CR r.bf e.at_⟩:=by
     have et:((([]:aa Int)++r.bf)++([e.at_]:aa Int)).take (((r.bf.length+1:Nat):Int).toNat)=r.bf++[e.at_]:=by
      rw[bC,<-T,jz,kZ]
     rw[et];unfold CR;by_cases h5:4<=r.bf.length
     ·rw[aZ,aq,bN ⟨by omega,by omega,by omega⟩,E _ (by simp;omega),ak,show r.bf.length+1-4=1 by omega];rfl
     ·rw[bq,au,E _ (by simp;omega),ak,show r.bf.length+1-4=0 by omega];rfl
    simp only[bK,au,cm,mg,ak];cases hk:(e.cmd.kind==1)with
    | false=>
     cases C:decide (e.cmd.kind<=5)with
     | true=>
      simp only[au,Bool.false_and,gZ,aq,O C];rw[aA D,aA D.2,E _ (by omega),ak]
     | false=>
      simp only[au,Bool.false_and,gZ,aq,hW2 C];rw[aA D,aA D.2,E _ (by omega),ak]
    | true=>
     have C:decide (e.cmd.kind<=5)=true:=by
      have:e.cmd.kind=1:=by simpa using hk
      exact aZ
     simp only[aq,cm,C,O C,o1,o2,T];unfold CQ;by_cases I:0<r.bf.length
     ·have Y:(W6 ((r.bf.length:Int)-1))=((r.bf.length-1:Nat):Int):=by rw[aY];omega
      have hi:(W6 ((r.bf.length:Int)-1)).toNat<r.bf.length:=by rw[Y];omega
      rw[aZ (show (r.bf.length:Int) > 0 by omega),aq,aA ⟨by rw[Y];omega,hi⟩,akw I hi (by omega)];dsimp only;rw[show decide (r.bf[(W6 ((r.bf.length:Int)-1)).toNat] >= e.at_)=decide (e.at_<=r.bf[(W6 ((r.bf.length:Int)-1)).toNat])from rfl];cases decide (e.at_<=r.bf[(W6 ((r.bf.length:Int)-1)).toNat])with
      |true=>rfl
      | false=>
       simp only[au,gZ,aq];rw[aA D,aA D.2];exact U
     ·have I:r.bf=[]:=List.eq_nil_of_length_eq_zero (by omega);rw[bq (by rw[I];simp),au];rw[show r.bf.getLast?=none by rw[I];rfl];simp only[gZ,aq];rw[aA D,aA D.2];exact U
def YX{t:cP}(C:ju t=true)(g:aN)(a b:aF):1 <= vG g t a b/\vG g t a b <= 128:=by
 have D:=aBG C a.kind b.kind (LC g a b);have E:=akt C a.kind b.kind;unfold vG
 grind
def akx{t:cP}(C:ju t=true):1<=t.fC/\t.fC<=64:=YV C _ (by simp[qc])
def YY{T:Type}{p:T -> Bool}{l:aa T}{i:Nat}{x:T}(h:l.all p=true)(C:p x=true):(l.set i x).all p=true:=by grind
def yb{g:aN}{r:cD}(h:lP g r=true):cy g=true/\(r.aB.length:Int)=aW g/\(0 <= r.aR/\r.aR <= 2)/\r.aB.all (ru g)=true/\(r.aR=2 -> (r.aB.all λb=>!b.open_)=true):=by
 simp only[lP,aQ,fT,bG,eA,bne_iff_ne]at h
 grind
def FJ{g:aN}{r:cD}(C:cy g=true)(D:(r.aB.length:Int)=aW g)(E:0 <= r.aR/\r.aR <= 2)(I:r.aB.all (ru g)=true)(L:r.aR=2 -> (r.aB.all λb=>!b.open_)=true):lP g r=true:=by
 simp only[lP,aQ,fT,bG,eA,bne_iff_ne]
 grind
def aky{g:aN}{r:cD}{c:aF}(L:lP g r=true)(I:dI g c=true)(D:o9 r c=true):lP g (gj r c)=true:=by
 have⟨C,hlen,Y,E,Z⟩:=yb L;have⟨_,O,hb,_⟩:=CN I;have gb:=fm C;have T:c.kind=1 -> 0 <= c.row/\c.row <= g.rows-1:=by
  intro h;simp[dI,aQ]at I;have:=I.2.2.2.1;rw[sD,h]at this
  simpa [bG]using this
 rcases kinds O with h|h|h|h|h|h|h|h|h
 ·have e:gj r c=⟨r.aB.set c.ay.toNat ⟨true,c.row⟩,r.aR⟩:=by simp[gj,h]
  have U:r.aR=0:=by simp[o9,h]at D;exact D.1
  rw[e];exact FJ C (by simpa using hlen) (by omega) (YY E (by simp only[ru,aQ,bG];exact⟨T h,by simp⟩)) (λe=>by simp only at e;omega)
 ·have e:gj r c=r:=by simp[gj,h]
  simp_all
 ·have e:gj r c=r:=by simp[gj,h]
  simp_all
 ·have e:gj r c=⟨r.aB.set c.ay.toNat ⟨false,0⟩,r.aR⟩:=by simp[gj,h]
  have U:r.aR=0:=by simp[o9,h]at D;exact D.1
  rw[e];exact FJ C (by simpa using hlen) (by omega) (YY E (by simp only[ru,aQ,bG];exact⟨by omega,by simp⟩)) (λe=>by simp only at e;omega)
 ·have e:gj r c=r:=by simp[gj,h]
  simp_all
 ·have e:gj r c=⟨r.aB,1⟩:=by simp[gj,h]
  rw[e];exact FJ C hlen (by simp) E (λe=>by simp at e)
 ·have e:gj r c=⟨r.aB,0⟩:=by simp[gj,h]
  rw[e];exact FJ C hlen (by simp) E (λe=>by simp at e)
 ·have e:gj r c=⟨r.aB,2⟩:=by simp[gj,h]
  rw[e];exact FJ C hlen (by simp) E (λ_=>by simp[o9,h]at D;simpa using D.2)
 ·have e:gj r c=⟨r.aB,0⟩:=by simp[gj,h]
  rw[e];exact FJ C hlen (by simp) E (λe=>by simp at e)
def vJ(n k:Nat):aa Int:=List.replicate k (-1)++List.replicate (n-k) 0
def aBK{n k:Nat}(h:k<=n):(vJ n k).length=n:=by
 unfold vJ;simp;omega
def aBL{n k:Nat}(h:k<n):(vJ n k).set k (-1)=vJ n (k+1):=by
 obtain⟨m,rfl⟩:∃m,n=k+1+m:=⟨n-k-1,by omega⟩
 unfold vJ;rw[show k+1+m-k=m+1 by omega,show k+1+m-(k+1)=m by omega,List.set_append_right _ _ (by simp),m7,Nat.sub_self,List.replicate_succ,List.replicate_succ',List.append_assoc];rfl
def aBM(n:Nat):vJ n 0=List.replicate n 0:=by simp[vJ]
def aBN(n:Nat):vJ n n=List.replicate n (-1):=by simp[vJ]
def akz(n:Nat)(C:n<1073741824):Il (n:Int)=some (List.replicate n (-1)):=by
 have e:=cz (step:=Ik) n (λi=>((n,(),i,()),(vJ n i,()))) _ aS (λk h=>by
  have hl:=aBK (show k <= n by omega);unfold Ik az xG xL;dsimp only;rw[aZ,aq,aA ⟨by omega,by omega⟩,aA,bE,bC,aBL h]) (by
  unfold Ik az xG xL;dsimp only;rw[bq,au]) (bJ)
 unfold Il bA;rw[bN ⟨by omega,by omega,by omega⟩];rw[aBM,aBN]at e;simp_all
def Rw(g:aN):dy:=⟨List.replicate (9*(aW g+1)).toNat (-1),[]⟩
def aBO{g:aN}(C:cy g=true):On g=some (Rw g):=by
 have hb:=eN g;obtain⟨n,D⟩:∃n:Nat,9*(aW g+1)=n:=⟨(9*(aW g+1)).toNat,by omega⟩
 unfold On Rw;rw[xU,ak,C,bK,au,mg,ak,w9,D,akz n (by omega),ak,bC]
def aBP(g:aN)(r:dy)(e:fk):(tY g r e).last.length=r.last.length/\(r.bf.length <= 4 -> (tY g r e).bf.length <= 4):=by
 unfold tY;cases (kU g r&&(dI g e.cmd&&(aP e.at_ 0 1000000 && !(e.cmd.kind==1&&CQ r e.at_))))with
 |false=>simp_all
 | true=>
  refine⟨by simp,λh=>?_⟩
  cases e.cmd.kind==1 with
  |false=>exact h
  | true=>
   simp[aq,CR,List.length_drop,ox,jO];omega
def FK(x:dM):Prop:=(x.weights.length<=1048576)
def place(l:aa aU)(id:Int):Int:=match l.findIdx? (λr=>r.id==id)with
 |some i=>(i:Int)
 |none=>-1
def aBQ(l:aa (Int×Bool))(k j:Int):mI (nD l k true) j=(j==k || mI l j):=by
 induction l with
 |nil =>rfl
 | cons p ps D=>
  simp only[nD];cases C:(k==p.1)with
  | true=>
   have e:k=p.1:=by simpa using C
   rw[aq];simp[mI]
   grind
  | false=>
   rw[au];simp only[mI]
   grind
def aBR(g:aN)(a:dU)(I:∀ c∈a.cells,c.symbols.length<1073741824):PJ g a=some (od g a):=by
 unfold PJ od bM;rw[xU,ak,xV,mg];cases L:cy g with
 |false=>rfl
 | true=>
  have U:=mQ g;have Y:=p7 g;have er:aW g*g.rows=fP g:=by simp[fP,L]
  simp only[bK,au,ak,cm,er];rw[aY];by_cases C:(a.cells.length:Int)=eI g
  ·by_cases D:(a.br.length:Int)=fP g
   ·by_cases E:(a.bh.length:Int)=fP g
    ·have hl:a.br.length=a.bh.length:=by omega
     have l1:=gi (step:=JS) a.cells CJ (λi=>(((),(i:Int),()),((a.cells,a.br,a.bh,()),()))) (.inl ((false,()),())) (.inr (.inl (((),()),((a.cells,a.br,a.bh,()),())))) aS (λk h=>by
      unfold JS az aT xG xI;simp (disch:=omega) [h,bE,Ll _ 11 (I _ (cS h)),CJ];cases rm a.cells[k].symbols 11<;>rfl) (by unfold JS az aT xG xI;simp) (bJ)
     have l2:=gi (step:=JT) (a.br.zip a.bh) vC (λi=>(((),(i:Int),()),((a.cells,a.br,a.bh,()),()))) (.inl ((false,()),())) (.inr (.inl ((),()))) aS (λk h=>by
      have O:k<a.br.length:=by simp at h;omega
      have T:k<a.bh.length:=by omega
      unfold JT az aT xG xI;simp (disch:=omega) [O,T,bE,dO,vC];cases aP a.br[k] 0 100000<;>cases aP a.bh[k] 0 100000<;>rfl) (by unfold JT az aT xG xI;simp[hl]) (bJ (by simp;omega))
     rw[cc]at l1 l2;simp only[C,D,E,bne_self_eq_false,au,decide_true,cm];rw[l1];cases Z:a.cells.all CJ with
     |false=>simp
     | true=>
      simp only[aq,Option.bind_some,Sum.elim_inr,dZ];rw[l2];cases (a.br.zip a.bh).all vC<;>simp
    ·simp[C,D,fZ E,E]
   ·have e4:¬ (a.bh.length:Int)=(a.br.length:Int)\/True:=.inr trivial;simp[C,fZ D,D]
  ·simp[fZ C,C]
def iB(g:aN)(a:aJ):Nat:=(p9 g a).toNat
def LF{g:aN}{a:aJ}(h:dx g a=true):p9 g a=(iB g a:Int)/\(iB g a:Int)<eI g:=by
 have:=Yk h;unfold iB;omega
def fy.lt{g:aN}{B:Int}{a:dU}(C:fy g B a){at_:aJ}(h:dx g at_=true):iB g at_<a.cells.length:=by
 have:=LF h;have:=C.cells;omega
def fy.CT{g:aN}{B:Int}{a:dU}(C:fy g B a)(k:Nat){c:bX}(D:Sy c.symbols):fy g B ⟨a.cells.set k c,a.br,a.bh⟩:=
 ⟨by simp[C.cells],Sy.bW C.syms D,C.br,C.bh,C.Ln,C.jt⟩
def aBS(c:bX)(h:c.symbols.length<1073741823):QC c c=some true:=by
 unfold QC;rw[tT _ h];simp
def mm(R row:Int):aa Int:=(bif decide (0<row)then [row-1]else [])++(bif decide (row<R-1)then [row+1]else [])
def YZ{R row:Int}(L:2<=R)(O:R<=16)(T:0<=row)(U:row<R):Fk R row=some (mm R row):=by
 unfold Fk mm xA xZ;have C:aP R 2 16=true:=by rw[bG];omega
 have D:aP row 0 (R-1)=true:=by rw[bG];omega
 rw[dY,ak,C,aY (n:=R-1),dY,aY (n:=row-1),aY (n:=row+1)];by_cases E:0<row<;>by_cases I:row<R-1<;>simp[D,E,I,bF]
def akA{R row:Int}(D:0 <= row)(E:row<R):∀ n∈mm R row,0 <= n/\n<R:=by
 intro n C;unfold mm at C
 grind
def aBT(R row:Int):(mm R row).length <= 2:=by
 unfold mm
 grind
def aBU{R row k:Int}{i:Nat}(hi:k+row=(i:Int))(C:0 <= k)(D:0 <= row)(H:aa Int):(mm R row).foldl (λh n=>o6 (k+n).toNat h) (H.set i 0)=vD R row i H:=by
 unfold mm vD Aw
 grind
def akB(k:Int):∀ (l:aa Int) (H:aa Int),(l.foldl (λh n=>o6 (k+n).toNat h) H).length=H.length
 |[],H=>rfl
 |x::l,H=>by rw[List.foldl_cons,akB k l,Lq]
def akC(k:Int):∀ (l:aa Int) (H:aa Int),(∀ x∈H,0<=x/\x<=100000)->∀ x∈l.foldl (λh n=>o6 (k+n).toNat h) H,0<=x/\x<=100000
 |[],H,h=>h
 |x::l,H,h=>by rw[List.foldl_cons];exact akC k l _ (Q9 h)
def aBV(y:Int):0 <= bits .and .i64 y 15/\bits .and .i64 y 15 <= 15:=by
 have e:bits .and .i64 y 15=IntKind.wrap .i64 ((BitVec.ofInt 64 y &&& BitVec.ofInt 64 15).toNat):=rfl;have h:(BitVec.ofInt 64 y &&& BitVec.ofInt 64 15).toNat <= 15:=by
  exact Nat.le_trans Nat.and_le_right (by decide)
 rw[e,IntKind.wrap_i64];omega
def akD{n:Int}(C:0 <= n)(D:n<18446744073709551616):IntKind.u64.wrap n=n:=by
 have:IntKind.u64.wrap n=n % 18446744073709551616:=rfl
 grind
def lg(a:Nat):Nat:=(14688061253356765440 / 2 ^ (4*a)) % 16
def okB(C s1 s2 i:Nat):Bool:=!Nat.beq C 0&&(Nat.beq (gm C (pw i)) s1&&Nat.beq (gm s1 (pw i)) s2)
def loc(C s1 s2:Nat):ah Nat:=(List.range 11).find? (okB C s1 s2)
def FL:ah Nat->Nat
 |some n=>n
 |none=>99
def aBW:(js λa=>Nat.beq a 0 ||Qn (Int.ofNat a)==some (Int.ofNat (lg a)))=true:=by kernel_rfl
def akE:(js λC=>js λs1=>js λs2=>bif Nat.beq C 0 || Nat.beq s1 0 then Nat.beq (FL (loc C s1 s2)) 99 else
  (λx=>!Nat.beq x 0&&Nat.beq (FL (loc C s1 s2)) (bif Nat.blt (lg x) 11&&Nat.beq (gm s1 x) s2 then lg x else 99)) (gm s1 (iv C)))=true:=by kernel_rfl
def aBX:((List.range 11).all λn=>Ez 2 (Int.ofNat n)==some (Int.ofNat (pw n)))=true:=by kernel_rfl
def LG{n:Nat}(h:n<11):Ez 2 (n:Int)=some (pw n:Int):=eq_of_beq (cv.1 aBX n (fz.2 h))
def aBY:((List.range 11).all λi=>(List.range 3).all λj=>Nat.beq (gm (pw (i*j)) (pw i)) (pw (i*(j+1))))=true:=by kernel_rfl
def aBZ{i j:Nat}(hi:i<11)(C:j<3):gm (pw (i*j)) (pw i)=pw (i*(j+1)):=cB (cv.1 (cv.1 aBY i (fz.2 hi)) j (fz.2 C))
def tZ(w:aa Nat)(i:Nat):aa Int:=[(bQ w 0 i:Int),(bQ w 1 i:Int),(bQ w 2 i:Int)]
def Y0(w:aa Nat)(i:Nat):Nat->aa Int
 |0=>[(bQ w 0 i:Int),(bQ w 1 i:Int),(bQ w 2 i:Int)]
 |1=>[(bQ w 0 (i+1):Int),(bQ w 1 i:Int),(bQ w 2 i:Int)]
 |2=>[(bQ w 0 (i+1):Int),(bQ w 1 (i+1):Int),(bQ w 2 i:Int)]
 |_=>[(bQ w 0 (i+1):Int),(bQ w 1 (i+1):Int),(bQ w 2 (i+1):Int)]
def aB0{w:aa Nat}(O:dD w)(hl:w.length=11){i:Nat}(hi:i<11):iter ED aS ((bu w,(),(i:Int),(1:Int),(pw i:Int),(0:Int),()),(tZ w i,()))=some (.inl ((bu w,(),(i:Int),()),(tZ w (i+1),()))):=by
 have L:i<(bu w).length:=by rw[ic];omega
 have T:(bu w)[i]=((w.getD i 0:Nat):Int):=tV L;have U:=O.get i;have C:∀ j,bits .xor .i64 ((bQ w j i:Nat):Int) ((gm (w.getD i 0) (pw (i*j)):Nat):Int)=((bQ w j (i+1):Nat):Int):=λj=>by
  rw[ri (rj w j i) (gI _ _)];rfl
 have D:=λj=>Li U (tU (i*j))
 have E:∀ j,j<3 -> tR ((pw (i*j):Nat):Int) ((pw i:Nat):Int)=some ((pw (i*(j+1)):Nat):Int):=λj I=>by
  rw[Li (tU (i*j)) (tU i),aBZ hi I]
 generalize bu w=W at *
 generalize w.getD i 0=c at *
 have e:=cz (step:=ED) 3 (λj=>((W,(),(i:Int),(pw (i*j):Int),(pw i:Int),(j:Int),()),(Y0 w i j,()))) (.inl ((W,(),(i:Int),()),(tZ w (i+1),()))) aS (λj I=>by
  have D:=D j;have E:=E j I;have C:=C j;generalize pw (i*j)=d at D E C ⊢;unfold ED az xG xI xL;rcases(by omega:j=0 \/ j=1 \/ j=2)with rfl|rfl|rfl<;>simp[Y0,L,T,D,E,C]<;>rfl) (by unfold ED az xG xI xL;simp[Y0,tZ]) (bJ)
 have Y:pw (i*0)=1:=by rw[Nat.mul_zero];rfl
 rw[cc,Y]at e;exact e
def aB1{w:aa Nat}(C:dD w)(hl:w.length=11):OW (bu w)=some (tZ w 11):=by
 have D:=(Lo C hl).ok;unfold OW bA;rw[Ll _ _ (by rw[ic];omega),D,ak];have e:=cz (step:=I1) 11 (λi=>((bu w,(),(i:Int),()),(tZ w i,()))) (.inl (((),()),(tZ w 11,()))) aS (λi hi=>by
  have E:i<w.length:=by omega
  unfold I1 az xG bA;simp (disch:=omega) [ic,E,LG hi,aB0 C hl hi,bE]) (by unfold I1 az xG bA;simp[ hl]) (bJ)
 rw[cc]at e;have I:(List.replicate (3:Int).toNat (0:Int))=tZ w 0:=rfl;simp_all
def nJ(w:aa Nat):Bool:=Nat.beq (bQ w 0 11) 0&&(Nat.beq (bQ w 1 11) 0&&Nat.beq (bQ w 2 11) 0)
def gC(w:aa Nat):aa Nat×Int×Int:=bif nJ w then (w,0,-1)else match loc (bQ w 0 11) (bQ w 1 11) (bQ w 2 11)with
 |some k=>(w.set k (w.getD k 0 ^^^ bQ w 0 11),1,(k:Int))
 |none=>(w,2,-1)
def FM(n m:Nat):((n:Int)==(m:Int))=Nat.beq n m:=by
 cases h:Nat.beq n m with
 |true=>simp_all
 | false=>
  have:n≠m:=by rintro rfl;simp at h
  grind
def aB2{C s1 s2:Nat}(h:loc C s1 s2=none):∀ i,i<11 -> okB C s1 s2 i=false:=by
 intro i hi;have:=List.find?_eq_none.1 h i (fz.2 hi);simp_all
def Rx{D s1 s2 k:Nat}(h:loc D s1 s2=some k):k<11/\okB D s1 s2 k=true /\ ∀ i,i<k -> okB D s1 s2 i=false:=by
 refine⟨fz.1 (List.mem_of_find?_eq_some h),List.find?_some h,λi hi=>?_⟩
 have⟨L,l1,l2,E,O⟩:=List.find?_eq_some_iff_append.1 h;have T:l1.length=k/\l1=List.range k:=by
  have C:(List.range 11)[l1.length]?=some k:=by rw[E];simp
  have I:l1.length<11:=by have:=bx List.length E;simp at this;omega
  rw[List.getElem?_range I]at C;injection C with C;refine⟨C,?_⟩;have U:(List.range 11).take l1.length=l1:=by rw[E];simp
  grind
 simp_all
def aB3{w:aa Nat}(T:dD w)(hl:w.length=11):OX (bu w)=some (bu (gC w).1,(gC w).2.1,(gC w).2.2):=by
 have hs:=(Lo T hl).ok;have ho:bF w.length=true:=cM;have Z:∀n:Nat,((n:Int)==(0:Int))=Nat.beq n 0:=λn=>FM n 0
 have Tn:=rj w 0 11;have zM:=rj w 1 11;unfold OX EE xA bM xZ xI;rw[Ll _ _ (by rw[ic];omega),hs,ak,aB1 T hl];have e0:EE (tZ w 11)=some (nJ w):=by
  unfold EE nJ xI;cases h1:Nat.beq (bQ w 0 11) 0<;>cases h2:Nat.beq (bQ w 1 11) 0<;>simp[tZ,Z,h1,h2]
 have E:∀i (h:i<(bu w).length),(bu w)[i]=((w.getD i 0:Nat):Int):=λi h=>tV h
 have D:∀ k,(bu w).set k (bits .xor .i64 ((w.getD k 0:Nat):Int) ((bQ w 0 11:Nat):Int))=bu (w.set k (w.getD k 0 ^^^ bQ w 0 11)):=λk=>by
  rw[ri (T.get k) Tn,Q8]
 have hlen:(bu w).length=11:=by rw[ic,hl]
 unfold EE xI at e0;unfold gC nJ at *
 simp only[bK,au,ak];rw[e0,ak,cM (by simp[hlen])];cases hz:(Nat.beq (bQ w 0 11) 0&&(Nat.beq (bQ w 1 11) 0&&Nat.beq (bQ w 2 11) 0))with
 |true=>simp
 | false=>
  simp only[au,aq,kZ];unfold tZ;generalize hW:bu w=W at E D hlen ⊢;generalize hg0:bQ w 0 11=C at *
  generalize V7:bQ w 1 11=s1 at *
  generalize yN:bQ w 2 11=s2 at *
  have step:∀ i:Nat,i<11->Ca (((),(),(i:Int),()),(W,[(C:Int),(s1:Int),(s2:Int)],()))=some (bif okB C s1 s2 i then .inr (.inl (((),1,(i:Int),()),(bu (w.set i (w.getD i 0 ^^^ C)),())))else .inl (((),(),((i+1:Nat):Int),()),(W,[(C:Int),(s1:Int),(s2:Int)],()))):=by
   intro i hi;have dW:i<W.length:=by omega
   have I:(i:Int)<11:=by omega
   have U:=Li Tn (tU i);have m2:=Li zM (tU i);have E:=E i dW;have D:=D i;generalize w.getD i 0=c at E D ⊢;generalize bu (w.set i (c ^^^ C))=R at D ⊢;unfold Ca okB az aT xG xL;have L:((C:Int) != (0:Int)) = !Nat.beq C 0:=by rw[bne,Z]
   cases O:Nat.beq C 0 with
   |true=>simp (disch:=omega) [I,LG hi,L,O,bE]
   | false=>
    cases Y:Nat.beq (gm C (pw i)) s1 with
    |false=>simp (disch:=omega) [I,LG hi,L,O,U,FM,Y,bE]
    | true=>
     cases q2:Nat.beq (gm s1 (pw i)) s2 with
     |false=>simp (disch:=omega) [I,LG hi,L,O,U,m2,FM,Y,q2,bE]
     |true=>simp (disch:=omega) [I,LG hi,L,O,U,m2,FM,Y,q2,dW,E,D]
  cases DD:loc C s1 s2 with
  | none=>
   have hn:=aB2 DD;have e:=cz (step:=Ca) 11 (λi=>(((),(),(i:Int),()),(W,[(C:Int),(s1:Int),(s2:Int)],()))) (.inr (.inl (((),()),(W,())))) aS (λi hi=>by rw[step i hi,hn i hi];rfl) (by unfold Ca az aT xG xL;simp) (bJ);rw[cc]at e;rw[e];simp only[Option.bind_some,Sum.elim_inr,dZ];rw[hW]
  | some k=>
   obtain⟨hk,jg,hlo⟩:=Rx DD;have e:=cz (step:=Ca) k (λi=>(((),(),(i:Int),()),(W,[(C:Int),(s1:Int),(s2:Int)],()))) (.inl (((),1,(k:Int),()),(bu (w.set k (w.getD k 0 ^^^ C)),()))) aS (λi hi=>by rw[step i (by omega),hlo i hi];rfl) (by rw[step k hk,jg];rfl) (bJ);rw[cc]at e;rw[e];rfl
def akF{C s1 s2:Nat}(D:C<16)(E:s1<16)(I:s2<16)(h:C=0 \/ s1=0):loc C s1 s2=none:=by
 have t:=gK (gK (gK akE D) E) I;have L:(Nat.beq C 0 ||Nat.beq s1 0)=true:=by rcases h with rfl|rfl<;>simp
 rw[L]at t;have t:=cB t;cases hl:loc C s1 s2 with
 |none=>rfl
 | some k=>
  rw[hl]at t;have:=(Rx hl).1;simp[FL]at t;omega
def aB4{C s1 s2:Nat}(E:C<16)(I:s1<16)(L:s2<16)(O:C≠0)(T:s1≠0):gm s1 (iv C)≠0/\loc C s1 s2=bif Nat.blt (lg (gm s1 (iv C))) 11&&Nat.beq (gm s1 (gm s1 (iv C))) s2 then some (lg (gm s1 (iv C)))else none:=by
 have t:=gK (gK (gK akE E) I) L;have c0:Nat.beq C 0=false:=by cases h:Nat.beq C 0 with|false=>rfl|true=>exact absurd (cB h) O
 have U:Nat.beq s1 0=false:=by cases h:Nat.beq s1 0 with|false=>rfl|true=>exact absurd (cB h) T
 dsimp only at t;rw[c0,U,Bool.or_false,au,aQ]at t;have⟨t1,D⟩:=t;have D:=cB D;refine⟨(by rintro e;rw[e]at t1;cases t1),?_⟩;cases hb:(Nat.blt (lg (gm s1 (iv C))) 11&&Nat.beq (gm s1 (gm s1 (iv C))) s2)with
 | true=>
  rw[hb,aq]at D;rw[aQ]at hb;have Y:lg (gm s1 (iv C))<11:=cK hb.1;cases hl:loc C s1 s2 with
  |none=>rw[hl]at D;simp[FL]at D;omega
  |some k=>rw[hl]at D;simp[FL]at D;rw[D];rfl
 | false=>
  rw[hb,au]at D;cases hl:loc C s1 s2 with
  |none=>rfl
  | some k=>
   have:=(Rx hl).1;rw[hl]at D;simp[FL]at D;omega
def aB5{a:Nat}(h:a<16)(C:a≠0):CB (a:Int)=some (iv a:Int):=by
 have t:=gK aAI h;simp_all
def aB6{a:Nat}(h:a<16)(C:a≠0):Qn (a:Int)=some (lg a:Int):=by
 have t:=gK aBW h;simp_all
def akG{w:aa Nat}(T:dD w)(hl:w.length=11):KF (bu w)=some (bu (gC w).1,(gC w).2.1,(gC w).2.2):=by
 have ho:bF (([]:aa Int).length+(bu w).length)=true:=cM (by simp[ic,hl]);have h0:∀n:Nat,((n:Int)==(0:Int))=Nat.beq n 0:=λn=>FM n 0
 have C:=rj w 0 11;have D:=rj w 1 11;have U:=rj w 2 11;have L:∀i (h:i<(bu w).length),(bu w)[i]=((w.getD i 0:Nat):Int):=λi h=>tV h
 have O:∀ k,(bu w).set k (bits .xor .i64 ((w.getD k 0:Nat):Int) ((bQ w 0 11:Nat):Int))=bu (w.set k (w.getD k 0 ^^^ bQ w 0 11)):=λk=>by
  rw[ri (T.get k) C,Q8]
 have hlen:(bu w).length=11:=by rw[ic,hl]
 unfold KF xA xC xL xZ;rw[Yo T hl,ak,aAE T hl,ho];have aB7:jP [((bQ w 0 11:Nat):Int),((bQ w 1 11:Nat):Int),((bQ w 2 11:Nat):Int)]=false:=rfl;rw[aB7,au,aq,ak];unfold gC nJ;cases hz:(Nat.beq (bQ w 0 11) 0&&(Nat.beq (bQ w 1 11) 0&&Nat.beq (bQ w 2 11) 0))with
 |true=>simp
 | false=>
  simp only[au,kZ];generalize Y:bu w=W at L O hlen ⊢;generalize hg0:bQ w 0 11=E at *
  generalize V7:bQ w 1 11=s1 at *
  generalize yN:bQ w 2 11=s2 at *
  have cL:∀n:Nat,((n:Int) != (0:Int)) = !Nat.beq n 0:=λn=>by rw[bne,h0]
  by_cases I:E=0
  ·rw[akF C D U (.inl I)];subst I;simp[Y]
  ·have c0:Nat.beq E 0=false:=by cases h:Nat.beq E 0 with | false=>rfl | true=>exact absurd (cB h) I
   by_cases Z:s1=0
   ·rw[akF C D U (.inr Z)];simp_all
   ·have c1:Nat.beq s1 0=false:=by cases h:Nat.beq s1 0 with | false=>rfl | true=>exact absurd (cB h) Z
    have⟨nx,DD⟩:=aB4 C D U I Z;have e1:=aB5 C I;have e2:=CG D (aAH E);rw[DD];generalize hx:gm s1 (iv E)=x at *
    have akH:x<16:=by rw[<- hx];exact gI _ _
    have e3:=aB6 akH nx;have e4:=CG D akH;generalize hn:lg x=n at *
    by_cases q1:n<11
    ·have d1:Nat.blt n 11=true:=ja q1;have d2:(n:Int)<11:=by omega
     have dW:n<W.length:=by omega
     have L:=L n dW;have O:=O n;cases q2:Nat.beq (gm s1 x) s2 with
     | true=>
      simp only[d1,cm,aq];generalize w.getD n 0=c at L O ⊢;simp_all
     | false=>
      simp[ e1,e2,e3,e4,FM,q2,Y]
    ·have d1:Nat.blt n 11=false:=by
      cases h:Nat.blt n 11 with
      |false=>rfl
      |true=>exact absurd (cK h) (by omega)
     have d2:¬ (n:Int)<11:=by omega
     simp only[d1,Bool.false_and,au];simp[cL,c0,c1,e1,e2,e3,d2,Y]
def CU{w:aa Nat}(C:dD w)(hl:w.length=11):(gC w).1.length=11/\dD (gC w).1/\((gC w).2.1=0 \/ (gC w).2.1=1 \/ (gC w).2.1=2):=by
 have D:=rj w 0 11;unfold gC;cases nJ w with
 |true=>simp_all
 | false=>
  cases loc _ _ _ with
  |none=>simp_all
  |some k=>exact⟨by simp[hl],C.set (mh (C.get k) D),.inr (.inl rfl)⟩
def aB8:(js λa=>(List.range 11).all λk=>Nat.beq (gm (gm a (pw k)) (pw k)) (gm a (pw (k*2))))=true:=by kernel_rfl
def aB9{w:aa Nat}(L:dD w)(hl:w.length=11)(h:(gC w).2.1≠2):nJ (gC w).1=true:=by
 unfold gC at h ⊢;cases O:nJ w with
 |true=>grind
 | false=>
  rw[O,au]at h;simp only[au];cases T:loc (bQ w 0 11) (bQ w 1 11) (bQ w 2 11)with
  |none=>grind
  | some k=>
   have⟨E,C,_⟩:=Rx T;have D:=rj w 0 11;simp only[okB,aQ]at C;have I:=cB C.2.1;have U:=cB C.2.2;have u:=λj=>ajM L hl D E j
   have Y:gm (bQ w 0 11) (pw (k*0))=bQ w 0 11:=by rw[Nat.mul_zero];exact aAC D
   have Z:gm (bQ w 0 11) (pw (k*2))=bQ w 2 11:=by
    rw[<- cB (cv.1 (gK aB8 D) k (fz.2 E)),I,U]
   simp only[nJ,aQ];rw[u 0,u 1,u 2,Y,Nat.mul_one,I,Z,Nat.xor_self,Nat.xor_self,Nat.xor_self];exact⟨rfl,rfl,rfl⟩
def aCa{w:aa Nat}(C:dD w)(hl:w.length=11):Qp (bu w)=some (bu (w.drop 3)):=by
 unfold Qp xA xZ;have c0:((w.length:Int)==(11:Int))=true:=by rw[hl];rfl
 have D:(bu w).length=11:=by rw[ic,hl]
 rw[Yn C (by omega),ak,c0,show (!true)=false from rfl,au,D];have e:((bu w).take ((11:Nat):Int).toNat).drop (3:Int).toNat=bu (w.drop 3):=by
  rw[List.take_of_length_le (by omega)];simp_all
 have E:bF (([]:aa Int).length+(bu (w.drop 3)).length)=true:=by
  rw[ic,List.length_drop,hl];rfl
 simp_all
def FN(x:iR):Prop:=FK x.bz/\FK x.next
def Ry(x:cD):Prop:=(x.aB.length<=1048576)
def aCb(x:dy):Prop:=(x.last.length<=1048576)/\(x.bf.length<=1048576)
def LH(x:bX):Prop:=(x.symbols.length<=1048576)
def Rz(x:dU):Prop:=(x.cells.length<=1048576/\∀y∈x.cells,LH y)/\(x.br.length<=1048576)/\(x.bh.length<=1048576)
def akI(x:dG):Prop:=(x.map.length<=1048576)
def yc(x:dn):Prop:=(x.aH.length<=1048576)
def jK(x:ck):Prop:=(x.rows.length<=1048576)/\(x.counts.length<=1048576)
def dg(x:av):Prop:=FN x.box/\Ry x.bk/\aCb x.ready/\Rz x.array/\akI x.spare/\yc x.aL/\(x.bH.length<=1048576/\∀y∈x.bH,jK y)/\(x.guard.length<=1048576)/\(x.pending.length<=1048576)/\(x.queue.length<=1048576)/\(x.shares.length<=1048576)/\(x.errors.length<=1048576)/\(x.trace.length<=1048576)/\(x.cr.length<=1048576)
def mU(c:eB)(p:dM):Bool:=(su c p).getD false
def LI(c:eB)(p:dM)(hl:p.weights.length<1073741823):su c p=some (mU c p):=by
 obtain⟨b,e,_⟩:=YE c p hl;unfold mU;rw[e];rfl
def RB(c:eB)(p:dM)(hl:p.weights.length<1073741823):xj c p=some (mU c p):=by
 have⟨b,e,C,_⟩:=aBc c p hl;unfold mU;simp_all
def ba1(a x:Bool):(bif a then some x else some false)=some (a&&x):=by cases a<;>rfl
def ba2(a x:Bool):(bif !a then some false else some x)=some (a&&x):=by cases a<;>rfl
def ba3(a b:Int)(x:Bool):(bif a != b then some false else some x)=some (a==b&&x):=by
 rw[bne];cases a==b<;>rfl
theorem ba4(p:Prop)[Decidable p](x:Bool):(bif decide p then some false else some x)=some (!decide p&&x):=by cases decide p<;>rfl
def dP(c:av):Bool:=
 mU c.config c.box.bz&&(mU c.config c.box.next&&(aP c.now 0 1000000&&(lP c.config.ax c.bk&&(kU c.config.ax c.ready&&(od c.config.ax c.array&&(kG c.config.ax c.spare&&(c.spare.bB==c.config.bB&&((ff c.aL&&qd c)&&(jl (eI (eC c.config.ax c.spare)) c.queue&&(iA c.shares&&((c.shares.length:Int)==4&&(mS c.drain&&(kE c.aR&&(c.aR.state==c.bk.aR&&(!decide (c.aR.since > c.now)&&(aP c.bY.every 1 100000&&(aP c.bY.wait 1 c.bY.every&&(aP c.bY.next 0 (W6 (eI c.config.ax-1))&&(kT c.errors&&(decide ((c.trace.length:Int)<=2000)&&decide ((c.cr.length:Int)<=400)))))))))))))))))))))
def RC(c:av)(C:dg c):Fb c=some (dP c):=by
 have⟨⟨D,E⟩,U,⟨Y,Z⟩,⟨⟨z6,I⟩,z7,z8⟩,z9,L,⟨gD,aCc⟩,jx,jy,fR,kV,z16,W0,z18⟩:=C;unfold FK at D E;have O:∀ x∈c.array.cells,x.symbols.length<1073741824:=λx T=>by
  have:=I x T;unfold LH at this;omega
 unfold yc at L;unfold Fb dP;simp only[LI _ _ (show c.box.bz.weights.length<1073741823 by omega),LI _ _ (show c.box.next.weights.length<1073741823 by omega),dY,aj3,YL,aAU _ _ O,ake,aBv _ (show c.aL.aH.length<1073741824 by omega),YO,Yi,aBh _ _ (show c.queue.length<1073741824 by omega),Lt _ (show c.shares.length<1073741824 by omega),YB,YI,aj8 _ (show c.errors.length<1073741824 by omega),ak,ba1,ba2,ba3,ba4]
def Y1(c:av)(C:dg c):JU c=some (dP c):=by
 obtain⟨⟨D,E⟩,U,⟨Y,Z⟩,⟨⟨z6,I⟩,z7,z8⟩,z9,L,⟨gD,aCc⟩,jx,jy,fR,kV,z16,W0,z18⟩:=C;unfold FK at D E;have O:∀ x∈c.array.cells,x.symbols.length<1073741824:=λx T=>by
  have:=I x T;unfold LH at this;omega
 unfold yc at L;unfold JU dP;simp only[RB _ _ (show c.box.bz.weights.length<1073741823 by omega),RB _ _ (show c.box.next.weights.length<1073741823 by omega),dO,aBd,aj9,aBR _ _ O,YN,Lu _ (show c.aL.aH.length<1073741824 by omega),aBu,aBt,xV,YH,Yy _ (show c.shares.length<1073741824 by omega),Rf,Rj,aj7,ak,ba1,ba2,ba3,ba4,Bool.and_assoc]
def aCd{g:aN}{a:dU}(h:od g a=true):cy g=true/\(a.br.length:Int)=fP g/\(a.bh.length:Int)=fP g:=by
 simp[od,aQ,gS]at h;simp_all
def akJ(p:dM):Prop:=(0<=p.dz/\p.dz<=1)/\(0<=p.cap/\p.cap<=200)/\(0<=p.low/\p.low<=2)/\(p.low<p.high/\p.high<=6)/\(∃(i:Nat) (w:Int),i<4/\1<=w/\w<=4/\p.weights=[1,1,1,1].set i w)/\(5<=p.cN.down/\p.cN.down<=24)/\(60<=p.cN.sleep/\p.cN.sleep<=119)
def yd(p:dM):Prop:=akJ p/\8<=p.dK/\p.dK<=17
def aCe{b:aa Int}{c:aX}(O:fQ b c):Dr b (Pz c) akJ:=by
 unfold Pz xL;rw[O.eq];show Dr b (Option.bind (some _) _) _;rw[ak]
 refine(cZ O 2).bind λx1 k1 T U=>?_
 dsimp only;rw[U.eta]
 refine(iL U _ (by decide)).bind λY k2 h2 Z=>?_
 dsimp only;rw[Z.eta]
 refine(cZ Z 6).bind λx3 k3 h3 va=>?_
 dsimp only;rw[va.eta]
 refine(cZ va 3).bind λC k4 D vb=>?_
 dsimp only;rw[vb.eta]
 refine(cZ vb 4).bind λE k5 h5 BF=>?_
 dsimp only;rw[BF.eta]
 refine(cZ BF 4).bind λx6 k6 h6 AB=>?_
 dsimp only;rw[AB.eta]
 refine(cZ AB 4).bind λx7 k7 h7 LJ=>?_
 have a1:=T.2.2 (by omega);have a3:=h3.2.2 (by omega);have a4:=D.2.2 (by omega);have a5:=h5.2.2 (by omega);have a6:=h6.2.2 (by omega);have a7:=h7.2.2 (by omega);have b3:=h3.1;have b4:=D.1;have b5:=h5.1;have b6:=h6.1;have b7:=h7.1;have hl:x6.toNat<([1,1,1,1]:aa Int).length:=by simp only[List.length_cons,List.length_nil];omega
 dsimp only;rw[aA ⟨b6,hl⟩,aA hl,LJ.eta]
 refine(cZ LJ 20).bind λI k8 h8 LK=>?_
 dsimp only;rw[LK.eta]
 refine(cZ LK 60).bind λL k9 h9 CS=>?_
 dsimp only;rw[CS.eta];have a8:=h8.2.2 (by omega);have a9:=h9.2.2 (by omega);have b8:=h8.1;have b9:=h9.1;rw[aY (n:=3+x3),aY (n:=C+1),aY (n:=C+1+E),aY (n:=1+x7),aY (n:=5+I),aY (n:=60+L)];simp only[gJ,List.not_mem_nil,or_false]at h2;refine Dr.pure CS ⟨⟨T.1,by show x1<=_;omega⟩,⟨by show 0<=Y;omega,by show Y<=_;omega⟩,⟨D.1,by show C<=_;omega⟩,⟨by show C<C+1+E;omega,by show C+1+E<=_;omega⟩,⟨x6.toNat,1+x7,by omega,by omega,by omega,rfl⟩,⟨by show 5<=5+I;omega,by show 5+I<=_;omega⟩,⟨by show 60<=60+L;omega,by show 60+L<=_;omega⟩⟩
def akK{b:aa Int}{c:aX}(C:fQ b c):Dr b (JH c) yd:=by
 unfold JH;rw[C.eq]
 refine(aCe C).bind λO T L D=>?_
 dsimp only;rw[D.eta]
 refine(cZ D 10).bind λE U Y I=>?_
 dsimp only;rw[I.eta];rw[aY];exact Dr.pure I ⟨L,by show 8 <= 8+E;omega,by show 8+E <= _;omega⟩
def aCf{b:aa Int}{c:aX}(C:fQ b c):Dr b (Od c) λg=>g.bR=1/\1<=g.aB/\g.aB<=2/\1<=g.aM/\g.aM<=2:=by
 unfold Od;rw[C.eq]
 refine(cZ C 2).bind λD Z E I=>?_
 dsimp only;rw[I.eta]
 refine(cZ I 3).bind λx2 k2 L O=>?_
 dsimp only;rw[O.eta]
 refine(cZ O 2).bind λT k3 U Y=>?_
 dsimp only;rw[Y.eta];have a1:=E.2.2 (by omega);have a2:=L.2.2 (by omega);have a3:=U.2.2 (by omega);have b1:=E.1;have b2:=L.1;have b3:=U.1;rw[aY,aY,aY];exact Dr.pure Y ⟨rfl,by show 1<=1+D;omega,by show 1+D<=_;omega,by show 1<=1+T;omega,by show 1+T<=_;omega⟩
def aCg{b:aa Int}{c:aX}(C:fQ b c):Dr b (Of c) λm=>0 <= m.order/\m.order <= 2:=by
 unfold Of;rw[C.eq]
 refine(cZ C 3).bind λI O L D=>?_
 rw[D.eta]
 refine(Av D 2).bind λT U Y E=>?_
 rw[E.eta];exact Dr.pure E ⟨L.1,by show I <= 2;omega⟩
def Y2(eT wr:Int):cP:=⟨3,3,7,2,3,10,2,3,eT,wr,4,5,4,12,3,4,16⟩
def RD(g:aN):Prop:=(1<=g.bR/\g.bR<=2)/\(1<=g.aB/\g.aB<=2)/\(4<=g.rows/\g.rows<=6)/\(1<=g.aM/\g.aM<=2)
def vL(x:eB):Prop:=RD x.ax/\(∃r w:Int,1<=r/\r<=4/\4<=w/\w<=8/\x.aE=Y2 r w)/\(0<=x.mapping.order/\x.mapping.order<=2)/\(0<=x.bB/\x.bB<=2)/\(200<=x.interval/\x.interval<=259)/\x.eD=16/\x.cA=⟨6*x.interval,40⟩
def akL{b:aa Int}{c:aX}(L:fQ b c):Dr b (H7 c) vL:=by
 unfold H7;rw[L.eq]
 refine(aCf L).bind λg kg hg O=>?_
 dsimp only;rw[O.eta];obtain⟨g1,g2,g3,g4,g5⟩:=hg;show Dr b (Option.bind (some _) _) _;rw[ak]
 refine(aCg O).bind λm km T U=>?_
 dsimp only;rw[U.eta]
 refine(cZ U 60).bind λC k1 Y Z=>?_
 dsimp only;rw[Z.eta]
 refine(cZ Z 3).bind λD k2 h2 uZ=>?_
 dsimp only;rw[uZ.eta]
 refine(cZ uZ 2).bind λE k3 h3 va=>?_
 dsimp only;rw[va.eta]
 refine(cZ va 3).bind λx4 k4 h4 vb=>?_
 dsimp only;rw[vb.eta]
 refine(Av vb 3).bind λx5 k5 h5 I=>?_
 dsimp only;rw[I.eta];have a1:=Y.2.2 (by omega);have a2:=h2.2.2 (by omega);have a3:=h3.2.2 (by omega);have a4:=h4.2.2 (by omega);have b1:=Y.1;have b2:=h2.1;have b3:=h3.1;have b4:=h4.1;have e1:W6 (200+C)=200+C:=aY;have e2:W6 (6*(200+C))=6*(200+C):=aY;have e3:W6 (4+D)=4+D:=aY;have e4:W6 (1+E)=1+E:=aY;rw[e1,e2,e3,e4];have hG:RD ⟨1+E,g.aB,4+D,g.aM⟩:=⟨⟨by show 1<=1+E;omega,by show 1+E<=2;omega⟩,⟨g2,g3⟩,⟨by show 4<=4+D;omega,by show 4+D<=6;omega⟩,⟨g4,g5⟩⟩
 cases x5 with
 | true=>
  rw[aq]
  refine(cZ I 5).bind λx6 k6 h6 AB=>?_
  dsimp only;rw[AB.eta]
  refine(cZ AB 4).bind λx7 k7 h7 LJ=>?_
  dsimp only;rw[LJ.eta];have a6:=h6.2.2 (by omega);have a7:=h7.2.2 (by omega);have b6:=h6.1;have b7:=h7.1;rw[aY (n:=1+x7),aY (n:=4+x6)];exact Dr.pure LJ ⟨hG,⟨1+x7,4+x6,by omega,by omega,by omega,by omega,rfl⟩,T,⟨b4,by show x4<=2;omega⟩,⟨by show 200<=200+C;omega,by show 200+C<=259;omega⟩,rfl,rfl⟩
 |false=>exact Dr.pure I ⟨hG,⟨3,6,by omega,by omega,by omega,by omega,rfl⟩,T,⟨b4,by show x4<=2;omega⟩,⟨by show 200<=200+C;omega,by show 200+C<=259;omega⟩,rfl,rfl⟩
def iX(p:aU->Bool)(q:aa aU):Nat:=(q.findIdx? p).getD q.length
def akM(p:aU -> Bool)(q:aa aU):iX p q <= q.length:=by
 unfold iX;cases h:q.findIdx? p with
 |none=>simp_all
 | some k=>
  have⟨C,_⟩:=m8.1 h
  grind
def ye(p:aU->Bool)(q:aa aU)(r:aU):aa aU:=(q.take (iX p q)++[r])++q.drop (iX p q)
def aCh(p:aU->Bool)(q:aa aU)(r:aU):(ye p q r).length=q.length+1:=by
 have:=akM p q;simp[ye];omega
def aCi{p:aU -> Bool}{q:aa aU}{i:Nat}(h:i<iX p q)(hi:i<q.length):p q[i]=false:=by
 unfold iX at h;cases C:q.findIdx? p with
 |none =>simp_all
 | some k=>
  rw[C]at h;have⟨_,_,D⟩:=m8.1 C;simp_all
def aCj{p:aU -> Bool}{q:aa aU}(h:iX p q<q.length):p q[iX p q]=true:=by
 unfold iX at h;cases C:q.findIdx? p with
 |none=>grind
 | some k=>
  have⟨D,E,_⟩:=m8.1 C;have e:iX p q=k:=by unfold iX;rw[C];rfl
  simp_all
def aCk{n:Int}{l:aa aU}(h:jl n l=true){i j:Nat}(E:i<j)(D:j<l.length):(l[i].id==l[j].id)=false:=by
 unfold jl at h;rw[aQ,cv]at h;have C:=h.1 j (fz.2 D);unfold rz at C;rw[bS D]at C;simp at C;have:=C.2.2 l[i] (jN.2 ⟨i,by simp;omega,by simp⟩);simp_all
def CV(n:Int)(q:aa aU)(r:aU):aa aU×Bool:=bif jl n q&&jl n (ye (λx=>gB r x) q r)then (ye (λx=>gB r x) q r,true)else (q,false)
def akN(r:aU):(⟨r.id,r.dh,r.line,r.write,r.data,r.at_⟩:aU)=r:=rfl
def mV(r:aU)(q:aa aU)(i:Nat):aa aU:=if iX (λx=>gB r x) q<i then (q.take (iX (λx=>gB r x) q)++[r])++(q.take i).drop (iX (λx=>gB r x) q)else q.take i
def akO(r:aU)(q:aa aU)(i:Nat)(h:i <= q.length):(mV r q i).length <= i+1:=by
 unfold mV
 grind
def aCl{r:aU}{q:aa aU}{k:Nat}(C:k<q.length)(h:k=iX (λx=>gB r x) q):mV r q (k+1)=(q.take k++[r])++[q[k]]:=by
 unfold mV;rw[bN,<- h,qa,List.drop_left' (by simp;omega)]
def aCm{r:aU}{q:aa aU}{k:Nat}(C:k<q.length)(h:iX (λx=>gB r x) q<k):mV r q (k+1)=mV r q k++[q[k]]:=by
 unfold mV;rw[bN,bN h,qa C,List.drop_append_of_le_length (by simp;omega)];simp_all
def aCn{r:aU}{q:aa aU}{k:Nat}(C:k<q.length)(h:k<iX (λx=>gB r x) q):mV r q (k+1)=mV r q k++[q[k]]:=by
 unfold mV;rw[bO,bO,qa C]
def aCo(n:Int)(q:aa aU)(r:aU)(hl:q.length<1000000000):Oy n q r=some (CV n q r):=by
 have U:=akM (λx=>gB r x) q;unfold Oy xA bA xZ;have e:=cz (step:=Is) q.length (λi=>((n,q,(),(),decide (iX (λx=>gB r x) q<i),(i:Int),()),((r.id,r.dh,r.line,r.write,r.data,r.at_,()),mV r q i,()))) (.inl ((n,q,(),(),decide (iX (λx=>gB r x) q<q.length),()),((r.id,r.dh,r.line,r.write,r.data,r.at_,()),mV r q q.length,()))) aS (λk h=>by
  have I:=akO r q k (by omega);unfold Is az xG xI;dsimp only;rw[aZ (show (k:Int)<(q.length:Int) by omega),aq];by_cases c:iX (λx=>gB r x) q<k
  ·rw[aZ c,bK,au,aA ⟨by omega,by omega⟩];simp only[bC];rw[cM (by simp;omega),aq,bE,aCm h c,aZ (show iX _ q<k+1 by omega)]
  ·rw[bq c,gZ,aq,aA ⟨by omega,by omega⟩];simp only[bC];rw[akN,aj5,ak];by_cases L:k=iX (λx=>gB r x) q
   ·have C:gB r q[k]=true:=by
     have:=aCj (p:=λx=>gB r x) (q:=q) (by omega);simp_all
    have D:mV r q k=q.take k:=by unfold mV;rw[bO c]
    rw[C,aq,cM (by simp;omega),aq,aA ⟨by omega,by omega⟩,cM (by simp;omega),aq,bE,aZ (show iX _ q<k+1 by omega),aCl h L,D]
   ·have C:=aCi (p:=λx=>gB r x) (by omega) h;rw[C,au,aA ⟨by omega,by omega⟩,cM (by simp;omega),aq,bE,bq (show ¬ iX _ q<k+1 by omega),aCn h (by omega)]) (by
  unfold Is az xG xI;dsimp only;rw[bq,au]) (bJ)
 have D:mV r q 0=[]:=by
  unfold mV;simp[*]
 rw[cc,D,bq (show ¬ iX (λx=>gB r x) q<0 by omega)]at e;rw[e,ak];simp only[dZ];have Y:=aCh (λx=>gB r x) q r;have E:∀l:aa aU,l.length<1073741824 -> bF (([]:aa aU).length+l.length)=true:=λl h=>cM (by simpa using h)
 have key:∀ o:aa aU,o=ye (λx=>gB r x) q r -> ((vi n q).bind λO=>bif (!O)then bif bF (([]:aa aU).length+q.length)then some ((([]:aa aU)++q),false)else none else (vi n o).bind λT=>bif (!T)then bif bF (([]:aa aU).length+q.length)then some ((([]:aa aU)++q),false)else none else some (o,true))=some (CV n q r):=by
  rintro o rfl;rw[YH,ak];unfold CV;cases Z:jl n q with
  |false=>rw[gZ,aq,E q (by omega)];rfl
  | true=>
   rw[bK,au,YH,ak,cm];cases C:jl n (ye (λx=>gB r x) q r)with
   |false=>rw[gZ,aq,E q (by omega)];rfl
   |true=>rfl
 have I:=akO r q q.length (dJ _);by_cases c:iX (λx=>gB r x) q<q.length
 ·rw[aZ c,bK];refine key _ ?_;unfold mV ye;simp[*]
 ·rw[bq c,gZ,aq,cM (by simp only[jO];omega),aq,akN];refine key _ ?_;unfold mV ye;have:iX (λx=>gB r x) q=q.length:=by omega
  rw[bO c,this,jz,List.drop_length,List.append_nil]
abbrev aCp:=((af×af×af×Int×af)×(av×(Int×Int×Int×Int×Int×Int×Int×Int×Int×Int×Int×Int×Int×Int×Int×Int×Int×Int×Int×Int×Int×Int×Bool×Int×Int×Int×Int×Int×Int×Int×Int×Int×Int×af×Int×Int×Int×Int×Int×Int×Int×af×Int×Int×Bool×Int×af×Int×af×af×af×af×af×Int×af×af×Int×Bool×(aa ck)×(aa Int)×(aa aJ)×(aa aU)×(aa cw)×Bool×Int×Int×Int×Int×Int×Int×Int×Int×(aa cq)×(aa fk)×(aa eR)×af)×(aa ck)×(aa Int)×(aa Int)×(aa eP)×(aa Int)×(aa Int)×(aa bX)×(aa Int)×(aa Int)×(aa Int)×(aa Int)×af))
abbrev aCq:=((af×af×af×(aa ck)×Int×Int×af)×(av×av×(Int×Int×Int×Int×Int×Int×Int×Int×Int×Int×Int×Int×Int×Int×Int×Int×Int×Int×Int×Int×Int×Int×Bool×Int×Int×Int×Int×Int×Int×Int×Int×Int×Int×af×Int×Int×Int×Int×Int×Int×Int×af×Int×Int×Bool×Int×af×Int×af×af×af×af×af×Int×af×af×Int×Bool×af×(aa Int)×(aa aJ)×(aa aU)×(aa cw)×Bool×Int×Int×Int×Int×Int×Int×Int×Int×(aa cq)×(aa fk)×(aa eR)×af)×(aa Int)×(aa Int)×(aa eP)×(aa Int)×(aa Int)×(aa bX)×(aa Int)×(aa Int)×(aa Int)×(aa Int)×(aa ck)×af))
def iC{α:Type}(l:aa α)(h:l.length<=1048577:=by omega):bF (([]:aa α).length+l.length)=true:=cM (by simp;omega)
def Y3(t:ck)(h:jK t):Fg t=some t:=by
 unfold Fg xA xZ;have C:=h.1;have D:=h.2;rw[iC _,iC _];rfl
def akP(t:ck)(h:jK t):Ic t=some t:=Y3 t h
def aCr(s:aCp)(T:aa ck)(C:s.1.2.2.2.1=0)(D:s.2.2.2.1=[])(E:s.2.2.1.2.2.2.2.2.2.2.2.2.2.2.2.2.2.2.2.2.2.2.2.2.2.2.2.2.2.2.2.2.2.2.2.2.2.2.2.2.2.2.2.2.2.2.2.2.2.2.2.2.2.2.2.2.2.2.2.2.2.1=T)(I:T.length<=1048576/\∀ y∈T,jK y):iter Ed aS s=some (.inl (((),(),(),()),(s.2.1,s.2.2.1,T,s.2.2.2.2))):=by
 subst E;have e:=cz (step:=Ed) (s.2.2.1.2.2.2.2.2.2.2.2.2.2.2.2.2.2.2.2.2.2.2.2.2.2.2.2.2.2.2.2.2.2.2.2.2.2.2.2.2.2.2.2.2.2.2.2.2.2.2.2.2.2.2.2.2.2.2.2.2.2.1).length (λi=>(((),(),(),(i:Int),()),(s.2.1,s.2.2.1,(s.2.2.1.2.2.2.2.2.2.2.2.2.2.2.2.2.2.2.2.2.2.2.2.2.2.2.2.2.2.2.2.2.2.2.2.2.2.2.2.2.2.2.2.2.2.2.2.2.2.2.2.2.2.2.2.2.2.2.2.2.2.1).take i,s.2.2.2.2))) (.inl (((),(),(),()),(s.2.1,s.2.2.1,s.2.2.1.2.2.2.2.2.2.2.2.2.2.2.2.2.2.2.2.2.2.2.2.2.2.2.2.2.2.2.2.2.2.2.2.2.2.2.2.2.2.2.2.2.2.2.2.2.2.2.2.2.2.2.2.2.2.2.2.2.2.1,s.2.2.2.2))) aS (λk h=>by
  unfold Ed az xG xI;dsimp only;rw[aZ,aq,aA ⟨by omega,by omega⟩];simp only[bC];rw[akP _ (I.2 _ (cS _)),ak,cM (by simp;omega),aq,bE,qa h]) (by
  unfold Ed az xG xI;dsimp only;rw[bq,au,jz]) (bJ)
 have L:s=(((),(),(),((0:Nat):Int),()),(s.2.1,s.2.2.1,(s.2.2.1.2.2.2.2.2.2.2.2.2.2.2.2.2.2.2.2.2.2.2.2.2.2.2.2.2.2.2.2.2.2.2.2.2.2.2.2.2.2.2.2.2.2.2.2.2.2.2.2.2.2.2.2.2.2.2.2.2.2.1).take 0,s.2.2.2.2)):=by
  rw[List.take_zero,<-D,cc,<-C]
 rw[<-e,<-L]
def aCs(s:aCq)(D:s.1.2.2.2.2.2.1=0)(E:s.1.2.2.2.2.1=(s.1.2.2.2.1.length:Int))(I:s.2.2.2.2.2.2.2.2.2.2.2.2.2.2.1=[])(C:s.1.2.2.2.1.length <= 1048576 /\ ∀ y∈s.1.2.2.2.1,jK y):iter Fh aS s=some (.inl (((),(),(),()),(s.2.1,s.2.2.1,s.2.2.2.1,s.2.2.2.2.1,s.2.2.2.2.2.1,s.2.2.2.2.2.2.1,s.2.2.2.2.2.2.2.1,s.2.2.2.2.2.2.2.2.1,s.2.2.2.2.2.2.2.2.2.1,s.2.2.2.2.2.2.2.2.2.2.1,s.2.2.2.2.2.2.2.2.2.2.2.1,s.2.2.2.2.2.2.2.2.2.2.2.2.1,s.2.2.2.2.2.2.2.2.2.2.2.2.2.1,s.1.2.2.2.1,s.2.2.2.2.2.2.2.2.2.2.2.2.2.2.2))):=by
 have e:=cz (step:=Fh) s.1.2.2.2.1.length (λi=>(((),(),(),s.1.2.2.2.1,s.1.2.2.2.1.length,i,()),(s.2.1,s.2.2.1,s.2.2.2.1,s.2.2.2.2.1,s.2.2.2.2.2.1,s.2.2.2.2.2.2.1,s.2.2.2.2.2.2.2.1,s.2.2.2.2.2.2.2.2.1,s.2.2.2.2.2.2.2.2.2.1,s.2.2.2.2.2.2.2.2.2.2.1,s.2.2.2.2.2.2.2.2.2.2.2.1,s.2.2.2.2.2.2.2.2.2.2.2.2.1,s.2.2.2.2.2.2.2.2.2.2.2.2.2.1,s.1.2.2.2.1.take i,s.2.2.2.2.2.2.2.2.2.2.2.2.2.2.2))) _ aS (λk h=>by
  unfold Fh az xG xI;dsimp only;rw[aZ,aq,aA ⟨by omega,by omega⟩];simp only[bC];rw[Y3 _ (C.2 _ (cS _)),ak,cM (by simp;omega),aq,bE,qa h]) (by
  unfold Fh az xG xI;dsimp only;rw[bq,au,jz]) (bJ)
 grind
def akQ(l:aa Int)(h:l.length <= 1048577):P4 l=some l:=by
 cases l with
 |nil=>rfl
 | cons a l=>
  show (bif bF _ then some _ else none)=_;rw[iC _ h];rfl
def aCt(l:aa aJ)(h:l.length <= 1048577):Xh l=some l:=by
 cases l with
 |nil=>rfl
 | cons a l=>
  show (bif bF _ then some _ else none)=_;rw[iC _ h];rfl
def aCu(l:aa aU)(h:l.length <= 1048577):Xi l=some l:=by
 cases l with
 |nil=>rfl
 | cons a l=>
  show (bif bF _ then some _ else none)=_;rw[iC _ h];rfl
def aCv(l:aa cw)(h:l.length <= 1048577):Xj l=some l:=by
 cases l with
 |nil=>rfl
 | cons a l=>
  show (bif bF _ then some _ else none)=_;rw[iC _ h];rfl
def aCw(l:aa cq)(h:l.length <= 1048577):Xk l=some l:=by
 cases l with
 |nil=>rfl
 | cons a l=>
  show (bif bF _ then some _ else none)=_;rw[iC _ h];rfl
def aCx(l:aa fk)(h:l.length <= 1048577):Xl l=some l:=by
 cases l with
 |nil=>rfl
 | cons a l=>
  show (bif bF _ then some _ else none)=_;rw[iC _ h];rfl
def aCy(l:aa eR)(h:l.length <= 1048577):Xm l=some l:=by
 cases l with
 |nil=>rfl
 | cons a l=>
  show (bif bF _ then some _ else none)=_;rw[iC _ h];rfl
def akR(b:iR)(h:FN b):Kn b=some b:=by
 have C:b.bz.weights.length <= 1048576:=h.1;have D:b.next.weights.length <= 1048576:=h.2
 unfold Kn Km xA xZ;rw[iC _,aq,iC _];rfl
def Y4(b:iR)(h:FN b):H8 b=some b:=akR b h
def RE(c:av)(D:dg c):Ee c=some c:=by
 obtain⟨E,I,L,C,O,T,U,Z,z9,fq,gD,jx,jy,fR⟩:=D;have y2:c.bk.aB.length<=1048576:=I;obtain⟨y3,y3'⟩:=L;have y5:c.spare.map.length<=1048576:=O;have y6:c.aL.aH.length<=1048576:=T;unfold Ee xA bA xZ;rw[Y4 _ E,ak];unfold Wy tN Ib BZ xA xZ;rw[iC _,aq,ak,iC _,aq,iC _,aq,ak,aAT _ (by have:=C.1.1;omega) (by have:=C.2.1;omega) (by have:=C.2.2;omega) (λx Y=>by have:x.symbols.length<=1048576:=C.1.2 x Y;omega),ak,iC _,aq,ak,iC _,aq,ak]
 refine(bx (λo=>Option.bind o _) (aCr _ c.bH rfl rfl rfl U)).trans ?_
 rw[ak];simp only[dZ];rw[iC c.guard,aq,iC c.pending,aq,iC c.queue,aq,iC c.shares,aq,iC c.errors,aq,iC c.trace,aq,iC c.cr,aq];rfl
def Y5(c:av)(D:dg c):Kq c=some c:=by
 obtain⟨E,I,L,C,O,T,U,Z,z9,fq,gD,jx,jy,fR⟩:=D;have y2:c.bk.aB.length<=1048576:=I;obtain⟨y3,y3'⟩:=L;have y5:c.spare.map.length<=1048576:=O;have y6:c.aL.aH.length<=1048576:=T;unfold Kq bA;rw[akR _ E,ak];unfold Fc Fe Ff xA xZ;rw[iC _,aq,ak,iC _,aq,iC _,aq,ak,aAS _ (by have:=C.1.1;omega) (by have:=C.2.1;omega) (by have:=C.2.2;omega) (λx Y=>by have:x.symbols.length<=1048576:=C.1.2 x Y;omega),ak,akQ _ (by omega),ak,iC _,aq,ak]
 refine(bx (λo=>Option.bind o _) (aCs _ rfl rfl rfl U)).trans ?_
 rw[ak];simp only[dZ];rw[akQ c.guard (by omega),ak,aCt c.pending (by omega),ak,aCu c.queue (by omega),ak,aCv c.shares (by omega),ak,aCw c.errors (by omega),ak,aCx c.trace (by omega),ak,aCy c.cr (by omega),ak];rfl
def c8{α:Type}(p:α->Bool)(q:aa α):Nat:=(q.findIdx? p).getD q.length
def ua{α:Type}(p:α -> Bool)(q:aa α):c8 p q <= q.length:=by
 unfold c8;cases h:q.findIdx? p with
 |none=>simp_all
 | some k=>
  have⟨C,_⟩:=m8.1 h
  grind
def mW{α:Type}{p:α -> Bool}{q:aa α}{i:Nat}(h:i<c8 p q)(hi:i<q.length):p q[i]=false:=by
 unfold c8 at h;cases C:q.findIdx? p with
 |none =>simp_all
 | some k=>
  rw[C]at h;have⟨_,_,D⟩:=m8.1 C;simp_all
def qe{α:Type}{p:α -> Bool}{q:aa α}(h:c8 p q<q.length):p q[c8 p q]=true:=by
 unfold c8 at h;cases C:q.findIdx? p with
 |none=>grind
 | some k=>
  have⟨D,E,_⟩:=m8.1 C;have e:c8 p q=k:=by unfold c8;rw[C];rfl
  simp_all
def LL{α:Type}(p:α -> Bool)(q:aa α):q.any p=decide (c8 p q<q.length):=by
 by_cases c:c8 p q<q.length
 ·rw[aZ c,List.any_eq_true];exact⟨_,cS c,qe c⟩
 ·rw[bq c,List.any_eq_false];intro x C;obtain⟨i,hi,rfl⟩:=jN.1 C;rw[mW (p:=p) (by omega) hi];simp
def aCz(c:av)(r:aU):aU:=⟨r.id,r.dh,r.line,r.write,r.data,c.now⟩
def mX(c:av)(r:aU):aa aU×Bool:=CV (eI (eC c.config.ax c.spare)) c.queue (aCz c r)
def sE(c:av)(r:aU):av×Bool:=bif (!dP c) ||((!(mX c r).2) ||(c.cr.any λx=>x.id==r.id))then (c,false)else ({ c with queue:=(mX c r).1 },true)
def aCA(c:av)(h:dP c=true):eI ⟨c.config.ax.bR,c.config.ax.aB,W6 (c.config.ax.rows-c.config.bB),c.config.ax.aM⟩=eI (eC c.config.ax c.spare):=by
 simp only[dP,aQ,fT]at h;obtain⟨_,_,_,_,_,_,C,D,_⟩:=h;unfold eC;rw[C,aq,D]
def aCB(c:av)(r:aU)(h:c.queue.length <= 1048576):(mX c r).1.length <= 1048576:=by
 unfold mX CV;cases C:(jl _ _&&jl _ _)with
 |false=>exact h
 | true=>
  rw[aq];rw[aQ]at C;have:=C.2;unfold jl at this
  grind
def aCC(c:av)(r:aU)(C:dg c):dg (sE c r).1:=by
 unfold sE;cases hb:((!dP c) ||((!(mX c r).2) ||(c.cr.any λx=>x.id==r.id)))with
 |true=>exact C
 | false=>
  have⟨D,E,I,L,O,T,U,Y,Z,fq,gD,jx,jy,fR⟩:=C;exact⟨D,E,I,L,O,T,U,Y,Z,aCB c r fq,gD,jx,jy,fR⟩
def LM(c:av)(r:aU):Bool×av:=bif (c.cr.any λx=>x.id==r.id)then (false,c)else bif (mX c r).2 then (true,{ c with queue:=(mX c r).1 })else (false,c)
def aCD(c:av)(r:aU)(C:dg c)(D:dP c=true):Oz c r=some ((LM c r).1,((LM c r).2,())):=by
 obtain⟨I,L,O,T,U,Y,Z,z8,z9,fq,gD,jx,jy,fR⟩:=C;have hk:=ua (λx:eR=>x.id==r.id) c.cr;unfold Oz LM bM;rw[LL];have e:=cz (step:=It) (c8 (λx:eR=>x.id==r.id) c.cr) (λi=>(((),(),(),(i:Int),()),(c,(r.id,r.dh,r.line,r.write,r.data,r.at_,()),(c.config.ax.bR,c.config.ax.aB,(W6 (c.config.ax.rows-c.config.bB)),c.config.ax.aM,()),()))) (if c8 (λx:eR=>x.id==r.id) c.cr<c.cr.length then .inl ((false,()),(c,()))else .inr (.inl (((),(),(),()),(c,(r.id,r.dh,r.line,r.write,r.data,r.at_,()),(c.config.ax.bR,c.config.ax.aB,(W6 (c.config.ax.rows-c.config.bB)),c.config.ax.aM,()),())))) aS (λk h=>by
  have E:=mW h (by omega);unfold It az aT xG xL;dsimp only;rw[aZ,aq,aA ⟨by omega,by omega⟩,aA];simp only[bC];rw[E,au,bE]) (by
  unfold It az aT xG xL;dsimp only;by_cases k:c8 (λx:eR=>x.id==r.id) c.cr<c.cr.length
  ·rw[aZ,aq,aA ⟨by omega,by omega⟩,aA,bN k];simp only[bC];rw[qe k,aq]
  ·rw[bq,au,bO k]) (bJ)
 rw[cc]at e;rw[e,ak];by_cases k:c8 (λx:eR=>x.id==r.id) c.cr<c.cr.length
 ·rw[bN k,aZ k,dZ];rfl
 ·rw[bO k,bq k,Sum.elim_inr,dZ,xV,ak];dsimp only;rw[aCA c D,aCo _ _ _ (by omega),ak];show (bif (mX c r).2 then some ((mX c r).2,({ c with queue:=(mX c r).1 },()))else some ((mX c r).2,(c,())))=_;cases (mX c r).2<;>rfl
def nb(l:aa UInt8):aa Int:=l.map λb=>(b.toNat:Int)
def cQ(c:av)(a:dU):av:=⟨c.config,c.box,c.now,c.bk,c.ready,a,c.spare,c.aL,c.bH,c.guard,c.pending,c.queue,c.shares,c.drain,c.aR,c.bY,c.errors,c.trace,c.cr⟩
def vM:bX:=⟨[],false⟩
def CW(d:bX):bX:=⟨(d.symbols.set 0 (bits .xor .i64 (d.symbols.getD 0 0) 5)).set 1 (bits .xor .i64 (d.symbols.getD 1 0) 10),d.jb⟩
def kH(base:Nat):Nat->aa bX->aa bX
 |0,cs=>cs
 |n+1,cs=>(kH base n cs).set (base+n) (CW ((kH base n cs).getD (base+n) vM))
def LN(base:Nat):∀ (n:Nat) (cs:aa bX),(kH base n cs).length=cs.length
 |0,_=>rfl
 | n+1,cs=>by
  show ((kH base n cs).set _ _).length=_;rw[iY,LN]
def aCE{d:bX}(h:Sy d.symbols):Sy (CW d).symbols:=by
 have C:0<d.symbols.length:=by rw[h.1];omega
 have l1:1<d.symbols.length:=by rw[h.1];omega
 have I:d.symbols.getD 0 0=d.symbols[0]:=by rw[fj,bS C];rfl
 have L:d.symbols.getD 1 0=d.symbols[1]:=by rw[fj,bS l1];rfl
 have D:=Yr (h.get (k:=0) C) (b:=5) ⟨by omega,by omega⟩;have E:=Yr (h.get l1) (b:=10) ⟨by omega,by omega⟩;unfold CW;rw[I,L];exact(h.set ⟨D.1,D.2.1⟩).set ⟨E.1,E.2.1⟩
def RG{base:Nat}:∀ (n:Nat) {cs:aa bX},base+n <= cs.length -> (∀ c∈cs,Sy c.symbols) -> ∀ c∈kH base n cs,Sy c.symbols
 |0,cs,_,h=>h
 | n+1,cs,hl,h=>by
  have C:=RG (base:=base) n (by omega) h;have hlen:=LN base n cs;refine Sy.bW C (aCE ?_)
  grind
def uc(g:aN)(l:nc)(a:dU)(b r:Int):dU:=
 ⟨bif xW l a (b*g.rows+r).toNat then kH ((b*g.rows+r)*g.aM).toNat g.aM.toNat a.cells else a.cells,a.br.set (b*g.rows+r).toNat 0,vD g.rows r (b*g.rows+r).toNat a.bh⟩
def LO{g:aN}(C:cy g=true){b r k:Int}(E:0 <= b)(I:b<aW g)(L:0 <= r)(O:r<g.rows)(T:0 <= k)(U:k<g.aM):0 <= (b*g.rows+r)*g.aM/\(b*g.rows+r)*g.aM+k<eI g/\0 <= b*g.rows+r/\b*g.rows+r<fP g:=by
 have er:aW g*g.rows=fP g:=by simp[fP,C]
 have⟨Z,Y,D⟩:=vA E I L O;rw[er]at D;have⟨q0,q1,q2⟩:=vA Y D T U;have el:fP g*g.aM=eI g:=by simp[fP,eI,C]
 simp_all
def aCF{g:aN}(C:cy g=true)(c:av){b r:Int}(hc:(c.array.cells.length:Int)=eI g)(U:∀ x∈c.array.cells,Sy x.symbols)(E:0<=b)(I:b<aW g)(L:0<=r)(O:r<g.rows):
  iter Cz aS (((),b,r,(),(0:Int),()),(c,(g.bR,g.aB,g.rows,g.aM,()),()))=some (.inl (((),b,r,(),()),(cQ c ⟨kH ((b*g.rows+r)*g.aM).toNat g.aM.toNat c.array.cells,c.array.br,c.array.bh⟩,(g.bR,g.aB,g.rows,g.aM,()),()))):=by
 obtain⟨_,_,_,_,g5,g6,g7,g8⟩:=fm C;have b1:=mQ g;obtain⟨n,Y⟩:=fA (show 0<=g.aM by omega);obtain⟨B,hB⟩:∃B,B=((b*g.rows+r)*g.aM).toNat:=⟨_,rfl⟩
 have Z:g.aM.toNat=n:=by omega
 rw[<-hB,Z];have lY:B+n<=c.array.cells.length:=by
  have:=LO C E I L O (show 0<=g.aM-1 by omega) (by omega);omega
 have e:=cz (step:=Cz) n (λk=>(((),b,r,(),(k:Int),()),(cQ c ⟨kH B k c.array.cells,c.array.br,c.array.bh⟩,(g.bR,g.aB,g.rows,g.aM,()),()))) (.inl (((),b,r,(),()),(cQ c ⟨kH B n c.array.cells,c.array.br,c.array.bh⟩,(g.bR,g.aB,g.rows,g.aM,()),()))) aS (λk hk=>by
  have LP:dx g ⟨b,r,(k:Int)⟩=true:=vw C E I L O (by dsimp only;omega) (by dsimp only;omega);have hix:p9 g ⟨b,r,(k:Int)⟩=((B+k:Nat):Int):=by
   have:=LO C E I L O (show 0<=(k:Int) by omega) (by omega);unfold p9;rw[LP,aq];dsimp only;omega
  have hlen:=LN B k c.array.cells;have T:=RG k (by omega:B+k<=c.array.cells.length) U;show Cz (((),b,r,(),(k:Int),()),(cQ c ⟨kH B k c.array.cells,c.array.br,c.array.bh⟩,(g.bR,g.aB,g.rows,g.aM,()),()))=some (.inl (((),b,r,(),((k+1:Nat):Int),()),(cQ c ⟨(kH B k c.array.cells).set (B+k) (CW ((kH B k c.array.cells).getD (B+k) vM)),c.array.br,c.array.bh⟩,(g.bR,g.aB,g.rows,g.aM,()),())));generalize kH B k c.array.cells=cs at hlen T;have D:B+k<cs.length:=by omega
  have s1:=Sy.mem T D;have l1:(0:Nat)<cs[B+k].symbols.length:=by rw[s1.1];omega
  have l2:(1:Nat)<cs[B+k].symbols.length:=by rw[s1.1];omega
  have c2:decide ((k:Int)<g.aM)=true:=aZ;have BE:cs.getD (B+k) vM=cs[B+k]:=by rw[fj,bS D];rfl
  have f0:cs[B+k].symbols.getD 0 0=cs[B+k].symbols[0]:=by rw[fj,bS l1];rfl
  have f1:cs[B+k].symbols.getD 1 0=cs[B+k].symbols[1]:=by rw[fj,bS l2];rfl
  rw[BE];unfold CW;rw[f0,f1];unfold Cz cQ xC az xG xL xM;dsimp only;rw[c2,aq,mR g,Yl,ak,hix];generalize B+k=j at D s1 l1 l2;simp (disch:=omega) [D,bE,l1,l2]) (by unfold Cz xC az xG xL xM;simp[Y]) (bJ)
 exact e
def aCG(c:av){R k:Int}{nb:aa Int}(hl:nb.length<1000)(E:∀ n∈nb,0<=n/\n<R)(T:0<=k)(U:k+R<=(c.array.bh.length:Int))(Y:c.array.bh.length<1000000)(hb:∀ x∈c.array.bh,0<=x/\x<=100000):
  iter Ao aS (((),k,(),(nb.length:Int),(0:Int),()),(c,nb,()))=some (.inl ((),(cQ c ⟨c.array.cells,c.array.br,nb.foldl (λh n=>o6 (k+n).toNat h) c.array.bh⟩,()))):=by
 have e:=cz (step:=Ao) nb.length (λi=>(((),k,(),(nb.length:Int),(i:Int),()),(cQ c ⟨c.array.cells,c.array.br,(nb.take i).foldl (λh n=>o6 (k+n).toNat h) c.array.bh⟩,nb,()))) (.inl ((),(cQ c ⟨c.array.cells,c.array.br,nb.foldl (λh n=>o6 (k+n).toNat h) c.array.bh⟩,()))) aS (λj h=>by
  have Z:=E _ (cS h);have I:=akB k (nb.take j) c.array.bh;have hB:=akC k (nb.take j) c.array.bh hb;rw[List.take_succ_eq_append_getElem h,List.foldl_append];simp only[List.foldl_cons,List.foldl_nil];generalize (nb.take j).foldl (λh n=>o6 (k+n).toNat h) c.array.bh=G at I hB;obtain⟨q,D⟩:=fA (show 0<=k+nb[j] by omega);have C:q<G.length:=by omega
  have hg:=hB _ (cS C);have L:W6 (k+nb[j])=(q:Int):=by rw[D];exact aY
  have O:W6 (G[q]+1)=G[q]+1:=aY;rw[D,bC,Yt C];unfold Ao cQ az xG xL;simp (disch:=omega) [h,L,C,O,bE,rq]) (by unfold Ao az xG xL;simp) (bJ)
 rw[cc,List.take_zero,List.foldl_nil]at e;exact e
def Y6{g:aN}(D:cy g=true)(l:nc){B:Int}(hB:0 <= B){a:dU}(C:fy g B a){b r:Int}(E:0 <= b)(I:b<aW g)(L:0 <= r)(O:r<g.rows):fy g B (uc g l a b r):=by
 have⟨_,_,_,_,U,Y,Z,g8⟩:=fm D;have T:((b*g.rows+r)*g.aM).toNat+g.aM.toNat <= a.cells.length:=by
  have:=LO D E I L O (show 0 <= g.aM-1 by omega) (by omega);have:=C.cells;omega
 unfold uc;refine⟨?_,?_,by simp[C.br],by simp[aAY,C.bh],Lp C.Ln ⟨by omega,by omega⟩,aA0 C.jt⟩
 ·dsimp only;cases xW l a (b*g.rows+r).toNat with
  |false=>exact C.cells
  |true=>rw[aq,LN];exact C.cells
 ·dsimp only;cases xW l a (b*g.rows+r).toNat with
  |false=>exact C.syms
  |true=>rw[aq];exact RG _ T C.syms
def akS{g:aN}(U:cy g=true)(l:nc){B:Int}(c:av)(C:fy g B c.array){b r:Int}(Y:0<=b)(Z:b<aW g)(D:0<=r)(E:r<g.rows):Kx g l c b r=some ((),(cQ c (uc g l c.array b r),())):=by
 obtain⟨_,_,_,_,g5,g6,g7,g8⟩:=fm U;have b2:=p7 g;have er:aW g*g.rows=fP g:=by simp[fP,U]
 obtain⟨r0,r1,r2⟩:=vA Y Z D E;rw[er]at r2;have hk:b*g.rows+g.rows<=fP g:=by
  have:=(vA Y Z (show 0<=g.rows-1 by omega) (show g.rows-1<g.rows by omega)).2.2;omega
 have a1:=C.br;have a2:=C.bh;have I:W6 (b*g.rows)=b*g.rows:=aY;have e2:W6 (b*g.rows+r)=b*g.rows+r:=aY;have eL:=aCF U c C.cells C.syms Y Z D E;unfold uc;generalize kH ((b*g.rows+r)*g.aM).toNat g.aM.toNat c.array.cells=cs at eL;obtain⟨i,hi⟩:=fA r1;obtain⟨k,L⟩:∃k,k=b*g.rows:=⟨_,rfl⟩
 rw[<-L]at hi hk I e2 r0 r1 r2;unfold Kx bA xL;rw[<-L,I,e2];rw[hi]at r2;rw[hi,bC];have O:i<c.array.br.length:=by omega
 have T:i<c.array.bh.length:=by omega
 have Uf:Qd g l c.array b r=some (xW l c.array i):=by
  unfold Qd xI;have Y7:W6 (i:Int)=i:=aY;simp only[<-L,I,hi,Y7];unfold xW;simp only[fj,bS O,bS T,Option.getD_some];by_cases h:c.array.br[i] > l.br<;>simp[O,T,h]
 rw[Uf,ak];have b1:=Lp C.jt (k:=i) (v:=0) ⟨by omega,by omega⟩;have DK:=YZ g5 g6 D E;have qF:=aBT g.rows r;have Y8:∀ cells:aa bX,iter Ao aS (((),k,(),((mm g.rows r).length:Int),(0:Int),()),(cQ c ⟨cells,c.array.br.set i 0,c.array.bh.set i 0⟩,mm g.rows r,()))=some (.inl ((),(cQ c ⟨cells,c.array.br.set i 0,vD g.rows r i c.array.bh⟩,()))):=λcells=>by
  have:=aCG (cQ c ⟨cells,c.array.br.set i 0,c.array.bh.set i 0⟩) (R:=g.rows) (k:=k) (nb:=mm g.rows r) (by omega) (akA D E) r0 (by simp[cQ];omega) (by simp[cQ];omega) b1;simp only[cQ]at this ⊢;rw[aBU hi r0 D]at this;exact this
 have h2x:Xw=Ao:=rfl;unfold cQ at Y8 eL ⊢;cases xW l c.array i with
 | false=>
  simp[O,T,DK,h2x,Y8]
 | true=>
  rw[aq,eL];have Y7:W6 (i:Int)=i:=aY;simp[<-L,I,Y7,hi,O,T,DK,Y8]
def aCH{g:aN}(C:cy g=true)(c:av){b r:Int}(hc:(c.array.cells.length:Int)=eI g)(U:∀ x∈c.array.cells,Sy x.symbols)(E:0<=b)(I:b<aW g)(L:0<=r)(O:r<g.rows):
  iter zY aS (((),r,(),b*g.rows+r,(0:Int),()),(c,(g.bR,g.aB,g.rows,g.aM,()),()))=some (.inl (((),r,(),b*g.rows+r,()),(cQ c ⟨kH ((b*g.rows+r)*g.aM).toNat g.aM.toNat c.array.cells,c.array.br,c.array.bh⟩,(g.bR,g.aB,g.rows,g.aM,()),()))):=by
 obtain⟨_,_,_,_,g5,g6,g7,g8⟩:=fm C;have b1:=mQ g;have b2:=p7 g;obtain⟨n,Y⟩:=fA (show 0<=g.aM by omega);obtain⟨B,hB⟩:∃B,B=((b*g.rows+r)*g.aM).toNat:=⟨_,rfl⟩
 have Z:g.aM.toNat=n:=by omega
 rw[<-hB,Z];have lY:B+n<=c.array.cells.length:=by
  have:=LO C E I L O (show 0<=g.aM-1 by omega) (by omega);omega
 have e:=cz (step:=zY) n (λk=>(((),r,(),b*g.rows+r,(k:Int),()),(cQ c ⟨kH B k c.array.cells,c.array.br,c.array.bh⟩,(g.bR,g.aB,g.rows,g.aM,()),()))) (.inl (((),r,(),b*g.rows+r,()),(cQ c ⟨kH B n c.array.cells,c.array.br,c.array.bh⟩,(g.bR,g.aB,g.rows,g.aM,()),()))) aS (λk hk=>by
  have LP:=LO C E I L O (show 0<=(k:Int) by omega) (by omega);have e1:W6 ((b*g.rows+r)*g.aM)=(b*g.rows+r)*g.aM:=aY;have e2:W6 ((b*g.rows+r)*g.aM+(k:Int))=((B+k:Nat):Int):=by rw[aY];omega
  have hlen:=LN B k c.array.cells;have T:=RG k (by omega:B+k<=c.array.cells.length) U;show zY (((),r,(),b*g.rows+r,(k:Int),()),(cQ c ⟨kH B k c.array.cells,c.array.br,c.array.bh⟩,(g.bR,g.aB,g.rows,g.aM,()),()))=some (.inl (((),r,(),b*g.rows+r,((k+1:Nat):Int),()),(cQ c ⟨(kH B k c.array.cells).set (B+k) (CW ((kH B k c.array.cells).getD (B+k) vM)),c.array.br,c.array.bh⟩,(g.bR,g.aB,g.rows,g.aM,()),())));generalize kH B k c.array.cells=cs at hlen T;have D:B+k<cs.length:=by omega
  have s1:=Sy.mem T D;have l1:(0:Nat)<cs[B+k].symbols.length:=by rw[s1.1];omega
  have l2:(1:Nat)<cs[B+k].symbols.length:=by rw[s1.1];omega
  have c2:decide ((k:Int)<g.aM)=true:=aZ;have BE:cs.getD (B+k) vM=cs[B+k]:=by rw[fj,bS D];rfl
  have f0:cs[B+k].symbols.getD 0 0=cs[B+k].symbols[0]:=by rw[fj,bS l1];rfl
  have f1:cs[B+k].symbols.getD 1 0=cs[B+k].symbols[1]:=by rw[fj,bS l2];rfl
  rw[BE];unfold CW;rw[f0,f1];unfold zY cQ xC az xG xL xM;dsimp only;have t0:(0:Int).toNat=0:=rfl;have t1:(1:Int).toNat=1:=rfl;have p0:(0:Int)<=0:=Int.le_refl 0;have p1:(0:Int)<=1:=by omega
  rw[c2,aq];simp only[e1,e2,bC];have cj:(0:Int)<=((B+k:Nat):Int):=by omega
  simp only[cj,D,p0,p1,t0,t1,l1,l2,and_self,dite_true,iY,List.getElem_set_self,List.set_set,aqS];have w:=bE (i:=k);simp only[w,List.getElem_set_ne (show (0:Nat)≠1 by decide)]) (by unfold zY xC az xG xL xM;simp[Y]) (bJ)
 exact e
def akT{x:Int}(h:0<=x/\x<=100000):(if (100000:Int)<W6 (x+1)then (100000:Int)else W6 (x+1))=rq 1 x:=by
 rw[aY (n:=x+1)];rfl
def RH(C:av)(L D O:Int)(E:aa Int):ah (af×(av×af)):=bif (decide (L<(W6 (O-(1:Int)))))then if Y:0<=(W6 (D+(1:Int)))/\(W6 (D+(1:Int))).toNat<E.length then if T:(W6 (D+(1:Int))).toNat<E.length then (let I:=E[(W6 (D+(1:Int))).toNat]'T;if Z:0<=(W6 (D+(1:Int)))/\(W6 (D+(1:Int))).toNat<E.length then if U:(W6 (D+(1:Int))).toNat<E.length then (let e63:=E[(W6 (D+(1:Int))).toNat]'U;some ((),((⟨C.config,C.box,C.now,C.bk,C.ready,⟨C.array.cells,(C.array.br.set D.toNat (0:Int)),(E.set (W6 (D+(1:Int))).toNat (if (100000:Int)<(W6 (I+(1:Int)))then (100000:Int)else (W6 (I+(1:Int)))))⟩,C.spare,C.aL,C.bH,C.guard,C.pending,C.queue,C.shares,C.drain,C.aR,C.bY,C.errors,C.trace,C.cr⟩:av),())))else none else none)else none else none else some ((),((⟨C.config,C.box,C.now,C.bk,C.ready,⟨C.array.cells,(C.array.br.set D.toNat (0:Int)),E⟩,C.spare,C.aL,C.bH,C.guard,C.pending,C.queue,C.shares,C.drain,C.aR,C.bY,C.errors,C.trace,C.cr⟩:av),()))
def RI(D:av)(E C I:Int):ah (af×(av×af)):=if Z:0<=C/\C.toNat<D.array.br.length then if O:C.toNat<D.array.br.length then (let e47:=D.array.br[C.toNat]'O;if h48:0<=C/\C.toNat<D.array.bh.length then if T:C.toNat<D.array.bh.length then (let e50:=D.array.bh[C.toNat]'T;(bif (decide (E > (0:Int)))then if h51:0<=(W6 (C-(1:Int)))/\(W6 (C-(1:Int))).toNat<(D.array.bh.set C.toNat (0:Int)).length then if U:(W6 (C-(1:Int))).toNat<(D.array.bh.set C.toNat (0:Int)).length then (let L:=(D.array.bh.set C.toNat (0:Int))[(W6 (C-(1:Int))).toNat]'U;if h54:0<=(W6 (C-(1:Int)))/\(W6 (C-(1:Int))).toNat<(D.array.bh.set C.toNat (0:Int)).length then if Y:(W6 (C-(1:Int))).toNat<(D.array.bh.set C.toNat (0:Int)).length then (let WS:=(D.array.bh.set C.toNat (0:Int))[(W6 (C-(1:Int))).toNat]'Y;(RH D E C I ((D.array.bh.set C.toNat (0:Int)).set (W6 (C-(1:Int))).toNat (if (100000:Int)<(W6 (L+(1:Int)))then (100000:Int)else (W6 (L+(1:Int)))))))else none else none)else none else none else (RH D E C I (D.array.bh.set C.toNat (0:Int)))))else none else none)else none else none
def akU{d:av}{R r:Int}{i:Nat}{H:aa Int}(hl:H.length<1000000)(D:r<R-1->i+1<H.length)(E:W6 (R-1)=R-1)(I:∀ x∈H,0<=x/\x<=100000)(hi:i<1000000):RH d r (i:Int) R H=some ((),(cQ d ⟨d.array.cells,d.array.br.set i 0,bif decide (r<R-1)then o6 (i+1) H else H⟩,())):=by
 have L:W6 ((i:Int)+1)=((i+1:Nat):Int):=bE;unfold RH cQ;rw[E,L];simp only[bC];by_cases C:r<R-1
 ·have q:i+1<H.length:=D C;rw[aZ C,aq,aq,aA ⟨by omega,q⟩,aA q,aA ⟨by omega,q⟩,aA q,akT (I _ (cS q)),Yt q]
 ·rw[bq C,au,au]
def akV{d:av}{R r:Int}{i:Nat}(E:i<d.array.br.length)(I:i<d.array.bh.length)(hl:d.array.bh.length<1000000)(U:0<r->1<=i)(L:r<R-1->i+1<d.array.bh.length)(O:W6 (R-1)=R-1)(Y:∀ x∈d.array.bh,0<=x/\x<=100000):RI d r (i:Int) R=some ((),(cQ d ⟨d.array.cells,d.array.br.set i 0,vD R r i d.array.bh⟩,())):=by
 have C:=Lp Y (k:=i) (v:=0) ⟨by omega,by omega⟩;have Z:(d.array.bh.set i 0).length=d.array.bh.length:=by simp
 unfold RI vD Aw;simp only[bC];rw[aA ⟨by omega,E⟩,aA E,aA ⟨by omega,I⟩,aA I];obtain⟨H,T⟩:∃H,d.array.bh.set i 0=H:=⟨_,rfl⟩
 rw[T]at C Z;simp only[T];by_cases D:0<r
 ·have p1':=U D;have w1:W6 ((i:Int)-1)=((i-1:Nat):Int):=by rw[aY];omega
  have q:i-1<H.length:=by omega
  simp only[w1,bC];rw[aZ D,aq,aq,aA ⟨by omega,q⟩,aA q,aA ⟨by omega,q⟩,aA q,akT (C _ (cS q)),<-Yt q];exact akU (by rw[Lq];omega) (λh=>by rw[Lq];have:=L h;omega) O (Q9 C) (by omega)
 ·rw[bq D,au,au];exact akU (by omega) (λh=>by have:=L h;omega) O C (by omega)
def akW{g:aN}(E:cy g=true)(l:nc){B:Int}(c:av)(C:fy g B c.array){b r:Int}(I:0<=b)(L:b<aW g)(Y:0<=r)(Z:r<g.rows):IN g l c b r=some ((),(cQ c (uc g l c.array b r),())):=by
 obtain⟨_,_,_,_,g5,g6,g7,g8⟩:=fm E;have b2:=p7 g;have er:aW g*g.rows=fP g:=by simp[fP,E]
 obtain⟨r0,r1,r2⟩:=vA I L Y Z;rw[er]at r2;have O:r<g.rows-1->b*g.rows+r+1<fP g:=λh=>by
  have:=(vA I L (show 0<=r+1 by omega) (show r+1<g.rows by omega)).2.2;omega
 have T:0<r->1<=b*g.rows+r:=λh=>by omega
 have a1:=C.br;have a2:=C.bh;have e1:W6 (b*g.rows)=b*g.rows:=aY;have e2:W6 (b*g.rows+r)=b*g.rows+r:=aY;have w3:W6 (g.rows-1)=g.rows-1:=aY;have U:=aCH E c C.cells C.syms I L Y Z;unfold uc;generalize kH ((b*g.rows+r)*g.aM).toNat g.aM.toNat c.array.cells=cs at U;have hx:IN g l c b r=(IG g l c.array (W6 (W6 (b*g.rows)+r))).bind λy1=>bif y1 then (iter zY aS (((),r,(),W6 (W6 (b*g.rows)+r),(0:Int),()),(c,(g.bR,g.aB,g.rows,g.aM,()),()))).bind (Sum.elim (λD=>RI D.2.1 D.1.2.1 D.1.2.2.2.1 D.2.2.1.2.2.1) (λz=>nomatch z))else RI c r (W6 (W6 (b*g.rows)+r)) g.rows:=rfl
 rw[hx,e1,e2];obtain⟨i,hi⟩:=fA r1;rw[hi]at U T O r2 ⊢;rw[bC,aAV g l c.array i (by omega) (by omega),ak];cases xW l c.array i with
 |false=>exact akV (d:=c) (r:=r) (R:=g.rows) (i:=i) (by omega) (by omega) (by omega) (λh=>by have:=T h;omega) (λh=>by have:=O h;omega) w3 C.jt
 | true=>
  rw[aq,U,ak];exact akV (d:=cQ c ⟨cs,c.array.br,c.array.bh⟩) (r:=r) (R:=g.rows) (i:=i) (by show i<c.array.br.length;omega) (by show i<c.array.bh.length;omega) (by show c.array.bh.length<_;omega) (λh=>by have:=T h;omega) (λh=>by show _<c.array.bh.length;have:=O h;omega) w3 C.jt
def aCI{c:eB}{p:dM}(hl:p.weights.length<1073741823)(h:mU c p=true):ju c.aE=true:=by
 have⟨b,e,C⟩:=YE c p hl;have hb:b=true:=by
  rw[LI c p hl]at e;simp_all
 have:=C hb;simp[nH,aQ]at this;simp_all
def jL(i:Nat):aF:=⟨(i:Int) % 9+1,if (i:Int) % 9+1<=5 then (i:Int) / 9 else 0,0,0⟩
def yf(n m:Int):Int:=if n > m then n else m
def RJ(g:aN)(t:cP)(l:aa Int)(c:aF)(m:Int)(i:Nat):Int:=match l[i]? with
 |some n=>bif decide (n<0)then m else yf (n+vG g t (jL i) c) m
 |none=>m
def ud(g:aN)(t:cP)(l:aa Int)(c:aF)(k:Nat):Int:=(List.range k).foldl (RJ g t l c) 0
def vN(g:aN)(t:cP)(r:dy)(c:aF):Int:=
 bif c.kind==1&&(r.bf.length:Int)==4 then yf (r.bf.getD 0 0+t.fC) (ud g t r.last c r.last.length)else ud g t r.last c r.last.length
def Y9(g:aN)(t:cP)(l:aa Int)(c:aF)(k:Nat):ud g t l c (k+1)=RJ g t l c (ud g t l c k) k:=by
 unfold ud;rw[List.range_succ,List.foldl_append];rfl
def Za{g:aN}{t:cP}{l:aa Int}{c:aF}{m:Int}{i:Nat}(h:i<l.length):RJ g t l c m i=bif decide (l[i]<0)then m else yf (l[i]+vG g t (jL i) c) m:=by
 unfold RJ;rw[bS h]
def aCJ{a b C:Int}(D:a<=C)(hb:0<=b/\b<=C):0<=yf a b/\yf a b<=C:=by
 unfold yf;split<;>omega
structure FO (g:aN) (t:cP) (r:dy):Prop where
 sF:cy g=true
 CX:ju t=true
 len:r.last.length<1000
 last:∀(i:Nat) (h:i<r.last.length),(-1<=r.last[i]/\r.last[i]<=1000000)/\(r.last[i] = -1\/oe g i=true)
 a4:r.bf.length<=4
 act:∀x∈r.bf,0<=x/\x<=1000000
def aCK{g:aN}{t:cP}{r:dy}(E:ju t=true)(h:kU g r=true):FO g t r:=by
 have hb:=eN g;simp only[kU,aQ,cv,fz]at h;have⟨I,C,D,L,O⟩:=h;have C:(r.last.length:Int)=9*(aW g+1):=by simpa using C
 have D:¬ (r.bf.length:Int) > 4:=by simpa using D
 refine⟨I,E,by omega,λi hi=>?_,by omega,λx T=>?_⟩
 ·have e:=L i hi;rw[Lx hi]at e;simp only[aQ,eA]at e;refine⟨bG.1 e.1,?_⟩
  grind
 ·obtain⟨i,hi,rfl⟩:=jN.1 T;have e:=O i hi;cases i with
  |zero=>rw[Ly hi]at e;exact bG.1 e
  |succ i=>rw[FE hi]at e;simp at e;exact bG.1 e.1
def akX(i:Nat):1<=(jL i).kind/\(jL i).kind<=9:=by
 unfold jL;dsimp only;omega
def aCL{g:aN}{i:Nat}(C:oe g i=true):(jL i).kind <= 5 -> 0 <= (jL i).ay/\(jL i).ay<aW g:=by
 unfold oe at C;unfold jL
 grind
def aCM{g:aN}{i:Nat}(hi:i<1000)(C:oe g i=true):∃ b,Cs g (i:Int)=some (jL i,b):=by
 have E:=C;unfold oe at C;unfold Cs jL;rw[oa,ak,qv (by omega),qt (by omega),aY,aY,Lw,ak];cases D:decide ((i:Int) / 9<aW g)with
 |true =>simp_all
 | false=>
  rw[D]at C;have I:¬ (i:Int) % 9+1 <= 5:=by
   simp_all
  simp[*]
def RK{g:aN}{t:cP}{r:dy}(h:FO g t r)(c:aF):∀ k,k <= r.last.length -> 0 <= ud g t r.last c k/\ud g t r.last c k <= 1000128
 |0,_=>⟨Int.le_refl _,by show 0 <= _;omega⟩
 | k+1,D=>by
  have C:=RK h c k (by omega);rw[Y9,Za (by omega)];have E:=YX h.CX g (jL k) c;have hl:=(h.last k (by omega)).1;cases decide (r.last[k]<0)with
  |true=>exact C
  |false=>exact aCJ (by omega) C
def aCN{g:aN}{t:cP}{r:dy}{c:aF}(h:FO g t r)(O:dI g c=true):OD g t r c=some (vN g t r c):=by
 have hb:=λk E=>RK h c k E
 have U:1<=c.kind/\c.kind<=9:=by
  simp only[dI,aQ]at O;exact bG.1 O.2.1
 have e:=cz (step:=IA) r.last.length (λi=>(((),(),(),(),ud g t r.last c i,(i:Int),()),((g.bR,g.aB,g.rows,g.aM,()),t,(r.last,r.bf,()),(c.kind,c.ay,c.row,c.bL,()),()))) (.inl (((),(),(),ud g t r.last c r.last.length,()),(t,(r.last,r.bf,()),(c.kind,c.ay,c.row,c.bL,()),()))) aS (λk E=>by
  have h1:=h.len;have h2:=(h.last k E).1;have h3:=hb k (by omega);have D:=YX h.CX g (jL k) c;unfold IA az xG xI;dsimp only;rw[aZ,aq,aA ⟨by omega,by omega⟩,bE];simp only[bC];rw[Y9,Za E];cases hd:decide (r.last[k]<0)with
  |true=>rfl
  | false=>
   have I:zW g t (jL k) c=some (vG g t (jL k) c):=aBE h.sF h.CX (akX k) U;have Y:W6 ((k:Int).tmod 9+1)=(k:Int) % 9+1:=by rw[qt (by omega),aY]
   have Z:W6 ((k:Int).tdiv 9)=(k:Int) / 9:=by rw[qv (by omega),aY]
   unfold jL at I;rw[au,au,Y,Z];by_cases C:(k:Int) % 9+1<=5
   ·rw[bN C]at I;rw[aZ C,aq,aA ⟨by omega,E⟩,mR];show Option.bind (zW g t _ c) _=_;rw[I,ak,aY (n:=r.last[k]+_) (by unfold jL at D;rw[bN C]at D;omega) (by unfold jL at D;rw[bN C]at D;omega)];unfold jL yf;rw[bN C]
   ·rw[bO C]at I;rw[bq C,au,aA ⟨by omega,E⟩,mR];show Option.bind (zW g t _ c) _=_;rw[I,ak,aY (n:=r.last[k]+_) (by unfold jL at D;rw[bO C]at D;omega) (by unfold jL at D;rw[bO C]at D;omega)];unfold jL yf;rw[bO C]) (by
  unfold IA az xG xI;dsimp only;rw[bq,au]) (bJ (by have:=h.len;omega))
 rw[cc]at e;unfold OD vN xI bA
 refine(bx (λo=>Option.bind o _) e).trans ?_
 rw[ak];simp only[dZ];have hL:=hb r.last.length (dJ _);have hf:=akx h.CX;cases c.kind==(1:Int)with
 |false=>rfl
 | true=>
  cases T:(r.bf.length:Int)==(4:Int)with
  |false=>rfl
  | true=>
   have T:(r.bf.length:Int)=4:=by simpa using T
   have L:0<r.bf.length:=by omega
   have ha:=h.act _ (cS L);rw[aq,aq,aA ⟨by omega,L⟩];show some (if W6 (r.bf[0]+t.fC) > _ then W6 (r.bf[0]+t.fC)else _)=_;rw[aY,fj,bS L];rfl
def aCO{g:aN}{t:cP}{r:dy}(h:FO g t r)(c:aF):0 <= vN g t r c:=by
 have C:=RK h c _ (dJ _);unfold vN yf
 grind
def akY{g:aN}{t:cP}{r:dy}{c:aF}(h:FO g t r)(Y:kU g r=true)(C:dI g c=true):An g t r c=some (bif decide (vN g t r c > 1000000)then -1 else vN g t r c):=by
 have hb:=λk D=>RK h c k D
 have O:(1<=c.kind/\c.kind<=9)/\(c.kind<=5->0<=c.ay/\c.ay<aW g):=by
  simp only[dI,aQ]at C
  refine⟨bG.1 C.2.1,λZ=>?_⟩
  have E:=C.2.2.1;rw[LD (bG.1 C.2.1),aZ Z]at E;have:=bG.1 E;omega
 have e:=cz (step:=Ku) r.last.length (λi=>(((),(),(),(),ud g t r.last c i,r.last,(r.last.length:Int),(i:Int),()),((g.bR,g.aB,g.rows,g.aM,()),t,(r.last,r.bf,()),(c.kind,c.ay,c.row,c.bL,()),()))) (.inl (((),(),(),ud g t r.last c r.last.length,()),(t,(r.last,r.bf,()),(c.kind,c.ay,c.row,c.bL,()),()))) aS (λk D=>by
  have E:=h.len;have h2:=(h.last k D).1;have h3:=hb k (by omega);have hg:=YX h.CX g (jL k) c;unfold Ku az xG xI;dsimp only;rw[aZ,aq,aA ⟨by omega,by omega⟩,bE];simp only[bC];rw[Y9,Za D];cases hd:decide (r.last[k]<0)with
  |true=>rfl
  | false=>
   have aF4:¬ r.last[k]<0:=by simpa using hd
   have T:oe g k=true:=by
    rcases(h.last k D).2 with h9|h9
    ·omega
    ·exact h9
   obtain⟨b,eb⟩:=aCM (g:=g) (i:=k) (by omega) T;rw[au,au,mR,eb,ak];show Option.bind (Kt g t (jL k) c) _=_;rw[aBD t h.sF (akX k) O.1 (aCL T) O.2,ak,aY (n:=r.last[k]+_)];rfl) (by
  unfold Ku az xG xI;dsimp only;rw[bq,au]) (bJ (by have:=h.len;omega))
 rw[cc]at e;unfold An vN xI bA;rw[Ra,ak,h.CX,bK,au,YL,ak,Y,bK,au,YR,ak,C,bK,au]
 refine(bx (λo=>Option.bind o _) e).trans ?_
 rw[ak];simp only[dZ];have hL:=hb r.last.length (dJ _);have hf:=akx h.CX;have I:∀m:Int,(bif decide (m > 1000000)then some (-1:Int)else some m)=some (bif decide (m > 1000000)then -1 else m):=λm=>by cases decide (m > 1000000)<;>rfl
 cases c.kind==(1:Int)with
 |false=>exact I _
 | true=>
  cases U:(r.bf.length:Int)==(4:Int)with
  |false=>exact I _
  | true=>
   have U:(r.bf.length:Int)=4:=by simpa using U
   have L:0<r.bf.length:=by omega
   have ha:=h.act _ (cS L);rw[aq,aq,aA ⟨by omega,L⟩];show (bif decide ((if W6 (r.bf[0]+t.fC) > _ then W6 (r.bf[0]+t.fC)else _) > 1000000)then _ else some (if W6 (r.bf[0]+t.fC) > _ then W6 (r.bf[0]+t.fC)else _))=_;rw[aY,fj,bS L];exact I _
def dj(c:av)(x:aF):Bool:=o9 c.bk x&&(decide (vN c.config.ax c.config.aE c.ready x<=1000000)&&decide (vN c.config.ax c.config.aE c.ready x<=c.now))
structure Pk (c:av):Prop where
 z:dg c
 ok:dP c=true
 rk:lP c.config.ax c.bk=true
 Zb:kU c.config.ax c.ready=true
 R:FO c.config.ax c.config.aE c.ready
 bl:(c.bk.aB.length:Int)=aW c.config.ax
def Pk.of{c:av}(C:dg c)(h:dP c=true):Pk c:=by
 have O:c.box.bz.weights.length <= 1048576:=C.1.1;have I:=h;simp[dP,aQ]at h;have⟨L,T,U,D,E,Y,Z,h8,h9,FH,AA,pR,sx,vH,ya,vI,At,Au,FP,LQ,xu,LR⟩:=h;have hb:c.bk.aB.length=aW c.config.ax:=by
  simp[lP,aQ]at D;simp_all
 exact⟨C,I,D,E,aCK (aCI (by omega) L) E,hb⟩
def aCP{g:aN}{x:aF}(C:dI g x=true):(1 <= x.kind/\x.kind <= 9)/\(x.kind <= 5 -> 0 <= x.ay/\x.ay<aW g):=by
 simp[dI,aQ]at C
 refine⟨bG.1 C.2.1,λE=>?_⟩
 have D:=C.2.2.1;rw[LD (bG.1 C.2.1),aZ E]at D;have:=bG.1 D;omega
def RL{c:av}(h:Pk c){x:aF}(C:dI c.config.ax x=true):B7 c x=some (dj c x):=by
 have⟨I,D⟩:=aCP C;have hb:=eN c.config.ax;have hl:=h.bl;unfold B7 dj;rw[aBz I (λE=>⟨(D E).1,by have:=D E;omega⟩) (by omega),ak,aCN h.R C,ak]
 grind
def yg{c:av}(h:Pk c){x:aF}(C:dI c.config.ax x=true):jk c x=some (dj c x):=by
 have D:=aCO h.R x;unfold jk dj;rw[Rr,ak,h.rk,C,cm,cm,akY h.R h.Zb C,ak]
 grind
def cF(i:Nat):aa Int->aa Int
 |[]=>[]
 |d::l=>bif decide (d >= 4)then (i:Int)::cF (i+1) l else cF (i+1) l
def aCQ(i:Nat)(a b:aa Int):cF i (a++b)=cF i a++cF (i+a.length) b:=by
 induction a generalizing i with
 |nil=>rfl
 | cons d a C=>
  rw[List.cons_append,cF,cF,C,show i+1+a.length=i+(a.length+1) by omega]
  grind
def CY(i:Nat)(l:aa Int):(cF i l).length <= l.length:=by
 induction l generalizing i with
 |nil=>exact dJ _
 | cons d l C=>
  have:=C (i+1);unfold cF
  grind
def Zc{l:aa Int}{i:Nat}(h:i<l.length):cF 0 (l.take (i+1))=bif decide (l[i] >= 4)then cF 0 (l.take i)++[(i:Int)]else cF 0 (l.take i):=by
 rw[qa h,aCQ,gF,Nat.min_eq_left (by omega),fh];show _++(bif decide _ then _::cF _ []else cF _ [])=_;cases decide (l[i] >= 4)with
 |true=>rfl
 |false=>exact List.append_nil _
def akZ{l:aa Int}{i:Nat}{b:Int}(h:b∈cF i l):∃ j:Nat,b=((i+j:Nat):Int)/\j<l.length/\l.getD j 0 >= 4:=by
 induction l generalizing i with
 |nil=>cases h
 | cons d l D=>
  unfold cF at h;have tl:b∈cF (i+1) l -> ∃ j:Nat,b=((i+j):Int)/\j<(d :: l).length/\(d :: l).getD j 0 >= 4:=λh=>by
   have⟨j,E,I,L⟩:=D h;exact⟨j+1,by rw[E];omega,by simpa using I,by simpa using L⟩
  cases C:decide (d >= 4)with
  | true=>
   rw[C]at h;rcases gJ.1 h with rfl|h
   ·exact⟨0,rfl,by simp,by simpa using C⟩
   ·exact tl h
  |false =>grind
def om{r:dn}(h:ff r=true):r.aH.length<=8/\1<=r.aH.length:=by
 simp only[ff,aQ]at h;have:=bG.1 h.2.1;omega
def Zd{r:dn}(C:ff r=true):K5 r=some (cF 0 r.aH):=by
 have hl:=om C;unfold K5 bA;rw[Rh _ (by omega),ak,C,bK,au];have e:=cz (step:=QL) r.aH.length (λi=>(((),r.aH,(r.aH.length:Int),(i:Int),()),(cF 0 (r.aH.take i),()))) (.inl (((),()),(cF 0 r.aH,()))) aS (λi h=>by
  have D:=CY 0 (r.aH.take i);rw[gF]at D;unfold QL az xG xI;dsimp only;rw[aZ,aq,aA ⟨by omega,by omega⟩,bE,Zc h];simp only[bC];cases decide (r.aH[i] >= 4)with
  |true=>rw[aq,aq,jO,cM,aq]
  |false=>rfl) (by
  unfold QL az xG xI;dsimp only;rw[bq,au,jz]) (bJ)
 rw[cc]at e
 refine(bx (λo=>Option.bind o _) e).trans ?_
 rfl
def ak0{r:dn}(C:ff r=true):I8 r=some (cF 0 r.aH):=by
 have hl:=om C;unfold I8 bA;have e:=cz (step:=I7) r.aH.length (λi=>(((),(),(i:Int),()),((r.aH,r.wait,r.dL,()),cF 0 (r.aH.take i),()))) (.inl (((),()),(cF 0 r.aH,()))) aS (λi h=>by
  have D:=CY 0 (r.aH.take i);rw[gF]at D;unfold I7 az xG xI;dsimp only;rw[aZ,aq,show (⟨r.aH,r.wait,r.dL⟩:dn)=r from rfl,Lu _ (by omega),ak,C,aq,aA ⟨by omega,by omega⟩,bE,Zc h];simp only[bC];cases decide (r.aH[i] >= 4)with
  |true=>rw[aq,aq,jO,cM,aq]
  |false=>rfl) (by
  unfold I7 az xG xI;dsimp only;rw[bq,au,jz]) (bJ)
 rw[cc,List.take_zero]at e
 refine(bx (λo=>Option.bind o _) e).trans ?_
 rfl
def yh(c:av):Bool:=decide ((c.queue.length:Int) > 0) ||(decide ((c.pending.length:Int) > 0) ||decide (((cF 0 c.aL.aH).length:Int) > 0))
def aCR{c:av}(C:ff c.aL=true):K6 c=some (yh c):=by
 unfold K6 yh;rw[Zd C]
 grind
def ak1{c:av}(C:ff c.aL=true):Cf c=some (yh c):=by
 unfold Cf yh;rw[ak0 C]
 grind
def ue(r:qx)(p:fE)(b:Bool):Int:=
 bif b then (bif p.state==1 then 7 else bif p.state==2 then 9 else 0)else bif p.state==0&&decide (p.idle >= r.sleep)then 8 else bif p.state==0&&decide (p.idle >= r.down)then 6 else bif p.state==1&&decide (p.idle >= r.sleep)then 7 else 0
def aCS(r:qx)(p:fE)(b:Bool)(C:xY r=true)(D:kE p=true):X3 r p b=some (ue r p b):=by
 unfold X3 ue;rw[aj0,ak,C,bK,YI,ak,D,bK]
 grind
def aCT(r:qx)(p:fE)(b:Bool)(C:xY r=true)(D:kE p=true):O6 r p b=some (ue r p b):=by
 unfold O6 ue;simp[aj1,Rj,C,D,au]
 grind
def aCU(r:qx)(p:fE)(b:Bool):ue r p b=0 \/ 6 <= ue r p b/\ue r p b <= 9:=by
 unfold ue
 grind
def AD(D:Nat->Bool)(v:Nat->Int)(C:Int)(i:Nat):Int:=bif D i&&(decide (C<0) ||decide (v i > v C.toNat))then (i:Int)else C
def kW(C:Nat->Bool)(v:Nat->Int)(k:Nat):Int:=(List.range k).foldl (AD C v) (-1)
def FQ(C:Nat->Bool)(v:Nat->Int)(k:Nat):kW C v (k+1)=AD C v (kW C v k) k:=by
 unfold kW;rw[List.range_succ,List.foldl_append];rfl
def vO(C:Nat -> Bool)(v:Nat -> Int):∀ k,-1 <= kW C v k/\kW C v k<k
 |0=>⟨Int.le_refl _,by show (-1)<0;omega⟩
 | k+1=>by
  have D:=vO C v k;rw[FQ];unfold AD
  grind
def Ze(C:Nat -> Bool)(v:Nat -> Int):∀ k,kW C v k = -1 \/ C (kW C v k).toNat=true
 |0=>.inl rfl
 | k+1=>by
  have D:=Ze C v k;rw[FQ];unfold AD
  grind
def Zf{C:Nat -> Bool}(v:Nat -> Int){i:Nat}(h:C i=true):∀ k,i<k -> 0 <= kW C v k
 |0,D=>by omega
 | k+1,D=>by
  have hb:=vO C v k;rw[FQ];unfold AD;by_cases E:i=k
  ·grind
  ·have I:=Zf v h k (by omega)
   grind
def uf(l:aa cw)(w:aa Bool):Int:=kW (λi=>w.getD i false) (λi=>(l.getD i ⟨0,0⟩).fD) (min l.length w.length)
def LS(l:aa cw)(w:aa Bool)(hl:l.length<1073741824):Fo l w=some (uf l w):=by
 unfold Fo uf bA;generalize O:min l.length w.length=n;have e:=cz (step:=KJ) n (λi=>((l,w,kW (λi=>w.getD i false) (λi=>(l.getD i ⟨0,0⟩).fD) i,(i:Int),()),())) (.inl ((kW (λi=>w.getD i false) (λi=>(l.getD i ⟨0,0⟩).fD) n,()),())) aS (λi h=>by
  have C:i<l.length:=by omega
  have L:i<w.length:=by omega
  have hb:=vO (λi=>w.getD i false) (λi=>(l.getD i ⟨0,0⟩).fD) i;rw[FQ];generalize kW (λi=>w.getD i false) (λi=>(l.getD i ⟨0,0⟩).fD) i=D at hb;unfold KJ AD az xG xI;dsimp only;rw[aZ,aq,aZ,aq,aA ⟨by omega,by omega⟩,bE];simp only[bC,fj,bS L,bS C,Option.getD_some];cases w[i]with
  |false=>rfl
  | true=>
   rw[aq,cm];by_cases E:D<0
   ·rw[aZ E];rfl
   ·have I:D.toNat<l.length:=by omega
    rw[bq E,aA ⟨by omega,C⟩,aA ⟨by omega,I⟩,bS I,Option.getD_some];cases decide (l[i].fD > l[D.toNat].fD)<;>rfl) (by
  unfold KJ az xG xI;dsimp only;by_cases C:n<l.length
  ·rw[aZ,aq,bq,au]
  ·rw[bq,au]) (bJ)
 rw[cc]at e
 refine(bx (λo=>Option.bind o _) e).trans ?_
 rfl
def aCV:OS=Fo:=rfl
def sG(s:cw):cw:=⟨s.weight,s.weight⟩
def jm(l:aa cw):aa cw:=l.map sG
def Zg(l:aa cw)(w:aa Bool)(hl:l.length<1073741824):iter Fp aS ((w,(),(l.length:Int),(0:Int),()),(l,()))=some (.inl ((w,(),()),(jm l,()))):=by
 have e:=cz (step:=Fp) _ (λi=>((w,(),l.length,i,()),(upto sG l i,()))) (.inl ((w,(),()),(jm l,()))) aS (λi h=>by
  have hlen:=Lg sG l i;unfold Fp az xG xL;dsimp only;rw[aZ,aq,aA ⟨by omega,by omega⟩,aA,aA ⟨by omega,by omega⟩,aA,bE];simp only[bC];rw[Q0 sG l i h,<- Q1 sG l i h];rfl) (by
  unfold Fp az xG xL;dsimp only;rw[bq,au,QZ];rfl) (bJ hl)
 exact e
def aCW(l:aa cw)(w:aa Bool)(hl:l.length<1073741824):iter Ew aS ((w,(),(0:Int),()),(l,()))=some (.inl ((w,(),()),(jm l,()))):=by
 have e:=cz (step:=Ew) _ (λi=>((w,(),i,()),(upto sG l i,()))) (.inl ((w,(),()),(jm l,()))) aS (λi h=>by
  have hlen:=Lg sG l i;unfold Ew az xG xL;dsimp only;rw[aZ,aq,aA ⟨by omega,by omega⟩,aA,aA ⟨by omega,by omega⟩,aA,bE];simp only[bC];rw[Q0 sG l i h,<- Q1 sG l i h];rfl) (by
  have hlen:=Lg sG l l.length;unfold Ew az xG xL;dsimp only;rw[bq,au,QZ];rfl) (bJ hl)
 exact e
def ak2(l:aa cw)(w:aa Bool)(hl:l.length<1073741823):IX l w=pZ l w:=by
 unfold IX pZ xA xC bA xL xZ;rw[kZ,aCV,LS l w (by omega),Lt _ (by omega),Yy _ (by omega),ak];rw[Zg l w (by omega),aCW l w (by omega)];rfl
def Zh{l:aa cw}(w:aa Bool)(hl:l.length<1073741823)(D:iA l=true)(T:l.length=w.length):∃ y t,pZ l w=some (y,t)/\y.length=l.length:=by
 unfold pZ xA xC bA xL xZ;have hb:=vO (λi=>w.getD i false) (λi=>(l.getD i ⟨0,0⟩).fD) (min l.length w.length);have E:(jm l).length=l.length:=by simp[jm]
 have I:=vO (λi=>w.getD i false) (λi=>((jm l).getD i ⟨0,0⟩).fD) (min (jm l).length w.length);have L:=Ze (λi=>w.getD i false) (λi=>(l.getD i ⟨0,0⟩).fD) (min l.length w.length);rw[kZ,LS l w (by omega),ak,Lt _ (by omega),ak,D,bK,au,List.length_nil,fh,cM,aq];unfold uf;generalize U:kW (λi=>w.getD i false) (λi=>(l.getD i ⟨0,0⟩).fD) (min l.length w.length)=b at *
 by_cases O:b<0
 ·simp_all
 ·have C:b.toNat<l.length:=by omega
  rw[bq O,au,aA ⟨by omega,C⟩,aA C];dsimp only;cases l[b.toNat].fD==0 with
  |false =>simp_all
  | true=>
   rw[aq,Zg l w (by omega),ak];simp only[dZ];rw[LS _ w (by omega),ak];have Y:0 <= uf (jm l) w:=Zf _ (i:=b.toNat) (by rcases L with h|h;exact absurd h (by omega);exact h) _ (by rw[E];omega);have Z:uf (jm l) w<((min (jm l).length w.length:Nat):Int):=I.2;simp_all
def AE(m:m9)(n:Int)(a:aJ):aJ:=bif m.hash then ⟨(a.ay+a.row) % n,a.row,a.bL⟩else a
def yj(g:aN)(m:m9)(l:Int):aJ:=AE m (aW g)
 (bif m.order==0 then ⟨l / g.aM % aW g,l / g.aM / aW g,l % g.aM⟩else bif m.order==1 then ⟨l % aW g,l / aW g / g.aM,l / aW g % g.aM⟩else ⟨l / g.aM / g.rows,l / g.aM % g.rows,l % g.aM⟩)
def FR{l a b:Int}(C:0<=l)(hb:0<b)(h:l<a*b):0<=l / b/\l / b<a/\l / b<=l:=by
 refine⟨Int.ediv_nonneg C (by omega),Int.ediv_lt_of_lt_mul hb h,?_⟩;exact Int.ediv_le_self _ C
def AF{l b:Int}(hb:0<b):0<=l % b/\l % b<b:=⟨Int.emod_nonneg _ (by omega),Int.emod_lt_of_pos _ hb⟩
def Zi{m:m9}{n:Int}{a:aJ}(C:0<n)(hb:0 <= a.ay/\a.ay<n):0 <= (AE m n a).ay/\(AE m n a).ay<n/\(AE m n a).row=a.row/\(AE m n a).bL=a.bL:=by
 unfold AE;cases m.hash with
 |false=>simp_all
 |true=>exact⟨(AF C).1,(AF C).2,rfl,rfl⟩
def Zj{m:m9}{n b r c:Int}(C:0<n)(D:n<=8)(E:0<=b/\b<=100000)(I:0<=r/\r<=100000):(bif m.hash then if n=0 then none else some ((⟨(W6 (b+r)).tmod n,r,c⟩:aJ),true)else some ((⟨b,r,c⟩:aJ),true))=some (AE m n ⟨b,r,c⟩,true):=by
 unfold AE;cases m.hash with
 |false=>rfl
 |true=>rw[aq,bO,aY,qt (by omega),aq]
def ak3{g:aN}{m:m9}{l:Int}(O:cy g=true)(hm:aP m.order 0 2=true)(D:0<=l)(hl:l<eI g):∀ (f:ah (aJ×Bool)),f=(bif (m.order==(0:Int))then if g.aM=0 then none else if g.aM=0 then none else if aW g=0 then none else if g.aM=0 then none else if aW g=0 then none else bif m.hash then if aW g=0 then none else some ((⟨((W6 (((W6 (l.tdiv g.aM)).tmod (aW g))+(W6 ((W6 (l.tdiv g.aM)).tdiv (aW g))))).tmod (aW g)),(W6 ((W6 (l.tdiv g.aM)).tdiv (aW g))),(l.tmod g.aM)⟩:aJ),true)else some ((⟨((W6 (l.tdiv g.aM)).tmod (aW g)),(W6 ((W6 (l.tdiv g.aM)).tdiv (aW g))),(l.tmod g.aM)⟩:aJ),true)else bif (m.order==(1:Int))then if aW g=0 then none else if aW g=0 then none else if g.aM=0 then none else if aW g=0 then none else if g.aM=0 then none else bif m.hash then if aW g=0 then none else some ((⟨((W6 ((l.tmod (aW g))+(W6 ((W6 (l.tdiv (aW g))).tdiv g.aM)))).tmod (aW g)),(W6 ((W6 (l.tdiv (aW g))).tdiv g.aM)),((W6 (l.tdiv (aW g))).tmod g.aM)⟩:aJ),true)else some ((⟨(l.tmod (aW g)),(W6 ((W6 (l.tdiv (aW g))).tdiv g.aM)),((W6 (l.tdiv (aW g))).tmod g.aM)⟩:aJ),true)else if g.aM=0 then none else if g.aM=0 then none else if g.rows=0 then none else if g.aM=0 then none else if g.rows=0 then none else bif m.hash then if aW g=0 then none else some ((⟨((W6 ((W6 ((W6 (l.tdiv g.aM)).tdiv g.rows))+((W6 (l.tdiv g.aM)).tmod g.rows))).tmod (aW g)),((W6 (l.tdiv g.aM)).tmod g.rows),(l.tmod g.aM)⟩:aJ),true)else some ((⟨(W6 ((W6 (l.tdiv g.aM)).tdiv g.rows)),((W6 (l.tdiv g.aM)).tmod g.rows),(l.tmod g.aM)⟩:aJ),true))->f=some (yj g m l,true)/\dx g (yj g m l)=true:=by
 have hb:=eN g;have hp:=FB O;have hL:=mQ g;have gb:=fm O;have eL:eI g=aW g*g.rows*g.aM:=by simp[eI,O]
 have AX:aP l 0 (W6 (eI g-1))=true:=by rw[aY];exact bG.2 ⟨D,by omega⟩
 have ho:=bG.1 hm;rw[eL]at hl;have Z:¬ aW g=0:=by omega
 have s9:¬ g.aM=0:=by omega
 have iU:¬ g.rows=0:=by omega
 rintro f rfl;simp only[bO Z,bO s9,bO iU];unfold yj;by_cases o0:m.order=0
 ·have C:=FR (a:=aW g*g.rows) D (show 0<g.aM by omega) hl;have E:=FR (l:=l / g.aM) (a:=g.rows) (b:=aW g) C.1 (by omega) (by rw[Int.mul_comm];exact C.2.1);have T:=AF (l:=l / g.aM) (b:=aW g) (by omega);have a4:=AF (l:=l) (b:=g.aM) (by omega);rw[o0,lT,aq,aq,qv D,qt D,aY (n:=l / g.aM),qv C.1,qt C.1,aY (n:=l / g.aM / aW g)];obtain⟨U,Y,I,L⟩:=Zi (m:=m) (n:=aW g) (a:=⟨l / g.aM % aW g,l / g.aM / aW g,l % g.aM⟩) (by omega) T;refine⟨?_,vw O U Y (by rw[I];exact E.1) (by rw[I];exact E.2.1) (by rw[L];exact a4.1) (by rw[L];exact a4.2)⟩;refine Eq.trans ?_ (Zj (by omega) (by omega) (by omega) (by omega));rw[bO Z]
 ·rw[kR o0,au,au];by_cases o1:m.order=1
  ·have C:=FR (a:=g.rows*g.aM) D (show 0<aW g by omega) (by rw[Int.mul_comm,<-Int.mul_assoc];exact hl);have E:=FR (l:=l / aW g) (a:=g.rows) (b:=g.aM) C.1 (by omega) C.2.1;have T:=AF (l:=l) (b:=aW g) (by omega);have a4:=AF (l:=l / aW g) (b:=g.aM) (by omega);rw[o1,lT,aq,aq,qv D,qt D,aY (n:=l / aW g),qv C.1,qt C.1,aY (n:=l / aW g / g.aM)];obtain⟨U,Y,I,L⟩:=Zi (m:=m) (n:=aW g) (a:=⟨l % aW g,l / aW g / g.aM,l / aW g % g.aM⟩) (by omega) T;refine⟨?_,vw O U Y (by rw[I];exact E.1) (by rw[I];exact E.2.1) (by rw[L];exact a4.1) (by rw[L];exact a4.2)⟩;refine Eq.trans ?_ (Zj (by omega) (by omega) (by omega) (by omega));rw[bO Z]
  ·have C:=FR (a:=aW g*g.rows) D (show 0<g.aM by omega) hl;have E:=FR (l:=l / g.aM) (a:=aW g) (b:=g.rows) C.1 (by omega) C.2.1;have T:=AF (l:=l / g.aM) (b:=g.rows) (by omega);have a4:=AF (l:=l) (b:=g.aM) (by omega);rw[kR o1,au,au,qv D,qt D,aY (n:=l / g.aM),qv C.1,qt C.1,aY (n:=l / g.aM / g.rows)];obtain⟨U,Y,I,L⟩:=Zi (m:=m) (n:=aW g) (a:=⟨l / g.aM / g.rows,l / g.aM % g.rows,l % g.aM⟩) (by omega) ⟨E.1,E.2.1⟩;refine⟨?_,vw O U Y (by rw[I];exact T.1) (by rw[I];exact T.2) (by rw[L];exact a4.1) (by rw[L];exact a4.2)⟩;refine Eq.trans ?_ (Zj (by omega) (by omega) (by omega) (by omega));rw[bO Z]
def ak4{g:aN}{m:m9}{l:Int}(C:cy g=true)(D:aP m.order 0 2=true)(E:0<=l)(hl:l<eI g):P9 g m l=some (yj g m l,true)/\dx g (yj g m l)=true:=by
 have L:=mQ g;have I:aP l 0 (W6 (eI g-1))=true:=by rw[aY];exact bG.2 ⟨E,by omega⟩
 refine ak3 C D E hl _ ?_;unfold P9;rw[xT,ak,C,bK,au,Yx,ak,D,bK,au,Yi,ak,dY,ak,I,bK,au,oa,ak]
def aCX{g:aN}{m:m9}{l:Int}(E:cy g=true)(C:aP m.order 0 2=true)(D:0<=l)(hl:l<eI g):OF g m l=some (yj g m l,true):=by
 have L:=mQ g;have I:aP l 0 (W6 (eI g-1))=true:=by rw[aY];exact bG.2 ⟨D,by omega⟩
 refine(ak3 E C D hl _ ?_).1;unfold OF;rw[show Ei m=some (aP m.order 0 2)from Yx m,ak,C,bK,au,xV,ak,dO,ak,I,bK,au,mg,ak]
def gQ(c:av)(l:Int):aJ:=
 let a:=yj (eC c.config.ax c.spare) c.config.mapping l
 ⟨a.ay,c.spare.map.getD (a.ay*(c.config.ax.rows-c.spare.bB)+a.row).toNat 0,a.bL⟩
def LU{g:aN}{s:dG}(h:kG g s=true):eC g s=⟨g.bR,g.aB,g.rows-s.bB,g.aM⟩/\cy g=true/\cy (eC g s)=true/\aW (eC g s)=aW g/\0 <= s.bB/\s.bB <= 2/\2 <= g.rows-s.bB/\g.rows <= 16:=by
 have D:=h;simp[kG,aQ]at h;have⟨C,E,I,L,O⟩:=Rc h.1;have U:=fm C;have e:eC g s=⟨g.bR,g.aB,g.rows-s.bB,g.aM⟩:=by
  unfold eC;rw[D,aq,aY]
 have T:cy (eC g s)=true:=by
  rw[e];unfold cy;simp[aQ,bG];omega
 refine⟨e,C,T,?_,E,I,L,O⟩;unfold aW;simp_all
def ak5{g:aN}{s:dG}(h:kG g s=true){b r:Int}(hb:0 <= b/\b<aW g)(E:0 <= r/\r<g.rows-s.bB):(b*(g.rows-s.bB)+r).toNat<s.map.length/\0 <= s.map.getD (b*(g.rows-s.bB)+r).toNat 0/\s.map.getD (b*(g.rows-s.bB)+r).toNat 0<g.rows:=by
 have⟨_,Y,_,_,Z,h2,h3,h4⟩:=LU h;have I:=eN g;simp only[kG,aQ,fT,cv,fz]at h;have⟨_,hl,L⟩:=h;obtain⟨b,rfl⟩:=fA hb.1;obtain⟨r,rfl⟩:=fA E.1;have⟨R,hR⟩:=fA (show 0 <= g.rows-s.bB by omega);have⟨C,O⟩:=fA I.1;rw[hR,O,bC,bC]at hl;have hl:s.map.length=C*R:=by exact_mod_cast hl
 have T:b<C:=by omega
 have D:r<R:=by omega
 have e:((b:Int)*(g.rows-s.bB)+(r:Int)).toNat=b*R+r:=by rw[hR,<- Int.natCast_mul,<- Int.natCast_add,bC]
 have dW:=Az (R:=R) T (show r+1 <= R from D);have hi:b*R+r<s.map.length:=by omega
 have h5:=L b (by omega) r (by omega);rw[e];refine⟨hi,?_⟩;rw[fj,bS hi,Option.getD_some];have U:(iM s.map R b)[r]?=some s.map[b*R+r]:=by rw[FF,List.getElem?_take_of_lt D,List.getElem?_drop,bS hi]
 rw[hR,bC]at h5;unfold rA at h5;rw[U]at h5;simp only[eA,aQ,fT,bG]at h5;rcases h5 with h5|h5
 ·omega
 ·grind
def aCY{c:av}(h:Pk c)(E:kG c.config.ax c.spare=true)(he:c.spare.bB=c.config.bB)(hm:aP c.config.mapping.order 0 2=true){l:Int}(h0:0 <= l)(hl:l<eI (eC c.config.ax c.spare)):vr c l=some (gQ c l,true)/\dx c.config.ax (gQ c l)=true:=by
 have⟨Y,Z,yN,eb,s1,s2,s3,s4⟩:=LU E;have⟨m1,m3⟩:=ak4 yN hm h0 hl;have⟨_,C,D,I,L,b5,b6⟩:=q9 m3;rw[eb]at D;have gb:=fm Z;have hb:=eN c.config.ax;have er:(eC c.config.ax c.spare).rows=c.config.ax.rows-c.spare.bB:=by rw[Y]
 have ec:(eC c.config.ax c.spare).aM=c.config.ax.aM:=by rw[Y]
 rw[er]at L;rw[ec]at b6;have⟨k1,k2,k3⟩:=ak5 E ⟨C,D⟩ ⟨I,L⟩;have hmul:=vA C D I L;have hM:=Q2 (a:=aW c.config.ax) (b:=c.config.ax.rows-c.spare.bB) (A:=8) (B:=16) hb.1 hb.2 (by omega) (by omega);unfold gQ;generalize hA:yj (eC c.config.ax c.spare) c.config.mapping l=A at *
 dsimp only;refine⟨?_,vw Z C D k2 k3 b5 b6⟩;unfold vr;rw[YO,ak,m1,ak];dsimp only;rw[bK,au];unfold Xs xI;have hx:Qa (eC c.config.ax c.spare) A.ay A.row=some true:=by
  unfold Qa;rw[Yj,ak,vw (a:=⟨A.ay,A.row,0⟩) yN C (by rw[eb];exact D) I (by rw[er];exact L) (Int.le_refl 0) (by rw[ec];show 0<_;omega)]
 have⟨b,hbN⟩:=fA C;have⟨r,hrN⟩:=fA I;have⟨R,hR⟩:=fA (show 0 <= c.config.ax.rows-c.spare.bB by omega);have⟨bn,hn⟩:=fA hb.1;have T:c.spare.map.length=bn*R:=by
  simp only[kG,aQ,fT]at E;have:=E.2.1
  grind
 have O:b<bn:=by omega
 have U:r<R:=by omega
 have dW:=Az (R:=R) O (show r+1 <= R from U);have aCZ:=Az (R:=R) O (dJ R);have hi:b*R+r<c.spare.map.length:=by omega
 rw[YO,ak,hx,ak,bK,au,hbN,akd hR (by omega) (by omega) O T,ak];have ht:((c.spare.map.take ((b+1)*R)).drop (b*R))=iM c.spare.map R b:=rfl;have lD:(iM c.spare.map R b).length=R:=FG (by rw[T];exact iZ R O);have hgx:(iM c.spare.map R b)[r]?=some c.spare.map[b*R+r]:=by rw[FF,List.getElem?_take_of_lt U,List.getElem?_drop,bS hi]
 have hgy:(iM c.spare.map R b)[r]'(by omega)=c.spare.map[b*R+r]:=by
  grind
 dsimp only;rw[ja (by rw[iP];omega),ja (by rw[iP,T];omega),cm,aq,hrN,aA ⟨by omega,by rw[ht,lD,bC];exact U⟩];simp only[bC,ht,hgy,ak];rw[hR,<- Int.natCast_mul,<- Int.natCast_add,bC,fj,bS hi,Option.getD_some]
def aC0{c:av}(h:Pk c)(I:kG c.config.ax c.spare=true)(he:c.spare.bB=c.config.bB)(L:aP c.config.mapping.order 0 2=true){l:Int}(O:0<=l)(hl:l<eI (eC c.config.ax c.spare)):xk c l=some (gQ c l):=by
 obtain⟨C,hg,T,eb,s1,s2,s3,s4⟩:=LU I;obtain⟨m1,m3⟩:=ak4 T L O hl;have m2:=aCX T L O hl;obtain⟨_,U,D,Y,E,b5,b6⟩:=q9 m3;rw[eb]at D;have gb:=fm hg;have hb:=eN c.config.ax;have er:(eC c.config.ax c.spare).rows=c.config.ax.rows-c.spare.bB:=by rw[C]
 have ec:(eC c.config.ax c.spare).aM=c.config.ax.aM:=by rw[C]
 rw[er]at E;rw[ec]at b6;obtain⟨Z,k2,k3⟩:=ak5 I ⟨U,D⟩ ⟨Y,E⟩;have hmul:=vA U D Y E;have hM:=Q2 (a:=aW c.config.ax) (b:=c.config.ax.rows-c.spare.bB) (A:=8) (B:=16) hb.1 hb.2 (by omega) (by omega);unfold gQ;generalize hA:yj (eC c.config.ax c.spare) c.config.mapping l=A at *
 dsimp only;unfold xk xI;have hw:W6 (c.config.ax.rows-c.config.bB)=c.config.ax.rows-c.spare.bB:=by rw[<-he];exact aY
 have hw1:W6 (A.ay*(c.config.ax.rows-c.spare.bB))=A.ay*(c.config.ax.rows-c.spare.bB):=aY;have Zk:W6 (A.ay*(c.config.ax.rows-c.spare.bB)+A.row)=A.ay*(c.config.ax.rows-c.spare.bB)+A.row:=aY;simp only[hw];rw[<-C,m2,ak];simp only[hw1,Zk];rw[aA ⟨hmul.2.1,Z⟩,fj,bS Z,Option.getD_some]
def FT{c:eB}{p:dM}(hl:p.weights.length<1073741823)(h:mU c p=true):nH c=true/\o7 p=true:=by
 have⟨b,e,D⟩:=YE c p hl;have hb:b=true:=by
  rw[LI c p hl]at e;simp_all
 subst hb;have C:=D rfl;refine⟨C,?_⟩;unfold su at e;have⟨y,E⟩:=YD p.dK;simp[Re,Rg _ hl,C]at e
 grind
structure Pq (c:av):Prop where
 p:Pk c
 sp:kG c.config.ax c.spare=true
 se:c.spare.bB=c.config.bB
 mo:aP c.config.mapping.order 0 2=true
 q:∀r∈c.queue,(0<=r.line/\r.line<eI (eC c.config.ax c.spare))/\(0<=r.dh/\r.dh<=3)/\(0<=r.at_/\r.at_<=1000000)
 ql:c.queue.length<=12
 pe:∀a∈c.pending,dx c.config.ax a=true
 pl:c.pending.length<=128
 rf:ff c.aL=true
 dl:(c.aL.aH.length:Int)=aW c.config.ax
 sh:iA c.shares=true
 shl:c.shares.length=4
 dr:mS c.drain=true
 pw:kE c.aR=true
 ps:c.aR.state=c.bk.aR
 nw:0<=c.now/\c.now<=1000000
 cap:0<=c.box.bz.cap/\c.box.bz.cap<=100000
 cN:xY c.box.bz.cN=true
def Pq.of{c:av}(D:dg c)(h:dP c=true):Pq c:=by
 have I:=Pk.of D h;have z1:c.box.bz.weights.length <= 1048576:=D.1.1;simp only[dP,aQ]at h;have⟨L,h2,O,h4,h5,h6,T,U,C,E,Y,pR,Z,vH,ya,vI,At,Au,FP,LQ,xu,LR⟩:=h;have⟨f1,f2⟩:=FT (by omega) L;simp only[nH,aQ]at f1;simp only[o7,aQ]at f2;have⟨f3,f4,f5,f6,f7,f8,f9⟩:=f2;simp only[qd,aQ,fT,iq,qw,cv,fz]at C;have⟨C,g1,g2,g3,g4,g5,g6⟩:=C;simp only[jl,aQ,cv,fz,gS]at E;have⟨q1,q2⟩:=E;have q5:c.shares.length=4:=by
  grind
 refine⟨I,T,by simpa using U,f1.2.2.1,λr hr=>?_,by omega,λa ha=>?_,by omega,C,g1,Y,q5,Z,vH,by simpa using ya,bG.1 O,bG.1 f4,f9⟩
 ·obtain⟨i,hi,rfl⟩:=jN.1 hr;have hb:=q1 i hi;unfold rz at hb;rw[bS hi]at hb;simp[o8,aQ,gS]at hb;have⟨⟨k1,k2,k3,k4,k5,k6,k7⟩,_⟩:=hb;exact⟨⟨k3,k4⟩,bG.1 k2,bG.1 k7⟩
 ·obtain⟨i,hi,rfl⟩:=jN.1 ha;have hb:=g6 i hi;unfold tX at hb;simp_all
def vP(r:cD)(a:aJ):Bool:=(jv r a.ay).open_&&((jv r a.ay).row==a.row)
def CZ(r:cD)(a:aJ)(w:Bool):aF:=
 bif !(jv r a.ay).open_ then ⟨1,a.ay,a.row,0⟩else bif (jv r a.ay).row != a.row then ⟨4,a.ay,0,0⟩else bif w then ⟨3,a.ay,0,a.bL⟩else ⟨2,a.ay,0,a.bL⟩
def AG{r:cD}{b:Int}(h:b.toNat<r.aB.length):jv r b=r.aB[b.toNat]:=by
 unfold jv;rw[fj,bS h];rfl
def LV{b:Int}{n:Nat}(C:0<=b)(h:b.toNat<n)(D:n<=1048576):aP b 0 (W6 ((n:Int)-1))=true:=by
 rw[aY];exact bG.2 ⟨C,by omega⟩
def RM{r:cD}{a:aJ}(w:Bool)(C:0 <= a.ay)(h:a.ay.toNat<r.aB.length)(hl:r.aB.length <= 1048576):xO r a w=some (CZ r a w):=by
 unfold xO CZ xI;rw[dY,ak,LV C h hl,bK,aA ⟨C,h⟩,AG h]
 grind
def ak6:zX=xO:=rfl
def ak7{r:cD}{b:Int}(C:0 <= b)(h:b.toNat<r.aB.length)(hl:r.aB.length <= 1048576):QO r b=some (bif (jv r b).open_ then (jv r b).row else -1):=by
 unfold QO xI;rw[dY,ak,LV C h hl,bK,aA ⟨C,h⟩,AG h]
 grind
def aC1:Pb=QO:=rfl
def aC2{r:cD}{a:aJ}(D:0 <= a.row)(C:0 <= a.ay)(h:a.ay.toNat<r.aB.length)(hl:r.aB.length <= 1048576):K9 r a=some (vP r a):=by
 unfold K9 vP;rw[fZ (by omega:¬ a.row = -1),ak7 C h hl,ak];cases (jv r _).open_ with
 |false=>rw[au,kR (by omega:¬ (-1)=a.row)];rfl
 |true=>rfl
def ak8{r:cD}{a:aJ}(D:0 <= a.row)(C:0 <= a.ay)(h:a.ay.toNat<r.aB.length)(hl:r.aB.length <= 1048576):Jh r a=some (vP r a):=by
 unfold Jh vP;rw[aC1,ak7 C h hl,ak,ak];cases (jv r _).open_ with
 |false=>simp_all
 | true=>
  rw[aq,cm];by_cases e:(jv r a.ay).row=a.row
  ·rw[e,lT,aq,fZ (by omega:¬ a.row = -1)]
  ·grind
def aC3{g:aN}{r:cD}{a:aJ}(w:Bool)(h:dx g a=true):dI g (CZ r a w)=true:=by
 have⟨D,E,U,I,Y,L,Z⟩:=q9 h;have O:aP _ 0 (aW g-1)=true:=bG.2 ⟨E,by omega⟩;have C:aP a.row 0 (g.rows-1)=true:=bG.2 ⟨I,by omega⟩;have T:aP a.bL 0 (g.aM-1)=true:=bG.2 ⟨L,by omega⟩;unfold CZ dI sD;cases (jv r _).open_<;>cases (jv r _).row != a.row<;>cases w<;>simp[D,aP,C]<;>simp[aP,gS]at O C T<;>omega
def AH{g:aN}{k b:Int}(C:cy g=true)(D:k=4 \/ k=5)(hb:0 <= b/\b<aW g):dI g ⟨k,b,0,0⟩=true:=by
 have E:aP b 0 (aW g-1)=true:=bG.2 ⟨hb.1,by omega⟩;unfold dI sD;rcases D with rfl|rfl<;>simp[C,aP]<;>simp[aP,gS]at E<;>omega
def aC4{g:aN}{a:aJ}(h:dx g a=true):dI g ⟨1,a.ay,a.row,0⟩=true:=by
 have⟨C,D,E,I,L,O,T⟩:=q9 h;unfold dI sD;simp[C,aP];omega
def RN{g:aN}{k:Int}(C:cy g=true)(D:6<=k/\k<=9):dI g ⟨k,0,0,0⟩=true:=by
 obtain⟨n,rfl⟩:=fA (show 0<=k by omega);have:n=6\/n=7\/n=8\/n=9:=by omega
 unfold dI;rw[C];rcases this with rfl|rfl|rfl|rfl<;>rfl
def Zl(l:aa aJ)(b:Int)(hl:l.length<=1048576):Fv l b=some (l.any λa=>a.ay==b):=by
 have E:=ua (λa:aJ=>a.ay==b) l;unfold Fv ajm ajl;rw[LL];have e:=cz (step:=K7) (c8 (λa:aJ=>a.ay==b) l) (λi=>((l,b,(l.length:Int),(i:Int),()),())) (if c8 (λa:aJ=>a.ay==b) l<l.length then .inl ((((c8 (λa:aJ=>a.ay==b) l:Nat):Int),()),())else .inr (.inl ((),()))) aS (λk h=>by
  have D:=mW h (by omega);unfold K7 az aT xG xI;dsimp only;rw[aZ,aq,aA ⟨by omega,by omega⟩];simp only[bC];rw[D,au,bE]) (by
  by_cases C:c8 (λa:aJ=>a.ay==b) l<l.length
  ·have D:=qe C;unfold K7 az aT xG xI;dsimp only;rw[aZ,aq,aA ⟨by omega,by omega⟩];simp only[bC];rw[D,aq,bN C]
  ·unfold K7 az aT xG xI;dsimp only;rw[bq,au,bO C]) (bJ)
 rw[cc]at e;rw[e];by_cases C:c8 (λa:aJ=>a.ay==b) l<l.length
 ·rw[bN C,aZ C];simp
 ·rw[bO C,bq C];rfl
def pg(t:ck)(row:Int):ah Nat:=match t.rows.findIdx? (λe=>e==row)with
 |some i=>some i
 |none=>t.counts.findIdx? (λe=>e==t.c9)
def kI(t:ck)(row:Int):ck:=match t.rows.findIdx? (λe=>e==row)with
 |some i=>⟨t.rows,t.counts.set i (t.counts.getD i 0+1),t.c9⟩
 | none=>match t.counts.findIdx? (λe=>e==t.c9)with
  |some i=>⟨t.rows.set i row,t.counts.set i (t.c9+1),t.c9⟩
  |none=>⟨t.rows,t.counts,t.c9+1⟩
def ug(t:ck)(row dm:Int):ck×Bool:=bif kF t&&(aP row 0 15&&aP dm 2 1000)then (bif kF (kI t row)then (kI t row,match pg t row with
    |some i=>((kI t row).counts.getD i 0).tmod dm==0
    |none=>false)else (t,false))else (t,false)
structure Tk (t:ck):Prop where
 rl:t.rows.length<=16
 cl:t.counts.length=t.rows.length
 sp:0<=t.c9/\t.c9<=100000
 cs:∀i (h:i<t.counts.length),0<=t.counts[i]/\t.counts[i]<=100000
def Tk.of{t:ck}(h:kF t=true):Tk t:=by
 simp[kF,aQ,fT,cv,fz]at h;have⟨D,I,C,E⟩:=h;have D:=bG.1 D;have C:=bG.1 C
 refine⟨by omega,by omega,C,λi hi=>?_⟩
 have hb:=E i (by omega);rw[Rp (by omega) hi,aQ,aQ]at hb;have:=bG.1 hb.2.1;omega
def LW{T:Type}{p:T -> Bool}{l:aa T}{i:Nat}(h:l.findIdx? p=some i):∃ hi:i<l.length,p l[i]=true:=by
 have⟨hi,C,_⟩:=m8.1 h;simp_all
def aC5{t:ck}(h:Tk t)(row:Int):OJ t row=some ((match pg t row with | some i=>(i:Int) | none=>-1),(kI t row,())):=by
 have O:=h.rl;have T:=h.cl;have E:=vE (step:=IJ) t.rows (λe=>e==row) (λi=>(((),row,(i:Int),()),(((),(),t.c9,()),t.rows,t.counts,()))) (λi=>.inl (((i:Int),()),(((),(),t.c9,()),t.rows,t.counts.set i (t.counts.getD i 0+1),()))) (.inr (.inl (((),row,()),(((),(),t.c9,()),t.rows,t.counts,())))) aS (λk D=>by
  have C:k<t.counts.length:=by omega
  have I:=h.cs k C;unfold IJ az aT xG xL;dsimp only;rw[aZ,aq,aA ⟨by omega,by omega⟩,aA];simp only[bC];cases t.rows[k]==row with
  |false=>rw[au,au,bE]
  | true=>
   rw[ aA ⟨by omega,C⟩,aA C,aA ⟨by omega,C⟩,aA C,aY (n:=t.counts[k]+1),fj,bS C];rfl) (by
  unfold IJ az aT xG xL;dsimp only;rw[bq,au]) (bJ)
 have L:=vE (step:=IK) t.counts (λe=>e==t.c9) (λi=>(((),row,(i:Int),()),(((),(),t.c9,()),t.rows,t.counts,()))) (λi=>.inl (((i:Int),()),(((),(),t.c9,()),t.rows.set i row,t.counts.set i (t.c9+1),()))) (.inr (.inl (((),()),(((),(),t.c9,()),t.rows,t.counts,())))) aS (λk D=>by
  have C:k<t.rows.length:=by omega
  have I:=h.sp;unfold IK az aT xG xL;dsimp only;rw[aZ,aq,aA ⟨by omega,by omega⟩,aA];simp only[bC];cases t.counts[k]==t.c9 with
  |false=>rw[au,au,bE]
  |true=>rw[aq,aq,aA ⟨by omega,C⟩,aA C,aA ⟨by omega,D⟩,aA D,aY]) (by
  unfold IK az aT xG xL;dsimp only;rw[bq,au]) (bJ)
 have U:=h.sp;unfold OJ pg kI bM
 refine(bx (λo=>Option.bind o _) E).trans ?_
 rw[ak];cases Y:t.rows.findIdx? (λe=>e==row)with
 |some i=>rfl
 | none=>
  simp only[dZ,Sum.elim_inr]
  refine(bx (λo=>Option.bind o _) L).trans ?_
  rw[ak];cases Z:t.counts.findIdx? (λe=>e==t.c9)with
  |some i=>rfl
  | none=>
   simp;rw[aY]
def Zm{t:ck}(row:Int):(kI t row).rows.length=t.rows.length/\(kI t row).counts.length=t.counts.length:=by
 unfold kI
 grind
def ak9{t:ck}(h:Tk t){row:Int}{i:Nat}(hi:pg t row=some i):i<t.counts.length:=by
 have:=h.cl;unfold pg at hi;split at hi
 next j C=>cases hi;have⟨D,_⟩:=LW C;omega
 ·exact(LW hi).1
def ala(t:ck)(D:jK t)(row dm:Int):IL t row dm=some (ug t row dm):=by
 unfold IL ug xL;rw[akP t D,ak,YK,ak];cases E:kF t with
 |false=>rfl
 | true=>
  have C:=Tk.of E;rw[bK,au,dO,ak,cm];cases O:aP row 0 15 with
  |false=>rfl
  | true=>
   rw[bK,au,dO,ak,cm];cases I:aP dm 2 1000 with
   |false=>rfl
   | true=>
    have hl:=bG.1 I;rw[bK,au,aq,aC5 C,ak,YK,ak];dsimp only;cases T:kF (kI t row)with
    |false =>simp_all
    | true=>
     rw[bK,au,aq];cases L:pg t row with
     |none=>rfl
     | some i=>
      have hi:i<(kI t row).counts.length:=by rw[(Zm row).2];exact ak9 C L
      grind
def aC6(t:ck)(hz:jK t)(row dm:Int):Qe t row dm=some (ug t row dm):=by
 have sw:∀x:Int,(λe:Int=>x==e)=λe=>e==x:=λx=>funext λe=>by rw[Bool.eq_iff_iff,fT,fT];exact eq_comm
 unfold Qe ug xL;rw[Y3 t hz,ak,YJ,ak];dsimp only;cases ht:kF t with
 |false=>rfl
 | true=>
  have O:=Tk.of ht;have r1:=O.rl;have r2:=O.cl;have uF:=O.sp;rw[bK,au,dY,ak,cm];cases h1:aP row 0 15 with
  |false=>rfl
  | true=>
   rw[bK,au,dY,ak,cm];cases h2:aP dm 2 1000 with
   |false=>rfl
   | true=>
    have hl:=bG.1 h2;rw[bK,au,aq,Ro _ _ (by omega),ak,sw row];have Zn:∀ (E:Int) (D:ck),D=kI t row->(E=match pg t row with | some i=>(i:Int) | none=>-1)->
      ((Am D).bind λjH=>bif (!jH)then ((some t).bind λtS=>some (tS,false))else (bif (decide (E >= (0:Int)))then if OT:0<=E/\E.toNat<D.counts.length then if h25:E.toNat<D.counts.length then (if dm=0 then none else some (D,(D.counts[E.toNat]'h25).tmod dm==(0:Int)))else none else none else some (D,false)))=some (bif kF (kI t row)then (kI t row,match pg t row with
        |some i=>((kI t row).counts.getD i 0).tmod dm==0
        |none=>false)else (t,false)):=by
     intro E D T e2;subst T;rw[YJ,ak];cases h3:kF (kI t row)with
     |false=>rfl
     | true=>
      rw[bK,au,aq,e2];cases h4:pg t row with
      |none=>rfl
      | some i=>
       have hi:i<(kI t row).counts.length:=by rw[(Zm row).2];exact ak9 O h4
       simp only[bC];rw[aZ,aq,aA ⟨by omega,hi⟩,aA hi,bO,fj,bS hi];rfl
    cases C:t.rows.findIdx? (λe=>e==row)with
    | some i=>
     obtain⟨hi,_⟩:=LW C;have L:i<t.counts.length:=by omega
     have hc:=O.cs i L;have U:pg t row=some i:=by unfold pg;rw[C]
     have Y:kI t row=⟨t.rows,t.counts.set i (t.counts[i]+1),t.c9⟩:=by unfold kI;simp only[C];rw[fj,bS L];rfl
     have T:gL (λe=>e==row) t.rows=(i:Int):=by unfold gL;rw[C]
     rw[T,bq,au];simp only[bC];rw[aZ,aq,aA ⟨by omega,L⟩,aA L,aA ⟨by omega,L⟩,aA L];have Z:W6 (t.counts[i]+1)=t.counts[i]+1:=aY;simp only[Z];exact Zn (i:Int) ⟨t.rows,t.counts.set i (t.counts[i]+1),t.c9⟩ Y.symm (by rw[U])
    | none=>
     have T:gL (λe=>e==row) t.rows = -1:=by unfold gL;rw[C]
     rw[T,aZ,aq,Ro _ _ (by omega),ak,sw t.c9];cases I:t.counts.findIdx? (λe=>e==t.c9)with
     | some i=>
      obtain⟨hi,hp⟩:=LW I;have hir:i<t.rows.length:=by omega
      have hp:t.counts[i]=t.c9:=by simpa using hp
      have U:pg t row=some i:=by unfold pg;rw[C];exact I
      have Y:kI t row=⟨t.rows.set i row,t.counts.set i (t.c9+1),t.c9⟩:=by unfold kI;rw[C];simp only[I]
      have e3:gL (λe=>e==t.c9) t.counts=(i:Int):=by unfold gL;rw[I]
      rw[e3];simp only[bC];rw[aZ,aq,aA ⟨by omega,hir⟩,aA hir,aq,aA ⟨by omega,hi⟩,aA hi,aA ⟨by omega,hi⟩,aA hi];have Z:W6 (t.c9+1)=t.c9+1:=aY;simp only[hp,Z];exact Zn (i:Int) ⟨t.rows.set i row,t.counts.set i (t.c9+1),t.c9⟩ Y.symm (by rw[U])
     | none=>
      have U:pg t row=none:=by unfold pg;rw[C];exact I
      have Y:kI t row=⟨t.rows,t.counts,t.c9+1⟩:=by unfold kI;rw[C];simp only[I]
      have e3:gL (λe=>e==t.c9) t.counts = -1:=by unfold gL;rw[I]
      have Z:W6 (t.c9+1)=t.c9+1:=aY;rw[e3,bq,au,au];simp only[Z];exact Zn (-1) ⟨t.rows,t.counts,t.c9+1⟩ Y.symm (by rw[U])
def yl(k:Int):ck:=⟨List.replicate k.toNat (-1),List.replicate k.toNat 0,0⟩
def aC7{k:Int}(h:aP k 1 16=true):Qj k=some (yl k,true):=by
 have hb:=bG.1 h;unfold Qj;have e:BS ([(-1:Int)]) k=some (List.replicate k.toNat (-1)):=by
  unfold BS;simp_all
 rw[dY,ak,h,bK,e,ak,bN ⟨by omega,Int.le_refl _,by omega⟩];rfl
def aC8{k:Int}(h:aP k 1 16=true):Em k=some (yl k,true):=by
 have hb:=bG.1 h;obtain⟨n,rfl⟩:=fA (show 0 <= k by omega);unfold Em;rw[dO,ak,h,bK,akz n (by omega),ak,bN ⟨by omega,Int.le_refl _,by omega⟩];rfl
def vQ(r:dn)(b:Int):dn:=bif decide (r.aH.getD b.toNat 0 = -2)then r else ⟨r.aH.set b.toNat (r.aH.getD b.toNat 0-1),r.wait,r.dL⟩
def RO{r:dn}(h:ff r=true):∀ x∈r.aH,-2 <= x/\x <= 5:=by
 simp[ff,aQ,cv]at h;exact λx C=>bG.1 (h.1 x C)
def aC9{α β:Type}{o:ah (α×β)}{a:α}(h:o.map Prod.fst=some a):∃b,o=some (a,b):=by simp_all
def aDa{r:dn}(h:ff r=true){b:Int}(D:0 <= b)(C:b.toNat<r.aH.length):∃ y,OQ r b=some (vQ r b,y):=by
 have hl:=om h;have L:=RO h _ (cS C);have E:r.aH.getD b.toNat 0=r.aH[b.toNat]:=by rw[fj,bS C];rfl
 unfold OQ BZ vQ xI xL xA xZ;rw[cM (by simp;omega),aq,ak,Lu _ (by omega),ak,h,bK,au,dO,ak,LV D C (by omega),bK,au,aA ⟨D,C⟩,E];dsimp only;by_cases I:r.aH[b.toNat] = -2
 ·simp_all
 ·rw[bq (show ¬ r.aH[b.toNat] <= -2 by omega),bq I,kZ,aA ⟨D,C⟩,aA ⟨D,C⟩,aA C,aY];simp_all
def aDb{r:dn}(h:ff r=true){b:Int}(D:0 <= b)(C:b.toNat<r.aH.length):∃ y,Ql r b=some (vQ r b,y):=by
 have hl:=om h;have L:=RO h _ (cS C);have I:r.aH.getD b.toNat 0=r.aH[b.toNat]:=by rw[fj,bS C];rfl
 unfold Ql Ff vQ xI xL xA xZ;rw[cM (by simp;omega),aq,ak,Rh _ (by omega),ak,h,bK,au,dY,ak,LV D C (by omega),bK,au,aA ⟨D,C⟩,I];dsimp only;by_cases E:r.aH[b.toNat] = -2
 ·simp_all
 ·rw[kR E,bq E,kZ,aA ⟨D,C⟩,aA C,aA ⟨D,C⟩,aA C,aY];simp_all
def ym(p:fE)(k now:Int):fE:=bif kE p&&aP now p.since 1000000 then
 (bif (k==6)&&(p.state==0)then ⟨1,now,p.idle⟩else bif (k==8)&&(p.state==0)then ⟨2,now,p.idle⟩else bif (k==7)&&(p.state==1)then ⟨0,now,p.idle⟩else bif (k==9)&&(p.state==2)then ⟨0,now,p.idle⟩else p)else p
def RQ(p:fE){k:Int}(C:6 <= k/\k <= 9)(now:Int):∃ y,Qx p k now=some (ym p k now,y):=by
 refine aC9 ?_;unfold Qx ym;rw[YI,ak];cases kE p with
 |false=>rfl
 | true=>
  rw[bK,au,dY,ak];cases aP now p.since 1000000 with
  |false=>rfl
  | true=>
   have:k=6 \/ k=7 \/ k=8 \/ k=9:=by omega
   grind
def RR(p:fE){k:Int}(C:6 <= k/\k <= 9)(now:Int):∃ y,O4 p k now=some (ym p k now,y):=by
 unfold O4 ym;simp[Rj,dO];have:k=6 \/ k=7 \/ k=8 \/ k=9:=by omega
 rcases this with rfl|rfl|rfl|rfl
 ·grind
 ·grind
 ·grind
 ·grind
def alb{α β T:Type}{step:α -> ah (α⊕β)}(p:T -> Bool)(S:Nat -> Nat -> aa T -> α)(Z:Nat -> aa T -> β)
  (hs:∀i j s (E:j<s.length),i <= j -> j<1073741824 -> step (S i j s)=some (.inl (bif p s[j]then S i (j+1) s else S (i+1) (j+1) (s.set i s[j]))))
  (hz:∀i s,i <= s.length -> step (S i s.length s)=some (.inr (Z i s))):
  ∀(n i j fuel:Nat) (s:aa T),j+n=s.length -> i <= j -> s.length<1073741824 -> n<fuel -> ∃C D,iter step fuel (S i j s)=some (Z D C)/\C.length=s.length/\D <= s.length/\C.take D=s.take i++(s.drop j).filter (λx=>!p x):=by
 intro n
 induction n with
 | zero=>
  intro i j fuel s hn hi hl hf;obtain⟨f,rfl⟩:∃f,fuel=f+1:=⟨fuel-1,by omega⟩
  have ej:j=s.length:=by omega
  subst ej;refine⟨s,i,?_,rfl,hi,by simp⟩;unfold iter;simp_all
 | succ n I=>
  intro i j fuel s hn hi hl hf;obtain⟨f,rfl⟩:∃f,fuel=f+1:=⟨fuel-1,by omega⟩
  have E:j<s.length:=by omega
  unfold iter;rw[hs i j s E hi (by omega)];have hd:=List.drop_eq_getElem_cons E;cases hp:p s[j]with
  | true=>
   have⟨C,D,L,O,U,Y⟩:=I i (j+1) f s (by omega) (by omega) hl (by omega)
   grind
  | false=>
   have⟨C,D,L,O,U,Y⟩:=I (i+1) (j+1) f (s.set i s[j]) (by simp;omega) (by omega) (by simp;omega) (by omega);refine⟨C,D,L,by simpa using O,by simpa using U,?_⟩;rw[Y,hd,List.filter_cons_of_pos (by simp[hp]),List.drop_set_of_lt (by omega),List.take_add_one,List.getElem?_set_self (by omega),List.take_set_of_le (by omega)];simp
end Go.Proofs.YtglnbhiaknohlaaGreat
