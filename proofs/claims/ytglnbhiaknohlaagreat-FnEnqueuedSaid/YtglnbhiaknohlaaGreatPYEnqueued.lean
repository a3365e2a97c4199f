/-
  Plain laws. Nothing here is a claim.
-/
import Derived.Test.YtglnbhiaknohlaaGreatVZ
import Derived.Test.YtglnbhiaknohlaaGreatOpenV
import Derived.Test.YtglnbhiaknohlaaGreatG1
import Derived.Test.YtglnbhiaknohlaaGreatG2
import Derived.Test.YtglnbhiaknohlaaGreatG3
import Derived.Test.YtglnbhiaknohlaaGreatG4
import Derived.Test.YtglnbhiaknohlaaGreatG5
import Derived.Test.YtglnbhiaknohlaaGreatG6
import Derived.Test.YtglnbhiaknohlaaGreatGX
namespace Go.Proofs.YtglnbhiaknohlaaGreat
open Go.RowKit
set_option linter.unusedVariables false
set_option linter.unusedSimpArgs false
set_option maxRecDepth 100000
theorem bf{n:Int}(C:-9223372036854775808<=n)(D:n<9223372036854775808):W6 n=n:=by
 exact(IntKind.wrap_i64 n).trans (by omega)
theorem UC{α β:Type}{step:α->aj (α⊕β)}(I:α->Prop)(m:α->Nat)(Q:β->Prop)
  (h:∀x,I x->(∃y,step x=some (.inl y)/\I y/\m y<m x)\/∃z,step x=some (.inr z)/\Q z):
  ∀(n:Nat) (x:α),I x->m x<n->∃z,iter step n x=some z/\Q z
 |0,x,_,E=>by omega
 | n+1,x,J,E=>by
  unfold iter;rcases h x J with ⟨y,C,D,L⟩|⟨z,C,D⟩
  ·rw[C];exact UC I m Q h n y D (by omega)
  ·rw[C];exact⟨z,rfl,D⟩
theorem au{α β:Type}(x:α)(f:α->aj β):(some x).bind f=f x:=rfl
theorem gv{α β T:Type}{step:α->aj (α⊕β)}(l:aa T)(q:T->Bool)(S:Nat->α)(D z:β)(fuel:Nat)(I:∀ k (h:k<l.length),step (S k)=some (bif q l[k]then .inl (S (k+1))else .inr D))(J:step (S l.length)=some (.inr z))(C:l.length<fuel):
  iter step fuel (S 0)=some (bif l.all q then z else D):=by
 have key:∀ (n i fuel:Nat),i+n=l.length->n<fuel->iter step fuel (S i)=some (bif (l.drop i).all q then z else D):=by
  intro n
  induction n with
  | zero=>
   intro i fuel hi C
   match fuel,C with
   | f+1,_=>
    have:i=l.length:=by omega
    subst this;unfold iter;rw[J];simp
  | succ n L=>
   intro i fuel hi C
   match fuel,C with
   | f+1,C=>
    have E:i<l.length:=by omega
    unfold iter;rw[I i E,List.drop_eq_getElem_cons E,List.all_cons];cases q l[i]with
    |true=>simp only[ak,cM];exact L (i+1) f (by omega) (by omega)
    |false=>rfl
 exact key l.length 0 fuel (by omega) C
theorem dx{α β:Type}{step:α->aj (α⊕β)}(n:Nat)(S:Nat->α)(z:β)(fuel:Nat)(D:∀ k,k<n->step (S k)=some (.inl (S (k+1))))(E:step (S n)=some (.inr z))(C:n<fuel):iter step fuel (S 0)=some z:=by
 have key:∀ (m i fuel:Nat),i+m=n->m<fuel->iter step fuel (S i)=some z:=by
  intro m
  induction m with
  | zero=>
   intro i fuel hi C
   match fuel,C with
   | f+1,_=>
    have:i=n:=by omega
    subst this;unfold iter;rw[E]
  | succ m I=>
   intro i fuel hi C
   match fuel,C with
   | f+1,C=>
    unfold iter;rw[D i (by omega)];exact I (i+1) f (by omega) (by omega)
 exact key n 0 fuel (by omega) C
theorem UD{α β:Type}{step:α->aj (α⊕β)}(n:Nat)(I:Nat->α->Prop)(Q:β->Prop){x:α}(fuel:Nat)(L:I 0 x)(O:∀ k,k<n->∀ x,I k x->∃ y,step x=some (.inl y)/\I (k+1) y)(T:∀ x,I n x->∃ z,step x=some (.inr z)/\Q z)(C:n<fuel):∃ z,iter step fuel x=some z/\Q z:=by
 have key:∀ (m i fuel:Nat) (x:α),i+m=n->m<fuel->I i x->∃ z,iter step fuel x=some z/\Q z:=by
  intro m
  induction m with
  | zero=>
   intro i fuel x hi C D
   match fuel,C with
   | f+1,_=>
    have:i=n:=by omega
    subst this;obtain⟨z,E,J⟩:=T x D;unfold iter;rw[E];exact⟨z,rfl,J⟩
  | succ m U=>
   intro i fuel x hi C D
   match fuel,C with
   | f+1,C=>
    obtain⟨y,E,J⟩:=O i (by omega) x D;unfold iter;rw[E];exact U (i+1) f y (by omega) (by omega) J
 exact key n 0 fuel x (by omega) C L
theorem UE{α β:Type}{step:α->aj (α⊕β)}(n:Nat)(I:Nat->α->Prop)(Q:β->Prop){x:α}(fuel:Nat)(L:I 0 x)(O:∀ k,k<n->∀ x,I k x->(∃ y,step x=some (.inl y)/\I (k+1) y)\/∃ z,step x=some (.inr z)/\Q z)(T:∀ x,I n x->∃ z,step x=some (.inr z)/\Q z)(C:n<fuel):∃ z,iter step fuel x=some z/\Q z:=by
 have key:∀ (m i fuel:Nat) (x:α),i+m=n->m<fuel->I i x->∃ z,iter step fuel x=some z/\Q z:=by
  intro m
  induction m with
  | zero=>
   intro i fuel x hi C J
   match fuel,C with
   | f+1,_=>
    have:i=n:=by omega
    subst this;obtain⟨z,D,E⟩:=T x J;unfold iter;rw[D];exact⟨z,rfl,E⟩
  | succ m U=>
   intro i fuel x hi C J
   match fuel,C with
   | f+1,C=>
    unfold iter;rcases O i (by omega) x J with ⟨y,D,E⟩|⟨z,D,E⟩
    ·rw[D];exact U (i+1) f y (by omega) (by omega) E
    ·rw[D];exact⟨z,rfl,E⟩
 exact key n 0 fuel x (by omega) C L
def upto{α:Type}(f:α->α)(l:aa α)(i:Nat):aa α:=(l.take i).map f++l.drop i
theorem IX{α:Type}(f:α->α)(l:aa α)(i:Nat):(upto f l i).length=l.length:=by
 simp[upto];omega
theorem NQ{α:Type}(f:α->α)(l:aa α):upto f l 0=l:=by simp[upto]
theorem NR{α:Type}(f:α->α)(l:aa α):upto f l l.length=l.map f:=by simp[upto]
theorem NS{α:Type}(f:α->α)(l:aa α)(i:Nat)(h:i<l.length)(C:i<(upto f l i).length):(upto f l i)[i]=l[i]:=by
 simp only[upto];rw[List.getElem_append_right (by simp;omega)];simp[Nat.min_eq_left (Nat.le_of_lt h)]
theorem NT{α:Type}(f:α->α)(l:aa α)(i:Nat)(h:i<l.length):(upto f l i).set i (f l[i])=upto f l (i+1):=by
 have C:min i l.length=i:=by omega
 have e:l.drop i=l[i]::l.drop (i+1):=List.drop_eq_getElem_cons h;simp only[upto];rw[List.set_append_right _ _ (by simp;omega),e,List.take_succ_eq_append_getElem h];simp only[List.map_append,ig,List.map_nil,cZ,fR,C,Nat.sub_self,List.set_cons_zero,List.append_assoc,List.cons_append,List.nil_append]
theorem jw{x y:Int}(h:¬ x=y):(x==y)=false:=by simp[h]
theorem iT{x y:Int}(h:¬ x=y):(x != y)=true:=by simp[h]
theorem dh{n:Nat}(h:n<1073741824):aT n=true:=aW h
theorem bP{i:Nat}(h:i<4611686018427387904):W6 ((i:Int)+1)=((i+1:Nat):Int):=by
 rw[bf (by omega) (by omega)];simp
theorem bY{n:Nat}(h:n<1073741824):n<aZ:=by unfold aZ;omega
def aJ(x a b:Int):Bool:=decide (a<=x)&&decide (x<=b)
theorem bC{x a b:Int}:aJ x a b=true ↔ a<=x/\x<=b:=by simp[aJ]
theorem fC(x a b:Int):cD x a b=some (aJ x a b):=by
 unfold cD aJ;by_cases h:a<=x<;>simp[h]
theorem ei(x a b:Int):cE x a b=some (aJ x a b):=fC x a b
def cF(g:aN):Bool:=aJ g.ck 1 2&&aJ g.aF 1 4&&aJ g.rows 2 16&&aJ g.aO 1 8
theorem yI(g:aN):ru g=some (cF g):=by
 unfold ru cF;simp only[fC,au];cases aJ g.ck 1 2<;>cases aJ g.aF 1 4<;>cases aJ g.rows 2 16<;>rfl
theorem DT(g:aN):vD g=some (cF g):=by
 unfold vD cF;simp only[ei,au];cases aJ g.ck 1 2<;>cases aJ g.aF 1 4<;>cases aJ g.rows 2 16<;>rfl
theorem fP{g:aN}(h:cF g=true):1<=g.ck/\g.ck<=2/\1<=g.aF/\g.aF<=4/\2<=g.rows/\g.rows<=16/\1<=g.aO/\g.aO<=8:=by
 simp only[cF,aJ,aK,fH]at h;omega
def aV(g:aN):Int:=bif cF g then g.ck*g.aF else 0
theorem fG(g:aN):0<=aV g/\aV g<=8:=by
 unfold aV;cases h:cF g with
 |false=>simp
 | true=>
  obtain⟨C,D,E,I,_⟩:=fP h;simp only[ak];rcases(by omega:g.ck=1\/g.ck=2)with e|e<;>rw[e]<;>omega
theorem IY{g:aN}(h:cF g=true):1<=aV g:=by
 obtain⟨C,D,E,I,_⟩:=fP h;simp only[aV,h,ak];rcases(by omega:g.ck=1\/g.ck=2)with e|e<;>rw[e]<;>omega
theorem rz(g:aN):nT g=some (aV g):=by
 have hb:=fG g;unfold nT;rw[yI,au];unfold aV at hb ⊢;cases h:cF g with
 |false=>rfl
 | true=>
  rw[h]at hb;simp only[ak]at hb;simp only[bR,aq,ak];rw[bf (by omega) (by omega)]
theorem nU(g:aN):mC g=some (aV g):=by
 have hb:=fG g;unfold mC;rw[DT,au];unfold aV at hb ⊢;cases h:cF g with
 |false=>rfl
 | true=>
  rw[h]at hb;simp only[ak]at hb;simp only[bR,aq,ak];rw[bf (by omega) (by omega)]
def gw(g:aN):Int:=bif cF g then aV g*g.rows else 0
def cX(g:aN):Int:=bif cF g then aV g*g.rows*g.aO else 0
theorem NU{a b A B:Int}(D:0<=a)(E:a<=A)(C:0<=b)(I:b<=B):0<=a*b/\a*b<=A*B:=
 ⟨Int.mul_nonneg D C,Int.le_trans (Int.mul_le_mul_of_nonneg_right E C) (Int.mul_le_mul_of_nonneg_left I (by omega))⟩
theorem sJ(g:aN):0<=gw g/\gw g<=128:=by
 unfold gw;cases h:cF g with
 |false=>simp
 | true=>
  obtain⟨_,_,_,_,D,C,_⟩:=fP h;have:=fG g;exact NU this.1 this.2 (by omega) C
theorem nW(g:aN):0<=cX g/\cX g<=1024:=by
 have C:=sJ g;unfold cX gw at *
 cases h:cF g with
 |false=>simp
 | true=>
  rw[h]at C;obtain⟨_,_,_,_,E,I,J,D⟩:=fP h;exact NU C.1 C.2 (by omega) D
theorem NV(g:aN):vO g=some (cX g):=by
 have C:=nW g;have D:=sJ g;unfold vO;rw[rz,au];unfold cX gw at *
 cases h:cF g with
 |false=>simp only[aV,h,aq,Int.zero_mul];rw[show W6 0=0 from rfl,Int.zero_mul];rfl
 | true=>
  rw[h]at C D;simp only[ak]at C D;simp only[ak];rw[bf (n:=aV g*g.rows) (by omega) (by omega),bf (by omega) (by omega)]
theorem yJ(g:aN):rq g=some (cX g):=by
 have C:=nW g;have D:=sJ g;unfold rq;rw[DT,au,nU,au];unfold cX gw at *
 cases h:cF g with
 |false=>rfl
 | true=>
  rw[h]at C D;simp only[ak]at C D;simp only[bR,ak,aq];rw[bf (n:=aV g*g.rows) (by omega) (by omega),bf (by omega) (by omega)]
def dA(g:aN)(a:aL):Bool:=cF g&&aJ a.az 0 (aV g-1)&&aJ a.row 0 (g.rows-1)&&aJ a.bT 0 (g.aO-1)
theorem rA{g:aN}{a:aL}(h:dA g a=true):cF g=true/\0<=a.az/\a.az<aV g/\0<=a.row/\a.row<g.rows/\0<=a.bT/\a.bT<g.aO:=by
 simp only[dA,aJ,aK,fH]at h;exact⟨h.1.1.1,by omega⟩
theorem vU{g:aN}{a:aL}(h:cF g=true)(C:0<=a.az)(D:a.az<aV g)(E:0<=a.row)(I:a.row<g.rows)(J:0<=a.bT)(L:a.bT<g.aO):dA g a=true:=by
 simp only[dA,aJ,aK,fH];exact⟨⟨⟨h,by omega⟩,by omega⟩,by omega⟩
theorem aei(g:aN)(a:aL):A9 g a=some (dA g a):=by
 unfold A9 dA;simp only[yI,rz,fC,au];have hb:=fG g;cases h:cF g with
 |false=>rfl
 | true=>
  obtain⟨_,_,_,_,C,D,E,I⟩:=fP h;rw[bf (n:=aV g-1) (by omega) (by omega),bf (n:=g.rows-1) (by omega) (by omega),bf (n:=g.aO-1) (by omega) (by omega)];cases aJ a.az 0 (aV g-1)<;>cases aJ a.row 0 (g.rows-1)<;>rfl
theorem UF(g:aN)(a:aL):De g a=some (dA g a):=by
 unfold De dA;simp only[nU,ei,au];have hb:=fG g;rw[bf (n:=aV g-1) (by omega) (by omega)];cases h:cF g with
 | false=>
  have:aJ a.az 0 (aV g-1)=false:=by
   simp only[aV,h,aq,aJ];by_cases C:0<=a.az<;>simp[C];omega
  rw[this];rfl
 | true=>
  obtain⟨_,_,_,_,D,E,I,J⟩:=fP h;rw[bf (n:=g.rows-1) (by omega) (by omega),bf (n:=g.aO-1) (by omega) (by omega)];cases aJ a.az 0 (aV g-1)<;>cases aJ a.row 0 (g.rows-1)<;>rfl
theorem yK{b n r R:Int}(C:0<=b)(E:b<n)(I:0<=r)(J:r<R):0<=b*R/\0<=b*R+r/\b*R+r<n*R:=by
 have L:0<=b*R:=Int.mul_nonneg C (by omega);have D:(b+1)*R<=n*R:=Int.mul_le_mul_of_nonneg_right (by omega) (by omega);rw[Int.add_mul]at D;omega
def vV(g:aN)(a:aL):Int:=bif dA g a then (a.az*g.rows+a.row)*g.aO+a.bT else -1
theorem aej{g:aN}{a:aL}(h:dA g a=true):0<=vV g a/\vV g a<cX g/\0<=a.az*g.rows/\0<=a.az*g.rows+a.row/\a.az*g.rows+a.row<gw g/\0<=(a.az*g.rows+a.row)*g.aO:=by
 obtain⟨C,D,E,I,J,L,O⟩:=rA h;obtain⟨U,Q,T⟩:=yK D E I J;obtain⟨Y,l1,l2⟩:=yK Q T L O;simp only[vV,h,cX,gw,C,ak];omega
theorem NW(g:aN)(a:aL):AG g a=some (vV g a):=by
 unfold AG;rw[UF,au];cases h:dA g a with
 |false=>simp[vV,h]
 | true=>
  have hb:=aej h;have D:=nW g;have E:=sJ g;obtain⟨C,I,J,L,O,Q,T⟩:=rA h;obtain⟨_,_,_,_,U,Y,Z,g8⟩:=fP C;simp only[vV,h,ak]at hb ⊢;simp only[bR,aq];rw[bf (n:=a.az*g.rows) (by omega) (by omega),bf (n:=a.az*g.rows+a.row) (by omega) (by omega),bf (n:=(a.az*g.rows+a.row)*g.aO) (by omega) (by omega),bf (by omega) (by omega)]
theorem tY{α β:Type}{step:α->aj (α⊕β)}(S:Nat->α){z:β}:∀ (n i fuel:Nat),(∀ k,i<=k->k<i+n->step (S k)=some (.inl (S (k+1))))->step (S (i+n))=some (.inr z)->n<fuel->iter step fuel (S i)=some z
 | 0,i,fuel,_,C,D=>by
  match fuel,D with
  |f+1,_=>unfold iter;rw[Nat.add_zero]at C;rw[C]
 | n+1,i,fuel,E,C,D=>by
  match fuel,D with
  | f+1,D=>
   unfold iter;rw[E i (dV _) (by omega)];exact tY S n (i+1) f (λk I J=>E k (by omega) (by omega)) (by rw[show i+1+n=i+(n+1) by omega];exact C) (by omega)
theorem rB{i:Nat}(h:i<4611686018427387904):W6 ((i:Int)+1)=((i+1:Nat):Int):=by
 rw[bf (by omega) (by omega)];simp
theorem aek(y:Int):0<=bits .and .i64 y 255/\bits .and .i64 y 255<=255:=by
 have e:bits .and .i64 y 255=IntKind.wrap .i64 ((BitVec.ofInt 64 y &&& BitVec.ofInt 64 255).toNat:Int):=rfl;have h:(BitVec.ofInt 64 y &&& BitVec.ofInt 64 255).toNat<=255:=by
  rw[BitVec.toNat_and];exact Nat.le_trans Nat.and_le_right (by decide)
 rw[e,IntKind.wrap_i64];omega
structure jx (b:List Int) (c:bF):Prop where
 eq:c.b=b
 lo:0<=c.i
 hi:c.i<=b.length
 len:b.length<=1073741823
theorem jx.eta{b:aa Int}{c:bF}(h:jx b c):(⟨b,c.i,c.h⟩:bF)=c:=by
 obtain⟨C,i,D⟩:=c;have:=h.eq;simp only at this;subst this;rfl
def Dr{α:Type}(b:aa Int)(f:aj (α×(bF×af)))(P:α->Prop):Prop:=∃x c,f=some (x,(c,()))/\jx b c/\P x
theorem Dr.bind{α β:Type}{b:aa Int}{f:aj (α×(bF×af))}{g:α×(bF×af)->aj (β×(bF×af))}{P:α->Prop}{Q:β->Prop}(h:Dr b f P)(C:∀ x c,P x->jx b c->Dr b (g (x,(c,()))) Q):Dr b (f.bind g) Q:=by
 obtain⟨x,c,D,E,I⟩:=h;rw[D];exact C x c I E
theorem Dr.pure{α:Type}{b:aa Int}{x:α}{c:bF}{P:α->Prop}(C:jx b c)(D:P x):Dr b (some (x,(c,()))) P:=⟨x,c,rfl,C,D⟩
theorem ael(l:aa Int)(h:l.length<=1073741823):∃ y,AZ l=some y:=by
 unfold AZ bw;obtain⟨z,C,I⟩:=UC (step:=H8)
  (λx=>∃(i:Nat) (y:Int),x=(((),y,(i:Int),()),(l,()))/\i<=l.length)
  (λx=>l.length-x.1.2.2.1.toNat) (λz=>∃ y,(Sum.elim (λJ:((af×Int×af)×((aa Int)×af))=>some J.1.2.1) (λz=>nomatch z)) z=some y) (by
   rintro x ⟨i,y,rfl,hi⟩;unfold H8 aB xG xI;dsimp only;by_cases D:i<l.length
   ·have E:decide ((i:Int)<(l.length:Int))=true:=by simpa using D
    have L:0<=(i:Int)/\(i:Int).toNat<l.length:=⟨by omega,by simpa using D⟩
    rw[E,ak];cases O:decide ((i:Int)<4000)with
    | true=>
     rw[ak,aG L];left;refine⟨_,rfl,⟨i+1,_,by rw[rB (by omega)],by omega⟩,?_⟩;dsimp only;rw[rB (by omega)];omega
    | false=>
     rw[aq];right;exact⟨_,rfl,_,rfl⟩
   ·have E:decide ((i:Int)<(l.length:Int))=false:=by simpa using D
    rw[E,aq];right;exact⟨_,rfl,_,rfl⟩)
  aZ (((),(W6 ((97301:Int)+(l.length:Int))),((0:Nat):Int),()),(l,())) ⟨0,_,rfl,by omega⟩ (by dsimp only;unfold aZ;omega)
 have C:iter H8 aZ (((),(W6 ((97301:Int)+(l.length:Int))),(0:Int),()),(l,()))=some z:=C;rw[C];exact I
theorem aem(l:aa Int)(y:Int)(h:l.length<=1073741823):jx l ⟨l,0,y⟩:=⟨rfl,Int.le_refl _,by simp,h⟩
theorem IZ{b:aa Int}{c:bF}(C:jx b c):Dr b (yh c) λx=>0<=x/\x<=255:=by
 have hb:=C.eq;have E:=C.lo;have J:=C.hi;have I:=C.len;unfold yh xI;by_cases h:c.i<(c.b.length:Int)
 ·have D:decide (c.i<(c.b.length:Int))=true:=by simpa using h
  rw[D,ak,aG ⟨E,by omega⟩];refine Dr.pure ⟨hb,?_,?_,I⟩ (aek _)
  ·show 0<=W6 (c.i+1);rw[hb]at h;rw[bf (by omega) (by omega)];omega
  ·show W6 (c.i+1)<=_;rw[hb]at h;rw[bf (by omega) (by omega)];omega
 ·have D:decide (c.i<(c.b.length:Int))=false:=by simpa using h
  rw[D,aq];exact Dr.pure ⟨hb,E,J,I⟩ (aek _)
theorem aen{x n:Int}(h:0<=x)(C:0<n):0<=x.tmod n/\x.tmod n<n:=by
 rw[p9 h];exact⟨Int.emod_nonneg _ (by omega),Int.emod_lt_of_pos _ C⟩
theorem eU{b:aa Int}{c:bF}(C:jx b c)(n:Int):Dr b (eJ c n) λx=>0<=x/\(n<=0->x=0)/\(0<n->x<n):=by
 unfold eJ;by_cases O:n<=0
 ·have J:decide (n<=0)=true:=by simpa using O
  rw[J,ak];exact Dr.pure C ⟨Int.le_refl _,λ_=>rfl,λh=>by omega⟩
 ·have J:decide (n<=0)=false:=by simpa using O
  have Q:¬ n=0:=by omega
  rw[J,aq];by_cases T:n<=256
  ·have L:decide (n<=256)=true:=by simpa using T
   rw[L,ak]
   refine(IZ C).bind λx c' hx U=>?_
   rw[bB Q];dsimp only;rw[C.eq,U.eta];have:=aen hx.1 (show 0<n by omega);exact Dr.pure U ⟨this.1,λh=>by omega,λ_=>this.2⟩
  ·have L:decide (n<=256)=false:=by simpa using T
   rw[L,aq,C.eq]
   refine(IZ C).bind λD k1 Fw Y=>?_
   dsimp only;rw[Y.eta]
   refine(IZ Y).bind λE k2 Kd Z=>?_
   dsimp only;rw[Z.eta]
   refine(IZ Z).bind λI k3 hx3 ya=>?_
   dsimp only;rw[ya.eta]
   refine(IZ ya).bind λx4 k4 hx4 tR=>?_
   rw[bB Q];dsimp only;rw[tR.eta];rw[bf (n:=D*16777216) (by omega) (by omega),bf (n:=E*65536) (by omega) (by omega),bf (n:=D*16777216+E*65536) (by omega) (by omega),bf (n:=I*256) (by omega) (by omega),bf (n:=D*16777216+E*65536+I*256) (by omega) (by omega),bf (n:=D*16777216+E*65536+I*256+x4) (by omega) (by omega)];have:=aen (x:=D*16777216+E*65536+I*256+x4) (by omega) (show 0<n by omega);exact Dr.pure tR ⟨this.1,λh=>by omega,λ_=>this.2⟩
theorem ar6(l:aa Int)(h:l.length<=1073741823):∃ y,Nr l=some y/\y.length=12/\∀ x∈y,0<=x/\x<10000:=by
 unfold Nr bw;obtain⟨C,O⟩:=ael l h;rw[O];obtain⟨z,D,Q⟩:=UC (step:=H9)
  (λx=>∃(i:Nat) (c:bF) (y:aa Int),x=(((),(),(i:Int),()),((l,c.i,c.h,()),y,()))/\i<=12/\jx l c/\y.length=i/\∀x∈y,0<=x/\x<10000)
  (λx=>12-x.1.2.2.1.toNat) (λz=>∃ y,(Sum.elim (λT:((af×af)×((aa Int)×af))=>some T.2.1) (λz=>nomatch z)) z=some y/\y.length=12/\∀ x∈y,0<=x/\x<10000) (by
   rintro x ⟨i,c,y,rfl,hi,J,U,L⟩;unfold H9 aB xG;dsimp only;by_cases h':i<12
   ·have E:decide ((i:Int)<(12:Int))=true:=aW (by omega);rw[E,ak,J.eta];left;obtain⟨x,I,Y,Z,Gg,_,Fw⟩:=eU J 10000;rw[Y];have ho:aT (y.length+([x]:aa Int).length)=true:=by
     unfold aT;simp;omega
    refine⟨(((),(),W6 ((i:Int)+1),()),((l,I.i,I.h,()),(y++[x]),())),?_,⟨i+1,I,y++[x],by rw[rB (by omega)],by omega,Z,by simp[U],λu hu=>?_⟩,?_⟩
    ·show (bif aT (y.length+([x]:aa Int).length)then _ else none)=_;rw[ho];rfl
    ·rcases List.mem_append.1 hu with hu | hu
     ·exact L u hu
     ·rw[kY.1 hu];exact⟨Gg,Fw (by omega)⟩
    ·dsimp only;rw[rB (by omega)];omega
   ·have E:decide ((i:Int)<(12:Int))=false:=br (by omega);rw[E,aq];right;exact⟨_,rfl,y,rfl,by omega,L⟩)
  aZ (((),(),((0:Nat):Int),()),((l,0,C,()),([]:aa Int),())) ⟨0,⟨l,0,C⟩,[],rfl,by omega,aem l C h,rfl,by simp⟩ (by dsimp only;unfold aZ;omega)
 have D:iter H9 aZ (((),(),(0:Int),()),((l,(0:Int),C,()),([]:aa Int),()))=some z:=D;rw[au,D];exact Q
theorem ar7(x a b:Int):cD x a b=some (decide (a<=x)&&decide (x<=b)):=by
 unfold cD;by_cases h:a<=x
 ·have:decide (x >= a)=true:=aW h;rw[this];rfl
 ·have:decide (x >= a)=false:=br h;rw[this];rfl
theorem aeo{x a b:Int}(h:a<=x)(C:x<=b):cD x a b=some true:=by
 rw[ar7,aW h,aW C];rfl
theorem ar8{x a b:Int}(h:a<=x)(C:x<=b):cE x a b=some true:=aeo h C
def opens:Nat->aa eP->aa Int
 |_,[]=>[]
 |i,b::bs=>bif b.open_ then (i:Int)::opens (i+1) bs else opens (i+1) bs
theorem aep(i:Nat)(a b:aa eP):opens i (a++b)=opens i a++opens (i+a.length) b:=by
 induction a generalizing i with
 |nil=>simp[opens]
 | cons x a C=>
  simp only[List.cons_append,opens,kB];rw[C,show i+1+a.length=i+(a.length+1) by omega];cases x.open_<;>rfl
theorem UG(i:Nat)(l:aa eP):(opens i l).length<=l.length:=by
 induction l generalizing i with
 |nil=>simp[opens]
 | cons x a C=>
  have:=C (i+1);simp only[opens];cases x.open_<;>simp<;>omega
theorem sK{α:Type}{l:aa α}{i:Nat}(h:i<l.length):l.take (i+1)=l.take i++[l[i]]:=by
 rw[List.take_succ_eq_append_getElem h]
theorem ar9(r:cK)(h:r.aF.length<1073741823):A5 r=some (opens 0 r.aF):=by
 unfold A5 bw;have e:=tY (step:=DJ) (λi=>(((),r.aF,(r.aF.length:Int),(i:Int),()),(opens 0 (r.aF.take i),()))) (z:=.inl (((),()),(opens 0 r.aF,()))) r.aF.length 0 aZ (λk _ C=>?_) ?_ (by unfold aZ;omega)
 ·have e:iter DJ aZ (((),r.aF,(r.aF.length:Int),(0:Int),()),(([]:aa Int),()))=_:=e;rw[e];rfl
 ·have C:k<r.aF.length:=by omega
  unfold DJ aB xG xI;dsimp only;have D:decide ((k:Int)<(r.aF.length:Int))=true:=aW (by omega);have E:0<=(k:Int)/\(k:Int).toNat<r.aF.length:=⟨by omega,by simpa using C⟩
  have hl:=UG 0 (r.aF.take k);rw[fR]at hl;have I:aT ((opens 0 (r.aF.take k)).length+([(k:Int)]:aa Int).length)=true:=by
   unfold aT;refine aW ?_;simp;omega
  rw[D,ak,aG E,rB (by omega),sK C,aep];simp only[bJ,opens,fR,eN,Nat.min_eq_left (Nat.le_of_lt C)];cases r.aF[k].open_ with
  |true=>rw[ak,I];rfl
  |false=>rw[aq,aq,List.append_nil]
 ·rw[eN];unfold DJ aB xG xI;dsimp only;have D:decide ((r.aF.length:Int)<(r.aF.length:Int))=false:=br (by omega);rw[D,aq,jF]
def gmT:Nat:=116196760129267793630862849262464326346044543732748708940920453221664288556434379745879494961270582141731748813355742142288220638766218855867759359510984593843506004200114943278699875244065120512813025380665946106619127097398772031257643617143689515450995722003729973585221105779229319991106539050771048038400
def gm(a b:Nat):Nat:=(gmT / 2 ^ (4*(16*a+b))) % 16
def pwT:Nat:=44684875893970114885940500792407720993
def pw(n:Nat):Nat:=(pwT / 2 ^ (4*n)) % 16
def kS(f:Nat->Bool):Bool:=(List.range 16).all f
theorem iU{f:Nat->Bool}(h:kS f=true){a:Nat}(C:a<16):f a=true:=by
 have:=cv.1 h a (eD.2 C);exact this
theorem fY(a b:Nat):gm a b<16:=Nat.mod_lt _ (by decide)
theorem sL(n:Nat):pw n<16:=Nat.mod_lt _ (by decide)
theorem asa:(kS λa=>kS λb=>jv (Int.ofNat a) (Int.ofNat b)==some (Int.ofNat (gm a b)))=true:=by kernel_rfl
theorem asb:((List.range 31).all λn=>NI 2 (Int.ofNat n)==some (Int.ofNat (pw n)))=true:=by kernel_rfl
theorem aeq:(kS λa=>kS λb=>decide (bits .xor .i64 (Int.ofNat a) (Int.ofNat b)=Int.ofNat (a ^^^ b))&&Nat.blt (a ^^^ b) 16)=true:=by kernel_rfl
theorem asc:(kS λa=>kS λb=>kS λc=>Nat.beq (gm (a ^^^ b) c) (gm a c ^^^ gm b c))=true:=by kernel_rfl
theorem aer:(kS λa=>Nat.beq (gm a 1) a&&Nat.beq (gm 0 a) 0)=true:=by kernel_rfl
theorem asd:(kS λC=>kS λs1=>kS λs2=>
  (λy z=>(λx=>Nat.beq (gm x 1 ^^^ (gm y 1 ^^^ (gm z 1 ^^^ C))) 0&&Nat.beq (gm x 1 ^^^ (gm y 2 ^^^ (gm z 4 ^^^ s1))) 0&&Nat.beq (gm x 1 ^^^ (gm y 4 ^^^ (gm z 3 ^^^ s2))) 0) (C ^^^ y ^^^ z))
   (gm (gm 2 (C ^^^ s1) ^^^ gm 5 (C ^^^ s2)) 13) (gm (gm 3 (C ^^^ s2) ^^^ gm 5 (C ^^^ s1)) 13))=true:=by kernel_rfl
theorem ase:NJ 4=some 13:=by kernel_rfl
theorem I0{a b:Nat}(C:a<16)(hb:b<16):jv (a:Int) (b:Int)=some (gm a b:Int):=by
 have h:=iU (iU asa C) hb;exact eq_of_beq h
theorem asf{n:Nat}(h:n<31):NI 2 (n:Int)=some (pw n:Int):=eq_of_beq (cv.1 asb n (eD.2 h))
theorem rC{a b:Nat}(C:a<16)(hb:b<16):bits .xor .i64 (a:Int) (b:Int)=((a ^^^ b:Nat):Int):=by
 have h:=iU (iU aeq C) hb;rw[aK]at h;exact of_decide_eq_true h.1
theorem lQ{a b:Nat}(C:a<16)(hb:b<16):a ^^^ b<16:=by
 have h:=iU (iU aeq C) hb;rw[aK]at h;exact cB h.2
theorem asg{a b c:Nat}(C:a<16)(hb:b<16)(D:c<16):gm (a ^^^ b) c=gm a c ^^^ gm b c:=bQ (iU (iU (iU asc C) hb) D)
theorem ash{a:Nat}(C:a<16):gm a 1=a:=by
 have h:=iU aer C;rw[aK]at h;exact bQ h.1
theorem NX{a:Nat}(C:a<16):gm 0 a=0:=by
 have h:=iU aer C;rw[aK]at h;exact bQ h.2
abbrev aX (w:aa Nat):aa Int:=w.map λ(n:Nat)=>(n:Int)
def dL(w:aa Nat):Prop:=∀x∈w,x<16
theorem gi(w:aa Nat):(aX w).length=w.length:=by simp[aX]
theorem tZ{w:aa Nat}{k:Nat}(h:k<(aX w).length):(aX w)[k]=((w.getD k 0:Nat):Int):=by
 have C:k<w.length:=by rw[gi]at h;exact h
 simp[aX,eX,bK C]
theorem dL.get{w:aa Nat}(h:dL w)(k:Nat):w.getD k 0<16:=by
 by_cases C:k<w.length
 ·simp only[eX,bK C,Option.getD_some];exact h _ (cP C)
 ·simp[eX,List.getElem?_eq_none (Nat.le_of_not_lt C)]
theorem aes{w:aa Nat}(I:dL w)(hl:w.length<1000)(n:Int):tX (aX w) n=some ((w.length:Int)==n):=by
 unfold tX cg;have e:=tY (step:=vQ) (λi=>((aX w,n,aX w,((aX w).length:Int),(i:Int),()),())) (z:=.inr (.inl ((aX w,n,()),()))) w.length 0 aZ (λk _ C=>?_) ?_ (by unfold aZ;omega)
 ·have e:iter vQ aZ ((aX w,n,aX w,((aX w).length:Int),(0:Int),()),())=_:=e;rw[e];show some (((aX w).length:Int)==n)=_;rw[gi]
 ·have C:k<(aX w).length:=by rw[gi];omega
  unfold vQ aB bq xG xI;dsimp only;have D:decide ((k:Int)<((aX w).length:Int))=true:=aW (by omega);have E:0<=(k:Int)/\(k:Int).toNat<(aX w).length:=⟨by omega,by simpa using C⟩
  rw[D,ak,aG E];have J:(aX w)[(k:Int).toNat]'E.2=((w.getD k 0:Nat):Int):=tZ C;rw[J];have:=I.get k;unfold A6;rw[aeo (by omega) (by omega),au,au,rB (by omega)];rfl
 ·unfold vQ aB bq xG xI;dsimp only;have D:decide (((0+w.length:Nat):Int)<((aX w).length:Int))=false:=br (by rw[gi];omega);rw[D,aq]
def bU(w:aa Nat)(j:Nat):Nat->Nat
 |0=>0
 |i+1=>bU w j i ^^^ gm (w.getD i 0) (pw (i*j))
theorem ua(w:aa Nat)(j:Nat):∀ i,bU w j i<16
 |0=>Nat.zero_lt_succ _
 |i+1=>lQ (ua w j i) (fY _ _)
theorem asi{w:aa Nat}(J:dL w)(hl:w.length=11)(j:Nat)(Z:j<3)(a b:Int)(o:aa Int)(L:j<o.length)(O:o.set j 0=o):
  iter DS aZ ((aX w,(),(j:Int),a,b,aX w,((aX w).length:Int),(0:Int),()),(o,()))=some (.inl ((aX w,(),a,b,()),(o.set j (bU w j 11:Int),()))):=by
 have e:=tY (step:=DS) (λi=>((aX w,(),(j:Int),a,b,aX w,((aX w).length:Int),(i:Int),()),(o.set j (bU w j i:Int),()))) (z:=.inl ((aX w,(),a,b,()),(o.set j (bU w j 11:Int),()))) 11 0 aZ (λk _ D=>?_) ?_ (by unfold aZ;omega)
 ·have e:iter DS aZ ((aX w,(),(j:Int),a,b,aX w,((aX w).length:Int),(0:Int),()),(o.set j 0,()))=_:=e;rw[O]at e;exact e
 ·have D:k<(aX w).length:=by rw[gi];omega
  unfold DS aB xG xI xL;dsimp only;have E:decide ((k:Int)<((aX w).length:Int))=true:=aW (by omega);have I:0<=(k:Int)/\(k:Int).toNat<(aX w).length:=⟨by omega,by simpa using D⟩
  have C:0<=(j:Int)/\(j:Int).toNat<(o.set j (bU w j k:Int)).length:=⟨by omega,by simpa using L⟩
  have Q:(aX w)[(k:Int).toNat]'I.2=((w.getD k 0:Nat):Int):=tZ D;have T:(o.set j (bU w j k:Int))[(j:Int).toNat]'C.2=(bU w j k:Int):=List.getElem_set_self _;rw[E,ak,aG I,aG C,aG C.2,Q,T];have Xl:k*j<=20:=Nat.le_trans (Nat.mul_le_mul (show k<=10 by omega) (show j<=2 by omega)) (by decide);have U:W6 ((k:Int)*(j:Int))=((k*j:Nat):Int):=by
   rw[<-Int.natCast_mul,bf (by omega) (by omega)]
  rw[U,asf (by omega),au,I0 (J.get k) (sL _),au,aG C,aG C.2,rC (ua _ _ _) (fY _ _),rB (by omega)];have Y:(o.set j (bU w j k:Int)).set (j:Int).toNat ((bU w j k ^^^ gm (w.getD k 0) (pw (k*j)):Nat):Int)=o.set j (bU w j (k+1):Int):=List.set_set ..;rw[Y]
 ·unfold DS aB xG xI xL;dsimp only;have E:decide (((0+11:Nat):Int)<((aX w).length:Int))=false:=br (by rw[gi];omega);rw[E,aq]
def rD(w:aa Nat):Nat->aa Int
 |0=>[0,0,0]
 |1=>[(bU w 0 11:Int),0,0]
 |2=>[(bU w 0 11:Int),(bU w 1 11:Int),0]
 |_=>[(bU w 0 11:Int),(bU w 1 11:Int),(bU w 2 11:Int)]
theorem asj{w:aa Nat}(D:dL w)(hl:w.length=11):Be (aX w)=some [(bU w 0 11:Int),(bU w 1 11:Int),(bU w 2 11:Int)]:=by
 unfold Be bw;have c0:((w.length:Int)==(11:Int))=true:=by rw[hl];rfl
 rw[aes D (by omega),c0,au];have e:=tY (step:=IP) (λj=>((aX w,(),(3:Int),(j:Int),()),(rD w j,()))) (z:=.inl (((),()),(rD w 3,()))) 3 0 aZ (λk _ I=>?_) ?_ (by unfold aZ;omega)
 ·have e:iter IP aZ ((aX w,(),((List.replicate (3:Int).toNat (0:Int)).length:Int),(0:Int),()),(List.replicate (3:Int).toNat (0:Int),()))=_:=e;rw[show (!true)=false from rfl,aq,bk (by decide),e];rfl
 ·unfold IP aB xG bw;dsimp only;have E:decide ((k:Int)<(3:Int))=true:=aW (by omega);have C:rD w k=(rD w k).set k 0/\k<(rD w k).length/\(rD w k).set k (bU w k 11:Int)=rD w (k+1):=by
   have:k=0\/k=1\/k=2:=by omega
   rcases this with rfl|rfl|rfl
   ·exact⟨rfl,by simp[rD],rfl⟩
   ·exact⟨rfl,by simp[rD],rfl⟩
   ·exact⟨rfl,by simp[rD],rfl⟩
  rw[E,ak,asi D hl k (by omega) (3:Int) (k:Int) (rD w k) C.2.1 C.1.symm,C.2.2];show some (Sum.inl ((aX w,(),(3:Int),W6 ((k:Int)+1),()),(rD w (k+1),())))=_;rw[rB (by omega)]
 ·unfold IP aB xG bw;dsimp only;rfl
theorem asl(C D E:Nat)(I:C<16)(J:D<16)(L:E<16):
  (λy z=>(λx=>(gm x 1 ^^^ (gm y 1 ^^^ (gm z 1 ^^^ C)))=0/\(gm x 1 ^^^ (gm y 2 ^^^ (gm z 4 ^^^ D)))=0/\(gm x 1 ^^^ (gm y 4 ^^^ (gm z 3 ^^^ E)))=0) (C ^^^ y ^^^ z))
   (gm (gm 2 (C ^^^ D) ^^^ gm 5 (C ^^^ E)) 13) (gm (gm 3 (C ^^^ E) ^^^ gm 5 (C ^^^ D)) 13):=by
 have h:=iU (iU (iU asd I) J) L;dsimp only at h ⊢;rw[aK,aK]at h;exact⟨bQ h.1.1,bQ h.1.2,bQ h.2⟩
theorem asm{d:aa Nat}(O:dL d)(hl:d.length=8):∃ w,NL (aX d)=some (aX w)/\w.length=11/\dL w/\w.drop 3=d/\bU w 0 11=0/\bU w 1 11=0/\bU w 2 11=0:=by
 have T:dL (0 :: 0 :: 0 :: d):=by
  intro x hx;simp only[fF]at hx;rcases hx with rfl|rfl|rfl|hx
  ·decide
  ·decide
  ·decide
  ·exact O x hx
 have key:∀ j x y z,j<3->x<16->y<16->z<16->bU (x :: y :: z :: d) j 11=gm x (pw (0*j)) ^^^ (gm y (pw (1*j)) ^^^ (gm z (pw (2*j)) ^^^ bU (0 :: 0 :: 0 :: d) j 11)):=by
  intro j x y z hj hx hy T;simp only[bU,List.getD_cons_zero,List.getD_cons_succ,Nat.xor_assoc,Nat.zero_xor,NX (sL _)]
 have e0:∀ C E I:Nat,C<16->E<16->I<16->Be (aX (0 :: 0 :: 0 :: d))=some [(C:Int),(E:Int),(I:Int)]->
   NL (aX d)=some (aX ((C ^^^ gm (gm 2 (C ^^^ E) ^^^ gm 5 (C ^^^ I)) 13 ^^^ gm (gm 3 (C ^^^ I) ^^^ gm 5 (C ^^^ E)) 13)::gm (gm 2 (C ^^^ E) ^^^ gm 5 (C ^^^ I)) 13::gm (gm 3 (C ^^^ I) ^^^ gm 5 (C ^^^ E)) 13::d)):=by
  intro C E I D J L hs;unfold NL xL;have c0:((d.length:Int)==(8:Int))=true:=by rw[hl];rfl
  have c1:aT ((List.replicate (3:Int).toNat (0:Int)).length+(aX d).length)=true:=by
   rw[gi,hl];rfl
  rw[aes O (by omega),au,c0,show (!true)=false from rfl,aq,bk (by decide),c1,ak];have Q:Be (List.replicate (3:Int).toNat (0:Int)++aX d)=some [(C:Int),(E:Int),(I:Int)]:=hs;rw[Q,au];show (NJ (4:Int)).bind (λU=>(jv (2:Int) (bits .xor .i64 (C:Int) (E:Int))).bind λpM=>(jv (5:Int) (bits .xor .i64 (C:Int) (I:Int))).bind λqI=>(jv (bits .xor .i64 pM qI) U).bind λY=>(jv (3:Int) (bits .xor .i64 (C:Int) (I:Int))).bind λsI=>(jv (5:Int) (bits .xor .i64 (C:Int) (E:Int))).bind λvT=>(jv (bits .xor .i64 sI vT) U).bind λZ=>some (bits .xor .i64 (bits .xor .i64 (C:Int) Y) Z::Y::Z::aX d))=_;have m2:∀b:Nat,b<16->jv (2:Int) (b:Int)=some (gm 2 b:Int):=λb hb=>I0 (a:=2) (by decide) hb
  have m3:∀b:Nat,b<16->jv (3:Int) (b:Int)=some (gm 3 b:Int):=λb hb=>I0 (a:=3) (by decide) hb
  have m5:∀b:Nat,b<16->jv (5:Int) (b:Int)=some (gm 5 b:Int):=λb hb=>I0 (a:=5) (by decide) hb
  have m13:∀b:Nat,b<16->jv (b:Int) (13:Int)=some (gm b 13:Int):=λb hb=>I0 (b:=13) hb (by decide)
  rw[ase,au,rC D J,rC D L,m2 _ (lQ D J),au,m5 _ (lQ D L),au,rC (fY _ _) (fY _ _),m13 _ (lQ (fY _ _) (fY _ _)),au,m3 _ (lQ D L),au,m5 _ (lQ D J),au,rC (fY _ _) (fY _ _),m13 _ (lQ (fY _ _) (fY _ _)),au,rC D (fY _ _),rC (lQ D (fY _ _)) (fY _ _)];rfl
 have D:=ua (0::0::0::d) 0 11;have J:=ua (0::0::0::d) 1 11;have L:=ua (0::0::0::d) 2 11;have Q:=e0 _ _ _ D J L (asj T (by simp[hl]));have f:=asl _ _ _ D J L;dsimp only at f;refine⟨_,Q,by simp[hl],?_,rfl,?_,?_,?_⟩
 ·intro x hx;simp only[fF]at hx;rcases hx with rfl | rfl | rfl | hx
  ·exact lQ (lQ D (fY _ _)) (fY _ _)
  ·exact fY _ _
  ·exact fY _ _
  ·exact O x hx
 ·rw[key 0 _ _ _ (by decide) (lQ (lQ D (fY _ _)) (fY _ _)) (fY _ _) (fY _ _)];exact f.1
 ·rw[key 1 _ _ _ (by decide) (lQ (lQ D (fY _ _)) (fY _ _)) (fY _ _) (fY _ _)];exact f.2.1
 ·rw[key 2 _ _ _ (by decide) (lQ (lQ D (fY _ _)) (fY _ _)) (fY _ _) (fY _ _)];exact f.2.2
theorem aet{w:aa Nat}(C:dL w){k e:Nat}(D:e<16)(E:k<w.length)(j:Nat):∀ i,bU (w.set k (w.getD k 0 ^^^ e)) j i=if i<=k then bU w j i else bU w j i ^^^ gm e (pw (k*j))
 |0=>by rw[bk (gn _)];rfl
 | i+1=>by
  have J:=aet C D E j i;have L:(w.set k (w.getD k 0 ^^^ e)).getD i 0=if i=k then w.getD k 0 ^^^ e else w.getD i 0:=by
   simp only[eX,List.getElem?_set];by_cases h:i=k
   ·subst h;simp[E]
   ·simp[h,Ne.symm h]
  show bU (w.set k (w.getD k 0 ^^^ e)) j i ^^^ gm ((w.set k (w.getD k 0 ^^^ e)).getD i 0) (pw (i*j))=_;rw[J,L];by_cases O:i<k
  ·rw[bk (by omega),bB (by omega),bk (by omega)];rfl
  ·by_cases I:i=k
   ·subst I;rw[bk (dV _),bk rfl,bB (by omega),asg (C.get _) D (sL _),<-Nat.xor_assoc];rfl
   ·rw[bB (by omega),bB I,bB (by omega)];show _=bU w j i ^^^ gm (w.getD i 0) (pw (i*j)) ^^^ gm e (pw (k*j));rw[Nat.xor_assoc,Nat.xor_comm (gm e _),<-Nat.xor_assoc]
theorem dL.set{w:aa Nat}(h:dL w){k v:Nat}(D:v<16):dL (w.set k v):=by
 intro x C;rcases List.mem_or_eq_of_mem_set C with C|rfl
 ·exact h x C
 ·exact D
def nX:aa Nat:=[8,14,7,1]
theorem asn:((List.range 8).all λm=>kS λf=>(List.range 3).all λj=>
  Nat.beq (gm (gm 8 f) (pw (m*j)) ^^^ (gm (gm 14 f) (pw ((m+1)*j)) ^^^ (gm (gm 7 f) (pw ((m+2)*j)) ^^^ gm f (pw ((m+3)*j))))) 0)=true:=by kernel_rfl
theorem aso:(kS λa=>kS λb=>sH (Int.ofNat a) (Int.ofNat b)==some (Int.ofNat (gm a b)))=true:=by kernel_rfl
theorem I1{a b:Nat}(C:a<16)(hb:b<16):sH (a:Int) (b:Int)=some (gm a b:Int):=by
 have h:=iU (iU aso C) hb;exact eq_of_beq h
theorem aeu(W:aa Int):iter TV aZ (((),(),(1:Int),()),(W,([(1:Int),(1:Int)]:aa Int),()))=some (.inl (((),(),()),(W,aX nX,()))):=by kernel_rfl
theorem aev{w:aa Nat}(I:dL w)(hl:w.length<1000)(n:Int):tV (aX w) n=some ((w.length:Int)==n):=by
 unfold tV cg;have e:=tY (step:=vI) (λi=>((aX w,n,(i:Int),()),())) (z:=.inr (.inl ((aX w,n,()),()))) w.length 0 aZ (λk _ C=>?_) ?_ (by unfold aZ;omega)
 ·have e:iter vI aZ ((aX w,n,(0:Int),()),())=_:=e;rw[e];show some (((aX w).length:Int)==n)=_;rw[gi]
 ·have C:k<(aX w).length:=by rw[gi];omega
  unfold vI aB bq xG xI;dsimp only;have D:decide ((k:Int)<((aX w).length:Int))=true:=aW (by omega);have E:0<=(k:Int)/\(k:Int).toNat<(aX w).length:=⟨by omega,by simpa using C⟩
  rw[D,ak,aG E];have J:(aX w)[(k:Int).toNat]'E.2=((w.getD k 0:Nat):Int):=tZ C;rw[J];have:=I.get k;unfold vH;rw[ar8 (by omega) (by omega),au,au,rB (by omega)];rfl
 ·unfold vI aB bq xG xI;dsimp only;have D:decide (((0+w.length:Nat):Int)<((aX w).length:Int))=false:=br (by rw[gi];omega);rw[D,aq]
def rE(k:Nat):Nat:=nX.getD k 0
theorem asp(k:Nat):rE k<16:=by
 have:dL nX:=by
  intro x C;simp only[nX,fF,List.not_mem_nil,or_false]at C;omega
 exact this.get k
def jT(r:aa Nat)(m f:Nat):Nat->aa Nat
 |0=>r
 |k+1=>(jT r m f k).set (m+k) ((jT r m f k).getD (m+k) 0 ^^^ gm (rE k) f)
theorem I2(r:aa Nat)(m f:Nat):∀ k,(jT r m f k).length=r.length
 |0=>rfl
 |k+1=>by show (List.set _ _ _).length=_;rw[jE,I2 r m f k]
theorem I3{r:aa Nat}(C:dL r)(m f:Nat):∀ k,dL (jT r m f k)
 |0=>C
 |k+1=>(I3 C m f k).set (lQ ((I3 C m f k).get _) (fY _ _))
theorem UH(w:aa Nat)(k v:Nat):(aX w).set k (v:Int)=aX (w.set k v):=(List.map_set ..).symm
theorem asq{r:aa Nat}(L:dL r)(hl:r.length=11){m f:Nat}(Z:m<8)(O:f<16)(W:aa Int):
  iter Dl aZ (((),(),(),((m+3:Nat):Int),(f:Int),(0:Int),()),(W,aX nX,aX r,()))=some (.inl (((),(),(),((m+3:Nat):Int),()),(W,aX nX,aX (jT r m f 4),()))):=by
 have e:=tY (step:=Dl) (λk=>(((),(),(),((m+3:Nat):Int),(f:Int),(k:Int),()),(W,aX nX,aX (jT r m f k),()))) (z:=.inl (((),(),(),((m+3:Nat):Int),()),(W,aX nX,aX (jT r m f 4),()))) 4 0 aZ (λk _ hk=>?_) ?_ (by unfold aZ;omega)
 ·exact e
 ·unfold Dl aB xG xL;dsimp only;have D:decide ((k:Int)<((aX nX).length:Int))=true:=aW (by show (k:Int)<4;omega);have Q:W6 (W6 (((m+3:Nat):Int)-3)+(k:Int))=((m+k:Nat):Int):=by
   rw[bf (n:=((m+3:Nat):Int)-3) (by omega) (by omega),bf (by omega) (by omega)];omega
  have I:m+k<(aX (jT r m f k)).length:=by rw[gi,I2,hl];omega
  have C:0<=((m+k:Nat):Int)/\((m+k:Nat):Int).toNat<(aX (jT r m f k)).length:=⟨by omega,I⟩
  have J:k<(aX nX).length:=by show k<4;omega
  have E:0<=(k:Int)/\(k:Int).toNat<(aX nX).length:=⟨by omega,J⟩
  have T:(aX (jT r m f k))[((m+k:Nat):Int).toNat]'C.2=(((jT r m f k).getD (m+k) 0:Nat):Int):=tZ I;have U:(aX nX)[(k:Int).toNat]'E.2=((rE k:Nat):Int):=tZ J;rw[D,ak];simp only[Q];rw[aG C,aG C.2];rw[aG E,aG E.2,U,I1 (asp k) O,au,aG C,aG C.2,T,rC ((I3 L m f k).get _) (fY _ _),rB (by omega)];have Y:(aX (jT r m f k)).set ((m+k:Nat):Int).toNat (((jT r m f k).getD (m+k) 0 ^^^ gm (rE k) f:Nat):Int)=aX (jT r m f (k+1)):=UH _ _ _;rw[Y]
 ·unfold Dl aB xG xL;dsimp only;have D:decide (((0+4:Nat):Int)<((aX nX).length:Int))=false:=rfl;rw[D,aq]
def out(r:aa Nat):Nat->aa Nat
 |0=>r
 |t+1=>jT (out r t) (7-t) ((out r t).getD (10-t) 0) 4
theorem Bg(r:aa Nat):∀ t,(out r t).length=r.length
 |0=>rfl
 |t+1=>by show (jT _ _ _ _).length=_;rw[I2,Bg r t]
theorem Bh{r:aa Nat}(C:dL r):∀ t,dL (out r t)
 |0=>C
 |t+1=>I3 (Bh C t) _ _ _
theorem aew{r:aa Nat}(D:dL r)(hl:r.length=11)(W:aa Int):
  iter Dm aZ (((),(),(),(10:Int),()),(W,aX nX,aX r,()))=some (.inl (((),(),()),(W,aX (out r 8),()))):=by
 have e:=tY (step:=Dm) (λt=>(((),(),(),(10:Int)-(t:Int),()),(W,aX nX,aX (out r t),()))) (z:=.inl (((),(),()),(W,aX (out r 8),()))) 8 0 aZ (λt _ L=>?_) ?_ (by unfold aZ;omega)
 ·exact e
 ·unfold Dm aB xG bw xL;dsimp only;have hi:(10:Int)-(t:Int)=((7-t+3:Nat):Int):=by omega
  have I:decide ((10:Int)-(t:Int) >= 3)=true:=aW (by omega);have E:7-t+3<(aX (out r t)).length:=by rw[gi,Bg,hl];omega
  have C:0<=((7-t+3:Nat):Int)/\((7-t+3:Nat):Int).toNat<(aX (out r t)).length:=⟨by omega,E⟩
  have J:(aX (out r t))[((7-t+3:Nat):Int).toNat]'C.2=(((out r t).getD (10-t) 0:Nat):Int):=(tZ E).trans (by rw[show 7-t+3=10-t by omega]);rw[I,ak];simp only[hi];rw[aG C,aG C.2,J,asq (Bh D t) (by rw[Bg,hl]) (by omega) ((Bh D t).get _)];show some (Sum.inl (((),(),(),W6 (((7-t+3:Nat):Int)-1),()),(W,aX nX,aX (out r (t+1)),())))=_;rw[bf (by omega) (by omega),show ((7-t+3:Nat):Int)-1=10-((t+1:Nat):Int) by omega]
 ·unfold Dm aB xG bw xL;dsimp only;rfl
theorem asr:(kS λa=>Nat.beq (gm 1 a) a)=true:=by kernel_rfl
theorem aex{a:Nat}(C:a<16):gm 1 a=a:=bQ (iU asr C)
theorem aey{r:aa Nat}(C:dL r)(hl:r.length=11){k e:Nat}(D:e<16)(E:k<11)(j:Nat):bU (r.set k (r.getD k 0 ^^^ e)) j 11=bU r j 11 ^^^ gm e (pw (k*j)):=by
 rw[aet C D (by omega) j 11,bB (by omega)]
theorem ass{r:aa Nat}(D:dL r)(hl:r.length=11){m f j:Nat}(E:m<8)(C:f<16)(I:j<3):bU (jT r m f 4) j 11=bU r j 11:=by
 have st:∀ k,k<4->bU (jT r m f (k+1)) j 11=bU (jT r m f k) j 11 ^^^ gm (gm (rE k) f) (pw ((m+k)*j)):=λk L=>
  aey (I3 D m f k) (by rw[I2,hl]) (fY _ _) (by omega) j
 have h:=cv.1 (iU (cv.1 asn m (eD.2 E)) C) j (eD.2 I);have h:gm (gm (rE 0) f) (pw ((m+0)*j)) ^^^ (gm (gm (rE 1) f) (pw ((m+1)*j)) ^^^ (gm (gm (rE 2) f) (pw ((m+2)*j)) ^^^ gm (gm (rE 3) f) (pw ((m+3)*j))))=0:=by
  have J:gm (rE 3) f=f:=aex C;rw[J];exact bQ h
 rw[st 3 (by decide),st 2 (by decide),st 1 (by decide),st 0 (by decide),Nat.xor_assoc,Nat.xor_assoc,Nat.xor_assoc,h,Nat.xor_zero];rfl
theorem aez{r:aa Nat}(C:dL r)(hl:r.length=11){j:Nat}(D:j<3):∀ t,t<=8->bU (out r t) j 11=bU r j 11
 |0,_=>rfl
 |t+1,E=>(ass (Bh C t) (by rw[Bg,hl]) (by omega) ((Bh C t).get _) D).trans (aez C hl D t (by omega))
theorem aeA(r:aa Nat)(k v n:Nat):(r.set k v).getD n 0=if n=k/\k<r.length then v else r.getD n 0:=by
 simp only[eX,List.getElem?_set];by_cases h:n=k
 ·subst h;by_cases C:n<r.length
  ·simp[C]
  ·simp[C]
 ·simp[h,Ne.symm h]
theorem UI(r:aa Nat)(m f:Nat):∀ k n,m+k<=n->(jT r m f k).getD n 0=r.getD n 0
 |0,n,_=>rfl
 | k+1,n,h=>by
  show (List.set _ _ _).getD n 0=_;rw[aeA,bB (by omega),UI r m f k n (by omega)]
theorem ast{r:aa Nat}{m f:Nat}(h:m+3<r.length):(jT r m f 4).getD (m+3) 0=r.getD (m+3) 0 ^^^ gm (rE 3) f:=by
 show (List.set _ _ _).getD (m+3) 0=_;rw[aeA,bk ⟨rfl,by rw[I2];exact h⟩,UI r m f 3 (m+3) (dV _)]
theorem aeB{r:aa Nat}(C:dL r)(hl:r.length=11):∀ t,t<=8->∀ n,10-t<n->n<11->(out r t).getD n 0=0
 |0,_,n,h,D=>by omega
 | t+1,I,n,h,D=>by
  show (jT (out r t) (7-t) ((out r t).getD (10-t) 0) 4).getD n 0=0;by_cases E:n=10-t
  ·have e:n=7-t+3:=by omega
   subst e;rw[ast (by rw[Bg,hl];omega),<-E];have:gm (rE 3) ((out r t).getD (7-t+3) 0)=(out r t).getD (7-t+3) 0:=aex ((Bh C t).get _);rw[this,Nat.xor_self]
  ·rw[UI _ _ _ 4 n (by omega)];exact aeB C hl t (by omega) n (by omega) D
def pN(w r:aa Nat):Nat->aa Nat
 |0=>w
 |k+1=>(pN w r k).set k (r.getD k 0)
theorem UJ(w r:aa Nat):∀ k,(pN w r k).length=w.length
 |0=>rfl
 |k+1=>by show (List.set _ _ _).length=_;rw[jE,UJ w r k]
theorem aeC{w r:aa Nat}(Q:w.length=11)(T:r.length=11):
  iter Dn aZ (((),(),(0:Int),()),(aX w,aX r,()))=some (.inl (((),()),(aX (pN w r 3),()))):=by
 have e:=tY (step:=Dn) (λi=>(((),(),(i:Int),()),(aX (pN w r i),aX r,()))) (z:=.inl (((),()),(aX (pN w r 3),()))) 3 0 aZ (λk _ U=>?_) ?_ (by unfold aZ;omega)
 ·exact e
 ·unfold Dn aB xG xL;dsimp only;have I:decide ((k:Int)<(3:Int))=true:=aW (by omega);have D:k<(aX r).length:=by rw[gi];omega
  have J:k<(aX (pN w r k)).length:=by rw[gi,UJ];omega
  have C:0<=(k:Int)/\(k:Int).toNat<(aX r).length:=⟨by omega,D⟩
  have E:0<=(k:Int)/\(k:Int).toNat<(aX (pN w r k)).length:=⟨by omega,J⟩
  have L:(aX r)[(k:Int).toNat]'C.2=((r.getD k 0:Nat):Int):=tZ D;rw[I,ak,aG C,aG C.2,L,aG E,aG E.2,rB (by omega)];have O:(aX (pN w r k)).set (k:Int).toNat ((r.getD k 0:Nat):Int)=aX (pN w r (k+1)):=UH _ _ _;rw[O]
 ·unfold Dn aB xG xL;dsimp only;rfl
theorem asu{d:aa Nat}(L:dL d)(hl:d.length=8):∃ w,yw (aX d)=some (aX w)/\w.length=11/\dL w/\bU w 0 11=0/\bU w 1 11=0/\bU w 2 11=0:=by
 have D:dL (0 :: 0 :: 0 :: d):=by
  intro x hx;simp only[fF]at hx;rcases hx with rfl|rfl|rfl|hx
  ·decide
  ·decide
  ·decide
  ·exact L x hx
 have C:(0::0::0::d).length=11:=by simp[hl]
 have O:yw (aX d)=some (aX (pN (0 :: 0 :: 0 :: d) (out (0 :: 0 :: 0 :: d) 8) 3)):=by
  unfold yw bw;have c0:((d.length:Int)==(8:Int))=true:=by rw[hl];rfl
  have Q:aT ((List.replicate (3:Int).toNat (0:Int)).length+(aX d).length)=true:=by
   rw[gi,hl];rfl
  have T:aT (([]:aa Int).length+(aX (0 :: 0 :: 0 :: d)).length)=true:=by
   rw[gi,C];rfl
  have U:W6 (((aX (0 :: 0 :: 0 :: d)).length:Int)-(1:Int))=10:=by
   rw[gi,C];rfl
  have Y:List.replicate (3:Int).toNat (0:Int)++aX d=aX (0::0::0::d):=rfl;rw[aev L (by omega),au,c0,show (!true)=false from rfl,aq,bk (by decide),Q,ak,Y,aeu,au,eO];dsimp only;rw[List.nil_append,T,ak,U,aew D C,au,eO];dsimp only;rw[aeC C (by rw[Bg,C]),au,eO]
 have E:=Bh D 8;have I:∀ j,j<3->bU (pN (0 :: 0 :: 0 :: d) (out (0 :: 0 :: 0 :: d) 8) 3) j 11=0:=by
  intro j Z;have J:=aez D C Z 8 (dV _);have z:=aeB D C 8 (dV _);revert J z;generalize out (0 :: 0 :: 0 :: d) 8=r;intro J z;have h2:bU (pN (0 :: 0 :: 0 :: d) r 3) j 11=gm (r.getD 0 0) (pw (0*j)) ^^^ (gm (r.getD 1 0) (pw (1*j)) ^^^ (gm (r.getD 2 0) (pw (2*j)) ^^^ bU (0 :: 0 :: 0 :: d) j 11)):=by
   show bU (r.getD 0 0::r.getD 1 0::r.getD 2 0::d) j 11=_;simp only[bU,List.getD_cons_zero,List.getD_cons_succ,Nat.xor_assoc,Nat.zero_xor,NX (sL _)]
  have h3:bU r j 11=gm (r.getD 0 0) (pw (0*j)) ^^^ (gm (r.getD 1 0) (pw (1*j)) ^^^ gm (r.getD 2 0) (pw (2*j))):=by
   simp only[bU,z 3 (by decide) (by decide),z 4 (by decide) (by decide),z 5 (by decide) (by decide),z 6 (by decide) (by decide),z 7 (by decide) (by decide),z 8 (by decide) (by decide),z 9 (by decide) (by decide),z 10 (by decide) (by decide),Nat.xor_assoc,Nat.zero_xor,Nat.xor_zero,NX (sL _)]
  rw[h2,<-J,h3,<-Nat.xor_assoc (gm (r.getD 1 0) _) (gm (r.getD 2 0) _),<-Nat.xor_assoc (gm (r.getD 0 0) _),Nat.xor_self]
 refine⟨_,O,by rw[UJ,C],?_,I 0 (by decide),I 1 (by decide),I 2 (by decide)⟩;exact((D.set (E.get _)).set (E.get _)).set (E.get _)
def uc(s:Int):Bool:=aJ s 0 15
def rF(l:aa Int)(n:Int):Bool:=l.all uc&&decide ((l.length:Int)=n)
theorem asv(l:aa Int)(n:Int)(hl:l.length<1073741824):tX l n=some (rF l n):=by
 unfold tX rF cg;have e:=gv (step:=vQ) l uc (λi=>((l,n,l,(l.length:Int),(i:Int),()),())) (.inl ((false,()),())) (.inr (.inl ((l,n,()),()))) aZ (λk h=>by
  unfold vQ A6 aB bq xG xI;simp (disch:=omega) [h,bP,fC,uc];cases aJ l[k] 0 15<;>rfl) (by unfold vQ aB bq xG xI;simp) (bY hl)
 rw[cA]at e;rw[e];cases l.all uc<;>simp;rfl
theorem NY(l:aa Int)(n:Int)(hl:l.length<1073741824):tV l n=some (rF l n):=by
 unfold tV rF cg;have e:=gv (step:=vI) l uc (λi=>((l,n,(i:Int),()),())) (.inl ((false,()),())) (.inr (.inl ((l,n,()),()))) aZ (λk h=>by
  unfold vI vH aB bq xG xI;simp (disch:=omega) [h,bP,ei,uc];cases aJ l[k] 0 15<;>rfl) (by unfold vI aB bq xG xI;simp) (bY hl)
 rw[cA]at e;rw[e];cases l.all uc<;>simp;rfl
def Sy(l:aa Int):Prop:=l.length=11/\∀s∈l,0<=s/\s<=15
theorem Sy.ok{l:aa Int}(h:Sy l):rF l 11=true:=by
 simp only[rF,aK,cv,fH,uc,bC];exact⟨λx C=>h.2 x C,by rw[h.1];rfl⟩
theorem Sy.of{l:aa Int}(h:rF l 11=true):Sy l:=by
 simp only[rF,aK,cv,fH,uc,bC]at h;exact⟨by omega,h.1⟩
theorem UK{a b:Int}(E:0<=a/\a<=15)(hb:0<=b/\b<=15):0<=bits .xor .i64 a b/\bits .xor .i64 a b<=15/\bits .xor .i64 (bits .xor .i64 a b) b=a:=by
 obtain⟨x,rfl⟩:=fI E.1;obtain⟨y,rfl⟩:=fI hb.1;have D:x<16:=by omega
 have C:y<16:=by omega
 have:=lQ D C;rw[rC D C];rw[rC this C];refine⟨by omega,by omega,?_⟩;rw[Nat.xor_assoc,Nat.xor_self,Nat.xor_zero]
theorem Sy.set{l:aa Int}(h:Sy l){k:Nat}{v:Int}(D:0<=v/\v<=15):Sy (l.set k v):=by
 refine⟨by simp[h.1],λs C=>?_⟩
 rcases List.mem_or_eq_of_mem_set C with C|rfl
 ·exact h.2 s C
 ·exact D
theorem Sy.get{l:aa Int}(h:Sy l){k:Nat}(C:k<l.length):0<=l[k]/\l[k]<=15:=h.2 _ (cP C)
structure fD (g:aN) (B:Int) (a:dP):Prop where
 cells:(a.cells.length:Int)=cX g
 syms:∀c∈a.cells,Sy c.symbols
 bI:(a.bI.length:Int)=gw g
 bG:(a.bG.length:Int)=gw g
 I4:∀x∈a.bI,0<=x/\x<=B
 oM:∀x∈a.bG,0<=x/\x<=100000
theorem asw(c:bW)(h:c.symbols.length<1073741824):NC c=some c:=by
 unfold NC;simp[aT,h]
theorem aeD(c:bW)(h:c.symbols.length<1073741824):Gm c=some c:=by
 unfold Gm;simp[aT,h]
theorem asx(a:dP)(L:a.cells.length<1073741823)(C:a.bI.length<1073741824)(D:a.bG.length<1073741824)(E:∀ c∈a.cells,c.symbols.length<1073741824):IF a=some a:=by
 unfold IF bw;have e:=dx (step:=IE) a.cells.length (λi=>(((),(),a.cells,(a.cells.length:Int),(i:Int),()),(((),(),(),()),((),(),(),()),([]:aa bW),([]:aa Int),([]:aa Int),a.cells.take i,(([]:aa Int)++a.bI),(([]:aa Int)++a.bG),())))
  (.inl (((),(),()),(((),(),(),()),((),(),(),()),([]:aa bW),([]:aa Int),([]:aa Int),a.cells,(([]:aa Int)++a.bI),(([]:aa Int)++a.bG),()))) aZ (λk h=>by
  unfold IE aB xG xI;have I:min k a.cells.length=k:=by omega
  have J:aT (k+1)=true:=dh (by omega);simp (disch:=omega) [h,bP,asw _ (E _ (cP h)),I,J]) (by unfold IE aB xG xI;simp) (bY (by omega))
 rw[cA,List.take_zero]at e;rw[e];simp[aT,C,D]
theorem asy(a:dP)(L:a.cells.length<1073741823)(C:a.bI.length<1073741824)(D:a.bG.length<1073741824)(E:∀ c∈a.cells,c.symbols.length<1073741824):L9 a=some a:=by
 unfold L9 bw;have e:=dx (step:=Gn) a.cells.length (λi=>(((),(),(),(i:Int),()),((a.cells,a.bI,a.bG,()),((),(),(),()),((),(),(),()),([]:aa bW),([]:aa Int),([]:aa Int),a.cells.take i,(([]:aa Int)++a.bI),(([]:aa Int)++a.bG),())))
  (.inl (((),(),()),(((),(),(),()),((),(),(),()),([]:aa bW),([]:aa Int),([]:aa Int),a.cells,(([]:aa Int)++a.bI),(([]:aa Int)++a.bG),()))) aZ (λk h=>by
  unfold Gn aB xG xI;have I:min k a.cells.length=k:=by omega
  have J:aT (k+1)=true:=dh (by omega);simp (disch:=omega) [h,bP,aeD _ (E _ (cP h)),I,J]) (by unfold Gn aB xG xI;simp) (bY (by omega))
 rw[cA,List.take_zero]at e;rw[e];simp[aT,C,D]
def NZ(c:bW):Bool:=rF c.symbols 11
def Bi(p:Int×Int):Bool:=aJ p.1 0 100000&&aJ p.2 0 100000
def pO(g:aN)(a:dP):Bool:=cF g&&(decide ((a.cells.length:Int)=cX g)&&(decide ((a.bI.length:Int)=gw g)&&(decide ((a.bG.length:Int)=gw g)&&(a.cells.all NZ&&(a.bI.zip a.bG).all Bi))))
theorem asz(g:aN)(a:dP)(I:∀ c∈a.cells,c.symbols.length<1073741824):It g a=some (pO g a):=by
 unfold It pO cg;rw[rz,au,yI,au,NV];cases J:cF g with
 |false=>rfl
 | true=>
  have Q:=nW g;have T:=sJ g;have er:aV g*g.rows=gw g:=by simp[gw,J]
  simp only[bR,aq,au,cM,er];rw[bf (by omega) (by omega)];by_cases C:(a.cells.length:Int)=cX g
  ·by_cases D:(a.bI.length:Int)=gw g
   ·by_cases E:(a.bG.length:Int)=gw g
    ·have hl:a.bI.length=a.bG.length:=by omega
     have l1:=gv (step:=Ir) a.cells NZ (λi=>(((),a.cells,(a.cells.length:Int),(i:Int),()),((a.cells,a.bI,a.bG,()),()))) (.inl ((false,()),())) (.inr (.inl (((),()),((a.cells,a.bI,a.bG,()),())))) aZ (λk h=>by
      unfold Ir aB bq xG xI;simp (disch:=omega) [h,bP,asv _ 11 (I _ (cP h)),NZ];cases rF a.cells[k].symbols 11<;>rfl) (by unfold Ir aB bq xG xI;simp) (bY (by omega))
     have l2:=gv (step:=Is) (a.bI.zip a.bG) Bi (λi=>(((),(a.bI.length:Int),(i:Int),()),((a.cells,a.bI,a.bG,()),()))) (.inl ((false,()),())) (.inr (.inl ((),()))) aZ (λk h=>by
      have L:k<a.bI.length:=by simp at h;omega
      have O:k<a.bG.length:=by omega
      unfold Is aB bq xG xI;simp (disch:=omega) [L,O,bP,fC,Bi];cases aJ a.bI[k] 0 100000<;>cases aJ a.bG[k] 0 100000<;>rfl) (by unfold Is aB bq xG xI;simp[hl]) (bY (by simp;omega))
     rw[cA]at l1 l2;simp only[C,D,E,bne_self_eq_false,aq,decide_true,cM];rw[<-C,l1];cases U:a.cells.all NZ with
     |false=>simp
     | true=>
      simp only[ak,Option.bind_some,Sum.elim_inr,eO];rw[l2];cases (a.bI.zip a.bG).all Bi<;>simp
    ·simp[C,D,iT E,E]
   ·simp[C,iT D,D]
  ·simp[iT C,C]
theorem N0{b:aa Int}{c:bF}(C:jx b c)(l:aa Int)(hl:0<l.length):Dr b (yB c l) λx=>x∈l:=by
 unfold yB xI;rw[C.eq]
 refine(eU C _).bind λI J D E=>?_
 have L:=D.2.2 (by omega);rw[aG ⟨D.1,by dsimp only;omega⟩];dsimp only;rw[E.eta];exact Dr.pure E (cP _)
theorem N1{b:aa Int}{c:bF}(C:jx b c)(n:Int):Dr b (AB c n) λ_=>True:=by
 unfold AB;rw[C.eq]
 refine(eU C _).bind λE I J D=>?_
 dsimp only;rw[D.eta];exact Dr.pure D trivial
theorem nY(g:aN):(⟨g.ck,g.aF,g.rows,g.aO⟩:aN)=g:=rfl
theorem asA{b:aa Int}{c:bF}(D:jx b c){g:aN}(C:cF g=true):Dr b (Nm c g) λa=>dA g a=true:=by
 have T:=IY C;obtain⟨_,_,_,_,U,Y,Z,g8⟩:=fP C;unfold Nm;rw[nU,au,D.eq]
 refine(eU D _).bind λx1 k1 E I=>?_
 dsimp only;rw[I.eta]
 refine(eU I _).bind λx2 k2 J L=>?_
 dsimp only;rw[L.eta]
 refine(eU L _).bind λx3 k3 O Q=>?_
 dsimp only;rw[Q.eta];exact Dr.pure Q (vU C E.1 (E.2.2 (by omega)) J.1 (J.2.2 (by omega)) O.1 (O.2.2 (by omega)))
def rG(n x:Int):Int:=if 100000<x+n then 100000 else x+n
theorem UL(l:aa Int)(h:∀ s∈l,0<=s/\s<=15):aX (l.map Int.toNat)=l/\dL (l.map Int.toNat):=by
 constructor
 ·induction l with
  |nil=>rfl
  | cons x l E=>
   have D:=h x (.head _);have:=E λs C=>h s (.tail _ C)
   simp only[aX,ig]at this ⊢;rw[this];congr 1;omega
 ·intro x D;obtain⟨s,C,rfl⟩:=List.mem_map.1 D;have:=h s C;omega
theorem I5{w:aa Nat}(D:dL w)(hl:w.length=11):Sy (aX w):=by
 refine⟨by rw[gi,hl],λs C=>?_⟩
 simp only[aX,List.mem_map]at C;obtain⟨x,E,rfl⟩:=C;have:=D x E;omega
theorem Sy.mem{l:aa bW}(h:∀c∈l,Sy c.symbols){k:Nat}(C:k<l.length):Sy l[k].symbols:=h _ (cP C)
theorem Sy.bL{l:aa bW}(h:∀ c∈l,Sy c.symbols){k:Nat}{d:bW}(D:Sy d.symbols):∀ c∈l.set k d,Sy c.symbols:=by
 intro c C;rcases List.mem_or_eq_of_mem_set C with C|rfl
 ·exact h c C
 ·exact D
theorem N2{l:aa Int}{B C:Int}(h:∀ x∈l,B<=x/\x<=C){k:Nat}{v:Int}(E:B<=v/\v<=C):∀ x∈l.set k v,B<=x/\x<=C:=by
 intro x D;rcases List.mem_or_eq_of_mem_set D with D|rfl
 ·exact h x D
 ·exact E
def DU(l:lg)(a:dP)(i:Nat):Bool:=decide (a.bI.getD i 0 > l.bI) ||decide (a.bG.getD i 0 > l.bG)
theorem asC(g:aN)(l:lg)(a:dP)(i:Nat)(C:i<a.bI.length)(D:i<a.bG.length):GW g l a (i:Int)=some (DU l a i):=by
 unfold GW DU xI;simp only[eX,bK C,bK D,Option.getD_some];by_cases h:a.bI[i] > l.bI<;>simp[C,D,h]
theorem asD{l:aa Int}{B C:Int}(h:∀ x∈l,B<=x/\x<=C)(k:Nat)(D:B<=0/\0<=C):B<=l.getD k 0/\l.getD k 0<=C:=by
 rw[eX];cases E:l[k]? with
 |none=>exact D
 |some x=>exact h x (fL E)
theorem aeE{x:Int}(h:0<=x/\x<=100000){n:Int}(C:0<=n):0<=rG n x/\rG n x<=100000:=by
 unfold rG;split<;>omega
def yL(k:Nat)(h:aa Int):aa Int:=h.set k (rG 1 (h.getD k 0))
theorem N3(k:Nat)(h:aa Int):(yL k h).length=h.length:=by simp[yL]
theorem UM{k:Nat}{h:aa Int}(hb:∀ x∈h,0<=x/\x<=100000):∀ x∈yL k h,0<=x/\x<=100000:=
 N2 hb (aeE (asD hb k ⟨by omega,by omega⟩) (by omega))
theorem aeF{k:Nat}{h:aa Int}(C:k<h.length):yL k h=h.set k (rG 1 h[k]):=by
 unfold yL;rw[eX,bK C];rfl
def Bj(row:Int)(i:Nat)(h:aa Int):aa Int:=bif decide (0<row)then yL (i-1) (h.set i 0)else h.set i 0
def Bk(R row:Int)(i:Nat)(h:aa Int):aa Int:=bif decide (row<R-1)then yL (i+1) (Bj row i h)else Bj row i h
theorem asE(row:Int)(i:Nat)(h:aa Int):(Bj row i h).length=h.length:=by
 unfold Bj;cases decide (0<row)<;>simp[N3]
theorem asF(R row:Int)(i:Nat)(h:aa Int):(Bk R row i h).length=h.length:=by
 unfold Bk;cases decide (row<R-1)<;>simp[N3,asE]
theorem asG{row:Int}{i:Nat}{h:aa Int}(hb:∀ x∈h,0<=x/\x<=100000):∀ x∈Bj row i h,0<=x/\x<=100000:=by
 have C:=N2 hb (k:=i) (v:=0) ⟨by omega,by omega⟩;unfold Bj;cases decide (0<row)
 ·exact C
 ·exact UM C
theorem asH{R row:Int}{i:Nat}{h:aa Int}(hb:∀ x∈h,0<=x/\x<=100000):∀ x∈Bk R row i h,0<=x/\x<=100000:=by
 have C:=asG (row:=row) (i:=i) hb;unfold Bk;cases decide (row<R-1)
 ·exact C
 ·exact UM C
def Gv{C:Type}(P:C->Prop)(o:aj C):Prop:=∃y,o=some y/\P y
theorem Gv.pure{C:Type}{P:C->Prop}{y:C}(h:P y):Gv P (some y):=⟨y,rfl,h⟩
theorem Gv.bind{α C:Type}{Q:α->Prop}{P:C->Prop}{f:aj α}{g:α->aj C}(h:Gv Q f)(D:∀ y,Q y->Gv P (g y)):Gv P (f.bind g):=by
 obtain⟨y,rfl,E⟩:=h;exact D y E
theorem asJ(x a b:Int):Gv (λy=>y=aJ x a b) (cE x a b):=⟨_,ei x a b,rfl⟩
theorem asK(k:Int):Gv (λy=>y=(aJ k 1 5,k==1,(k==2 || k==3))) (GJ k):=by
 unfold GJ
 refine Gv.bind (asJ _ _ _) (λ_ h=>?_)
 subst h;cases h:k==2<;>exact Gv.pure (by simp)
def pP(t:c8):aa Int:=[t.jG,t.rp,t.ga,t.mL,t.jH,t.nB,t.mM,t.mN,t.jk,t.wr,t.n8,t.n9,t.qN,t.oa,t.oR,t.xp,t.xs]
def yM(x:Int):Bool:=aJ x 1 64
def iV(t:c8):Bool:=(pP t).all yM&&(decide (t.jG<=t.ga)&&(decide (t.mL<=t.jH)&&(decide (t.mM<=t.mN)&&decide (t.n8<=t.n9))))
theorem UN(t:c8):DH t=some (iV t):=by
 unfold DH iV cg;change (iter DG aZ (((),(),((pP t).length:Int),(0:Int),()),(t,pP t,()))).bind _=_;have C:(pP t).length=17:=rfl;generalize pP t=l at *
 have e:=gv (step:=DG) l yM (λi=>(((),(),(l.length:Int),(i:Int),()),(t,l,()))) (.inl ((false,()),())) (.inr (.inl (((),()),(t,())))) aZ (λk h=>by
  unfold DG aB bq xG xL;simp (disch:=omega) [h,bP,fC,yM];cases aJ l[k] 1 64<;>rfl) (by unfold DG aB bq xG xL;simp) (bY (by omega))
 rw[cA]at e;rw[e];cases l.all yM<;>simp;cases decide (t.jG<=t.ga)<;>cases decide (t.mL<=t.jH)<;>cases decide (t.mM<=t.mN)<;>rfl
theorem N4(t:c8):AE t=some (iV t):=by
 unfold AE iV TG cg;rw[au];change (iter C7 aZ (((),(),(0:Int),()),(t,pP t,()))).bind _=_;have C:(pP t).length=17:=rfl;generalize pP t=l at *
 have e:=gv (step:=C7) l yM (λi=>(((),(),(i:Int),()),(t,l,()))) (.inl ((false,()),())) (.inr (.inl (((),()),(t,())))) aZ (λk h=>by
  unfold C7 aB bq xG xL;simp (disch:=omega) [h,bP,ei,yM];cases aJ l[k] 1 64<;>rfl) (by unfold C7 aB bq xG xL;simp) (bY (by omega))
 rw[cA]at e;rw[e];cases l.all yM<;>simp;cases decide (t.jG<=t.ga)<;>cases decide (t.mL<=t.jH)<;>cases decide (t.mM<=t.mN)<;>rfl
theorem asM(t:c8):Gt t=yC t:=by
 unfold Gt yC;rw[UN,N4]
theorem asN(t:c8):∃ y,yC t=some y:=by
 unfold yC;rw[UN,au];cases iV t<;>exact⟨_,rfl⟩
def I6(R i:Nat):Int:=((i % R:Nat):Int)
def lR(n R:Nat):aa Int:=(List.range n).map (I6 R)
theorem UO(n R:Nat):(lR n R).length=n:=by simp[lR]
theorem asO(n R:Nat):lR (n+1) R=lR n R++[I6 R n]:=by simp[lR,List.range_succ]
def jh(g:aN)(n:Int):Bool:=cF g&&(aJ n 0 2&&decide (2<=g.rows-n))
def rH(g:aN)(n:Int):c9×Bool:=bif jh g n then (⟨n,lR ((aV g).toNat*(g.rows-n).toNat) (g.rows-n).toNat⟩,true)else (⟨0,[]⟩,false)
theorem N5{g:aN}{n:Int}(h:jh g n=true):cF g=true/\0<=n/\n<=2/\2<=g.rows-n/\g.rows<=16:=by
 simp only[jh,aK,bC,fH]at h;obtain⟨C,⟨D,E⟩,I⟩:=h;have:=fP C;exact⟨C,D,E,I,by omega⟩
theorem UP(g:aN)(n:Int):C6 g n=some (rH g n):=by
 unfold C6 rH bw;rw[DT,au];cases D:cF g with
 |false=>simp[jh,D]
 | true=>
  simp only[bR,aq,ei,au];cases E:aJ n 0 2 with
  |false=>simp[jh,E]
  | true=>
   have U:=bC.1 E;have Y:=fP D;simp only[bR,aq];rw[bf (by omega) (by omega)];by_cases I:g.rows-n<2
   ·have:decide (2<=g.rows-n)=false:=br (by omega);rw[aW I,ak];simp[jh,this]
   ·have L:jh g n=true:=by simp[jh,D,E];omega
    rw[br I,aq,L,ak];have O:=fG g;obtain⟨C,hb⟩:=fI O.1;obtain⟨R,hR⟩:=fI (show 0<=g.rows-n by omega);have Z:C*R<=8*16:=Nat.mul_le_mul (by omega) (by omega);have hmul:W6 ((C:Int)*(R:Int))=((C*R:Nat):Int):=by
     rw[<-Int.natCast_mul];exact bf (by omega) (by omega)
    have J:W6 (g.rows-n)=(R:Int):=by rw[hR];exact bf (by omega) (by omega)
    have e:=dx (step:=Gs) (C*R) (λi=>((n,(),(),(),(i:Int),()),((g.ck,g.aF,g.rows,g.aO,()),((0:Int),(),()),(n,(),()),([]:aa Int),lR i R,())))
     (.inl (((),(),()),(((0:Int),(),()),(n,(),()),([]:aa Int),lR (C*R) R,()))) aZ (λk h=>by
     unfold Gs aB xG;have Q:aT ((lR k R).length+1)=true:=dh (by rw[UO];omega);have T:(k:Int).tmod (R:Int)=I6 R k:=by unfold I6;exact(Int.ofNat_tmod k R).symm
     dsimp only;rw[nY,nU,au,J,hb,hmul,aW (by omega),ak,bB (by omega),T];simp only[kB,List.length_nil,eN];rw[Q,ak,bP (by omega),asO]) (by
     unfold Gs aB xG;dsimp only;rw[nY,nU,au,J,hb,hmul,br (by omega),aq]) (bY (by omega))
    rw[cA]at e
    refine(bD (λo=>Option.bind o _) e).trans ?_
    rw[hb,hR];rfl
theorem asP(b R:Nat)(hR:0<R)(j:Nat)(C:j<=R):lR (b*R+j) R=lR (b*R) R++(List.range j).map (λi:Nat=>(i:Int)):=by
 unfold lR;rw[List.range_add,List.map_append,List.map_map];congr 1
 refine ic λi hi=>?_
 have hi:i<j:=eD.1 hi;simp only[Function.comp,I6];rw[Nat.mul_comm,Nat.mul_add_mod,Nat.mod_eq_of_lt (by omega)]
theorem aeG(g:aN)(n:Int):Ib g n=some (rH g n):=by
 unfold Ib rH bw;rw[yI,au];cases C:cF g with
 |false=>simp[jh,C]
 | true=>
  simp only[bR,aq,fC,au];cases D:aJ n 0 2 with
  |false=>simp[jh,D]
  | true=>
   have T:=bC.1 D;have U:=fP C;simp only[bR,aq];rw[bf (by omega) (by omega)];by_cases I:g.rows-n<2
   ·have:decide (2<=g.rows-n)=false:=br (by omega);rw[aW I,ak];simp[jh,this]
   ·have L:jh g n=true:=by simp[jh,C,D];omega
    rw[br I,aq,L,ak];have O:=fG g;obtain⟨E,hb⟩:=fI O.1;obtain⟨R,hR⟩:=fI (show 0<=g.rows-n by omega);have J:W6 (g.rows-n)=(R:Int):=by rw[hR];exact bf (by omega) (by omega)
    have inner:∀ b:Nat,b<E->iter DD aZ ((n,(),(),(),(b:Int),(0:Int),()),((g.ck,g.aF,g.rows,g.aO,()),((0:Int),(),()),(n,(),()),([]:aa Int),lR (b*R) R,()))=some (.inl ((n,(),(),(),(b:Int),()),((g.ck,g.aF,g.rows,g.aO,()),((0:Int),(),()),(n,(),()),([]:aa Int),lR ((b+1)*R) R,()))):=by
     intro b Y;have Z:b*R<=8*16:=Nat.mul_le_mul (by omega) (by omega);have e:=dx (step:=DD) R (λj=>((n,(),(),(),(b:Int),(j:Int),()),((g.ck,g.aF,g.rows,g.aO,()),((0:Int),(),()),(n,(),()),([]:aa Int),lR (b*R) R++(List.range j).map (λi:Nat=>(i:Int)),())))
      (.inl ((n,(),(),(),(b:Int),()),((g.ck,g.aF,g.rows,g.aO,()),((0:Int),(),()),(n,(),()),([]:aa Int),lR (b*R) R++(List.range R).map (λi:Nat=>(i:Int)),()))) aZ (λk h=>by
      unfold DD aB xG;have Q:aT ((lR (b*R) R++(List.range k).map (λi:Nat=>(i:Int))).length+1)=true:=dh (by simp[UO];omega);dsimp only;rw[J,aW (by omega),ak];simp only[kB,List.length_nil,eN];rw[Q,ak,bP (by omega),List.range_succ,List.map_append,List.append_assoc];rfl) (by
      unfold DD aB xG;dsimp only;rw[J,br (by omega),aq]) (bY (by omega))
     rw[cA,List.range_zero,List.map_nil,List.append_nil]at e;rw[e,<-asP b R (by omega) R (dV _),fQ]
    have e:=dx (step:=Ia) E (λi=>((n,(),(),(),(i:Int),()),((g.ck,g.aF,g.rows,g.aO,()),((0:Int),(),()),(n,(),()),([]:aa Int),lR (i*R) R,())))
     (.inl (((),(),()),(((0:Int),(),()),(n,(),()),([]:aa Int),lR (E*R) R,()))) aZ (λk h=>by
     unfold Ia aB xG bw;dsimp only;rw[nY,rz,au,hb,aW (by omega),ak]
     refine(bD (λo=>Option.bind o _) (inner k h)).trans ?_
     rw[au];simp only[eO];rw[bP (by omega)]) (by
     unfold Ia aB xG bw;dsimp only;rw[nY,rz,au,hb,br (by omega),aq]) (bY (by omega))
    rw[cA,Nat.zero_mul]at e
    refine(bD (λo=>Option.bind o _) e).trans ?_
    rw[hb,hR];rfl
def Bl(t:c8):Int:=(yC t).getD 0
theorem aeH(t:c8):yC t=some (Bl t):=by
 obtain⟨y,e⟩:=asN t;unfold Bl;rw[e];rfl
theorem asQ(t:c8):Gt t=some (Bl t):=by rw[asM,aeH]
theorem UQ(m:kC):Ih m=some (aJ m.order 0 2):=by
 unfold Ih;rw[fC];rfl
theorem asR(m:kC):C8 m=some (aJ m.order 0 2):=by
 unfold C8;rw[ei];rfl
def ni(c:eH):Bool:=cF c.ay&&(iV c.cc&&(aJ c.mapping.order 0 2&&(jh c.ay c.bH&&(aJ c.interval (Bl c.cc) 10000&&(aJ c.ir 1 16&&(aJ c.ew.bI (W6 ((6:Int)*c.interval)) 100000&&aJ c.ew.bG 0 100000))))))
theorem N6(g:aN)(n:Int):(rH g n).2=jh g n:=by
 unfold rH;cases jh g n<;>rfl
theorem N7(c:eH):Nu c=some (ni c):=by
 unfold Nu ni;simp only[aeG,yI,UN,UQ,aeH,fC,au,N6];cases cF c.ay<;>cases iV c.cc<;>cases aJ c.mapping.order 0 2<;>cases jh c.ay c.bH<;>cases aJ c.interval (Bl c.cc) 10000<;>cases aJ c.ir 1 16<;>cases aJ c.ew.bI (W6 ((6:Int)*c.interval)) 100000<;>rfl
theorem asT(c:eH):Md c=some (ni c):=by
 unfold Md ni;simp only[UP,N4,asR,asQ,ei,au,N6];cases h:jh c.ay c.bH with
 |false=>cases cF c.ay<;>cases iV c.cc<;>cases aJ c.mapping.order 0 2<;>rfl
 | true=>
  rw[(N5 h).1];cases iV c.cc<;>cases aJ c.mapping.order 0 2<;>cases aJ c.interval (Bl c.cc) 10000<;>cases aJ c.ir 1 16<;>cases aJ c.ew.bI (W6 ((6:Int)*c.interval)) 100000<;>rfl
theorem aeI{c:eH}(h:ni c=true):cF c.ay=true/\iV c.cc=true/\jh c.ay c.bH=true/\aJ c.ir 1 16=true:=by
 simp only[ni,aK]at h;exact⟨h.1,h.2.1,h.2.2.2.1,h.2.2.2.2.2.1⟩
theorem aeJ{t:c8}(h:iV t=true):(1<=t.ga/\t.ga<=64)/\1<=t.rp/\t.rp<=64:=by
 simp only[iV,aK,cv]at h;have C:=h.1 t.ga (by simp[pP]);have D:=h.1 t.rp (by simp[pP]);simp only[yM,bC]at C D;exact⟨C,D⟩
def nj(s:cq):Bool:=aJ s.weight 1 9&&aJ s.fz 0 s.weight
def gj(l:aa cq):Bool:=l.all nj&&aJ (l.length:Int) 1 4
theorem I7(l:aa cq)(hl:l.length<1073741824):DI l=some (gj l):=by
 unfold DI gj cg;have e:=gv (step:=Ii) l nj (λi=>((l,l,(l.length:Int),(i:Int),()),())) (.inl ((false,()),())) (.inr (.inl ((l,()),()))) aZ (λk h=>by
  unfold Ii aB bq xG xI;simp (disch:=omega) [h,bP,fC,nj];cases aJ l[k].weight 1 9<;>cases aJ l[k].fz 0 l[k].weight<;>rfl) (by unfold Ii aB bq xG xI;simp) (bY hl)
 rw[cA]at e;rw[e];cases l.all nj<;>simp[fC]
theorem aeK(l:aa cq)(hl:l.length<1073741824):Gw l=some (gj l):=by
 unfold Gw gj cg;have e:=gv (step:=Gu) l nj (λi=>((l,(i:Int),()),())) (.inl ((false,()),())) (.inr (.inl ((l,()),()))) aZ (λk h=>by
  unfold Gu aB bq xG xI;simp (disch:=omega) [h,bP,ei,nj];cases aJ l[k].weight 1 9<;>cases aJ l[k].fz 0 l[k].weight<;>rfl) (by unfold Gu aB bq xG xI;simp) (bY hl)
 rw[cA]at e;rw[e];cases l.all nj<;>simp[ei]
def hJ(w:Int):cq:=⟨w,w⟩
def vW(l:aa Int):aa cq×Bool:=bif gj (l.map hJ)then (l.map hJ,true)else ([],false)
theorem aeL{l:aa Int}{k:Nat}(h:k<l.length):(l.take (k+1)).map hJ=(l.take k).map hJ++[⟨l[k],l[k]⟩]:=by
 rw[List.take_succ_eq_append_getElem h,List.map_append];rfl
theorem UR(l:aa Int)(hl:l.length<1073741823):A4 l=some (vW l):=by
 unfold A4 vW bw;have e:=dx (step:=Ij) l.length (λi=>(((),l,(l.length:Int),(i:Int),()),((l.take i).map hJ,()))) (.inl (((),()),(l.map hJ,()))) aZ (λk h=>by
  unfold Ij aB xG xI;have C:aT (((l.take k).map hJ).length+1)=true:=dh (by simp;omega);dsimp only;rw[aW (by omega),ak,aG ⟨by omega,by omega⟩];simp only[kB,List.length_nil,eN,bJ];rw[C,ak,bP (by omega),aeL h]) (by
  unfold Ij aB xG xI;dsimp only;rw[br (by omega),aq,jF]) (bY (by omega))
 rw[cA,List.take_zero,List.map_nil]at e
 refine(bD (λo=>Option.bind o _) e).trans ?_
 rw[au];simp only[eO];rw[I7 _ (by simp;omega),au];cases gj (l.map hJ)<;>rfl
theorem US(l:aa Int)(hl:l.length<1073741823):yj l=some (vW l):=by
 unfold yj vW bw;have e:=dx (step:=Gx) (min l.length 5) (λi=>((l,(),(i:Int),()),((l.take i).map hJ,()))) (.inl (((),()),((l.take 5).map hJ,()))) aZ (λk h=>by
  have C:k<l.length:=by omega
  unfold Gx aB xG xI;have D:aT (((l.take k).map hJ).length+1)=true:=dh (by simp;omega);dsimp only;rw[aW (by omega),ak,aW (by omega),ak,aG ⟨by omega,by omega⟩,aG ⟨by omega,by omega⟩];simp only[kB,List.length_nil,eN,bJ];rw[D,ak,bP (by omega),aeL C]) (by
  unfold Gx aB xG xI;dsimp only;by_cases c:l.length<=5
  ·rw[Nat.min_eq_left c,jF,List.take_of_length_le c];by_cases J:l.length=5
   ·rw[br (by omega),aq]
   ·rw[br (by omega),aq]
  ·rw[Nat.min_eq_right (by omega),aW (by omega),ak,br (by omega),aq]) (bY (by omega))
 rw[cA,List.take_zero,List.map_nil]at e
 refine(bD (λo=>Option.bind o _) e).trans ?_
 rw[au];simp only[eO];rw[aeK _ (by simp;omega),au];by_cases c:l.length<=5
 ·rw[List.take_of_length_le c];cases gj (l.map hJ)<;>rfl
 ·have E:gj (l.map hJ)=false:=by
   unfold gj;have:aJ ((l.map hJ).length:Int) 1 4=false:=by
    rw[Bool.eq_false_iff];intro h;have:=(bC.1 h).2;rw[cZ]at this;omega
   rw[this,Bool.and_false]
  have I:gj ((l.take 5).map hJ)=false:=by
   unfold gj;have:aJ (((l.take 5).map hJ).length:Int) 1 4=false:=by
    rw[Bool.eq_false_iff];intro h;have:=(bC.1 h).2;rw[cZ,fR]at this;omega
   rw[this,Bool.and_false]
  rw[E,I];rfl
theorem aeM(l:aa Int):(vW l).2=gj (l.map hJ):=by
 unfold vW;cases gj (l.map hJ)<;>rfl
def lS(d:iq):Bool:=decide (d.low >= 0)&&(decide (d.low<d.high)&&decide (d.high<=12))
theorem aeN(d:iq):A3 d=some (lS d):=by
 unfold A3 lS;cases decide (d.low >= 0)<;>cases decide (d.low<d.high)<;>rfl
theorem UT(d:iq):C9 d=some (lS d):=by
 unfold C9 lS;cases decide (d.low >= 0)<;>cases decide (d.low<d.high)<;>cases decide (d.high<=12)<;>rfl
def yN(r:oc):Bool:=aJ r.down 1 10000&&(decide (r.sleep > r.down)&&decide (r.sleep<=20000))
theorem asU(r:oc):Ik r=some (yN r):=by
 unfold Ik yN;rw[fC,au];cases aJ r.down 1 10000<;>cases decide (r.sleep > r.down)<;>rfl
theorem aeO(r:oc):Gy r=some (yN r):=by
 unfold Gy yN;rw[ei,au];cases aJ r.down 1 10000<;>cases decide (r.sleep > r.down)<;>rfl
def nZ(p:dF):Bool:=aJ p.eT 0 1&&(aJ p.cap 0 100000&&(aJ p.eB 3 1000&&(lS ⟨false,p.low,p.high⟩&&((p.weights.length:Int)==4&&(gj (p.weights.map hJ)&&yN p.dW)))))
theorem UU(p:dF)(hl:p.weights.length<1073741823):Da p=some (nZ p):=by
 unfold Da nZ;simp only[US _ hl,au,ei,UT,aeO,aeM];cases aJ p.eT 0 1<;>cases aJ p.cap 0 100000<;>cases aJ p.eB 3 1000<;>cases lS ⟨false,p.low,p.high⟩<;>cases gj (p.weights.map hJ)<;>cases ((p.weights.length:Int)==4)<;>rfl
theorem asW(x:Int):aJ x 0 1=(x==0 || x==1):=by
 rw[Bool.eq_iff_iff];simp[aJ];omega
theorem N8(p:dF)(hl:p.weights.length<1073741823):Nv p=some (nZ p):=by
 unfold Nv nZ;simp only[UR _ hl,au,fC,aeN,asU,aeM,asW];cases (p.eT==0)<;>cases (p.eT==1)<;>cases aJ p.cap 0 100000<;>cases aJ p.eB 3 1000<;>cases lS ⟨false,p.low,p.high⟩<;>cases ((p.weights.length:Int)==4)<;>cases gj (p.weights.map hJ)<;>rfl
theorem asX(x:Int):Me x=yD x:=by
 unfold Me yD;rw[ei,fC]
theorem UW(x:Int):∃ y,yD x=some y:=by
 unfold yD;rw[fC,au];cases aJ x 3 1000<;>exact⟨_,rfl⟩
theorem UX(c:eH)(p:dF)(hl:p.weights.length<1073741823):∃ b,ry c p=some b/\(b=true->ni c=true):=by
 unfold ry;obtain⟨y,e⟩:=UW p.eB;simp only[N7,N8 _ hl,e,au];cases C:ni c with
 |false=>exact⟨false,rfl,λh=>by cases h⟩
 | true=>
  have E:=aeJ (aeI C).2.1;have D:¬ W6 (c.cc.ga+c.cc.rp)=0:=by
   rw[bf (by omega) (by omega)];omega
  cases nZ p with
  |false=>exact⟨false,rfl,λ_=>rfl⟩
  | true=>
   simp only[bB D,bR,aq,ak];cases decide (W6 (y+2)<=c.ew.bG)<;>exact⟨_,rfl,λ_=>by first|rfl|trivial⟩
theorem asY(c:eH)(p:dF)(hl:p.weights.length<1073741823):∃ b,ry c p=some b/\AF c p=some b/\(b=true->ni c=true):=by
 unfold ry AF;obtain⟨y,e⟩:=UW p.eB;simp only[N7,asT,N8 _ hl,UU _ hl,asX,e,au];cases C:ni c with
 |false=>exact⟨false,rfl,rfl,λh=>by cases h⟩
 | true=>
  have E:=aeJ (aeI C).2.1;have D:¬ W6 (c.cc.ga+c.cc.rp)=0:=by
   rw[bf (by omega) (by omega)];omega
  cases nZ p with
  |false=>exact⟨false,rfl,rfl,λ_=>rfl⟩
  | true=>
   simp only[bB D,bR,aq,ak];cases decide (W6 (y+2)<=c.ew.bG)<;>exact⟨_,rfl,rfl,λ_=>by first|rfl|trivial⟩
theorem aeP(i:Nat)(l:aa eP):((opens i l).length==0)=l.all λb=>!b.open_:=by
 induction l generalizing i with
 |nil=>rfl
 | cons x a C=>
  simp only[opens,List.all_cons];cases x.open_ with
  |true=>simp
  |false=>simpa using C (i+1)
def yO(g:aN)(b:eP):Bool:=aJ b.row 0 (g.rows-1)&&(b.open_ ||b.row==0)
def oN(g:aN)(r:cK):Bool:=cF g&&(((r.aF.length:Int)==aV g)&&(aJ r.bg 0 2&&(r.aF.all (yO g)&&(r.bg != 2 ||r.aF.all λb=>!b.open_))))
theorem asZ(g:aN)(r:cK):Im g r=some (oN g r):=by
 unfold Im oN cg;rw[yI,au,rz];cases D:cF g with
 |false=>rfl
 | true=>
  simp only[bR,aq,au,cM];by_cases C:(r.aF.length:Int)=aV g
  ·have I:=fG g;have J:=fP D;simp only[C,bne_self_eq_false,aq,ld,cM,fC,au];cases L:aJ r.bg 0 2 with
   |false=>rfl
   | true=>
    have e:=gv (step:=Il) r.aF (yO g) (λi=>(((),(),r.aF,(r.aF.length:Int),(i:Int),()),((g.ck,g.aF,g.rows,g.aO,()),(r.aF,r.bg,()),()))) (.inl ((false,()),())) (.inr (.inl (((),()),((r.aF,r.bg,()),())))) aZ (λk h=>by
     unfold Il aB bq xG xI;dsimp only;rw[aW (by omega),ak,aG ⟨by omega,by omega⟩];simp only[bJ,fC,au];rw[bf (n:=g.rows-1) (by omega) (by omega),bP (by omega)];unfold yO;cases aJ r.aF[k].row 0 (g.rows-1)with
     |false=>rfl
     | true=>
      cases r.aF[k].open_ with
      |true=>rfl
      | false=>
       simp only[bne];cases r.aF[k].row==0<;>rfl) (by
     unfold Il aB bq xG xI;dsimp only;rw[br (by omega),aq]) (bY (by omega))
    rw[cA,C]at e;simp only[bR,aq,cM]
    refine(bD (λo=>Option.bind o _) e).trans ?_
    rw[au];cases r.aF.all (yO g)with
    |false=>rfl
    | true=>
     simp only[ak,Sum.elim_inr,eO,cM];cases O:r.bg != 2 with
     |true=>rfl
     | false=>
      simp only[aq,Bool.false_or];have:(⟨r.aF,r.bg⟩:cK)=r:=rfl;rw[ar9 ⟨r.aF,r.bg⟩ (by show r.aF.length<_;omega),au,<-aeP 0 r.aF];congr 1;simp only;rw[Bool.eq_iff_iff];simp
  ·have E:((r.aF.length:Int)==aV g)=false:=by simp[C]
   rw[iT C,E];rfl
def ud(d:Int):Bool:=aJ d (-2) 5
def fq(r:dc):Bool:=r.aU.all ud&&(aJ (r.aU.length:Int) 1 8&&aJ r.wait 1 10000)
theorem as0(r:dc)(hl:r.aU.length<1073741824):yE r=some (fq r):=by
 unfold yE fq cg;have e:=gv (step:=Iu) r.aU ud (λi=>(((),r.aU,(r.aU.length:Int),(i:Int),()),((r.aU,r.wait,r.dR,()),()))) (.inl ((false,()),())) (.inr (.inl (((),()),((r.aU,r.wait,r.dR,()),())))) aZ (λk h=>by
  unfold Iu aB bq xG xI;simp (disch:=omega) [h,bP,fC,ud];cases aJ r.aU[k] (-2) 5<;>rfl) (by unfold Iu aB bq xG xI;simp) (bY hl)
 rw[cA]at e;rw[e];cases r.aU.all ud<;>simp[fC];cases aJ (r.aU.length:Int) 1 8<;>rfl
theorem N9(r:dc)(hl:r.aU.length<1073741824):AL r=some (fq r):=by
 unfold AL fq cg;have e:=gv (step:=G8) r.aU ud (λi=>(((),(i:Int),()),((r.aU,r.wait,r.dR,()),()))) (.inl ((false,()),())) (.inr (.inl (((),()),((r.aU,r.wait,r.dR,()),())))) aZ (λk h=>by
  unfold G8 aB bq xG xI;simp (disch:=omega) [h,bP,ei,ud];cases aJ r.aU[k] (-2) 5<;>rfl) (by unfold G8 aB bq xG xI;simp) (bY hl)
 rw[cA]at e;rw[e];cases r.aU.all ud<;>simp[ei];cases aJ (r.aU.length:Int) 1 8<;>rfl
def mD{T:Type}(p:T->Bool)(l:aa T):Int:=match l.findIdx? p with
 |some i=>(i:Int)
 |none=>-1
theorem Bm{α β T:Type}{step:α->aj (α⊕β)}(l:aa T)(p:T->Bool)(S:Nat->α)(I:Nat->β)(z:β)(fuel:Nat)(O:∀ k (h:k<l.length),step (S k)=some (bif p l[k]then .inr (I k)else .inl (S (k+1))))(Q:step (S l.length)=some (.inr z))(C:l.length<fuel):
  iter step fuel (S 0)=some (match l.findIdx? p with|some i=>I i|none=>z):=by
 have key:∀ (n i fuel:Nat),i+n=l.length->n<fuel->(∀ j (h:j<l.length),j<i->p l[j]=false)->iter step fuel (S i)=some (match l.findIdx? p with | some i=>I i | none=>z):=by
  intro n
  induction n with
  | zero=>
   intro i fuel hi C E
   match fuel,C with
   | f+1,_=>
    have:i=l.length:=by omega
    subst this;have e:l.findIdx? p=none:=by
     rw[List.findIdx?_eq_none_iff];intro x U;obtain⟨j,D,rfl⟩:=iX.1 U;exact E j D D
    unfold iter;rw[Q,e]
  | succ n Y=>
   intro i fuel hi C E
   match fuel,C with
   | f+1,C=>
    have J:i<l.length:=by omega
    unfold iter;rw[O i J];cases L:p l[i]with
    | true=>
     have e:l.findIdx? p=some i:=by
      rw[nA]
      refine⟨J,L,λj D=>?_⟩
      rw[E j (by omega) D];simp
     rw[e];rfl
    | false=>
     simp only[aq]
     refine Y (i+1) f (by omega) (by omega) λj D Z=>?_
     by_cases e:j=i
     ·subst e;exact L
     ·exact E j D (by omega)
 exact key l.length 0 fuel (by omega) C λj _ h=>by omega
theorem I8{T:Type}{p:T->Bool}{l:aa T}{i:Nat}(h:i<l.length)(I:p l[i]=true):(mD p l != (i:Int))=(l.take i).any p:=by
 unfold mD;cases C:(l.take i).any p with
 | false=>
  have e:l.findIdx? p=some i:=by
   rw[nA]
   refine⟨h,I,λj D=>?_⟩
   have:=iW.1 C l[j] (iX.2 ⟨j,by simp;omega,by simp⟩);exact this
  rw[e];simp
 | true=>
  obtain⟨x,J,E⟩:=List.any_eq_true.1 C;obtain⟨j,D,rfl⟩:=iX.1 J;rw[fR]at D;cases L:l.findIdx? p with
  |none=>simp
  | some k=>
   obtain⟨Q,U,O⟩:=nA.1 L;have:k≠i:=by
    rintro rfl;have:=O j (by omega);rw[List.getElem_take]at E;exact this E
   simp only;simp;omega
def I9(x:Int):Bool:=aJ x 0 4294967295
def kT(n:Int)(r:aM):Bool:=aJ r.id 1 100000&&(aJ r.dj 0 3&&(decide (r.line >= 0)&&(decide (r.line<n)&&(I9 r.data&&((r.write ||r.data==0)&&aJ r.at_ 0 1000000)))))
theorem as1(n:Int)(r:aM):NA n r=some (kT n r):=by
 unfold NA kT Ba I9;simp only[fC,au];cases aJ r.id 1 100000<;>cases aJ r.dj 0 3<;>cases decide (r.line >= 0)<;>cases decide (r.line<n)<;>cases aJ r.data 0 4294967295<;>cases r.write<;>cases r.data==0<;>rfl
theorem as2(n:Int)(r:aM):Mk n r=some (kT n r):=by
 unfold Mk kT GC I9;simp only[ei,au];cases aJ r.id 1 100000<;>cases aJ r.dj 0 3<;>cases decide (r.line >= 0)<;>cases decide (r.line<n)<;>cases aJ r.data 0 4294967295<;>cases r.write<;>cases r.data==0<;>rfl
def cJ(x y:aM):Bool:=decide (x.at_<y.at_) ||(x.at_==y.at_&&decide (x.id<y.id))
theorem Oa(x y:aM):Iy x y=some (cJ x y):=by
 unfold Iy cJ;cases decide (x.at_<y.at_)<;>cases x.at_==y.at_<;>rfl
theorem aeQ(x y:aM):Ml x y=some (cJ x y):=Oa x y
theorem UY(l:aa aM)(id:Int)(hl:l.length<1073741824):GF l id=some (mD (λr=>r.id==id) l):=by
 unfold GF mD cg;have e:=Bm (step:=GD) l (λr=>r.id==id) (λi=>((l,id,(i:Int),()),())) (λi=>.inl (((i:Int),()),())) (.inr (.inl ((),()))) aZ (λk h=>by
  unfold GD aB bq xG xI;simp (disch:=omega) [h,bP];cases l[k].id==id<;>rfl) (by unfold GD aB bq xG xI;simp) (bY hl)
 rw[cA]at e;rw[e];cases l.findIdx? (λr=>r.id==id)<;>rfl
def oO(n:Int)(q:aa aM)(i:Nat):Bool:=match q[i]? with
 |some r=>kT n r&&((i==0 ||(match q[i-1]? with|some x=>cJ x r|none=>false)) && !((q.take i).any λx=>x.id==r.id))
 |none=>false
theorem UZ{n:Int}{q:aa aM}(h:0<q.length):oO n q 0=kT n q[0]:=by
 unfold oO;rw[bK h];simp
theorem Ja{n:Int}{q:aa aM}{i:Nat}(h:i+1<q.length):oO n q (i+1)=(kT n q[i+1]&&(cJ q[i] q[i+1] && !((q.take (i+1)).any λx=>x.id==q[i+1].id))):=by
 unfold oO;rw[bK h];simp only[Nat.add_sub_cancel];rw[bK (by omega)];simp
def eV(n:Int)(q:aa aM):Bool:=(List.range q.length).all (oO n q)&&decide ((q.length:Int)<=12)
theorem aeR(n:Int)(q:aa aM):vE n q=some (eV n q):=by
 unfold vE eV cg;by_cases c:(q.length:Int)<=12
 ·rw[br (show ¬ (q.length:Int) > 12 by omega),aq,aW c,Bool.and_true];have e:=gv (step:=GG) (List.range q.length) (oO n q) (λi=>((n,q,(i:Int),()),())) (.inl ((false,()),())) (.inr (.inl ((),()))) aZ (λk h=>by
   rw[dD]at h;rw[kZ];unfold GG aB bq xG xI;dsimp only;rw[aW (by omega),ak,aG ⟨by omega,by omega⟩];simp only[bJ,as2,au];cases k with
   | zero=>
    rw[UZ h];cases kT n q[0]with
    |false=>rfl
    | true=>
     simp only[bR,aq,ak];rw[br (by omega),aq,aG ⟨by omega,h⟩,UY _ _ (by omega),au,I8 h (by simp)];simp;rfl
   | succ k=>
    rw[Ja h];cases kT n q[k+1]with
    |false=>rfl
    | true=>
     simp only[bR,aq,cM];have C:W6 (((k+1:Nat):Int)-1)=(k:Int):=by rw[bf (by omega) (by omega)];omega
     simp only[C,bJ];rw[aW (by omega),ak,aG ⟨by omega,by omega⟩,aG ⟨by omega,h⟩,aeQ,au];cases cJ q[k] q[k+1]with
     |false=>rfl
     | true=>
      simp only[bR,aq,cM];rw[aG ⟨by omega,h⟩,UY _ _ (by omega),au,I8 h (by simp),bP (by omega)];cases (q.take (k+1)).any λx=>x.id==q[k+1].id<;>rfl) (by
   rw[dD];unfold GG aB bq xG xI;dsimp only;rw[br (by omega),aq]) (by rw[dD];exact bY (by omega))
  rw[cA]at e
  refine(bD (λo=>Option.bind o _) e).trans ?_
  rw[au];cases (List.range q.length).all (oO n q)<;>rfl
 ·rw[aW (show (q.length:Int) > 12 by omega),ak,br c,Bool.and_false]
theorem as3(n:Int)(q:aa aM){i:Nat}(h:i<q.length)(hl:q.length<1073741824):
  iter DM aZ ((n,q,(),q,(q.length:Int),(i:Int),((q.take i).drop 0),(((q.take i).drop 0).length:Int),(0:Int),()),((q[i].id,q[i].dj,q[i].line,q[i].write,q[i].data,q[i].at_,()),()))=some (bif (q.take i).any (λx=>x.id==q[i].id)then .inl ((false,()),())else .inr (.inl ((n,q,q,(q.length:Int),(i:Int),()),()))):=by
 rw[List.drop_zero];have hlen:(q.take i).length=i:=by rw[fR];omega
 generalize C:q[i]=r;generalize D:q.take i=t at *
 have e:=gv (step:=DM) t (λx=>!(x.id==r.id)) (λj=>((n,q,(),q,(q.length:Int),(i:Int),t,(t.length:Int),(j:Int),()),((r.id,r.dj,r.line,r.write,r.data,r.at_,()),()))) (.inl ((false,()),())) (.inr (.inl ((n,q,q,(q.length:Int),(i:Int),()),()))) aZ (λk h=>by
  unfold DM aB bq xG xI;dsimp only;rw[aW (by omega),ak,aG ⟨by omega,by omega⟩];simp only[bJ];rw[bP (by omega)];cases t[k].id==r.id<;>rfl) (by
  unfold DM aB bq xG xI;dsimp only;rw[br (by omega),aq]) (bY (by omega))
 rw[cA]at e;rw[e];have:t.all (λx=>!(x.id==r.id)) = !t.any λx=>x.id==r.id:=by rw[List.any_eq_not_all_not,Bool.not_not]
 rw[this];cases t.any λx=>x.id==r.id<;>rfl
theorem U0(n:Int)(q:aa aM)(hl:q.length<1073741824):Bb n q=some (eV n q):=by
 unfold Bb eV cg;have e:=gv (step:=Iz) (List.range q.length) (oO n q) (λi=>((n,q,q,(q.length:Int),(i:Int),()),())) (.inl ((false,()),())) (.inr (.inl ((q,()),()))) aZ (λk h=>by
   rw[dD]at h;rw[kZ];unfold Iz aB bq xG xI cg;dsimp only;rw[aW (by omega),ak,aG ⟨by omega,by omega⟩];simp only[bJ,as1,au];have C:=as3 n q h hl;cases k with
   | zero=>
    rw[UZ h];cases kT n q[0]with
    |false=>rfl
    | true=>
     simp only[bR,aq,ak];rw[br (by omega),aq,bk ⟨by omega,by omega,by omega⟩]
     refine(bD (λo=>Option.bind o _) C).trans ?_
     simp;rfl
   | succ k=>
    rw[Ja h];cases kT n q[k+1]with
    |false=>rfl
    | true=>
     simp only[bR,aq,cM];have D:W6 (((k+1:Nat):Int)-1)=(k:Int):=by rw[bf (by omega) (by omega)];omega
     simp only[D,bJ];rw[aW (by omega),ak,aG ⟨by omega,by omega⟩,Oa,au];cases cJ q[k] q[k+1]with
     |false=>rfl
     | true=>
      simp only[bR,aq,cM];rw[bk ⟨by omega,by omega,by omega⟩]
      refine(bD (λo=>Option.bind o _) C).trans ?_
      rw[au];cases (q.take (k+1)).any λx=>x.id==q[k+1].id with
      |true=>rfl
      | false=>
       simp only[aq,Sum.elim_inr,eO];rw[bP (by omega)];rfl) (by
   rw[dD];unfold Iz aB bq xG xI cg;dsimp only;rw[br (by omega),aq]) (by rw[dD];exact bY (by omega))
 rw[cA]at e
 refine(bD (λo=>Option.bind o _) e).trans ?_
 rw[au];cases (List.range q.length).all (oO n q)<;>rfl
def ji(p:eY):Bool:=aJ p.state 0 2&&(aJ p.since 0 1000000&&aJ p.idle 0 1000000)
theorem as4(p:eY):Bc p=some (ji p):=by
 unfold Bc ji;simp only[fC,au];cases aJ p.state 0 2<;>cases aJ p.since 0 1000000<;>rfl
theorem U1(p:eY):vJ p=some (ji p):=by
 unfold vJ ji;simp only[ei,au];cases aJ p.state 0 2<;>cases aJ p.since 0 1000000<;>rfl
def ue(e:bX):Bool:=aJ e.line 0 1023&&((e.code==1 ||e.code==2)&&aJ e.times 1 999)
def jU(e x:bX):Bool:=x.line==e.line&&x.code==e.code
def Bn(l:aa bX)(i:Nat):Bool:=match l[i]? with
 |some e=>ue e && !((l.take i).any (jU e))
 |none=>false
theorem Ob{l:aa bX}{i:Nat}(h:i<l.length):Bn l i=(ue l[i] && !((l.take i).any (jU l[i]))):=by
 unfold Bn;rw[bK h]
def mE(l:aa bX):Bool:=(List.range l.length).all (Bn l)&&decide ((l.length:Int)<=6)
theorem aeS(l:aa bX)(e:bX)(hl:l.length<1073741824):Hl l e.line e.code=some (mD (jU e) l):=by
 unfold Hl mD cg;have e:=Bm (step:=Hj) l (jU e) (λi=>((l,e.line,e.code,(i:Int),()),())) (λi=>.inl (((i:Int),()),())) (.inr (.inl ((),()))) aZ (λk h=>by
  unfold Hj jU aB bq xG xI;dsimp only;rw[aW (by omega),ak,aG ⟨by omega,by omega⟩,aG ⟨by omega,by omega⟩];simp only[bJ];rw[bP (by omega)];cases l[k].line==e.line<;>cases l[k].code==e.code<;>rfl) (by
  unfold Hj aB bq xG xI;dsimp only;rw[br (by omega),aq]) (bY hl)
 rw[cA]at e;rw[e];cases l.findIdx? (jU _)<;>rfl
theorem as5(l:aa bX):MN l=some (mE l):=by
 unfold MN mE cg;by_cases c:(l.length:Int)<=6
 ·rw[br (show ¬ (l.length:Int) > 6 by omega),aq,aW c,Bool.and_true];have e:=gv (step:=Ho) (List.range l.length) (Bn l) (λi=>((l,(i:Int),()),())) (.inl ((false,()),())) (.inr (.inl ((),()))) aZ (λk h=>by
   rw[dD]at h;rw[kZ,Ob h];unfold Ho Dt ue aB bq xG xI;dsimp only;rw[aW (by omega),ak,aG ⟨by omega,by omega⟩,aG ⟨by omega,by omega⟩,aG ⟨by omega,by omega⟩];simp only[bJ,ei,au];rw[aeS _ _ (by omega),au,I8 h (by simp[jU]),bP (by omega)];cases aJ l[k].line 0 1023<;>cases l[k].code==1<;>cases l[k].code==2<;>cases aJ l[k].times 1 999<;>cases (l.take k).any (jU l[k])<;>rfl) (by
   rw[dD];unfold Ho aB bq xG xI;dsimp only;rw[br (by omega),aq]) (by rw[dD];exact bY (by omega))
  rw[cA]at e
  refine(bD (λo=>Option.bind o _) e).trans ?_
  rw[au];cases (List.range l.length).all (Bn l)<;>rfl
 ·rw[aW (show (l.length:Int) > 6 by omega),ak,br c,Bool.and_false]
theorem as6(l:aa bX){i:Nat}(h:i<l.length)(hl:l.length<1073741824):
  iter DN aZ ((l,(),l,(l.length:Int),(i:Int),((l.take i).drop 0),(((l.take i).drop 0).length:Int),(0:Int),()),((l[i].line,l[i].code,l[i].times,()),()))=some (bif (l.take i).any (jU l[i])then .inl ((false,()),())else .inr (.inl ((l,l,(l.length:Int),(i:Int),()),()))):=by
 rw[List.drop_zero];have hlen:(l.take i).length=i:=by rw[fR];omega
 generalize C:l[i]=r;generalize D:l.take i=t at *
 have e:=gv (step:=DN) t (λx=>!(jU r x)) (λj=>((l,(),l,(l.length:Int),(i:Int),t,(t.length:Int),(j:Int),()),((r.line,r.code,r.times,()),()))) (.inl ((false,()),())) (.inr (.inl ((l,l,(l.length:Int),(i:Int),()),()))) aZ (λk h=>by
  unfold DN jU aB bq xG xI;dsimp only;rw[aW (by omega),ak,aG ⟨by omega,by omega⟩];simp only[bJ];rw[bP (by omega),BEq.comm (a:=r.line),BEq.comm (a:=r.code)];cases t[k].line==r.line<;>cases t[k].code==r.code<;>rfl) (by
  unfold DN aB bq xG xI;dsimp only;rw[br (by omega),aq]) (bY (by omega))
 rw[cA]at e;rw[e];have:t.all (λx=>!(jU r x)) = !t.any (jU r):=by rw[List.any_eq_not_all_not,Bool.not_not]
 rw[this];cases t.any (jU r)<;>rfl
theorem as7(l:aa bX)(hl:l.length<1073741824):IB l=some (mE l):=by
 unfold IB mE cg;have e:=gv (step:=IA) (List.range l.length) (Bn l) (λi=>((l,l,(l.length:Int),(i:Int),()),())) (.inl ((false,()),())) (.inr (.inl ((l,()),()))) aZ (λk h=>by
   rw[dD]at h;rw[kZ,Ob h];have C:=as6 l h hl;unfold IA ue aB bq xG xI cg;dsimp only;rw[aW (by omega),ak,aG ⟨by omega,by omega⟩];simp only[bJ,fC,au,bne];rw[bk ⟨by omega,by omega,by omega⟩];rw[show (0:Int).toNat=0 from rfl,C];cases aJ l[k].line 0 1023<;>cases l[k].code==1<;>cases l[k].code==2<;>cases aJ l[k].times 1 999<;>cases (l.take k).any (jU l[k])<;>first|rfl|(simp only[ak,aq,bR,gU,au,Sum.elim_inr,eO];rw[bP (by omega)];rfl)) (by
   rw[dD];unfold IA aB bq xG xI cg;dsimp only;rw[br (by omega),aq]) (by rw[dD];exact bY (by omega))
 rw[cA]at e
 refine(bD (λo=>Option.bind o _) e).trans ?_
 rw[au];cases (List.range l.length).all (Bn l)<;>rfl
theorem as8(l:aa Int)(x:Int)(hl:l.length<1073741824):A7 l x=some (mD (λe=>x==e) l):=by
 unfold A7 mD;have e:=Bm (step:=Iv) l (λe=>x==e) (λi=>((l,x,(l.length:Int),(i:Int),()),())) (λi=>.inl (((i:Int),()),())) (.inr (.inl ((),()))) aZ (λk h=>by
  unfold Iv aB bq xG xI;dsimp only;rw[aW (by omega),ak,aG ⟨by omega,by omega⟩];simp only[bJ];rw[bP (by omega)];cases x==l[k]<;>rfl) (by
  unfold Iv aB bq xG xI;dsimp only;rw[br (by omega),aq]) (bY hl)
 rw[cA]at e;rw[e];cases l.findIdx? (λe=>x==e)<;>rfl
def Bo(t:cw)(i:Nat):Bool:=match t.rows[i]?,t.counts[i]? with
 |some r,some c=>aJ r (-1) 15&&(aJ c t.ep 100000&&((r != -1 ||c==0)&&(r == -1 ||!((t.rows.take i).any λx=>r==x))))
 |_,_=>false
theorem Oc{t:cw}{i:Nat}(h:i<t.rows.length)(C:i<t.counts.length):Bo t i=(aJ t.rows[i] (-1) 15&&(aJ t.counts[i] t.ep 100000&&((t.rows[i] != -1 || t.counts[i]==0)&&(t.rows[i] == -1 || !((t.rows.take i).any λx=>t.rows[i]==x))))):=by
 unfold Bo;rw[bK h,bK C]
def jy(t:cw):Bool:=aJ (t.rows.length:Int) 1 16&&((t.rows.length:Int)==(t.counts.length:Int)&&(aJ t.ep 0 100000&&(List.range t.rows.length).all (Bo t)))
theorem as9(t:cw):A8 t=some (jy t):=by
 unfold A8 jy cg;simp only[fC,au];cases D:aJ (t.rows.length:Int) 1 16 with
 |false=>rfl
 | true=>
  have D:=bC.1 D;by_cases C:(t.rows.length:Int)=(t.counts.length:Int)
  ·simp only[C,bne_self_eq_false,ld,bR,aq,cM];cases L:aJ t.ep 0 100000 with
   |false=>rfl
   | true=>
    have e:=gv (step:=Iw) (List.range t.rows.length) (Bo t) (λi=>(((),t.rows,(t.rows.length:Int),(i:Int),()),((t.rows,t.counts,t.ep,()),()))) (.inl ((false,()),())) (.inr (.inl ((),()))) aZ (λk h=>by
     rw[dD]at h;have E:k<t.counts.length:=by omega
     rw[kZ,Oc h E];unfold Iw aB bq xG xI;dsimp only;rw[aW (by omega),ak,aG ⟨by omega,by omega⟩,aG ⟨by omega,by omega⟩,aG ⟨by omega,by omega⟩];simp only[bJ,fC,au,as8 _ _ (show t.rows.length<1073741824 by omega)];rw[I8 (p:=λe=>t.rows[k]==e) h (by simp),bP (by omega)];simp only[bne];cases aJ t.rows[k] (-1) 15<;>cases aJ t.counts[k] t.ep 100000<;>cases t.rows[k] == -1<;>cases t.counts[k]==0<;>cases (t.rows.take k).any (λe=>t.rows[k]==e)<;>rfl) (by
     rw[dD];unfold Iw aB bq xG xI;dsimp only;rw[br (by omega),aq]) (by rw[dD];exact bY (by omega))
    rw[cA,C]at e;simp only[bR,aq,cM]
    refine(bD (λo=>Option.bind o _) e).trans ?_
    rw[au];cases (List.range t.rows.length).all (Bo t)<;>rfl
  ·have I:((t.rows.length:Int)==(t.counts.length:Int))=false:=by simp[C]
   have J:((t.counts.length:Int) != (t.rows.length:Int))=true:=iT λh=>C h.symm
   rw[I,J];rfl
theorem ata(t:cw){i:Nat}(h:i<t.rows.length)(hl:t.rows.length<1073741824):
  iter Dg aZ (((),(i:Int),(0:Int),()),((t.rows,t.counts,t.ep,()),()))=some (bif decide (t.rows[i] >= 0)&&(t.rows.take i).any (λx=>t.rows[i]==x)then .inl ((false,()),())else .inr (.inl (((),(i:Int),()),((t.rows,t.counts,t.ep,()),())))):=by
 have hlen:(t.rows.take i).length=i:=by rw[fR];omega
 have e:=gv (step:=Dg) (t.rows.take i) (λx=>!(decide (t.rows[i] >= 0)&&t.rows[i]==x)) (λj=>(((),(i:Int),(j:Int),()),((t.rows,t.counts,t.ep,()),()))) (.inl ((false,()),())) (.inr (.inl (((),(i:Int),()),((t.rows,t.counts,t.ep,()),())))) aZ (λk C=>by
  rw[hlen]at C;unfold Dg aB bq xG xI;dsimp only;rw[aW (by omega),ak,aG ⟨by omega,by omega⟩,aG ⟨by omega,by omega⟩,aG ⟨by omega,by omega⟩];simp only[bJ,List.getElem_take];rw[bP (by omega),BEq.comm (a:=t.rows[k])];cases decide (t.rows[i] >= 0)<;>cases t.rows[i]==t.rows[k]<;>rfl) (by
  rw[hlen];unfold Dg aB bq xG xI;dsimp only;rw[br (by omega),aq]) (bY (by omega))
 rw[cA]at e;rw[e];have:(t.rows.take i).all (λx=>!(decide (t.rows[i] >= 0)&&t.rows[i]==x)) = !(decide (t.rows[i] >= 0)&&(t.rows.take i).any (λx=>t.rows[i]==x)):=by
  cases decide (t.rows[i] >= 0)with
  |false=>simp
  | true=>
   simp only[cM];rw[List.any_eq_not_all_not,Bool.not_not]
 rw[this];cases (decide (t.rows[i] >= 0)&&(t.rows.take i).any (λx=>t.rows[i]==x))<;>rfl
theorem aeT(t:cw):GY t=some (jy t):=by
 unfold GY jy cg;simp only[ei,au];cases D:aJ (t.rows.length:Int) 1 16 with
 |false=>rfl
 | true=>
  have D:=bC.1 D;by_cases C:(t.rows.length:Int)=(t.counts.length:Int)
  ·simp only[C,bne_self_eq_false,ld,bR,aq,cM];cases Q:aJ t.ep 0 100000 with
   |false=>rfl
   | true=>
    have e:=gv (step:=GX) (List.range t.rows.length) (Bo t) (λi=>(((),(i:Int),()),((t.rows,t.counts,t.ep,()),()))) (.inl ((false,()),())) (.inr (.inl ((),()))) aZ (λk h=>by
     rw[dD]at h;have J:k<t.counts.length:=by omega
     have L:=ata t h (by omega);rw[kZ,Oc h J];unfold GX aB bq xG xI cg;dsimp only;rw[aW (by omega),ak,aG ⟨by omega,by omega⟩,aG ⟨by omega,by omega⟩,aG ⟨by omega,by omega⟩,aG ⟨by omega,by omega⟩];simp only[bJ,ei,au];rw[L,au];cases E:aJ t.rows[k] (-1) 15 with
     |false=>rfl
     | true=>
      have E:=bC.1 E;cases aJ t.counts[k] t.ep 100000 with
      |false=>rfl
      | true=>
       simp only[bR,aq,cM,bne];by_cases I:t.rows[k] = -1
       ·rw[aW (show t.rows[k]<0 by omega),br (show ¬ t.rows[k] >= 0 by omega),show (t.rows[k] == -1)=true by simp[I]];simp only[ak,aq,Bool.false_and,Sum.elim_inr,eO];rw[bP (by omega)];cases t.counts[k]==0<;>rfl
       ·rw[br (show ¬ t.rows[k]<0 by omega),aW (show t.rows[k] >= 0 by omega),show (t.rows[k] == -1)=false by simp[I]];simp only[ak,aq,cM];cases (t.rows.take k).any λx=>t.rows[k]==x with
        |true=>rfl
        | false=>
         simp only[aq,Sum.elim_inr,eO];rw[bP (by omega)];rfl) (by
     rw[dD];unfold GX aB bq xG xI cg;dsimp only;rw[br (by omega),aq]) (by rw[dD];exact bY (by omega))
    rw[cA]at e;simp only[bR,aq,cM]
    refine(bD (λo=>Option.bind o _) e).trans ?_
    rw[au];cases (List.range t.rows.length).all (Bo t)<;>rfl
  ·have O:((t.rows.length:Int)==(t.counts.length:Int))=false:=by simp[C]
   rw[O,iT C];rfl
theorem w9(g:aN):W6 ((9:Int)*(W6 (aV g+(1:Int))))=9*(aV g+1):=by
 have:=fG g;rw[bf (n:=aV g+1) (by omega) (by omega),bf (by omega) (by omega)]
theorem atb(k:Int):vP k=some (aJ k 1 5):=by
 unfold vP;rw[fC];rfl
def sM(g:aN)(i:Nat):Bool:=decide ((i:Int) / 9<aV g)==decide ((i:Int) % 9+1<=5)
theorem atc(g:aN){i:Nat}(hi:i<1000):Mw g (i:Int)=some (sM g i):=by
 unfold Mw sM;rw[nU,au,qM (by omega),p9 (by omega),bf (by omega) (by omega),bf (by omega) (by omega),BEq.comm]
theorem atd(g:aN){i:Nat}(hi:i<1000):∃ c,Io g (i:Int)=some (c,sM g i):=by
 unfold Io sM;rw[rz,au,qM (by omega),p9 (by omega),bf (by omega) (by omega),bf (by omega) (by omega),atb,au];have:aJ ((i:Int) % 9+1) 1 5=decide ((i:Int) % 9+1<=5):=by
  rw[Bool.eq_iff_iff];simp[aJ];omega
 rw[this];cases decide ((i:Int) / 9<aV g)<;>exact⟨_,rfl⟩
def Bp(g:aN)(l:aa Int)(i:Nat):Bool:=match l[i]? with
 |some e=>aJ e (-1) 1000000&&(sM g i ||e == -1)
 |none=>false
theorem Jb{g:aN}{l:aa Int}{i:Nat}(h:i<l.length):Bp g l i=(aJ l[i] (-1) 1000000&&(sM g i || l[i] == -1)):=by
 unfold Bp;rw[bK h]
def n5(l:aa Int)(i:Nat):Bool:=match l[i]? with
 |some e=>aJ e 0 1000000&&(i==0 ||(match l[i-1]? with|some x=>!(decide (x >= e))|none=>false))
 |none=>false
theorem Jc{l:aa Int}(h:0<l.length):n5 l 0=aJ l[0] 0 1000000:=by
 unfold n5;rw[bK h];simp
theorem DV{l:aa Int}{i:Nat}(h:i+1<l.length):n5 l (i+1)=(aJ l[i+1] 0 1000000 && !(decide (l[i] >= l[i+1]))):=by
 unfold n5;rw[bK h];simp only[Nat.add_sub_cancel];rw[bK (by omega)];simp
def lT(g:aN)(r:dM):Bool:=cF g&&((r.last.length:Int)==9*(aV g+1)&&(!(decide ((r.bx.length:Int) > 4))&&((List.range r.last.length).all (Bp g r.last)&&(List.range r.bx.length).all (n5 r.bx))))
theorem ate(g:aN)(r:dM):DK g r=some (lT g r):=by
 unfold DK lT cg;rw[yI,au,rz];cases L:cF g with
 |false=>rfl
 | true=>
  simp only[bR,aq,au,cM,w9];by_cases C:(r.last.length:Int)=9*(aV g+1)
  ·have O:=fG g;rw[C,bne_self_eq_false,aq,ld,cM,<-C];cases D:decide ((r.bx.length:Int) > 4)with
   |true=>rfl
   | false=>
    have D:=of_decide_eq_false D;have l1:=gv (step:=Ip) (List.range r.last.length) (Bp g r.last) (λi=>(((),(),r.last,(r.last.length:Int),(i:Int),()),((g.ck,g.aF,g.rows,g.aO,()),(r.last,r.bx,()),()))) (.inl ((false,()),())) (.inr (.inl (((),()),((r.last,r.bx,()),())))) aZ (λk h=>by
     rw[dD]at h;obtain⟨c,E⟩:=atd g (i:=k) (by omega);rw[kZ,Jb h];unfold Ip aB bq xG xI;dsimp only;rw[aW (by omega),ak,aG ⟨by omega,by omega⟩];simp only[bJ,fC,au,nY,E,bne];rw[bP (by omega)];cases aJ r.last[k] (-1) 1000000<;>cases sM g k<;>cases r.last[k] == -1<;>rfl) (by
     rw[dD];unfold Ip aB bq xG xI;dsimp only;rw[br (by omega),aq]) (by rw[dD];exact bY (by omega))
    have l2:=gv (step:=Iq) (List.range r.bx.length) (n5 r.bx) (λi=>(((),r.bx,(r.bx.length:Int),(i:Int),()),((r.last,r.bx,()),()))) (.inl ((false,()),())) (.inr (.inl ((),()))) aZ (λk h=>by
     rw[dD]at h;rw[kZ];unfold Iq aB bq xG xI;dsimp only;rw[aW (by omega),ak,aG ⟨by omega,by omega⟩];simp only[bJ,fC,au];cases k with
     | zero=>
      rw[Jc h];cases aJ r.bx[0] 0 1000000 with
      |false=>rfl
      | true=>
       rw[br (by omega)];rfl
     | succ k=>
      rw[DV h];have I:W6 (((k+1:Nat):Int)-1)=(k:Int):=by rw[bf (by omega) (by omega)];omega
      simp only[I,bJ];rw[aW (show ((k+1:Nat):Int) > 0 by omega),aG ⟨by omega,by omega⟩,bP (by omega)];cases aJ r.bx[k+1] 0 1000000<;>cases decide (r.bx[k] >= r.bx[k+1])<;>rfl) (by
     rw[dD];unfold Iq aB bq xG xI;dsimp only;rw[br (by omega),aq]) (by rw[dD];exact bY (by omega))
    rw[cA]at l1 l2;simp only[gU,aq,cM]
    refine(bD (λo=>Option.bind o _) l1).trans ?_
    rw[au];cases (List.range r.last.length).all (Bp g r.last)with
    |false=>rfl
    | true=>
     simp only[ak,Sum.elim_inr,eO,cM]
     refine(bD (λo=>Option.bind o _) l2).trans ?_
     rw[au];cases (List.range r.bx.length).all (n5 r.bx)<;>rfl
  ·have J:((r.last.length:Int)==9*(aV g+1))=false:=by simp[C]
   rw[iT C,J];rfl
theorem atf(g:aN)(r:dM):Mx g r=some (lT g r):=by
 unfold Mx lT cg;rw[DT,au,nU];cases J:cF g with
 |false=>rfl
 | true=>
  simp only[bR,aq,au,cM,w9];by_cases C:(r.last.length:Int)=9*(aV g+1)
  ·have L:=fG g;rw[C,bne_self_eq_false,aq,ld,cM];cases D:decide ((r.bx.length:Int) > 4)with
   |true=>rfl
   | false=>
    have D:=of_decide_eq_false D;have l1:=gv (step:=GQ) (List.range r.last.length) (Bp g r.last) (λi=>(((),(),(i:Int),()),((g.ck,g.aF,g.rows,g.aO,()),(r.last,r.bx,()),()))) (.inl ((false,()),())) (.inr (.inl (((),()),((r.last,r.bx,()),())))) aZ (λk h=>by
     rw[dD]at h;rw[kZ,Jb h];unfold GQ aB bq xG xI;dsimp only;rw[aW (by omega),ak,aG ⟨by omega,by omega⟩,aG ⟨by omega,by omega⟩];simp only[bJ,ei,au,nY,atc g (show k<1000 by omega),bne];rw[bP (by omega)];cases aJ r.last[k] (-1) 1000000<;>cases sM g k<;>cases r.last[k] == -1<;>rfl) (by
     rw[dD];unfold GQ aB bq xG xI;dsimp only;rw[br (by omega),aq]) (by rw[dD];exact bY (by omega))
    have l2:=gv (step:=GR) (List.range r.bx.length) (n5 r.bx) (λi=>(((),(i:Int),()),((r.last,r.bx,()),()))) (.inl ((false,()),())) (.inr (.inl ((),()))) aZ (λk h=>by
     rw[dD]at h;rw[kZ];unfold GR aB bq xG xI;dsimp only;rw[aW (by omega),ak,aG ⟨by omega,by omega⟩];simp only[bJ,ei,au];cases k with
     | zero=>
      rw[Jc h];cases aJ r.bx[0] 0 1000000 with
      |false=>rfl
      | true=>
       rw[br (by omega)];rfl
     | succ k=>
      rw[DV h];have E:W6 (((k+1:Nat):Int)-1)=(k:Int):=by rw[bf (by omega) (by omega)];omega
      simp only[E,bJ];rw[aW (show ((k+1:Nat):Int) > 0 by omega),aG ⟨by omega,by omega⟩,aG ⟨by omega,by omega⟩,bP (by omega)];cases aJ r.bx[k+1] 0 1000000<;>cases decide (r.bx[k] >= r.bx[k+1])<;>rfl) (by
     rw[dD];unfold GR aB bq xG xI;dsimp only;rw[br (by omega),aq]) (by rw[dD];exact bY (by omega))
    rw[cA]at l1 l2;simp only[gU,aq,cM]
    refine(bD (λo=>Option.bind o _) l1).trans ?_
    rw[au];cases (List.range r.last.length).all (Bp g r.last)with
    |false=>rfl
    | true=>
     simp only[ak,Sum.elim_inr,eO,cM]
     refine(bD (λo=>Option.bind o _) l2).trans ?_
     rw[au];cases (List.range r.bx.length).all (n5 r.bx)<;>rfl
  ·have I:((r.last.length:Int)==9*(aV g+1))=false:=by simp[C]
   rw[iT C,I];rfl
theorem atg(l:aa Int)(x:Int)(hl:l.length<1073741824):M9 l x=some (l.any λe=>e==x):=by
 unfold M9 cg;have e:=gv (step:=HQ) l (λe=>!(e==x)) (λi=>((l,x,(i:Int),()),())) (.inl ((true,()),())) (.inr (.inl ((),()))) aZ (λk h=>by
  unfold HQ aB bq xG xI;dsimp only;rw[aW (by omega),ak,aG ⟨by omega,by omega⟩];simp only[bJ];rw[bP (by omega)];cases l[k]==x<;>rfl) (by
  unfold HQ aB bq xG xI;dsimp only;rw[br (by omega),aq]) (bY hl)
 rw[cA]at e;rw[e];have:l.all (λe=>!(e==x)) = !l.any λe=>e==x:=by rw[List.any_eq_not_all_not,Bool.not_not]
 rw[this];cases l.any λe=>e==x<;>rfl
theorem ath(l:aa Int)(x:Int)(hl:l.length<1073741824):Nt l x=some (l.count x:Int):=by
 unfold Nt bw;have e:=dx (step:=Ic) l.length (λi=>((x,((l.take i).count x:Int),l,(l.length:Int),(i:Int),()),())) (.inl (((l.count x:Int),()),())) aZ (λk h=>by
  unfold Ic aB xG xI;have C:(l.take k).count x<=k:=Nat.le_trans List.count_le_length (by rw[fR];omega);dsimp only;rw[aW (by omega),ak,aG ⟨by omega,by omega⟩];simp only[bJ];rw[List.take_succ_eq_append_getElem h,List.count_append,List.count_singleton,bP (by omega),bP (by omega)];cases l[k]==x<;>rfl) (by
  unfold Ic aB xG xI;dsimp only;rw[br (by omega),aq,jF]) (bY hl)
 rw[cA,List.take_zero,List.count_nil]at e;rw[cA]at e;rw[e];rfl
theorem aeU{x:Int}:∀ (l:aa Int),(∀ j (h:j<l.length),l[j]=x->x ∉ l.take j)->l.count x<=1
 |[],_=>by simp
 | y :: ys,h=>by
  rw[List.count_cons];by_cases e:y=x
  ·have:x ∉ ys:=by
    intro C;obtain⟨j,E,D⟩:=iX.1 C;refine h (j+1) (by simp;omega) (by simpa using D) ?_;rw[List.take_succ_cons,e];exact List.mem_cons_self
   rw[List.count_eq_zero.2 this];split<;>omega
  ·have:=aeU ys λj E D C=>h (j+1) (by simp;omega) (by simpa using D) (by rw[List.take_succ_cons];exact List.mem_cons_of_mem _ C)
   have hb:(y==x)=false:=by simp[e]
   rw[hb]
   simpa using this
theorem ati{x:Int}:∀ (l:aa Int) (j:Nat) (h:j<l.length),l[j]=x->x∈l.take j->2<=l.count x:=by
 intro l j h e C;have D:1<=(l.take j).count x:=List.count_pos_iff.2 C;have E:1<=(l.drop j).count x:=List.count_pos_iff.2 (by rw[<-e];exact iX.2 ⟨0,by simp;omega,by simp⟩);have:l.count x=(l.take j).count x+(l.drop j).count x:=by rw[<-List.count_append,List.take_append_drop]
 omega
def pQ(R M:Int)(L:aa Int)(j:Nat):Bool:=match L[j]? with
 |some e=>e==(j:Int) ||(aJ e R M && !(decide ((L.count e:Int) > 1)))
 |none=>false
def sN(R M:Int)(L:aa Int)(j:Nat):Bool:=match L[j]? with
 |some e=>e==(j:Int) ||(aJ e R M && !((L.take j).any λx=>x==e))
 |none=>false
theorem U2(R M:Int)(L:aa Int)(hR:(L.length:Int)=R):(List.range L.length).all (pQ R M L)=(List.range L.length).all (sN R M L):=by
 rw[Bool.eq_iff_iff,cv,cv];simp only[eD];constructor
 ·intro h j D;have:=h j D;unfold pQ at this;unfold sN;rw[bK D]at *
  simp only[dy,aK,fM,lY]at *
  rcases this with C|⟨C,T⟩
  ·exact .inl C
  ·refine .inr ⟨C,?_⟩;rw[iW];intro x I J;have J:x=L[j]:=by simpa using J
   have:=ati L j D rfl (J ▸ I);omega
 ·intro h j D;have:=h j D;unfold sN at this;unfold pQ;rw[bK D]at *
  simp only[dy,aK,fM,lY]at *
  rcases this with C|⟨C,T⟩
  ·exact .inl C
  ·refine .inr ⟨C,?_⟩;have Y:=(bC.1 C).1;have:=aeU (x:=L[j]) L λk O e I=>by
    have E:=h k O;unfold sN at E;rw[bK O]at E;simp only[dy,aK,fM]at E;rcases E with Q|⟨_,U⟩
    ·have Q:L[k]=(k:Int):=by simpa using Q
     omega
    ·have:=iW.1 U L[j] I;rw[e]at this;simp at this
   omega
def gk(m:aa Int)(R b:Nat):aa Int:=(m.take ((b+1)*R)).drop (b*R)
theorem DW(m:aa Int)(R b:Nat):gk m R b=(m.drop (b*R)).take R:=by
 unfold gk;rw[List.drop_take,fQ,Nat.add_sub_cancel_left]
theorem Bq{m:aa Int}{R b:Nat}(h:(b+1)*R<=m.length):(gk m R b).length=R:=by
 rw[DW,fR,List.length_drop];rw[fQ]at h;omega
theorem yP{C R b j:Nat}(hb:b<C)(D:j<=R):b*R+j<=C*R:=by
 have:(b+1)*R<=C*R:=gS R hb;rw[fQ]at this;omega
def Jd(R:Nat)(M:Int)(m:aa Int)(i:Nat):Bool:=match m[i]? with
 |some e=>e==((i % R:Nat):Int) ||(aJ e (R:Int) M && !(((m.take i).drop (i / R*R)).any λx=>x==e))
 |none=>false
theorem aeV{R:Nat}{M:Int}{m:aa Int}{b j:Nat}(C:j<R):Jd R M m (b*R+j)=sN (R:Int) M (gk m R b) j:=by
 unfold Jd sN;have D:(b*R+j) % R=j:=by rw[Nat.mul_comm,Nat.mul_add_mod,Nat.mod_eq_of_lt C]
 have E:(b*R+j) / R=b:=by rw[Nat.mul_comm,Nat.mul_add_div (by omega),Nat.div_eq_of_lt C,Nat.add_zero]
 have I:(gk m R b)[j]?=m[b*R+j]?:=by rw[DW,List.getElem?_take_of_lt C,List.getElem?_drop]
 have J:(gk m R b).take j=(m.take (b*R+j)).drop (b*R):=by rw[DW,List.take_take,List.drop_take,Nat.add_sub_cancel_left,Nat.min_eq_left (Nat.le_of_lt C)]
 (rw[D,E,I,J])<;>rfl
theorem aeW{n:Nat}(h:n<4611686018427387904):W6 (n:Int)=(n:Int):=bf (by omega) (by omega)
theorem atj(R D:Nat)(hR:0<R)(M:Int)(m:aa Int):(List.range (D*R)).all (Jd R M m)=(List.range D).all λb=>(List.range R).all (sN (R:Int) M (gk m R b)):=by
 rw[Bool.eq_iff_iff,cv,cv];simp only[eD,cv];constructor
 ·intro h b hb j C;rw[<-aeV C];refine h _ ?_;have:=yP (R:=R) hb (show j+1<=R from C);omega
 ·intro h i hi;have hb:i / R<D:=Nat.div_lt_of_lt_mul (by rw[Nat.mul_comm];exact hi);have C:i % R<R:=Nat.mod_lt _ hR;have e:i / R*R+i % R=i:=by rw[Nat.mul_comm];exact Nat.div_add_mod i R
  have:=h _ hb _ C;rw[<-aeV C,e]at this;exact this
def jV(g:aN)(s:c9):Bool:=jh g s.bH&&((s.map.length:Int)==((aV g).toNat*(g.rows-s.bH).toNat:Nat)&&(List.range (aV g).toNat).all λb=>(List.range (g.rows-s.bH).toNat).all (pQ (g.rows-s.bH) (g.rows-1) (gk s.map (g.rows-s.bH).toNat b)))
theorem aeX{g:aN}{s:c9}{R C b:Nat}(hR:g.rows-s.bH=(R:Int))(D:R<=16)(E:C<=8)(hb:b<C)(hl:s.map.length=C*R):DE g s (b:Int)=some (b*R,(b+1)*R):=by
 have O:C*R<=8*16:=Nat.mul_le_mul E D;have Q:b*R+R<=C*R:=yP hb (dV R);have I:W6 (g.rows-s.bH)=(R:Int):=by rw[hR];exact bf (by omega) (by omega)
 have J:W6 ((b:Int)*(R:Int))=((b*R:Nat):Int):=by rw[<-Int.natCast_mul];exact bf (by omega) (by omega)
 have L:W6 (((b+1:Nat):Int)*(R:Int))=(((b+1)*R:Nat):Int):=by
  rw[<-Int.natCast_mul];exact bf (by omega) (by rw[fQ];omega)
 unfold DE;rw[I,bP (by omega),J,L,fQ,bk ⟨by omega,by omega,by omega⟩];simp only[bJ]
theorem atk{g:aN}{s:c9}(R b:Int)(L:aa Int)(C:cF g=true)(D:L.length<1073741824):
  iter DF aZ (((),(),R,b,L,L,(L.length:Int),(0:Int),()),((g.ck,g.aF,g.rows,g.aO,()),(s.bH,s.map,()),()))=some (bif (List.range L.length).all (pQ R (g.rows-1) L)then .inr (.inl (((),(),R,b,()),((g.ck,g.aF,g.rows,g.aO,()),(s.bH,s.map,()),())))else .inl ((false,()),())):=by
 have E:=fP C;have e:=gv (step:=DF) (List.range L.length) (pQ R (g.rows-1) L) (λi=>(((),(),R,b,L,L,(L.length:Int),(i:Int),()),((g.ck,g.aF,g.rows,g.aO,()),(s.bH,s.map,()),()))) (.inl ((false,()),())) (.inr (.inl (((),(),R,b,()),((g.ck,g.aF,g.rows,g.aO,()),(s.bH,s.map,()),())))) aZ (λk h=>by
  rw[dD]at h;rw[kZ];unfold DF pQ aB bq xG xI;dsimp only;rw[aW (by omega),ak,aG ⟨by omega,by omega⟩,bK h];simp only[bJ,fC,au,ath _ _ D,bne];rw[bP (by omega),bf (n:=g.rows-1) (by omega) (by omega)];cases L[k]==(k:Int)<;>cases aJ L[k] R (g.rows-1)<;>cases decide ((L.count L[k]:Int) > 1)<;>rfl) (by
  rw[dD];unfold DF aB bq xG xI;dsimp only;rw[br (by omega),aq]) (by rw[dD];exact bY (by omega))
 rw[cA]at e;exact e
theorem aeY(g:aN)(s:c9):Ig g s=some (jV g s):=by
 unfold Ig jV cg;rw[aeG,au,N6];cases D:jh g s.bH with
 |false=>rfl
 | true=>
  obtain⟨I,s0,s2,zn,Od⟩:=N5 D;have J:=fG g;have L:((rH g s.bH).1.map.length:Int)=(((aV g).toNat*(g.rows-s.bH).toNat:Nat):Int):=by
   unfold rH;rw[D,ak,UO]
  rw[L];obtain⟨C,hb⟩:=fI J.1;obtain⟨R,hR⟩:=fI (show 0<=g.rows-s.bH by omega);rw[hb,hR];simp only[bJ,bR,aq,cM];by_cases hl:(s.map.length:Int)=((C*R:Nat):Int)
  ·have E:s.map.length=C*R:=by omega
   rw[hl,bne_self_eq_false,aq,ld,cM];have O:W6 (R:Int)=(R:Int):=bf (by omega) (by omega);have e:=gv (step:=Ie) (List.range C) (λb=>(List.range R).all (pQ (R:Int) (g.rows-1) (gk s.map R b))) (λi=>(((),(),(R:Int),(i:Int),()),((g.ck,g.aF,g.rows,g.aO,()),(s.bH,s.map,()),()))) (.inl ((false,()),())) (.inr (.inl ((),()))) aZ (λk h=>by
    rw[dD]at h;rw[kZ];have Q:=yP (R:=R) h (dV R);have hlen:(gk s.map R k).length=R:=Bq (by rw[fQ,E];exact Q);have T:=atk (g:=g) (s:=s) (R:Int) (k:Int) (gk s.map R k) I (by omega);unfold Ie aB bq xG cg;dsimp only;rw[nY,rz,au,hb,aW (by omega),ak];have U:DE g (⟨s.bH,s.map⟩:c9) (k:Int)=some (k*R,(k+1)*R):=aeX (s:=⟨s.bH,s.map⟩) hR (by omega) (by omega) h E;rw[U,au];have Y:(Nat.ble (k*R) ((k+1)*R)&&Nat.ble ((k+1)*R) s.map.length)=true:=by
     rw[aK];exact⟨iE (by rw[fQ];omega),iE (by rw[fQ];omega)⟩
    rw[Y,ak]
    refine(bD (λo=>Option.bind o _) T).trans ?_
    rw[au,hlen];cases (List.range R).all (pQ (R:Int) (g.rows-1) (gk s.map R k))with
    |false=>rfl
    | true=>
     simp only[ak,Sum.elim_inr,eO];rw[bP (by omega)]) (by
    rw[dD];unfold Ie aB bq xG cg;dsimp only;rw[nY,rz,au,hb,br (by omega),aq]) (by rw[dD];exact bY (by omega))
   rw[cA]at e;rw[O]
   refine(bD (λo=>Option.bind o _) e).trans ?_
   rw[au];cases (List.range C).all λb=>(List.range R).all (pQ (R:Int) (g.rows-1) (gk s.map R b))<;>rfl
  ·have Z:((s.map.length:Int)==((C*R:Nat):Int))=false:=by simp only[beq_eq_false_iff_ne];exact hl
   rw[iT hl,Z];rfl
theorem aeZ(g:aN)(s:c9):HS g s=some (jV g s):=by
 unfold HS jV cg;rw[UP,au,N6];cases I:jh g s.bH with
 |false=>rfl
 | true=>
  obtain⟨J,s0,s2,zn,Od⟩:=N5 I;have L:=fG g;have gb:=fP J;obtain⟨C,hb⟩:=fI L.1;obtain⟨R,hR⟩:=fI (show 0<=g.rows-s.bH by omega);have hm:C*R<=8*16:=Nat.mul_le_mul (by omega) (by omega);have O:W6 (R:Int)=(R:Int):=bf (by omega) (by omega);have hmul:W6 ((C:Int)*(R:Int))=((C*R:Nat):Int):=by rw[<-Int.natCast_mul];exact bf (by omega) (by omega)
  rw[nU,au,hb,hR,O,hmul];simp only[bJ,bR,aq,cM];by_cases hl:(s.map.length:Int)=((C*R:Nat):Int)
  ·have Q:s.map.length=C*R:=by omega
   rw[hl,bne_self_eq_false,aq,ld,cM];have e:=gv (step:=HR) (List.range (C*R)) (Jd R (g.rows-1) s.map) (λi=>(((),(),(R:Int),(i:Int),()),((g.ck,g.aF,g.rows,g.aO,()),(s.bH,s.map,()),()))) (.inl ((false,()),())) (.inr (.inl ((),()))) aZ (λk h=>by
    rw[dD]at h;rw[kZ];have T:k<s.map.length:=by omega
    have U:(k:Int).tmod (R:Int)=((k % R:Nat):Int):=(Int.ofNat_tmod k R).symm;have Y:(k:Int).tdiv (R:Int)=((k / R:Nat):Int):=(Int.ofNat_tdiv k R).symm;have Z:k / R<=k:=Nat.div_le_self k R;have E:k / R*R<=k:=Nat.div_mul_le_self k R;have w1:W6 (((k / R:Nat):Int))=((k / R:Nat):Int):=aeW (Nat.lt_of_le_of_lt Z (by omega));have w2:W6 (((k / R:Nat):Int)*(R:Int))=((k / R*R:Nat):Int):=by rw[<-Int.natCast_mul];exact aeW (Nat.lt_of_le_of_lt E (by omega))
    unfold HR Jd aB bq xG xI;rw[bK T];dsimp only;rw[aW (by omega),ak,aG ⟨by omega,by omega⟩,bB (by omega),aG ⟨by omega,by omega⟩,bB (by omega),U,Y,w1,w2,bk ⟨Int.natCast_nonneg _,Int.ofNat_le.2 E,by omega⟩,aG ⟨by omega,by omega⟩];simp only[bJ,ei,au];rw[atg _ _ (by rw[List.length_drop,fR];omega),au,bP (by omega),bf (n:=g.rows-1) (by omega) (by omega)];cases s.map[k]==((k % R:Nat):Int)<;>cases aJ s.map[k] (R:Int) (g.rows-1)<;>cases ((s.map.take k).drop (k / R*R)).any (λx=>x==s.map[k])<;>rfl) (by
    rw[dD];unfold HR aB bq xG xI;dsimp only;rw[br (by omega),aq]) (by rw[dD];exact bY (by omega))
   rw[cA]at e
   refine(bD (λo=>Option.bind o _) e).trans ?_
   rw[au,atj R C (by omega)];have hAB:((List.range C).all λb=>(List.range R).all (sN (R:Int) (g.rows-1) (gk s.map R b)))=(List.range C).all λb=>(List.range R).all (pQ (R:Int) (g.rows-1) (gk s.map R b)):=by
    rw[Bool.eq_iff_iff,cv,cv]
    refine forall_congr' λb=>?_
    refine imp_congr_right λD=>?_
    have D:=eD.1 D;have hk:=yP (R:=R) D (dV R);have hlen:(gk s.map R b).length=R:=Bq (by rw[fQ,Q];exact hk);have:=U2 (R:Int) (g.rows-1) (gk s.map R b) (by rw[hlen]);rw[hlen]at this;rw[this]
   rw[hAB];cases (List.range C).all λb=>(List.range R).all (pQ (R:Int) (g.rows-1) (gk s.map R b))<;>rfl
  ·have e2:((s.map.length:Int)==((C*R:Nat):Int))=false:=by simp only[beq_eq_false_iff_ne];exact hl
   rw[iT hl,e2];rfl
def cU(g:aN)(s:c9):aN:=bif jV g s then ⟨g.ck,g.aF,W6 (g.rows-s.bH),g.aO⟩else ⟨0,0,0,0⟩
theorem Oe(g:aN)(s:c9):A1 g s=some (cU g s):=by
 unfold A1 cU;rw[aeY,au];cases jV g s<;>rfl
theorem atl(g:aN)(s:c9):Ns g s=some (cU g s):=by
 unfold Ns cU;rw[aeZ,au];cases jV g s<;>rfl
def yQ(c:av):av:=c
def iL(a x:aL):Bool:=x.az==a.az&&(x.row==a.row&&(x.bT==a.bT&&true))
theorem ae0(l:aa aL)(a:aL)(hl:l.length<1073741824):GV l a=some (mD (iL a) l):=by
 unfold GV mD cg;have e:=Bm (step:=GU) l (iL a) (λi=>((l,(),(i:Int),()),((a.az,a.row,a.bT,()),()))) (λi=>.inl (((i:Int),()),())) (.inr (.inl ((),()))) aZ (λk h=>by
  unfold GU iL aB bq xG xI;dsimp only;rw[aW (by omega),ak,aG ⟨by omega,by omega⟩];simp only[bJ];rw[bP (by omega)];cases (l[k].az==a.az&&(l[k].row==a.row&&(l[k].bT==a.bT&&true)))<;>rfl) (by
  unfold GU aB bq xG xI;dsimp only;rw[br (by omega),aq]) (bY hl)
 rw[cA]at e;rw[e];cases l.findIdx? (iL a)<;>rfl
theorem atm(l:aa aL)(a:aL)(hl:l.length<1073741824):DL l a=some (mD (iL a) l):=by
 unfold DL mD;have e:=Bm (step:=Ix) l (iL a) (λi=>((l,(),(l.length:Int),(i:Int),()),((a.az,a.row,a.bT,()),()))) (λi=>.inl (((i:Int),()),())) (.inr (.inl ((),()))) aZ (λk h=>by
  unfold Ix iL aB bq xG xI;dsimp only;rw[aW (by omega),ak,aG ⟨by omega,by omega⟩];simp only[bJ];rw[bP (by omega),BEq.comm (a:=a.az),BEq.comm (a:=a.row),BEq.comm (a:=a.bT)];cases (l[k].az==a.az&&(l[k].row==a.row&&(l[k].bT==a.bT&&true)))<;>rfl) (by
  unfold Ix aB bq xG xI;dsimp only;rw[br (by omega),aq]) (bY hl)
 rw[cA]at e;rw[e];cases l.findIdx? (iL a)<;>rfl
def partAt(c:av)(i:Nat):Bool:=match c.bN[i]?,c.guard[i]? with
 |some t,some x=>jy t&&aJ x 3 1000
 |_,_=>false
def yR(c:av)(i:Nat):Bool:=match c.pending[i]? with
 |some a=>dA c.config.ay a&&(a.bT==0 && !((c.pending.take i).any (iL a)))
 |none=>false
def rI(c:av):Bool:=(c.bu.aU.length:Int)==aV c.config.ay&&((c.bN.length:Int)==aV c.config.ay&&((c.guard.length:Int)==aV c.config.ay&&(!(decide ((c.pending.length:Int) > 128))&&((List.range c.bN.length).all (partAt c)&&(List.range c.pending.length).all (yR c)))))
theorem ae1(c:av)(G:(Int×Int×Int×Int×af))(n i:Int):Nw (((),(),n,i,()),(yQ c,G,()))=(bif (decide (i<n))then if C:0<=i/\i.toNat<c.bN.length then (A8 (c.bN[i.toNat]'C.2)).bind λD=>bif (!D)then some (.inr (.inl ((false,()),())))else if E:0<=i/\i.toNat<c.guard.length then (cD (c.guard[i.toNat]'E.2) (3:Int) (1000:Int)).bind λI=>bif (!I)then some (.inr (.inl ((false,()),())))else some (.inl (((),(),n,(W6 (i+(1:Int))),()),(yQ c,G,())))else none else none else some (.inr (.inr (.inl (((),(),()),(yQ c,G,())))))):=rfl
theorem ae2(c:av)(g:aN)(l:aa aL)(n i:Int):Ny (((),(),l,n,i,()),(yQ c,(g.ck,g.aF,g.rows,g.aO,()),()))=(bif (decide (i<n))then if C:0<=i/\i.toNat<l.length then (A9 g (l[i.toNat]'C.2)).bind λD=>bif (!D)then some (.inr (.inl ((false,()),())))else bif ((l[i.toNat]'C.2).bT != (0:Int))then some (.inr (.inl ((false,()),())))else (DL c.pending (l[i.toNat]'C.2)).bind λE=>bif (E != i)then some (.inr (.inl ((false,()),())))else some (.inl (((),(),l,n,(W6 (i+(1:Int))),()),(yQ c,(g.ck,g.aF,g.rows,g.aO,()),())))else none else some (.inr (.inr (.inl ((),()))))):=rfl
theorem atn(c:av)(L:c.bu.aU.length<1073741824):Nz c=some (fq c.bu&&rI c):=by
 unfold Nz rI cg;rw[rz,au,as0 _ L,au];cases fq c.bu with
 |false=>rfl
 |true=>
 simp only[bR,aq,cM];have b1:=fG c.config.ay;by_cases C:(c.bu.aU.length:Int)=aV c.config.ay
 ·by_cases D:(c.bN.length:Int)=aV c.config.ay
  ·by_cases E:(c.guard.length:Int)=aV c.config.ay
   ·have O:((c.bu.aU.length:Int) != aV c.config.ay)=false:=by simp[C]
    have Q:((c.bN.length:Int) != aV c.config.ay)=false:=by simp[D]
    have T:((c.guard.length:Int) != aV c.config.ay)=false:=by simp[E]
    have U:((c.bu.aU.length:Int)==aV c.config.ay)=true:=by simp[C]
    have Y:((c.bN.length:Int)==aV c.config.ay)=true:=by simp[D]
    have Z:((c.guard.length:Int)==aV c.config.ay)=true:=by simp[E]
    rw[O,Q,T,U,Y,Z];simp only[aq,cM];cases I:decide ((c.pending.length:Int) > 128)with
    |true=>rfl
    | false=>
     have I:=of_decide_eq_false I;have l1:=gv (step:=Nw) (List.range c.bN.length) (partAt c) (λi=>(((),(),(c.bN.length:Int),(i:Int),()),(yQ c,(c.config.ay.ck,c.config.ay.aF,c.config.ay.rows,c.config.ay.aO,()),()))) (.inl ((false,()),())) (.inr (.inl (((),(),()),(yQ c,(c.config.ay.ck,c.config.ay.aF,c.config.ay.rows,c.config.ay.aO,()),())))) aZ (λk h=>by
      rw[dD]at h;rw[kZ,ae1,aW (by omega),ak,aG ⟨by omega,by omega⟩,aG ⟨by omega,by omega⟩];simp only[bJ,as9,fC,au];unfold partAt;rw[bK h,bK (show k<c.guard.length by omega),bP (by omega)];simp only;cases jy c.bN[k]<;>cases aJ (c.guard[k]'(by omega)) 3 1000<;>rfl) (by
      rw[dD,ae1,br (by omega),aq]) (by rw[dD];exact bY (by omega))
     have l2:=gv (step:=Ny) (List.range c.pending.length) (yR c) (λi=>(((),(),c.pending,(c.pending.length:Int),(i:Int),()),(yQ c,(c.config.ay.ck,c.config.ay.aF,c.config.ay.rows,c.config.ay.aO,()),()))) (.inl ((false,()),())) (.inr (.inl ((),()))) aZ (λk h=>by
      rw[dD]at h;rw[kZ,ae2,aW (by omega),ak,aG ⟨by omega,by omega⟩];simp only[bJ,aei,au,atm _ _ (show c.pending.length<1073741824 by omega),bne];have J:=I8 (p:=iL c.pending[k]) h (by simp[iL]);rw[bne]at J;rw[J];unfold yR;rw[bK h,bP (by omega)];simp only;cases dA c.config.ay c.pending[k]<;>cases c.pending[k].bT==0<;>cases (c.pending.take k).any (iL c.pending[k])<;>rfl) (by
      rw[dD,ae2,br (by omega),aq]) (by rw[dD];exact bY (by omega))
     rw[cA]at l1 l2;simp only[gU,aq,cM]
     refine(bD (λo=>Option.bind o _) l1).trans ?_
     rw[au];cases (List.range c.bN.length).all (partAt c)with
     |false=>rfl
     | true=>
      simp only[ak,Sum.elim_inr,eO,cM]
      refine(bD (λo=>Option.bind o _) l2).trans ?_
      rw[au];cases (List.range c.pending.length).all (yR c)<;>rfl
   ·simp[C,D,iT E,E]
  ·simp[C,iT D,D]
 ·simp[iT C,C]
def sO(n:Int)(u:Bool)(k:Int):Bool:=bif u then aJ n 0 (k-1)else n==0
def eK(g:aN)(c:aI):Bool:=cF g&&(aJ c.kind 1 9&&(sO c.az (aJ c.kind 1 5) (aV g)&&(sO c.row (c.kind==1) g.rows&&sO c.bT (c.kind==2 ||c.kind==3) g.aO)))
theorem ato(k:Int):GJ k=some (aJ k 1 5,k==1,(k==2 || k==3)):=by
 obtain⟨y,e,h⟩:=asK k;rw[e,h]
def Je(c:aI):Bool:=(aJ c.kind 1 5 ||c.az==0)&&((c.kind==1 ||c.row==0)&&(((c.kind==2 ||c.kind==3) ||c.bT==0)&&(aJ c.kind 1 9&&(aJ c.az 0 7&&(aJ c.row 0 15&&aJ c.bT 0 7)))))
theorem atp(c:aI):Mo c=some (Je c):=by
 unfold Mo Je;simp only[ato,au,ei,bne];cases aJ c.kind 1 5<;>cases c.az==0<;>cases c.kind==1<;>cases c.row==0<;>cases (c.kind==2 ||c.kind==3)<;>cases c.bT==0<;>cases aJ c.kind 1 9<;>cases aJ c.az 0 7<;>cases aJ c.row 0 15<;>rfl
theorem ae3(g:aN)(c:aI):GK g c=some (eK g c):=by
 unfold GK;rw[atp,au,UF,au];have key:(Je c&&dA g ⟨c.az,c.row,c.bT⟩)=eK g c:=by
  unfold eK dA;cases D:cF g with
  |false=>simp
  | true=>
   have I:=fG g;have J:=fP D;rw[Bool.eq_iff_iff];simp only[Je,sO,aK,dy,eS,bC,cM];constructor
   ·rintro⟨⟨h1,h2,h3,C,L,O,Q⟩,⟨T,U⟩,Y⟩;refine⟨C,?_,?_,?_⟩
    ·cases hu:aJ c.kind 1 5 with
     |true=>simp only[ak,bC];omega
     | false=>simp only[aq,eS];rcases h1 with h1 | h1
              ·exact absurd (bC.2 h1) (by rw[hu];simp)
              ·exact h1
    ·cases hu:c.kind==1 with
     |true=>simp only[ak,bC];omega
     | false=>simp only[aq,eS];rcases h2 with h2 | h2
              ·rw[h2]at hu;cases hu
              ·exact h2
    ·cases hu:(c.kind==2 || c.kind==3)with
     |true=>simp only[ak,bC];omega
     | false=>simp only[aq,eS];rcases h3 with (h3 | h3) | h3
              ·rw[h3]at hu;cases hu
              ·rw[h3]at hu;cases hu
              ·exact h3
   ·rintro⟨h1,h2,h3,C⟩;have f1:(1<=c.kind/\c.kind<=5\/c.az=0)/\0<=c.az/\c.az<=aV g-1:=by
     cases hu:aJ c.kind 1 5 with
     |true=>rw[hu,ak,bC]at h2;exact⟨.inl (bC.1 hu),h2⟩
     |false=>rw[hu,aq,eS]at h2;have:=IY D;exact⟨.inr h2,by omega⟩
    have f2:(c.kind=1\/c.row=0)/\0<=c.row/\c.row<=g.rows-1:=by
     cases hu:c.kind==1 with
     |true=>rw[hu,ak,bC]at h3;exact⟨.inl (by simpa using hu),h3⟩
     |false=>rw[hu,aq,eS]at h3;exact⟨.inr h3,by omega⟩
    have E:((c.kind=2\/c.kind=3)\/c.bT=0)/\0<=c.bT/\c.bT<=g.aO-1:=by
     cases hu:(c.kind==2 ||c.kind==3)with
     |true=>rw[hu,ak,bC]at C;exact⟨.inl (by simpa using hu),C⟩
     |false=>rw[hu,aq,eS]at C;exact⟨.inr C,by omega⟩
    exact⟨⟨f1.1,f2.1,E.1,h1,by omega,by omega,by omega⟩,⟨by omega,by omega⟩,by omega⟩
 rw[<-key];cases Je c<;>rfl
theorem Jf{g:aN}{c:aI}(h:eK g c=true):cF g=true/\(1<=c.kind/\c.kind<=9)/\(c.kind<=5->0<=c.az/\c.az<aV g)/\(5<c.kind->c.az=0):=by
 simp only[eK,aK,bC]at h
 refine⟨h.1,h.2.1,λD=>?_,λD=>?_⟩
 ·have:=h.2.2.1;rw[sO,show aJ c.kind 1 5=true from bC.2 ⟨h.2.1.1,D⟩,ak,bC]at this;omega
 ·have:=h.2.2.1;have C:aJ c.kind 1 5=false:=by
   cases C:aJ c.kind 1 5 with
   |false=>rfl
   |true=>have:=bC.1 C;omega
  rw[sO,C,aq,eS]at this;exact this
theorem kinds{k:Int}(h:1<=k/\k<=9):k=1\/k=2\/k=3\/k=4\/k=5\/k=6\/k=7\/k=8\/k=9:=by omega
def jW(r:cK)(b:Int):eP:=r.aF.getD b.toNat ⟨false,0⟩
def pR(r:cK)(c:aI):Bool:=
 bif c.kind==1 ||c.kind==5 then r.bg==0 && !(jW r c.az).open_ else
 bif c.kind==2 ||c.kind==3 ||c.kind==4 then r.bg==0&&(jW r c.az).open_ else
 bif c.kind==6 then r.bg==0 else
 bif c.kind==8 then r.bg==0&&r.aF.all (λb=>!b.open_)else
 bif c.kind==7 then r.bg==1 else r.bg==2
def fZ(r:cK)(c:aI):cK:=
 bif c.kind==1 then ⟨r.aF.set c.az.toNat ⟨true,c.row⟩,r.bg⟩else
 bif c.kind==4 then ⟨r.aF.set c.az.toNat ⟨false,0⟩,r.bg⟩else
 bif c.kind==6 then ⟨r.aF,1⟩else
 bif c.kind==8 then ⟨r.aF,2⟩else
 bif c.kind==7 ||c.kind==9 then ⟨r.aF,0⟩else r
theorem atq{r:cK}{b:Int}(h:b.toNat<r.aF.length):r.aF[b.toNat]=jW r b:=by
 simp[jW,h]
theorem atr(r:cK):(((opens 0 r.aF).length:Int)==0)=r.aF.all λb=>!b.open_:=by
 rw[<-aeP 0 r.aF,Bool.eq_iff_iff];simp only[eS];omega
theorem ae4(r:cK)(h:r.aF.length<1073741823):GL r=some (opens 0 r.aF):=by
 unfold GL bw;have e:=tY (step:=Df) (λi=>(((),(),(i:Int),()),((r.aF,r.bg,()),opens 0 (r.aF.take i),()))) (z:=.inl (((),()),(opens 0 r.aF,()))) r.aF.length 0 aZ (λk _ C=>?_) ?_ (by unfold aZ;omega)
 ·have e:iter Df aZ (((),(),(0:Int),()),((r.aF,r.bg,()),([]:aa Int),()))=_:=e;rw[e];rfl
 ·have C:k<r.aF.length:=by omega
  unfold Df aB xG xI;dsimp only;have D:decide ((k:Int)<(r.aF.length:Int))=true:=aW (by omega);have E:0<=(k:Int)/\(k:Int).toNat<r.aF.length:=⟨by omega,by simpa using C⟩
  have hl:=UG 0 (r.aF.take k);rw[fR]at hl;have I:aT ((opens 0 (r.aF.take k)).length+([(k:Int)]:aa Int).length)=true:=by
   unfold aT;refine aW ?_;simp;omega
  rw[D,ak,aG E,rB (by omega),sK C,aep];simp only[bJ,opens,fR,eN,Nat.min_eq_left (Nat.le_of_lt C)];cases r.aF[k].open_ with
  |true=>rw[ak,I];rfl
  |false=>rw[aq,aq,List.append_nil]
 ·rw[eN];unfold Df aB xG xI;dsimp only;have D:decide ((r.aF.length:Int)<(r.aF.length:Int))=false:=br (by omega);rw[D,aq,jF]
theorem att{r:cK}{c:aI}(C:1<=c.kind/\c.kind<=9)(hb:c.kind<=5->0<=c.az/\c.az.toNat<r.aF.length)(hl:r.aF.length<1073741823):Mp r c=some (pR r c):=by
 unfold Mp pR xI;rcases kinds C with h|h|h|h|h|h|h|h|h
 case inr.inr.inr.inr.inr.inr.inr.inl=>simp[h,ae4 r hl,atr];cases r.bg==0<;>rfl
 all_goals (try (have hb:=hb (by omega)))<;>simp[h,hb,atq]<;>(cases r.bg==0<;>rfl)
def qK(g:aN)(r:cK)(c:aI):Bool:=oN g r&&(eK g c&&pR r c)
theorem Of{g:aN}{r:cK}{c:aI}(h:qK g r c=true):cF g=true/\(r.aF.length:Int)=aV g/\(1<=c.kind/\c.kind<=9)/\(c.kind<=5->0<=c.az/\c.az.toNat<r.aF.length):=by
 simp only[qK,aK]at h;obtain⟨D,E,hb,_⟩:=Jf h.2.1;have C:=h.1;simp only[oN,aK,eS]at C;exact⟨D,C.2.1,E,λh=>by have:=hb h;omega⟩
def Og(g:aN):cK:=⟨List.replicate (aV g).toNat ⟨false,0⟩,0⟩
theorem atu(g:aN):Mb g=some (Og g):=by
 have C:=fG g;unfold Mb Og;rw[nU,au,bk ⟨by omega,by omega,by omega⟩]
theorem ae5(r:cK)(c:aI):(fZ r c).aF.length=r.aF.length:=by
 unfold fZ;cases c.kind==1<;>cases c.kind==4<;>cases c.kind==6<;>cases c.kind==8<;>cases (c.kind==7 ||c.kind==9)<;>simp
def Br(t:c8)(a b:Int):Int:=
 bif a==1 then (bif b==2 ||b==3 then t.jG else bif b==4 then t.ga else bif b==1 ||b==5 then W6 (t.ga+t.rp)else 0)else
 bif a==2 then (bif b==4 then t.jk else bif b==1 ||b==5 then W6 (t.jk+t.rp)else 0)else
 bif a==3 then (bif b==4 then t.wr else bif b==1 ||b==5 then W6 (t.wr+t.rp)else 0)else
 bif a==4 then (bif b==1 ||b==5 then t.rp else 0)else
 bif a==5 then (bif b==1 ||b==5 then t.oa else 0)else 0
def Bt(t:c8)(a b:Int)(C:Bool):Int:=
 bif a==7 then t.xp else bif a==9 then t.xs else
 bif (a==6&&b==7) ||(a==8&&b==9)then t.oR else
 bif a==1&&b==1 then (bif C then t.jH else t.mL)else
 bif (a==2&&b==2) ||(a==3&&b==3)then (bif C then t.mN else t.mM)else
 bif a==3&&b==2 then (bif C then t.n9 else t.n8)else
 bif a==2&&b==3 then t.qN else
 bif a==5&&b==5 then t.jH else
 bif a==2&&b==6 then t.jk else bif a==3&&b==6 then t.wr else
 bif b==8 then Br t a 1 else 0
theorem ae6{t:c8}(C:iV t=true){a b:Int}(D:1<=a/\a<=9)(hb:1<=b/\b<=9):GM t a b=some (Br t a b):=by
 unfold GM;rw[N4,au,C,bR,aq];rcases kinds D with rfl|rfl|rfl|rfl|rfl|rfl|rfl|rfl|rfl<;>rcases kinds hb with rfl|rfl|rfl|rfl|rfl|rfl|rfl|rfl|rfl<;>kernel_rfl
theorem U3{t:c8}(E:iV t=true){a b:Int}(D:Bool)(C:1<=a/\a<=9)(hb:1<=b/\b<=9):GN t a b D=some (Bt t a b D):=by
 unfold GN;dsimp only;rw[N4,au,E,bR,aq,ei,au,bC.2 C,bR,aq,ei,au,bC.2 hb,bR];by_cases I:b=8/\a≠7/\a≠9
 ·obtain⟨rfl,J,L⟩:=I;have e:=ae6 E C (b:=1) (by omega);rcases kinds C with rfl|rfl|rfl|rfl|rfl|rfl|rfl|rfl|rfl<;>first|exact absurd rfl J|exact absurd rfl L|simp[e,Bt]
 ·cases D<;>rcases kinds C with rfl|rfl|rfl|rfl|rfl|rfl|rfl|rfl|rfl<;>rcases kinds hb with rfl|rfl|rfl|rfl|rfl|rfl|rfl|rfl|rfl<;>first|exact absurd ⟨rfl,by omega,by omega⟩ I|kernel_rfl
def Oh(a b:aI):Bool:=aJ a.kind 1 5&&aJ b.kind 1 5
def Oi(g:aN)(a b:aI):Bool:=Oh a b&&(W6 (a.az.tdiv g.aF)==W6 (b.az.tdiv g.aF))
def yS(g:aN)(t:c8)(a b:aI):Int:=
 bif Oh a b&&a.az==b.az then max (max 1 (Bt t a.kind b.kind (Oi g a b))) (Br t a.kind b.kind)else max 1 (Bt t a.kind b.kind (Oi g a b))
theorem Oj(x y:Int):(if x > y then x else y)=max x y:=by
 rw[Int.max_def];split<;>split<;>omega
theorem Ok{k:Int}(h:1<=k/\k<=9):aJ k 1 5=decide (k<=5):=by
 unfold aJ;rw[aW h.1,cM]
theorem atv{g:aN}{t:c8}{a b:aI}(I:cF g=true)(E:iV t=true)(C:1<=a.kind/\a.kind<=9)(D:1<=b.kind/\b.kind<=9):ym g t a b=some (yS g t a b):=by
 have J:=fP I;unfold ym yS Oi Oh;rw[Ok C,Ok D];cases decide (a.kind<=5)with
 | false=>
  simp only[aq,Bool.false_and];rw[U3 E false C D,au,Oj]
 | true=>
  cases decide (b.kind<=5)with
  | false=>
   simp only[ak,aq,Bool.and_false,Bool.false_and];rw[U3 E false C D,au,Oj]
  | true=>
   simp only[ak,cM,Bool.and_self];rw[bB (by omega),bB (by omega),U3 E _ C D,au,ae6 E C D];cases a.az==b.az with
   |false=>simp only[aq,Oj]
   | true=>
    simp only[ak,au,Oj];rw[Int.max_comm (Br _ _ _),<-Int.max_assoc]
theorem U4{t:c8}(h:iV t=true):∀ x∈pP t,1<=x/\x<=64:=by
 simp only[iV,aK,cv]at h;exact λx C=>bC.1 (h.1 x C)
theorem ae7{t:c8}(h:iV t=true)(a b:Int):0<=Br t a b/\Br t a b<=128:=by
 have hb:=U4 h;simp only[pP,fF,List.not_mem_nil,or_false,forall_eq_or_imp,forall_eq]at hb;obtain⟨C,D,E,I,J,L,O,Q,T,U,Y,Z,jo,kF,kj,jq,oe⟩:=hb;unfold Br;rw[bf (n:=t.ga+t.rp) (by omega) (by omega),bf (n:=t.jk+t.rp) (by omega) (by omega),bf (n:=t.wr+t.rp) (by omega) (by omega)];cases a==1<;>cases a==2<;>cases a==3<;>cases a==4<;>cases a==5<;>cases b==4<;>cases (b==2 ||b==3)<;>cases (b==1 ||b==5)<;>simp only[ak,aq]<;>omega
theorem atw{c:Bool}{x y a b:Int}(C:a<=x/\x<=b)(D:a<=y/\y<=b):a<=(bif c then x else y)/\(bif c then x else y)<=b:=by
 cases c
 ·exact D
 ·exact C
theorem atx{t:c8}(h:iV t=true)(a b:Int)(n:Bool):0<=Bt t a b n/\Bt t a b n<=128:=by
 have hb:=U4 h;simp only[pP,fF,List.not_mem_nil,or_false,forall_eq_or_imp,forall_eq]at hb;obtain⟨D,E,I,J,L,O,Q,T,U,Y,Z,jJ,jo,kF,kj,jq,oe⟩:=hb;have C:=ae7 h a 1;unfold Bt
 repeat' (first|exact C|refine atw ?_ ?_|omega)
def mF(g:aN)(c:aI):Int:=9*(bif aJ c.kind 1 5 then c.az else aV g)+c.kind-1
theorem ae8{g:aN}{c:aI}(h:eK g c=true):0<=mF g c/\mF g c<9*(aV g+1):=by
 obtain⟨C,D,hb,_⟩:=Jf h;have E:=fG g;unfold mF;cases hu:aJ c.kind 1 5 with
 |true=>have:=bC.1 hu;have:=hb this.2;simp only[ak];omega
 |false=>simp only[aq];omega
theorem aty(r:dM)(C:r.last.length<1073741824)(D:r.bx.length<1073741824):DO r=some r:=by
 unfold DO;rw[show ([]:aa Int).length+r.last.length=r.last.length by simp,dh C,show ([]:aa Int).length+r.bx.length=r.bx.length by simp,dh D];rfl
theorem ae9(r:dM)(C:r.last.length<1073741824)(D:r.bx.length<1073741824):sF r=some r:=aty r C D
def DX(r:dM)(x:Int):Bool:=match r.bx.getLast? with
 |some y=>decide (x<=y)
 |none=>false
def Jg(l:aa Int)(x:Int):aa Int:=(l++[x]).drop (l.length+1-4)
def vX(g:aN)(r:dM)(e:fj):dM:=
 bif lT g r&&(eK g e.cmd&&(aJ e.at_ 0 1000000 && !(e.cmd.kind==1&&DX r e.at_)))then ⟨r.last.set (mF g e.cmd).toNat e.at_,bif e.cmd.kind==1 then Jg r.bx e.at_ else r.bx⟩else r
theorem U5{g:aN}{r:dM}(h:lT g r=true):cF g=true/\(r.last.length:Int)=9*(aV g+1)/\r.bx.length<=4:=by
 simp only[lT,aK,eS,fM,lY]at h;exact⟨h.1,h.2.1,by omega⟩
theorem atz{l:aa Int}(h:0<l.length)(C:(W6 ((l.length:Int)-1)).toNat<l.length)(hl:l.length<1073741824):l.getLast?=some (l[(W6 ((l.length:Int)-1)).toNat]'C):=by
 have e:(W6 ((l.length:Int)-1)).toNat=l.length-1:=by rw[bf (by omega) (by omega)];omega
 simp only[e];rw[List.getLast?_eq_getElem?,bK (by omega)]
theorem atA(g:aN)(r:dM)(e:fj)(U:r.last.length<1073741824)(Y:r.bx.length<1073741824):My g r e=some (vX g r e):=by
 unfold My vX xI xL;rw[ae9 r U Y,au,atf,au];cases Z:lT g r with
 |false=>rfl
 | true=>
  simp only[bR,aq,cM];rw[ae3,au];cases J:eK g e.cmd with
  |false=>rfl
  | true=>
   simp only[bR,aq,cM];rw[ei,au];cases ha:aJ e.at_ 0 1000000 with
   |false=>rfl
   | true=>
    obtain⟨hg,hl,h4⟩:=U5 Z;obtain⟨_,Bu,hb,_⟩:=Jf J;have hp:=ae8 J;have b1:=fG g;have pl:mF g e.cmd=bif decide (e.cmd.kind<=5)then 9*e.cmd.az+e.cmd.kind-1 else 9*aV g+e.cmd.kind-1:=by
     unfold mF;rw[Ok Bu];cases decide (e.cmd.kind<=5)<;>rfl
    have L:decide (e.cmd.kind<=5)=true->W6 (W6 (W6 (9*e.cmd.az)+e.cmd.kind)-1)=mF g e.cmd:=by
     intro C;have:=hb (of_decide_eq_true C);rw[bf (n:=9*e.cmd.az) (by omega) (by omega),bf (n:=9*e.cmd.az+e.cmd.kind) (by omega) (by omega),bf (by omega) (by omega),pl,C];rfl
    have hW2:decide (e.cmd.kind<=5)=false->W6 (W6 (W6 (9*aV g)+e.cmd.kind)-1)=mF g e.cmd:=by
     intro C;rw[bf (n:=9*aV g) (by omega) (by omega),bf (n:=9*aV g+e.cmd.kind) (by omega) (by omega),bf (by omega) (by omega),pl,C];rfl
    have E:∀l:aa Int,l.length<1073741824->sF ⟨r.last.set (mF g e.cmd).toNat e.at_,l⟩=some ⟨r.last.set (mF g e.cmd).toNat e.at_,l⟩:=λl zD=>ae9 _ (by simp;omega) zD
    have D:0<=mF g e.cmd/\(mF g e.cmd).toNat<r.last.length:=⟨hp.1,by omega⟩
    have o1:aT (([]:aa Int).length+r.bx.length)=true:=dh (by simp;omega);have o2:aT ((([]:aa Int)++r.bx).length+([e.at_]:aa Int).length)=true:=dh (by simp;omega);have O:((([]:aa Int)++r.bx)++([e.at_]:aa Int)).length=r.bx.length+1:=by simp
    have Q:(bif decide ((((r.bx.length+1:Nat):Int)) > 4)then if 0<=(1:Int)/\(1:Int)<=((r.bx.length+1:Nat):Int)/\((r.bx.length+1:Nat):Int)<=((r.bx.length+1:Nat):Int)then (sF (⟨r.last.set (mF g e.cmd).toNat e.at_,(((([]:aa Int)++r.bx)++([e.at_]:aa Int)).take (((r.bx.length+1:Nat):Int).toNat)).drop ((1:Int).toNat)⟩:dM)).bind λyz=>some yz else none else (sF (⟨r.last.set (mF g e.cmd).toNat e.at_,((([]:aa Int)++r.bx)++([e.at_]:aa Int))⟩:dM)).bind λnh=>some nh)=some ⟨r.last.set (mF g e.cmd).toNat e.at_,Jg r.bx e.at_⟩:=by
     have et:((([]:aa Int)++r.bx)++([e.at_]:aa Int)).take (((r.bx.length+1:Nat):Int).toNat)=r.bx++[e.at_]:=by
      rw[bJ,<-O,jF,List.nil_append]
     rw[et];unfold Jg;by_cases h5:4<=r.bx.length
     ·rw[aW (by omega),ak,bk ⟨by omega,by omega,by omega⟩,E _ (by simp;omega),au,show r.bx.length+1-4=1 by omega];rfl
     ·rw[br (by omega),aq,E _ (by simp;omega),au,show r.bx.length+1-4=0 by omega];rfl
    simp only[bR,aq,cM,nU,au];cases hk:(e.cmd.kind==1)with
    | false=>
     cases C:decide (e.cmd.kind<=5)with
     | true=>
      simp only[aq,Bool.false_and,gU,ak,L C];rw[aG D,aG D.2,E _ (by omega),au]
     | false=>
      simp only[aq,Bool.false_and,gU,ak,hW2 C];rw[aG D,aG D.2,E _ (by omega),au]
    | true=>
     have C:decide (e.cmd.kind<=5)=true:=by
      have:e.cmd.kind=1:=by simpa using hk
      exact aW (by omega)
     simp only[ak,cM,C,L C,o1,o2,O];unfold DX;by_cases I:0<r.bx.length
     ·have T:(W6 ((r.bx.length:Int)-1))=((r.bx.length-1:Nat):Int):=by rw[bf (by omega) (by omega)];omega
      have hi:(W6 ((r.bx.length:Int)-1)).toNat<r.bx.length:=by rw[T];omega
      rw[aW (show (r.bx.length:Int) > 0 by omega),ak,aG ⟨by rw[T];omega,hi⟩,atz I hi (by omega)];dsimp only;rw[show decide (r.bx[(W6 ((r.bx.length:Int)-1)).toNat] >= e.at_)=decide (e.at_<=r.bx[(W6 ((r.bx.length:Int)-1)).toNat])from rfl];cases decide (e.at_<=r.bx[(W6 ((r.bx.length:Int)-1)).toNat])with
      |true=>rfl
      | false=>
       simp only[aq,gU,ak];rw[aG D,aG D.2];exact Q
     ·have I:r.bx=[]:=List.eq_nil_of_length_eq_zero (by omega);rw[br (by rw[I];simp),aq];rw[show r.bx.getLast?=none by rw[I];rfl];simp only[gU,ak];rw[aG D,aG D.2];exact Q
theorem afa{t:c8}(C:iV t=true)(g:aN)(a b:aI):1<=yS g t a b/\yS g t a b<=128:=by
 have D:=atx C a.kind b.kind (Oi g a b);have E:=ae7 C a.kind b.kind;unfold yS;cases Oh a b&&a.az==b.az<;>simp only[ak,aq]<;>omega
theorem atB{t:c8}(C:iV t=true):1<=t.nB/\t.nB<=64:=U4 C _ (by simp[pP])
theorem U6{T:Type}{p:T->Bool}{l:aa T}{i:Nat}{x:T}(h:l.all p=true)(D:p x=true):(l.set i x).all p=true:=by
 rw[cv]at h ⊢;intro y C;rcases List.mem_or_eq_of_mem_set C with C|rfl
 ·exact h y C
 ·exact D
theorem yT{g:aN}{r:cK}(h:oN g r=true):cF g=true/\(r.aF.length:Int)=aV g/\(0<=r.bg/\r.bg<=2)/\r.aF.all (yO g)=true/\(r.bg=2->(r.aF.all λb=>!b.open_)=true):=by
 simp only[oN,aK,eS,bC,dy,bne_iff_ne]at h;exact⟨h.1,h.2.1,h.2.2.1,h.2.2.2.1,λe=>h.2.2.2.2.resolve_left (λC=>C e)⟩
theorem DY{g:aN}{r:cK}(C:cF g=true)(D:(r.aF.length:Int)=aV g)(E:0<=r.bg/\r.bg<=2)(I:r.aF.all (yO g)=true)(J:r.bg=2->(r.aF.all λb=>!b.open_)=true):oN g r=true:=by
 simp only[oN,aK,eS,bC,dy,bne_iff_ne];refine⟨C,D,E,I,?_⟩;by_cases e:r.bg=2
 ·exact .inr (J e)
 ·exact .inl e
theorem afb{g:aN}{r:cK}{c:aI}(I:oN g r=true)(J:eK g c=true)(D:pR r c=true):oN g (fZ r c)=true:=by
 obtain⟨C,hlen,T,E,U⟩:=yT I;obtain⟨_,L,hb,_⟩:=Jf J;have Y:=fP C;have O:c.kind=1->0<=c.row/\c.row<=g.rows-1:=by
  intro h;simp only[eK,aK]at J;have:=J.2.2.2.1;rw[sO,h]at this
  simpa [bC]using this
 rcases kinds L with h|h|h|h|h|h|h|h|h
 ·have e:fZ r c=⟨r.aF.set c.az.toNat ⟨true,c.row⟩,r.bg⟩:=by simp[fZ,h]
  have Q:r.bg=0:=by simp[pR,h]at D;exact D.1
  rw[e];exact DY C (by simpa using hlen) (by omega) (U6 E (by simp only[yO,aK,bC];exact⟨O h,by simp⟩)) (λe=>by simp only at e;omega)
 ·have e:fZ r c=r:=by simp[fZ,h]
  rw[e];exact I
 ·have e:fZ r c=r:=by simp[fZ,h]
  rw[e];exact I
 ·have e:fZ r c=⟨r.aF.set c.az.toNat ⟨false,0⟩,r.bg⟩:=by simp[fZ,h]
  have Q:r.bg=0:=by simp[pR,h]at D;exact D.1
  rw[e];exact DY C (by simpa using hlen) (by omega) (U6 E (by simp only[yO,aK,bC];exact⟨by omega,by simp⟩)) (λe=>by simp only at e;omega)
 ·have e:fZ r c=r:=by simp[fZ,h]
  rw[e];exact I
 ·have e:fZ r c=⟨r.aF,1⟩:=by simp[fZ,h]
  rw[e];exact DY C hlen (by simp) E (λe=>by simp at e)
 ·have e:fZ r c=⟨r.aF,0⟩:=by simp[fZ,h]
  rw[e];exact DY C hlen (by simp) E (λe=>by simp at e)
 ·have e:fZ r c=⟨r.aF,2⟩:=by simp[fZ,h]
  rw[e];exact DY C hlen (by simp) E (λ_=>by simp[pR,h]at D;simpa using D.2)
 ·have e:fZ r c=⟨r.aF,0⟩:=by simp[fZ,h]
  rw[e];exact DY C hlen (by simp) E (λe=>by simp at e)
def sP(n k:Nat):aa Int:=List.replicate k (-1)++List.replicate (n-k) 0
theorem atC{n k:Nat}(h:k<=n):(sP n k).length=n:=by
 unfold sP;simp;omega
theorem atD{n k:Nat}(h:k<n):(sP n k).set k (-1)=sP n (k+1):=by
 obtain⟨m,rfl⟩:∃m,n=k+1+m:=⟨n-k-1,by omega⟩
 unfold sP;rw[show k+1+m-k=m+1 by omega,show k+1+m-(k+1)=m by omega,List.set_append_right _ _ (by simp),lX,Nat.sub_self,List.replicate_succ,List.set_cons_zero,List.replicate_succ',List.append_assoc];rfl
theorem atE(n:Nat):sP n 0=List.replicate n 0:=by simp[sP]
theorem atF(n:Nat):sP n n=List.replicate n (-1):=by simp[sP]
theorem afc(n:Nat)(C:n<1073741824):GA (n:Int)=some (List.replicate n (-1)):=by
 have e:=dx (step:=Gz) n (λi=>(((n:Int),(),(i:Int),()),(sP n i,()))) (.inl (((),()),(sP n n,()))) aZ (λk h=>by
  have hl:=atC (show k<=n by omega);unfold Gz aB xG xL;dsimp only;rw[aW (by omega),ak,aG ⟨by omega,by omega⟩,aG (by omega),bP (by omega),bJ,atD h]) (by
  unfold Gz aB xG xL;dsimp only;rw[br (by omega),aq]) (bY (by omega))
 unfold GA bw;rw[bk ⟨by omega,by omega,by omega⟩,bJ];rw[atE,atF,cA]at e;exact(bD (λo=>Option.bind o _) e).trans rfl
def Ol(g:aN):dM:=⟨List.replicate (9*(aV g+1)).toNat (-1),[]⟩
theorem atG{g:aN}(C:cF g=true):Mf g=some (Ol g):=by
 have hb:=fG g;obtain⟨n,D⟩:∃n:Nat,9*(aV g+1)=(n:Int):=⟨(9*(aV g+1)).toNat,by omega⟩
 unfold Mf Ol;rw[DT,au,C,bR,aq,nU,au,w9,D,afc n (by omega),au,bJ]
theorem atH(g:aN)(r:dM)(e:fj):(vX g r e).last.length=r.last.length/\(r.bx.length<=4->(vX g r e).bx.length<=4):=by
 unfold vX;cases (lT g r&&(eK g e.cmd&&(aJ e.at_ 0 1000000 && !(e.cmd.kind==1&&DX r e.at_))))with
 |false=>exact⟨rfl,id⟩
 | true=>
  refine⟨by simp,λh=>?_⟩
  simp only[ak];cases e.cmd.kind==1 with
  |false=>exact h
  | true=>
   simp only[ak,Jg,List.length_drop,mK,ij];omega
def Om(x:dF):Prop:=(x.weights.length<=1048576)
def place(l:aa aM)(id:Int):Int:=match l.findIdx? (λr=>r.id==id)with
 |some i=>(i:Int)
 |none=>-1
theorem atI(x y:Int):(x==y)=(y==x):=Bool.eq_iff_iff.2 ⟨λh=>by simpa using (by simpa using h:x=y).symm,λh=>by simpa using (by simpa using h:y=x).symm⟩
def hU(g:aN)(a:aL):Nat:=(vV g a).toNat
theorem Jh{g:aN}{a:aL}(h:dA g a=true):vV g a=(hU g a:Int)/\(hU g a:Int)<cX g:=by
 have:=aej h;unfold hU;omega
theorem fD.lt{g:aN}{B:Int}{a:dP}(C:fD g B a){at_:aL}(h:dA g at_=true):hU g at_<a.cells.length:=by
 have:=Jh h;have:=C.cells;omega
theorem fD.Bv{g:aN}{B:Int}{a:dP}(C:fD g B a)(k:Nat){c:bW}(D:Sy c.symbols):fD g B ⟨a.cells.set k c,a.bI,a.bG⟩:=
 ⟨by simp[C.cells],Sy.bL C.syms D,C.bI,C.bG,C.I4,C.oM⟩
def rJ(R row:Int):aa Int:=(bif decide (0<row)then [row-1]else [])++(bif decide (row<R-1)then [row+1]else [])
theorem atJ{R row:Int}(J:2<=R)(L:R<=16)(O:0<=row)(Q:row<R):IN R row=some (rJ R row):=by
 unfold IN rJ;have C:aJ R 2 16=true:=by rw[bC];omega
 have D:aJ row 0 (R-1)=true:=by rw[bC];omega
 rw[fC,au,C,bf (n:=R-1) (by omega) (by omega),fC,bf (n:=row-1) (by omega) (by omega),bf (n:=row+1) (by omega) (by omega)];by_cases E:0<row<;>by_cases I:row<R-1<;>simp[D,E,I,aT]
theorem atK{R row:Int}(I:0<=row)(J:row<R):∀ n∈rJ R row,0<=n/\n<R:=by
 intro n C;unfold rJ at C;by_cases D:0<row<;>by_cases E:row<R-1<;>simp[D,E]at C<;>omega
theorem atM(y:Int):0<=bits .and .i64 y 15/\bits .and .i64 y 15<=15:=by
 have e:bits .and .i64 y 15=IntKind.wrap .i64 ((BitVec.ofInt 64 y &&& BitVec.ofInt 64 15).toNat:Int):=rfl;have h:(BitVec.ofInt 64 y &&& BitVec.ofInt 64 15).toNat<=15:=by
  rw[BitVec.toNat_and];exact Nat.le_trans Nat.and_le_right (by decide)
 rw[e,IntKind.wrap_i64];omega
theorem afd{n:Int}(C:0<=n)(D:n<18446744073709551616):IntKind.u64.wrap n=n:=by
 have:IntKind.u64.wrap n=n % 18446744073709551616:=rfl;rw[this];omega
def okB(C s1 s2 i:Nat):Bool:=!Nat.beq C 0&&(Nat.beq (gm C (pw i)) s1&&Nat.beq (gm s1 (pw i)) s2)
def loc(C s1 s2:Nat):aj Nat:=(List.range 11).find? (okB C s1 s2)
theorem atO:((List.range 11).all λn=>Dk 2 (Int.ofNat n)==some (Int.ofNat (pw n)))=true:=by kernel_rfl
theorem Ji{n:Nat}(h:n<11):Dk 2 (n:Int)=some (pw n:Int):=eq_of_beq (cv.1 atO n (eD.2 h))
theorem atP:((List.range 11).all λi=>(List.range 3).all λj=>Nat.beq (gm (pw (i*j)) (pw i)) (pw (i*(j+1))))=true:=by kernel_rfl
theorem atQ{i j:Nat}(hi:i<11)(C:j<3):gm (pw (i*j)) (pw i)=pw (i*(j+1)):=bQ (cv.1 (cv.1 atP i (eD.2 hi)) j (eD.2 C))
def sQ(w:aa Nat)(i:Nat):aa Int:=[(bU w 0 i:Int),(bU w 1 i:Int),(bU w 2 i:Int)]
def U7(w:aa Nat)(i:Nat):Nat->aa Int
 |0=>[(bU w 0 i:Int),(bU w 1 i:Int),(bU w 2 i:Int)]
 |1=>[(bU w 0 (i+1):Int),(bU w 1 i:Int),(bU w 2 i:Int)]
 |2=>[(bU w 0 (i+1):Int),(bU w 1 (i+1):Int),(bU w 2 i:Int)]
 |_=>[(bU w 0 (i+1):Int),(bU w 1 (i+1):Int),(bU w 2 (i+1):Int)]
theorem atT{w:aa Nat}(L:dL w)(hl:w.length=11){i:Nat}(hi:i<11):iter Dq aZ ((aX w,(),(i:Int),(1:Int),(pw i:Int),(0:Int),()),(sQ w i,()))=some (.inl ((aX w,(),(i:Int),()),(sQ w (i+1),()))):=by
 have J:i<(aX w).length:=by rw[gi];omega
 have O:(aX w)[i]=((w.getD i 0:Nat):Int):=tZ J;have Q:=L.get i;have D:∀ j,bits .xor .i64 ((bU w j i:Nat):Int) ((gm (w.getD i 0) (pw (i*j)):Nat):Int)=((bU w j (i+1):Nat):Int):=λj=>by
  rw[rC (ua w j i) (fY _ _)];rfl
 have E:=λj=>I1 Q (sL (i*j))
 have C:∀ j,j<3->sH ((pw (i*j):Nat):Int) ((pw i:Nat):Int)=some ((pw (i*(j+1)):Nat):Int):=λj I=>by
  rw[I1 (sL (i*j)) (sL i),atQ hi I]
 generalize aX w=W at *
 generalize w.getD i 0=c at *
 have e:=dx (step:=Dq) 3 (λj=>((W,(),(i:Int),(pw (i*j):Int),(pw i:Int),(j:Int),()),(U7 w i j,()))) (.inl ((W,(),(i:Int),()),(sQ w (i+1),()))) aZ (λj I=>by
  have E:=E j;have C:=C j I;have D:=D j;generalize pw (i*(j+1))=a at C ⊢;generalize pw (i*j)=d at E C D ⊢;unfold Dq aB xG xI xL;rcases(by omega:j=0\/j=1\/j=2)with rfl|rfl|rfl<;>simp[U7,J,O,E,C,D]<;>rfl) (by unfold Dq aB xG xI xL;simp[U7,sQ]) (bY (by omega))
 have T:pw (i*0)=1:=by rw[Nat.mul_zero];rfl
 rw[cA,T]at e;exact e
theorem atU{w:aa Nat}(C:dL w)(hl:w.length=11):MI (aX w)=some (sQ w 11):=by
 have D:=(I5 C hl).ok;unfold MI bw;rw[NY _ _ (by rw[gi];omega),D,au];have e:=dx (step:=Hh) 11 (λi=>((aX w,(),(i:Int),()),(sQ w i,()))) (.inl (((),()),(sQ w 11,()))) aZ (λi hi=>by
  have E:i<w.length:=by omega
  unfold Hh aB xG bw;simp (disch:=omega) [gi,E,Ji hi,atT C hl hi,bP]) (by unfold Hh aB xG bw;simp[gi,hl]) (bY (by omega))
 rw[cA]at e;have I:(List.replicate (3:Int).toNat (0:Int))=sQ w 0:=rfl;simp only[bR,aq];rw[I,e];rfl
def n6(w:aa Nat):Bool:=Nat.beq (bU w 0 11) 0&&(Nat.beq (bU w 1 11) 0&&Nat.beq (bU w 2 11) 0)
def gO(w:aa Nat):aa Nat×Int×Int:=bif n6 w then (w,0,-1)else match loc (bU w 0 11) (bU w 1 11) (bU w 2 11)with
 |some k=>(w.set k (w.getD k 0 ^^^ bU w 0 11),1,(k:Int))
 |none=>(w,2,-1)
theorem On(n m:Nat):((n:Int)==(m:Int))=Nat.beq n m:=by
 cases h:Nat.beq n m with
 |true=>obtain rfl:=bQ h;simp
 | false=>
  have:n≠m:=by rintro rfl;simp at h
  simp;omega
theorem atV{C s1 s2:Nat}(h:loc C s1 s2=none):∀ i,i<11->okB C s1 s2 i=false:=by
 intro i hi;have:=List.find?_eq_none.1 h i (eD.2 hi)
 simpa using this
theorem afe{D s1 s2 k:Nat}(h:loc D s1 s2=some k):k<11/\okB D s1 s2 k=true/\∀ i,i<k->okB D s1 s2 i=false:=by
 refine⟨eD.1 (List.mem_of_find?_eq_some h),List.find?_some h,λi hi=>?_⟩
 obtain⟨Q,l1,l2,E,J⟩:=List.find?_eq_some_iff_append.1 h;have L:l1.length=k/\l1=List.range k:=by
  have C:(List.range 11)[l1.length]?=some k:=by rw[E];simp
  have O:l1.length<11:=by have:=bD List.length E;simp at this;omega
  rw[List.getElem?_range O]at C;injection C with C;refine⟨C,?_⟩;have I:(List.range 11).take l1.length=l1:=by rw[E];simp
  rw[List.take_range,Nat.min_eq_left (by omega),C]at I;exact I.symm
 have:=J i (by rw[L.2];exact eD.2 hi)
 simpa using this
theorem atW{w:aa Nat}(O:dL w)(hl:w.length=11):MJ (aX w)=some (aX (gO w).1,(gO w).2.1,(gO w).2.2):=by
 have hs:=(I5 O hl).ok;have ho:aT w.length=true:=dh (by omega);have U:∀n:Nat,((n:Int)==(0:Int))=Nat.beq n 0:=λn=>On n 0
 have Y:=ua w 0 11;have yg:=ua w 1 11;unfold MJ Ds cg xI;rw[NY _ _ (by rw[gi];omega),hs,au,atU O hl];have Z:Ds (sQ w 11)=some (n6 w):=by
  unfold Ds n6 xI;cases h1:Nat.beq (bU w 0 11) 0<;>cases h2:Nat.beq (bU w 1 11) 0<;>simp[sQ,U,h1,h2]
 have E:∀i (h:i<(aX w).length),(aX w)[i]=((w.getD i 0:Nat):Int):=λi h=>tZ h
 have D:∀ k,(aX w).set k (bits .xor .i64 ((w.getD k 0:Nat):Int) ((bU w 0 11:Nat):Int))=aX (w.set k (w.getD k 0 ^^^ bU w 0 11)):=λk=>by
  rw[rC (O.get k) Y,UH]
 have hlen:(aX w).length=11:=by rw[gi,hl]
 unfold Ds xI at Z;unfold gO n6 at *
 simp only[bR,aq,au];rw[Z,au,dh (by simp[hlen])];cases hz:(Nat.beq (bU w 0 11) 0&&(Nat.beq (bU w 1 11) 0&&Nat.beq (bU w 2 11) 0))with
 |true=>simp
 | false=>
  simp only[aq,ak,List.nil_append];unfold sQ;generalize hW:aX w=W at E D hlen ⊢;generalize hg0:bU w 0 11=C at *
  generalize hg1:bU w 1 11=s1 at *
  generalize EY:bU w 2 11=s2 at *
  have step:∀ i:Nat,i<11->AM (((),(),(i:Int),()),(W,[(C:Int),(s1:Int),(s2:Int)],()))=some (bif okB C s1 s2 i then .inr (.inl (((),1,(i:Int),()),(aX (w.set i (w.getD i 0 ^^^ C)),())))else .inl (((),(),((i+1:Nat):Int),()),(W,[(C:Int),(s1:Int),(s2:Int)],()))):=by
   intro i hi;have dn:i<W.length:=by omega
   have I:(i:Int)<11:=by omega
   have Q:=I1 Y (sL i);have m2:=I1 yg (sL i);have E:=E i dn;have D:=D i;generalize w.getD i 0=c at E D ⊢;generalize aX (w.set i (c ^^^ C))=R at D ⊢;unfold AM okB aB bq xG xL;have J:((C:Int) != (0:Int)) = !Nat.beq C 0:=by rw[bne,U]
   cases L:Nat.beq C 0 with
   |true=>simp (disch:=omega) [I,Ji hi,J,L,bP]
   | false=>
    cases T:Nat.beq (gm C (pw i)) s1 with
    |false=>simp (disch:=omega) [I,Ji hi,J,L,Q,On,T,bP]
    | true=>
     cases q2:Nat.beq (gm s1 (pw i)) s2 with
     |false=>simp (disch:=omega) [I,Ji hi,J,L,Q,m2,On,T,q2,bP]
     |true=>simp (disch:=omega) [I,Ji hi,J,L,Q,m2,On,T,q2,dn,E,D]
  cases Fj:loc C s1 s2 with
  | none=>
   have hn:=atV Fj;have e:=dx (step:=AM) 11 (λi=>(((),(),(i:Int),()),(W,[(C:Int),(s1:Int),(s2:Int)],()))) (.inr (.inl (((),()),(W,())))) aZ (λi hi=>by rw[step i hi,hn i hi];rfl) (by unfold AM aB bq xG xL;simp) (bY (by omega));rw[cA]at e;rw[e];simp only[Option.bind_some,Sum.elim_inr,eO];rw[hW]
  | some k=>
   obtain⟨hk,iA,hlo⟩:=afe Fj;have e:=dx (step:=AM) k (λi=>(((),(),(i:Int),()),(W,[(C:Int),(s1:Int),(s2:Int)],()))) (.inl (((),1,(k:Int),()),(aX (w.set k (w.getD k 0 ^^^ C)),()))) aZ (λi hi=>by rw[step i (by omega),hlo i hi];rfl) (by rw[step k hk,iA];rfl) (bY (by omega));rw[cA]at e;rw[e];rfl
theorem Jj{w:aa Nat}(C:dL w)(hl:w.length=11):(gO w).1.length=11/\dL (gO w).1/\((gO w).2.1=0\/(gO w).2.1=1\/(gO w).2.1=2):=by
 have D:=ua w 0 11;unfold gO;cases n6 w with
 |true=>exact⟨hl,C,.inl rfl⟩
 | false=>
  simp only[aq];cases loc (bU w 0 11) (bU w 1 11) (bU w 2 11)with
  |none=>exact⟨hl,C,.inr (.inr rfl)⟩
  |some k=>exact⟨by simp[hl],C.set (lQ (C.get k) D),.inr (.inl rfl)⟩
theorem atX:(kS λa=>(List.range 11).all λk=>Nat.beq (gm (gm a (pw k)) (pw k)) (gm a (pw (k*2))))=true:=by kernel_rfl
theorem atY{w:aa Nat}(O:dL w)(hl:w.length=11)(h:(gO w).2.1≠2):n6 (gO w).1=true:=by
 unfold gO at h ⊢;cases E:n6 w with
 |true=>rw[ak];exact E
 | false=>
  rw[E,aq]at h;simp only[aq];cases I:loc (bU w 0 11) (bU w 1 11) (bU w 2 11)with
  |none=>rw[I]at h;exact absurd rfl h
  | some k=>
   obtain⟨J,C,_⟩:=afe I;have D:=ua w 0 11;simp only[okB,aK]at C;have L:=bQ C.2.1;have Q:=bQ C.2.2;have u:=λj=>aey O hl D J j
   have T:gm (bU w 0 11) (pw (k*0))=bU w 0 11:=by rw[Nat.mul_zero];exact ash D
   have U:gm (bU w 0 11) (pw (k*2))=bU w 2 11:=by
    rw[<-bQ (cv.1 (iU atX D) k (eD.2 J)),L,Q]
   simp only[n6,aK];rw[u 0,u 1,u 2,T,Nat.mul_one,L,U,Nat.xor_self,Nat.xor_self,Nat.xor_self];exact⟨rfl,rfl,rfl⟩
def DZ(x:gz):Prop:=Om x.bZ/\Om x.next
def aff(x:cK):Prop:=(x.aF.length<=1048576)
def atZ(x:dM):Prop:=(x.last.length<=1048576)/\(x.bx.length<=1048576)
def U8(x:bW):Prop:=(x.symbols.length<=1048576)
def Oo(x:dP):Prop:=(x.cells.length<=1048576/\∀y∈x.cells,U8 y)/\(x.bI.length<=1048576)/\(x.bG.length<=1048576)
def at0(x:c9):Prop:=(x.map.length<=1048576)
def Bw(x:dc):Prop:=(x.aU.length<=1048576)
def kU(x:cw):Prop:=(x.rows.length<=1048576)/\(x.counts.length<=1048576)
def dO(x:av):Prop:=DZ x.box/\aff x.bh/\atZ x.ready/\Oo x.array/\at0 x.spare/\Bw x.bu/\(x.bN.length<=1048576/\∀y∈x.bN,kU y)/\(x.guard.length<=1048576)/\(x.pending.length<=1048576)/\(x.queue.length<=1048576)/\(x.shares.length<=1048576)/\(x.errors.length<=1048576)/\(x.trace.length<=1048576)/\(x.cC.length<=1048576)
def mG(c:eH)(p:dF):Bool:=(ry c p).getD false
theorem Jk(c:eH)(p:dF)(hl:p.weights.length<1073741823):ry c p=some (mG c p):=by
 obtain⟨b,e,_⟩:=UX c p hl;unfold mG;rw[e];rfl
theorem afg(c:eH)(p:dF)(hl:p.weights.length<1073741823):AF c p=some (mG c p):=by
 obtain⟨b,e,C,_⟩:=asY c p hl;unfold mG;rw[e,C];rfl
theorem ba1(a x:Bool):(bif a then some x else some false)=some (a&&x):=by cases a<;>rfl
theorem ba2(a x:Bool):(bif !a then some false else some x)=some (a&&x):=by cases a<;>rfl
theorem ba3(a b:Int)(x:Bool):(bif a != b then some false else some x)=some (a==b&&x):=by
 rw[bne];cases a==b<;>rfl
theorem ba4(p:Prop)[Decidable p](x:Bool):(bif decide p then some false else some x)=some (!decide p&&x):=by cases decide p<;>rfl
def dU(c:av):Bool:=
 mG c.config c.box.bZ&&(mG c.config c.box.next&&(aJ c.now 0 1000000&&(oN c.config.ay c.bh&&(lT c.config.ay c.ready&&(pO c.config.ay c.array&&(jV c.config.ay c.spare&&(c.spare.bH==c.config.bH&&((fq c.bu&&rI c)&&(eV (cX (cU c.config.ay c.spare)) c.queue&&(gj c.shares&&((c.shares.length:Int)==4&&(lS c.drain&&(ji c.bg&&(c.bg.state==c.bh.bg&&(!decide (c.bg.since > c.now)&&(aJ c.cT.every 1 100000&&(aJ c.cT.wait 1 c.cT.every&&(aJ c.cT.next 0 (W6 (cX c.config.ay-1))&&(mE c.errors&&(decide ((c.trace.length:Int)<=2000)&&decide ((c.cC.length:Int)<=400)))))))))))))))))))))
theorem afh(c:av)(C:dO c):yF c=some (dU c):=by
 obtain⟨⟨D,E⟩,Q,⟨T,U⟩,⟨⟨Y,I⟩,Z,z8⟩,z9,J,⟨kV,axv⟩,jz,jA,jB,mH,z16,z17,z18⟩:=C;unfold Om at D E;have L:∀ x∈c.array.cells,x.symbols.length<1073741824:=λx O=>by
  have:=I x O;unfold U8 at this;omega
 unfold Bw at J;unfold yF dU;simp only[Jk _ _ (show c.box.bZ.weights.length<1073741823 by omega),Jk _ _ (show c.box.next.weights.length<1073741823 by omega),fC,asZ,ate,asz _ _ L,aeY,atn _ (show c.bu.aU.length<1073741824 by omega),Oe,NV,U0 _ _ (show c.queue.length<1073741824 by omega),I7 _ (show c.shares.length<1073741824 by omega),aeN,as4,as7 _ (show c.errors.length<1073741824 by omega),au,ba1,ba2,ba3,ba4]
theorem at3{g:aN}{a:dP}(h:pO g a=true):cF g=true/\(a.bI.length:Int)=gw g/\(a.bG.length:Int)=gw g:=by
 simp only[pO,aK,fH]at h;exact⟨h.1,h.2.2.1,h.2.2.2.1⟩
def afi(p:dF):Prop:=(0<=p.eT/\p.eT<=1)/\(0<=p.cap/\p.cap<=200)/\(0<=p.low/\p.low<=2)/\(p.low<p.high/\p.high<=6)/\(∃(i:Nat) (w:Int),i<4/\1<=w/\w<=4/\p.weights=[1,1,1,1].set i w)/\(5<=p.dW.down/\p.dW.down<=24)/\(60<=p.dW.sleep/\p.dW.sleep<=119)
def vY(p:dF):Prop:=afi p/\8<=p.eB/\p.eB<=17
theorem at4{b:aa Int}{c:bF}(L:jx b c):Dr b (Nj c) afi:=by
 unfold Nj xL;rw[L.eq];show Dr b (Option.bind (some _) _) _;rw[au]
 refine(eU L 2).bind λx1 k1 O Q=>?_
 dsimp only;rw[Q.eta]
 refine(N0 Q _ (by decide)).bind λT k2 h2 U=>?_
 dsimp only;rw[U.eta]
 refine(eU U 6).bind λx3 k3 Y Z=>?_
 dsimp only;rw[Z.eta]
 refine(eU Z 3).bind λC k4 D tR=>?_
 dsimp only;rw[tR.eta]
 refine(eU tR 4).bind λE k5 h5 Ao=>?_
 dsimp only;rw[Ao.eta]
 refine(eU Ao 4).bind λx6 k6 h6 Jl=>?_
 dsimp only;rw[Jl.eta]
 refine(eU Jl 4).bind λx7 k7 h7 Jm=>?_
 have a1:=O.2.2 (by omega);have a3:=Y.2.2 (by omega);have a4:=D.2.2 (by omega);have a5:=h5.2.2 (by omega);have a6:=h6.2.2 (by omega);have a7:=h7.2.2 (by omega);have b3:=Y.1;have b4:=D.1;have b5:=h5.1;have b6:=h6.1;have b7:=h7.1;have hl:x6.toNat<([1,1,1,1]:aa Int).length:=by simp only[kB,List.length_nil];omega
 dsimp only;rw[aG ⟨b6,hl⟩,aG hl,Jm.eta]
 refine(eU Jm 20).bind λI k8 h8 hk8=>?_
 dsimp only;rw[hk8.eta]
 refine(eU hk8 60).bind λJ k9 h9 Bu=>?_
 dsimp only;rw[Bu.eta];have a8:=h8.2.2 (by omega);have a9:=h9.2.2 (by omega);have b8:=h8.1;have b9:=h9.1;rw[bf (n:=3+x3) (by omega) (by omega),bf (n:=C+1) (by omega) (by omega),bf (n:=C+1+E) (by omega) (by omega),bf (n:=1+x7) (by omega) (by omega),bf (n:=5+I) (by omega) (by omega),bf (n:=60+J) (by omega) (by omega)];simp only[fF,List.not_mem_nil,or_false]at h2;refine Dr.pure Bu ⟨⟨O.1,by show x1<=_;omega⟩,⟨by show 0<=T;omega,by show T<=_;omega⟩,⟨D.1,by show C<=_;omega⟩,⟨by show C<C+1+E;omega,by show C+1+E<=_;omega⟩,⟨x6.toNat,1+x7,by omega,by omega,by omega,rfl⟩,⟨by show 5<=5+I;omega,by show 5+I<=_;omega⟩,⟨by show 60<=60+J;omega,by show 60+J<=_;omega⟩⟩
theorem afj{b:aa Int}{c:bF}(C:jx b c):Dr b (HY c) vY:=by
 unfold HY;rw[C.eq]
 refine(at4 C).bind λO Q L D=>?_
 dsimp only;rw[D.eta]
 refine(eU D 10).bind λE T I J=>?_
 dsimp only;rw[J.eta];have U:=I.2.2 (by omega);have Y:=I.1;rw[bf (by omega) (by omega)];exact Dr.pure J ⟨L,by show 8<=8+E;omega,by show 8+E<=_;omega⟩
theorem at5{b:aa Int}{c:bF}(C:jx b c):Dr b (L5 c) λg=>g.ck=1/\1<=g.aF/\g.aF<=2/\1<=g.aO/\g.aO<=2:=by
 unfold L5;rw[C.eq]
 refine(eU C 2).bind λD U E I=>?_
 dsimp only;rw[I.eta]
 refine(eU I 3).bind λY Z J L=>?_
 dsimp only;rw[L.eta]
 refine(eU L 2).bind λO k3 Q T=>?_
 dsimp only;rw[T.eta];have a1:=E.2.2 (by omega);have a2:=J.2.2 (by omega);have a3:=Q.2.2 (by omega);have b1:=E.1;have b2:=J.1;have b3:=Q.1;rw[bf (by omega) (by omega),bf (by omega) (by omega),bf (by omega) (by omega)];exact Dr.pure T ⟨rfl,by show 1<=1+D;omega,by show 1+D<=_;omega,by show 1<=1+O;omega,by show 1+O<=_;omega⟩
theorem at6{b:aa Int}{c:bF}(C:jx b c):Dr b (L6 c) λm=>0<=m.order/\m.order<=2:=by
 unfold L6;rw[C.eq]
 refine(eU C 3).bind λJ L D E=>?_
 dsimp only;rw[E.eta]
 refine(N1 E 2).bind λO Q T I=>?_
 dsimp only;rw[I.eta];have U:=D.2.2 (by omega);exact Dr.pure I ⟨D.1,by show J<=2;omega⟩
def U9(jk wr:Int):c8:=⟨3,3,7,2,3,10,2,3,jk,wr,4,5,4,12,3,4,16⟩
def Oq(g:aN):Prop:=(1<=g.ck/\g.ck<=2)/\(1<=g.aF/\g.aF<=2)/\(4<=g.rows/\g.rows<=6)/\(1<=g.aO/\g.aO<=2)
def uf(x:eH):Prop:=Oq x.ay/\(∃r w:Int,1<=r/\r<=4/\4<=w/\w<=8/\x.cc=U9 r w)/\(0<=x.mapping.order/\x.mapping.order<=2)/\(0<=x.bH/\x.bH<=2)/\(200<=x.interval/\x.interval<=259)/\x.ir=16/\x.ew=⟨6*x.interval,40⟩
theorem at7{b:aa Int}{c:bF}(J:jx b c):Dr b (L7 c) uf:=by
 unfold L7;rw[J.eq]
 refine(at5 J).bind λg kg hg L=>?_
 dsimp only;rw[L.eta];obtain⟨g1,g2,g3,g4,g5⟩:=hg;show Dr b (Option.bind (some _) _) _;rw[au]
 refine(at6 L).bind λm km O Q=>?_
 dsimp only;rw[Q.eta]
 refine(eU Q 60).bind λC k1 T U=>?_
 dsimp only;rw[U.eta]
 refine(eU U 3).bind λD k2 Y Z=>?_
 dsimp only;rw[Z.eta]
 refine(eU Z 2).bind λE k3 h3 ya=>?_
 dsimp only;rw[ya.eta]
 refine(eU ya 3).bind λx4 k4 h4 tR=>?_
 dsimp only;rw[tR.eta]
 refine(N1 tR 3).bind λx5 k5 h5 I=>?_
 dsimp only;rw[I.eta];have a1:=T.2.2 (by omega);have a2:=Y.2.2 (by omega);have a3:=h3.2.2 (by omega);have a4:=h4.2.2 (by omega);have b1:=T.1;have b2:=Y.1;have b3:=h3.1;have b4:=h4.1;have e1:W6 (200+C)=200+C:=bf (by omega) (by omega);have e2:W6 (6*(200+C))=6*(200+C):=bf (by omega) (by omega);have e3:W6 (4+D)=4+D:=bf (by omega) (by omega);have e4:W6 (1+E)=1+E:=bf (by omega) (by omega);rw[e1,e2,e3,e4];have hG:Oq ⟨1+E,g.aF,4+D,g.aO⟩:=⟨⟨by show 1<=1+E;omega,by show 1+E<=2;omega⟩,⟨g2,g3⟩,⟨by show 4<=4+D;omega,by show 4+D<=6;omega⟩,⟨g4,g5⟩⟩
 cases x5 with
 | true=>
  rw[ak]
  refine(eU I 5).bind λx6 k6 h6 Jl=>?_
  dsimp only;rw[Jl.eta]
  refine(eU Jl 4).bind λx7 k7 h7 Jm=>?_
  dsimp only;rw[Jm.eta];have a6:=h6.2.2 (by omega);have a7:=h7.2.2 (by omega);have b6:=h6.1;have b7:=h7.1;rw[bf (n:=1+x7) (by omega) (by omega),bf (n:=4+x6) (by omega) (by omega)];exact Dr.pure Jm ⟨hG,⟨1+x7,4+x6,by omega,by omega,by omega,by omega,rfl⟩,O,⟨b4,by show x4<=2;omega⟩,⟨by show 200<=200+C;omega,by show 200+C<=259;omega⟩,rfl,rfl⟩
 |false=>exact Dr.pure I ⟨hG,⟨3,6,by omega,by omega,by omega,by omega,rfl⟩,O,⟨b4,by show x4<=2;omega⟩,⟨by show 200<=200+C;omega,by show 200+C<=259;omega⟩,rfl,rfl⟩
def fy(p:aM->Bool)(q:aa aM):Nat:=(q.findIdx? p).getD q.length
theorem Jn(p:aM->Bool)(q:aa aM):fy p q<=q.length:=by
 unfold fy;cases h:q.findIdx? p with
 |none=>exact dV _
 | some k=>
  obtain⟨C,_⟩:=nA.1 h;exact Nat.le_of_lt C
def fU(p:aM->Bool)(q:aa aM)(r:aM):aa aM:=(q.take (fy p q)++[r])++q.drop (fy p q)
theorem Ot(p:aM->Bool)(q:aa aM)(r:aM):(fU p q r).length=q.length+1:=by
 have:=Jn p q;simp[fU];omega
theorem afk{p:aM->Bool}{q:aa aM}{i:Nat}(h:i<fy p q)(hi:i<q.length):p q[i]=false:=by
 unfold fy at h;cases C:q.findIdx? p with
 | none=>
  have:=List.findIdx?_eq_none_iff.1 C q[i] (cP hi)
  simpa using this
 | some k=>
  rw[C]at h;obtain⟨_,_,D⟩:=nA.1 C;have:=D i h
  simpa using this
theorem afl{p:aM->Bool}{q:aa aM}(h:fy p q<q.length):p q[fy p q]=true:=by
 unfold fy at h;cases C:q.findIdx? p with
 |none=>rw[C]at h;simp at h
 | some k=>
  obtain⟨E,D,_⟩:=nA.1 C;have e:fy p q=k:=by unfold fy;rw[C];rfl
  simp only[e];exact D
theorem Va{n:Int}{l:aa aM}(h:eV n l=true){i j:Nat}(E:i<j)(D:j<l.length):(l[i].id==l[j].id)=false:=by
 unfold eV at h;rw[aK,cv]at h;have C:=h.1 j (eD.2 D);unfold oO at C;rw[bK D]at C;simp only[aK,fM,iW]at C;have:=C.2.2 l[i] (iX.2 ⟨i,by simp;omega,by simp⟩)
 simpa using this
theorem Vb{n:Int}{p:aM->Bool}{q:aa aM}{r:aM}(h:eV n (fU p q r)=true):∀ x∈q,(x.id==r.id)=false:=by
 intro x D;have E:=Jn p q;have hl:=Ot p q r;obtain⟨i,hi,rfl⟩:=iX.1 D;have C:(fU p q r)[fy p q]'(by omega)=r:=by
  unfold fU;rw[List.getElem_append_left (by simp;omega),List.getElem_append_right (by simp;omega)];simp
 by_cases c:i<fy p q
 ·have e:(fU p q r)[i]'(by omega)=q[i]:=by
   unfold fU;rw[List.getElem_append_left (by simp;omega),List.getElem_append_left (by simp;omega),List.getElem_take]
  have:=Va h c (by omega);rw[e,C]at this;exact this
 ·have e:(fU p q r)[i+1]'(by omega)=q[i]:=by
   unfold fU;rw[List.getElem_append_right (by simp;omega),List.getElem_drop];congr 1;simp;omega
  have:=Va h (show fy p q<i+1 by omega) (by omega);rw[e,C]at this;rw[atI];exact this
theorem afm{p C:aM->Bool}:∀ {q:aa aM},(∀ x∈q,p x=C x)->q.findIdx? p=q.findIdx? C
 |[],_=>rfl
 | y :: q,h=>by
  rw[List.findIdx?_cons,List.findIdx?_cons,h y (.head _),afm λx D=>h x (.tail _ D)]
theorem afn{n:Int}{q:aa aM}{r:aM}(h:eV n (fU (λx=>!cJ x r) q r)=true\/eV n (fU (λx=>cJ r x) q r)=true):fU (λx=>!cJ x r) q r=fU (λx=>cJ r x) q r:=by
 have E:∀ x∈q,(x.id==r.id)=false:=by
  rcases h with h|h
  ·exact Vb h
  ·exact Vb h
 have C:∀ x∈q,(!cJ x r)=cJ r x:=by
  intro x C;have D:=E x C;have D:¬ x.id=r.id:=by simpa using D
  unfold cJ;rw[Bool.eq_iff_iff];simp only[fM,lZ,Bool.and_eq_false_iff,lY,beq_eq_false_iff_ne,dy,aK,fH,eS];omega
 have e:fy (λx=>!cJ x r) q=fy (λx=>cJ r x) q:=by
  unfold fy;rw[afm C]
 unfold fU;rw[e]
def rK(n:Int)(q:aa aM)(r:aM):aa aM×Bool:=bif eV n q&&eV n (fU (λx=>cJ r x) q r)then (fU (λx=>cJ r x) q r,true)else (q,false)
theorem Vc(q:aa aM)(h:q.length<1073741824):II q=some q:=by
 unfold II;rw[dh (by simpa using h)];rfl
theorem Jo(r:aM):(⟨r.id,r.dj,r.line,r.write,r.data,r.at_⟩:aM)=r:=rfl
theorem at8(n:Int)(q:aa aM)(r:aM)(hl:q.length<1000000000):NF n q r=some (rK n q r):=by
 have E:=Jn (λx=>!cJ x r) q;unfold NF bw;have e:=dx (step:=IJ) (fy (λx=>!cJ x r) q) (λi=>((n,q,(),(i:Int),()),((r.id,r.dj,r.line,r.write,r.data,r.at_,()),()))) (.inl ((n,q,(),((fy (λx=>!cJ x r) q:Nat):Int),()),((r.id,r.dj,r.line,r.write,r.data,r.at_,()),()))) aZ (λk h=>by
  have C:=afk h (by omega);have C:cJ q[k] r=true:=by simpa using C
  unfold IJ aB xG xI;dsimp only;rw[aW (by omega),ak,aG ⟨by omega,by omega⟩];simp only[bJ];rw[Jo,Oa,au,C,ak,bP (by omega)]) (by
  unfold IJ aB xG xI;dsimp only;by_cases c:fy (λx=>!cJ x r) q<q.length
  ·have C:=afl c;have C:cJ q[fy (λx=>!cJ x r) q] r=false:=by simpa using C
   rw[aW (by omega),ak,aG ⟨by omega,by omega⟩];simp only[bJ];rw[Jo,Oa,au,C,aq]
  ·rw[br (by omega),aq]) (bY (by omega))
 rw[cA]at e;rw[e,au];simp only[eO];rw[bk ⟨by omega,by omega,by omega⟩,bk ⟨by omega,by omega,by omega⟩];simp only[bJ,Int.toNat_zero,List.drop_zero,jF];rw[Jo,Vc _ (by simp;omega),au,dh (by simp;omega),ak,dh (by simp;omega),ak,U0 n q (by omega),au];unfold rK;have I:=Ot (λx=>!cJ x r) q r;cases J:eV n q with
 | false=>
  rw[gU,ak,Vc _ (by omega),au];rfl
 | true=>
  rw[bR,aq];show (Bb n (fU (λx=>!cJ x r) q r)).bind _=_;rw[U0 n _ (by omega),au,cM];cases C:eV n (fU (λx=>!cJ x r) q r)with
  | false=>
   have D:eV n (fU (λx=>cJ r x) q r)=false:=by
    cases D:eV n (fU (λx=>cJ r x) q r)with
    |false=>rfl
    |true=>rw[afn (.inr D),D]at C;cases C
   rw[D,gU,ak,Vc _ (by omega),au];rfl
  | true=>
   have D:=afn (.inl C);rw[<-D,C,bR,aq,ak];rfl
def mI(r:aM)(q:aa aM)(i:Nat):aa aM:=if fy (λx=>cJ r x) q<i then (q.take (fy (λx=>cJ r x) q)++[r])++(q.take i).drop (fy (λx=>cJ r x) q)else q.take i
theorem afo(r:aM)(q:aa aM)(i:Nat)(h:i<=q.length):(mI r q i).length<=i+1:=by
 have C:=Jn (λx=>cJ r x) q;unfold mI;split
 ·simp;omega
 ·simp;omega
theorem at9{r:aM}{q:aa aM}{k:Nat}(C:k<q.length)(h:k=fy (λx=>cJ r x) q):mI r q (k+1)=(q.take k++[r])++[q[k]]:=by
 unfold mI;rw[bk (by omega),<-h,sK C,List.drop_left' (by simp;omega)]
theorem aua{r:aM}{q:aa aM}{k:Nat}(C:k<q.length)(h:fy (λx=>cJ r x) q<k):mI r q (k+1)=mI r q k++[q[k]]:=by
 unfold mI;rw[bk (by omega),bk h,sK C,List.drop_append_of_le_length (by simp;omega)];simp only[List.append_assoc]
theorem aub{r:aM}{q:aa aM}{k:Nat}(C:k<q.length)(h:k<fy (λx=>cJ r x) q):mI r q (k+1)=mI r q k++[q[k]]:=by
 unfold mI;rw[bB (by omega),bB (by omega),sK C]
theorem auc(n:Int)(q:aa aM)(r:aM)(hl:q.length<1000000000):Mm n q r=some (rK n q r):=by
 have Q:=Jn (λx=>cJ r x) q;unfold Mm bw;have e:=dx (step:=GH) q.length (λi=>((n,q,(),(),decide (fy (λx=>cJ r x) q<i),(i:Int),()),((r.id,r.dj,r.line,r.write,r.data,r.at_,()),mI r q i,()))) (.inl ((n,q,(),(),decide (fy (λx=>cJ r x) q<q.length),()),((r.id,r.dj,r.line,r.write,r.data,r.at_,()),mI r q q.length,()))) aZ (λk h=>by
  have J:=afo r q k (by omega);unfold GH aB xG xI;dsimp only;rw[aW (show (k:Int)<(q.length:Int) by omega),ak];by_cases c:fy (λx=>cJ r x) q<k
  ·rw[aW c,bR,aq,aG ⟨by omega,by omega⟩];simp only[bJ];rw[dh (by simp only[ij];omega),ak,bP (by omega),aua h c,aW (show fy (λx=>cJ r x) q<k+1 by omega)]
  ·rw[br c,gU,ak,aG ⟨by omega,by omega⟩];simp only[bJ];rw[Jo,aeQ,au];by_cases E:k=fy (λx=>cJ r x) q
   ·have C:cJ r q[k]=true:=by
     have:=afl (p:=λx=>cJ r x) (q:=q) (by omega);simp only[<-E]at this;exact this
    have D:mI r q k=q.take k:=by unfold mI;rw[bB c]
    rw[C,ak,dh (by simp only[ij];omega),ak,aG ⟨by omega,by omega⟩,dh (by simp only[mK,ij];omega),ak,bP (by omega),aW (show fy (λx=>cJ r x) q<k+1 by omega),at9 h E,D]
   ·have C:cJ r q[k]=false:=afk (p:=λx=>cJ r x) (q:=q) (by omega) h;rw[C,aq,aG ⟨by omega,by omega⟩,dh (by simp only[ij];omega),ak,bP (by omega),br (show ¬ fy (λx=>cJ r x) q<k+1 by omega),aub h (by omega)]) (by
  unfold GH aB xG xI;dsimp only;rw[br (by omega),aq]) (bY (by omega))
 have D:mI r q 0=[]:=by
  unfold mI;rw[bB (by omega)];rfl
 rw[cA,D,br (show ¬ fy (λx=>cJ r x) q<0 by omega)]at e;rw[e,au];simp only[eO];have T:=Ot (λx=>cJ r x) q r;have I:∀l:aa aM,l.length<1073741824->aT (([]:aa aM).length+l.length)=true:=λl h=>dh (by simpa using h)
 have key:∀ o:aa aM,o=fU (λx=>cJ r x) q r->((vE n q).bind λL=>bif (!L)then bif aT (([]:aa aM).length+q.length)then some ((([]:aa aM)++q),false)else none else (vE n o).bind λO=>bif (!O)then bif aT (([]:aa aM).length+q.length)then some ((([]:aa aM)++q),false)else none else some (o,true))=some (rK n q r):=by
  rintro o rfl;rw[aeR,au];unfold rK;cases U:eV n q with
  |false=>rw[gU,ak,I q (by omega)];rfl
  | true=>
   rw[bR,aq,aeR,au,cM];cases C:eV n (fU (λx=>cJ r x) q r)with
   |false=>rw[gU,ak,I q (by omega)];rfl
   |true=>rfl
 have J:=afo r q q.length (dV _);by_cases c:fy (λx=>cJ r x) q<q.length
 ·rw[aW c,bR,aq];refine key _ ?_;unfold mI fU;rw[bk c,jF]
 ·rw[br c,gU,ak,dh (by simp only[ij];omega),ak,Jo];refine key _ ?_;unfold mI fU;have:fy (λx=>cJ r x) q=q.length:=by omega
  rw[bB c,this,jF,List.drop_length,List.append_nil]
abbrev aud:=((af×af×af×Int×af)×(av×(Int×Int×Int×Int×Int×Int×Int×Int×Int×Int×Int×Int×Int×Int×Int×Int×Int×Int×Int×Int×Int×Int×Bool×Int×Int×Int×Int×Int×Int×Int×Int×Int×Int×af×Int×Int×Int×Int×Int×Int×Int×af×Int×Int×Bool×Int×af×Int×af×af×af×af×af×Int×af×af×Int×Bool×(aa cw)×(aa Int)×(aa aL)×(aa aM)×(aa cq)×Bool×Int×Int×Int×Int×Int×Int×Int×Int×(aa bX)×(aa fj)×(aa dz)×af)×(aa cw)×(aa Int)×(aa Int)×(aa eP)×(aa Int)×(aa Int)×(aa bW)×(aa Int)×(aa Int)×(aa Int)×(aa Int)×af))
abbrev aue:=((af×af×af×(aa cw)×Int×Int×af)×(av×av×(Int×Int×Int×Int×Int×Int×Int×Int×Int×Int×Int×Int×Int×Int×Int×Int×Int×Int×Int×Int×Int×Int×Bool×Int×Int×Int×Int×Int×Int×Int×Int×Int×Int×af×Int×Int×Int×Int×Int×Int×Int×af×Int×Int×Bool×Int×af×Int×af×af×af×af×af×Int×af×af×Int×Bool×af×(aa Int)×(aa aL)×(aa aM)×(aa cq)×Bool×Int×Int×Int×Int×Int×Int×Int×Int×(aa bX)×(aa fj)×(aa dz)×af)×(aa Int)×(aa Int)×(aa eP)×(aa Int)×(aa Int)×(aa bW)×(aa Int)×(aa Int)×(aa Int)×(aa Int)×(aa cw)×af))
theorem gP{α:Type}(l:aa α)(h:l.length<=1048577):aT (([]:aa α).length+l.length)=true:=dh (by simp;omega)
theorem afp(t:cw)(h:kU t):DP t=some t:=by
 unfold DP;have C:=h.1;have D:=h.2;rw[gP _ (by omega),ak,gP _ (by omega),ak];rfl
theorem afq(t:cw)(h:kU t):Gr t=some t:=afp t h
theorem auf(s:aud)(T:aa cw)(C:s.1.2.2.2.1=0)(D:s.2.2.2.1=[])(E:s.2.2.1.2.2.2.2.2.2.2.2.2.2.2.2.2.2.2.2.2.2.2.2.2.2.2.2.2.2.2.2.2.2.2.2.2.2.2.2.2.2.2.2.2.2.2.2.2.2.2.2.2.2.2.2.2.2.2.2.2.2.1=T)(I:T.length<=1048576/\∀ y∈T,kU y):iter C4 aZ s=some (.inl (((),(),(),()),(s.2.1,s.2.2.1,T,s.2.2.2.2))):=by
 subst E;have e:=dx (step:=C4) (s.2.2.1.2.2.2.2.2.2.2.2.2.2.2.2.2.2.2.2.2.2.2.2.2.2.2.2.2.2.2.2.2.2.2.2.2.2.2.2.2.2.2.2.2.2.2.2.2.2.2.2.2.2.2.2.2.2.2.2.2.2.1).length (λi=>(((),(),(),(i:Int),()),(s.2.1,s.2.2.1,(s.2.2.1.2.2.2.2.2.2.2.2.2.2.2.2.2.2.2.2.2.2.2.2.2.2.2.2.2.2.2.2.2.2.2.2.2.2.2.2.2.2.2.2.2.2.2.2.2.2.2.2.2.2.2.2.2.2.2.2.2.2.1).take i,s.2.2.2.2))) (.inl (((),(),(),()),(s.2.1,s.2.2.1,s.2.2.1.2.2.2.2.2.2.2.2.2.2.2.2.2.2.2.2.2.2.2.2.2.2.2.2.2.2.2.2.2.2.2.2.2.2.2.2.2.2.2.2.2.2.2.2.2.2.2.2.2.2.2.2.2.2.2.2.2.2.1,s.2.2.2.2))) aZ (λk h=>by
  unfold C4 aB xG xI;dsimp only;rw[aW (by omega),ak,aG ⟨by omega,by omega⟩];simp only[bJ];rw[afq _ (I.2 _ (cP _)),au,dh (by simp;omega),ak,bP (by omega),sK h]) (by
  unfold C4 aB xG xI;dsimp only;rw[br (by omega),aq,jF]) (bY (by omega))
 have J:s=(((),(),(),((0:Nat):Int),()),(s.2.1,s.2.2.1,(s.2.2.1.2.2.2.2.2.2.2.2.2.2.2.2.2.2.2.2.2.2.2.2.2.2.2.2.2.2.2.2.2.2.2.2.2.2.2.2.2.2.2.2.2.2.2.2.2.2.2.2.2.2.2.2.2.2.2.2.2.2.1).take 0,s.2.2.2.2)):=by
  rw[List.take_zero,<-D,cA,<-C]
 rw[<-e,<-J]
theorem aug(s:aue)(C:s.1.2.2.2.2.2.1=0)(D:s.1.2.2.2.2.1=(s.1.2.2.2.1.length:Int))(E:s.2.2.2.2.2.2.2.2.2.2.2.2.2.2.1=[])(I:s.1.2.2.2.1.length<=1048576/\∀ y∈s.1.2.2.2.1,kU y):iter DQ aZ s=some (.inl (((),(),(),()),(s.2.1,s.2.2.1,s.2.2.2.1,s.2.2.2.2.1,s.2.2.2.2.2.1,s.2.2.2.2.2.2.1,s.2.2.2.2.2.2.2.1,s.2.2.2.2.2.2.2.2.1,s.2.2.2.2.2.2.2.2.2.1,s.2.2.2.2.2.2.2.2.2.2.1,s.2.2.2.2.2.2.2.2.2.2.2.1,s.2.2.2.2.2.2.2.2.2.2.2.2.1,s.2.2.2.2.2.2.2.2.2.2.2.2.2.1,s.1.2.2.2.1,s.2.2.2.2.2.2.2.2.2.2.2.2.2.2.2))):=by
 have e:=dx (step:=DQ) s.1.2.2.2.1.length (λi=>(((),(),(),s.1.2.2.2.1,(s.1.2.2.2.1.length:Int),(i:Int),()),(s.2.1,s.2.2.1,s.2.2.2.1,s.2.2.2.2.1,s.2.2.2.2.2.1,s.2.2.2.2.2.2.1,s.2.2.2.2.2.2.2.1,s.2.2.2.2.2.2.2.2.1,s.2.2.2.2.2.2.2.2.2.1,s.2.2.2.2.2.2.2.2.2.2.1,s.2.2.2.2.2.2.2.2.2.2.2.1,s.2.2.2.2.2.2.2.2.2.2.2.2.1,s.2.2.2.2.2.2.2.2.2.2.2.2.2.1,s.1.2.2.2.1.take i,s.2.2.2.2.2.2.2.2.2.2.2.2.2.2.2))) (.inl (((),(),(),()),(s.2.1,s.2.2.1,s.2.2.2.1,s.2.2.2.2.1,s.2.2.2.2.2.1,s.2.2.2.2.2.2.1,s.2.2.2.2.2.2.2.1,s.2.2.2.2.2.2.2.2.1,s.2.2.2.2.2.2.2.2.2.1,s.2.2.2.2.2.2.2.2.2.2.1,s.2.2.2.2.2.2.2.2.2.2.2.1,s.2.2.2.2.2.2.2.2.2.2.2.2.1,s.2.2.2.2.2.2.2.2.2.2.2.2.2.1,s.1.2.2.2.1,s.2.2.2.2.2.2.2.2.2.2.2.2.2.2.2))) aZ (λk h=>by
  unfold DQ aB xG xI;dsimp only;rw[aW (by omega),ak,aG ⟨by omega,by omega⟩];simp only[bJ];rw[afp _ (I.2 _ (cP _)),au,dh (by simp;omega),ak,bP (by omega),sK h]) (by
  unfold DQ aB xG xI;dsimp only;rw[br (by omega),aq,jF]) (bY (by omega))
 have J:s=(((),(),(),s.1.2.2.2.1,(s.1.2.2.2.1.length:Int),((0:Nat):Int),()),(s.2.1,s.2.2.1,s.2.2.2.1,s.2.2.2.2.1,s.2.2.2.2.2.1,s.2.2.2.2.2.2.1,s.2.2.2.2.2.2.2.1,s.2.2.2.2.2.2.2.2.1,s.2.2.2.2.2.2.2.2.2.1,s.2.2.2.2.2.2.2.2.2.2.1,s.2.2.2.2.2.2.2.2.2.2.2.1,s.2.2.2.2.2.2.2.2.2.2.2.2.1,s.2.2.2.2.2.2.2.2.2.2.2.2.2.1,s.1.2.2.2.1.take 0,s.2.2.2.2.2.2.2.2.2.2.2.2.2.2.2)):=by
  rw[List.take_zero,<-E,cA,<-C,<-D]
 rw[<-e,<-J]
theorem afr(l:aa Int)(h:l.length<=1048577):ND l=some l:=by
 cases l with
 |nil=>rfl
 | cons a l=>
  show (bif aT (([]:aa Int).length+(a::l).length)then some (([]:aa Int)++(a::l))else none)=_;rw[gP _ h];rfl
theorem auh(l:aa aL)(h:l.length<=1048577):T8 l=some l:=by
 cases l with
 |nil=>rfl
 | cons a l=>
  show (bif aT (([]:aa aL).length+(a::l).length)then some (([]:aa aL)++(a::l))else none)=_;rw[gP _ h];rfl
theorem aui(l:aa aM)(h:l.length<=1048577):T9 l=some l:=by
 cases l with
 |nil=>rfl
 | cons a l=>
  show (bif aT (([]:aa aM).length+(a::l).length)then some (([]:aa aM)++(a::l))else none)=_;rw[gP _ h];rfl
theorem auj(l:aa cq)(h:l.length<=1048577):Ua l=some l:=by
 cases l with
 |nil=>rfl
 | cons a l=>
  show (bif aT (([]:aa cq).length+(a::l).length)then some (([]:aa cq)++(a::l))else none)=_;rw[gP _ h];rfl
theorem auk(l:aa bX)(h:l.length<=1048577):Ub l=some l:=by
 cases l with
 |nil=>rfl
 | cons a l=>
  show (bif aT (([]:aa bX).length+(a::l).length)then some (([]:aa bX)++(a::l))else none)=_;rw[gP _ h];rfl
theorem aul(l:aa fj)(h:l.length<=1048577):Uc l=some l:=by
 cases l with
 |nil=>rfl
 | cons a l=>
  show (bif aT (([]:aa fj).length+(a::l).length)then some (([]:aa fj)++(a::l))else none)=_;rw[gP _ h];rfl
theorem aum(l:aa dz)(h:l.length<=1048577):Ud l=some l:=by
 cases l with
 |nil=>rfl
 | cons a l=>
  show (bif aT (([]:aa dz).length+(a::l).length)then some (([]:aa dz)++(a::l))else none)=_;rw[gP _ h];rfl
theorem afs(b:gz)(h:DZ b):ID b=some b:=by
 have C:b.bZ.weights.length<=1048576:=h.1;have D:b.next.weights.length<=1048576:=h.2
 unfold ID IC;rw[gP _ (by omega),ak,au,gP _ (by omega),ak];rfl
theorem Vd(b:gz)(h:DZ b):Gl b=some b:=afs b h
theorem aun(c:av)(D:dO c):Ma c=some c:=by
 obtain⟨E,I,J,C,L,O,Q,U,Y,Z,kV,jz,jA,jB⟩:=D;have y2:c.bh.aF.length<=1048576:=I;obtain⟨y3,y3'⟩:=J;have y5:c.spare.map.length<=1048576:=L;have y6:c.bu.aU.length<=1048576:=O;unfold Ma bw;rw[Vd _ E,au];unfold TD sF Gq AD;rw[gP _ (by omega),ak,au,gP _ (by omega),ak,gP _ (by omega),ak,au,asy _ (by have:=C.1.1;omega) (by have:=C.2.1;omega) (by have:=C.2.2;omega) (λx T=>by have:x.symbols.length<=1048576:=C.1.2 x T;omega),au,gP _ (by omega),ak,au,gP _ (by omega),ak,au]
 refine(bD (λo=>Option.bind o _) (auf _ c.bN rfl rfl rfl Q)).trans ?_
 rw[au];simp only[eO];rw[gP c.guard (by omega),ak,gP c.pending (by omega),ak,gP c.queue (by omega),ak,gP c.shares (by omega),ak,gP c.errors (by omega),ak,gP c.trace (by omega),ak,gP c.cC (by omega),ak];rfl
theorem auo(c:av)(D:dO c):DR c=some c:=by
 obtain⟨E,I,J,C,L,O,Q,U,Y,Z,kV,jz,jA,jB⟩:=D;have y2:c.bh.aF.length<=1048576:=I;obtain⟨y3,y3'⟩:=J;have y5:c.spare.map.length<=1048576:=L;have y6:c.bu.aU.length<=1048576:=O;unfold DR bw;rw[afs _ E,au];unfold NB DO IG;rw[gP _ (by omega),ak,au,gP _ (by omega),ak,gP _ (by omega),ak,au,asx _ (by have:=C.1.1;omega) (by have:=C.2.1;omega) (by have:=C.2.2;omega) (λx T=>by have:x.symbols.length<=1048576:=C.1.2 x T;omega),au,afr _ (by omega),au,gP _ (by omega),ak,au]
 refine(bD (λo=>Option.bind o _) (aug _ rfl rfl rfl Q)).trans ?_
 rw[au];simp only[eO];rw[afr c.guard (by omega),au,auh c.pending (by omega),au,aui c.queue (by omega),au,auj c.shares (by omega),au,auk c.errors (by omega),au,aul c.trace (by omega),au,aum c.cC (by omega),au];rfl
def eF{α:Type}(p:α->Bool)(q:aa α):Nat:=(q.findIdx? p).getD q.length
theorem yU{α:Type}(p:α->Bool)(q:aa α):eF p q<=q.length:=by
 unfold eF;cases h:q.findIdx? p with
 |none=>exact dV _
 | some k=>
  obtain⟨C,_⟩:=nA.1 h;exact Nat.le_of_lt C
theorem rL{α:Type}{p:α->Bool}{q:aa α}{i:Nat}(h:i<eF p q)(hi:i<q.length):p q[i]=false:=by
 unfold eF at h;cases C:q.findIdx? p with
 | none=>
  have:=List.findIdx?_eq_none_iff.1 C q[i] (cP hi)
  simpa using this
 | some k=>
  rw[C]at h;obtain⟨_,_,D⟩:=nA.1 C;have:=D i h
  simpa using this
theorem ug{α:Type}{p:α->Bool}{q:aa α}(h:eF p q<q.length):p q[eF p q]=true:=by
 unfold eF at h;cases C:q.findIdx? p with
 |none=>rw[C]at h;simp at h
 | some k=>
  obtain⟨E,D,_⟩:=nA.1 C;have e:eF p q=k:=by unfold eF;rw[C];rfl
  simp only[e];exact D
theorem Ou{α:Type}(p:α->Bool)(q:aa α):q.any p=decide (eF p q<q.length):=by
 by_cases c:eF p q<q.length
 ·rw[aW c,List.any_eq_true];exact⟨_,cP c,ug c⟩
 ·rw[br c,iW];intro x C;obtain⟨i,hi,rfl⟩:=iX.1 C;rw[rL (p:=p) (i:=i) (by omega) hi];simp
theorem aup(l:aa dz)(r:aM)(hl:l.length<=1048576):NG l r=some (l.any λx=>x.id==r.id):=by
 have D:=yU (λx:dz=>x.id==r.id) l;unfold NG Ue;rw[Ou];have e:=dx (step:=IK) (eF (λx:dz=>x.id==r.id) l) (λi=>((l,r,(l.length:Int),(i:Int),()),())) (if eF (λx:dz=>x.id==r.id) l<l.length then .inl ((((eF (λx:dz=>x.id==r.id) l:Nat):Int),()),())else .inr (.inl ((),()))) aZ (λk h=>by
  have C:=rL h (by omega);unfold IK aB bq xG xI;dsimp only;rw[aW (by omega),ak,aG ⟨by omega,by omega⟩];simp only[bJ];rw[C,aq,bP (by omega)]) (by
  unfold IK aB bq xG xI;dsimp only;by_cases c:eF (λx:dz=>x.id==r.id) l<l.length
  ·rw[aW (by omega),ak,aG ⟨by omega,by omega⟩,bk c];simp only[bJ];rw[ug c,ak]
  ·rw[br (by omega),aq,bB c]) (bY (by omega))
 rw[cA]at e;rw[e,au];by_cases c:eF (λx:dz=>x.id==r.id) l<l.length
 ·rw[bk c,aW c,eO,au];dsimp only;rw[aW (by omega)]
 ·rw[bB c,br c,Sum.elim_inr,eO,au];rfl
def gQ(c:av)(r:aM):aM:=⟨r.id,r.dj,r.line,r.write,r.data,c.now⟩
def iM(c:av)(r:aM):aa aM×Bool:=rK (cX (cU c.config.ay c.spare)) c.queue (gQ c r)
def kW(c:av)(r:aM):av×Bool:=bif (!dU c) ||((!(iM c r).2) ||(c.cC.any λx=>x.id==r.id))then (c,false)else ({ c with queue:=(iM c r).1 },true)
theorem aft(c:av)(r:aM)(C:dO c):IL c r=some (kW c r):=by
 unfold IL kW;rw[auo c C,au,afh c C,au];obtain⟨E,I,J,L,O,Q,T,U,Y,Z,kV,jz,jA,D⟩:=C;cases h:dU c with
 |false=>rfl
 | true=>
  rw[bR,aq,Bool.false_or,Oe,au,NV,au,at8 _ _ _ (by omega),au,aup _ _ D,au];show (bif !(iM c r).2 then some (c,false)else bif (c.cC.any λx=>x.id==r.id)then some (c,false)else some ({ c with queue:=(iM c r).1 },true))=_;cases (iM c r).2<;>cases (c.cC.any λx=>x.id==r.id)<;>rfl
theorem auq(c:av)(h:dU c=true):cX ⟨c.config.ay.ck,c.config.ay.aF,W6 (c.config.ay.rows-c.config.bH),c.config.ay.aO⟩=cX (cU c.config.ay c.spare):=by
 simp only[dU,aK,eS]at h;obtain⟨_,_,_,_,_,_,C,D,_⟩:=h;unfold cU;rw[C,ak,D]
theorem aur(c:av)(r:aM)(h:c.queue.length<=1048576):(iM c r).1.length<=1048576:=by
 unfold iM rK;cases C:(eV (cX (cU c.config.ay c.spare)) c.queue&&eV (cX (cU c.config.ay c.spare)) (fU (λx=>cJ (gQ c r) x) c.queue (gQ c r)))with
 |false=>exact h
 | true=>
  rw[ak];rw[aK]at C;have:=C.2;unfold eV at this;rw[aK,fH]at this;have:=this.2;dsimp only;omega
theorem afu(c:av)(r:aM)(C:dO c):dO (kW c r).1:=by
 unfold kW;cases hb:((!dU c) ||((!(iM c r).2) ||(c.cC.any λx=>x.id==r.id)))with
 |true=>exact C
 | false=>
  obtain⟨D,E,I,J,L,O,Q,T,U,Y,Z,jz,jA,jB⟩:=C;exact⟨D,E,I,J,L,O,Q,T,U,aur c r Y,Z,jz,jA,jB⟩
def Jp(c:av)(r:aM):Bool×av:=bif (c.cC.any λx=>x.id==r.id)then (false,c)else bif (iM c r).2 then (true,{ c with queue:=(iM c r).1 })else (false,c)
theorem aus(c:av)(r:aM)(C:dO c)(D:dU c=true):Mn c r=some ((Jp c r).1,((Jp c r).2,())):=by
 obtain⟨I,J,L,O,Q,T,U,Y,Z,kA,kV,jz,jA,jB⟩:=C;have hk:=yU (λx:dz=>x.id==r.id) c.cC;unfold Mn Jp cg;rw[Ou];have e:=dx (step:=GI) (eF (λx:dz=>x.id==r.id) c.cC) (λi=>(((),(),(),(i:Int),()),(c,(r.id,r.dj,r.line,r.write,r.data,r.at_,()),(c.config.ay.ck,c.config.ay.aF,(W6 (c.config.ay.rows-c.config.bH)),c.config.ay.aO,()),()))) (if eF (λx:dz=>x.id==r.id) c.cC<c.cC.length then .inl ((false,()),(c,()))else .inr (.inl (((),(),(),()),(c,(r.id,r.dj,r.line,r.write,r.data,r.at_,()),(c.config.ay.ck,c.config.ay.aF,(W6 (c.config.ay.rows-c.config.bH)),c.config.ay.aO,()),())))) aZ (λk h=>by
  have E:=rL h (by omega);unfold GI aB bq xG xL;dsimp only;rw[aW (by omega),ak,aG ⟨by omega,by omega⟩,aG (by omega)];simp only[bJ];rw[E,aq,bP (by omega)]) (by
  unfold GI aB bq xG xL;dsimp only;by_cases k:eF (λx:dz=>x.id==r.id) c.cC<c.cC.length
  ·rw[aW (by omega),ak,aG ⟨by omega,by omega⟩,aG (by omega),bk k];simp only[bJ];rw[ug k,ak]
  ·rw[br (by omega),aq,bB k]) (bY (by omega))
 rw[cA]at e;rw[e,au];by_cases k:eF (λx:dz=>x.id==r.id) c.cC<c.cC.length
 ·rw[bk k,aW k,eO];rfl
 ·rw[bB k,br k,Sum.elim_inr,eO,yJ,au];dsimp only;rw[auq c D,auc _ _ _ (by omega),au];show (bif (iM c r).2 then some ((iM c r).2,({ c with queue:=(iM c r).1 },()))else some ((iM c r).2,(c,())))=_;cases (iM c r).2<;>rfl
def eG(c:av)(a:dP):av:=⟨c.config,c.box,c.now,c.bh,c.ready,a,c.spare,c.bu,c.bN,c.guard,c.pending,c.queue,c.shares,c.drain,c.bg,c.cT,c.errors,c.trace,c.cC⟩
def yV:bW:=⟨[],false⟩
def Jq(d:bW):bW:=⟨(d.symbols.set 0 (bits .xor .i64 (d.symbols.getD 0 0) 5)).set 1 (bits .xor .i64 (d.symbols.getD 1 0) 10),d.iO⟩
def oP(base:Nat):Nat->aa bW->aa bW
 |0,cs=>cs
 |n+1,cs=>(oP base n cs).set (base+n) (Jq ((oP base n cs).getD (base+n) yV))
theorem Ov(base:Nat):∀ (n:Nat) (cs:aa bW),(oP base n cs).length=cs.length
 |0,_=>rfl
 | n+1,cs=>by
  show ((oP base n cs).set _ _).length=_;rw[jE,Ov base n]
theorem aut{d:bW}(h:Sy d.symbols):Sy (Jq d).symbols:=by
 have C:0<d.symbols.length:=by rw[h.1];omega
 have l1:1<d.symbols.length:=by rw[h.1];omega
 have I:d.symbols.getD 0 0=d.symbols[0]:=by rw[eX,bK C];rfl
 have J:d.symbols.getD 1 0=d.symbols[1]:=by rw[eX,bK l1];rfl
 have D:=UK (h.get (k:=0) C) (b:=5) ⟨by omega,by omega⟩;have E:=UK (h.get (k:=1) l1) (b:=10) ⟨by omega,by omega⟩;unfold Jq;rw[I,J];exact(h.set (k:=0) ⟨D.1,D.2.1⟩).set (k:=1) ⟨E.1,E.2.1⟩
theorem Ve{base:Nat}:∀ (n:Nat) {cs:aa bW},base+n<=cs.length->(∀ c∈cs,Sy c.symbols)->∀ c∈oP base n cs,Sy c.symbols
 |0,cs,_,h=>h
 | n+1,cs,hl,h=>by
  have C:=Ve (base:=base) n (cs:=cs) (by omega) h;have hlen:=Ov base n cs;refine Sy.bL C (aut ?_);have hb:base+n<(oP base n cs).length:=by omega
  rw[eX,bK hb];exact Sy.mem C hb
def yW(g:aN)(l:lg)(a:dP)(b r:Int):dP:=
 ⟨bif DU l a (b*g.rows+r).toNat then oP ((b*g.rows+r)*g.aO).toNat g.aO.toNat a.cells else a.cells,a.bI.set (b*g.rows+r).toNat 0,Bk g.rows r (b*g.rows+r).toNat a.bG⟩
theorem Vf{g:aN}(D:cF g=true){b r k:Int}(J:0<=b)(L:b<aV g)(O:0<=r)(Q:r<g.rows)(T:0<=k)(U:k<g.aO):0<=(b*g.rows+r)*g.aO/\(b*g.rows+r)*g.aO+k<cX g/\0<=b*g.rows+r/\b*g.rows+r<gw g:=by
 have er:aV g*g.rows=gw g:=by simp[gw,D]
 obtain⟨r0,E,C⟩:=yK J L O Q;rw[er]at C;obtain⟨Y,q1,I⟩:=yK E C T U;have Z:gw g*g.aO=cX g:=by simp[gw,cX,D]
 rw[Z]at I;exact⟨Y,I,E,C⟩
theorem Vg{g:aN}(D:cF g=true)(l:lg){B:Int}(hB:0<=B){a:dP}(C:fD g B a){b r:Int}(E:0<=b)(I:b<aV g)(J:0<=r)(L:r<g.rows):fD g B (yW g l a b r):=by
 obtain⟨_,_,_,_,Q,T,U,Y⟩:=fP D;have Z:=nW g;have O:((b*g.rows+r)*g.aO).toNat+g.aO.toNat<=a.cells.length:=by
  have:=Vf D E I J L (show 0<=g.aO-1 by omega) (by omega);have:=C.cells;omega
 unfold yW;refine⟨?_,?_,by simp[C.bI],by simp[asF,C.bG],N2 C.I4 ⟨by omega,by omega⟩,asH C.oM⟩
 ·dsimp only;cases DU l a (b*g.rows+r).toNat with
  |false=>exact C.cells
  |true=>rw[ak,Ov];exact C.cells
 ·dsimp only;cases DU l a (b*g.rows+r).toNat with
  |false=>exact C.syms
  |true=>rw[ak];exact Ve _ O C.syms
theorem auu{g:aN}(C:cF g=true)(c:av){b r:Int}(hc:(c.array.cells.length:Int)=cX g)(Q:∀ x∈c.array.cells,Sy x.symbols)(E:0<=b)(I:b<aV g)(J:0<=r)(L:r<g.rows):
  iter yu aZ (((),r,(),b*g.rows+r,(0:Int),()),(c,(g.ck,g.aF,g.rows,g.aO,()),()))=some (.inl (((),r,(),b*g.rows+r,()),(eG c ⟨oP ((b*g.rows+r)*g.aO).toNat g.aO.toNat c.array.cells,c.array.bI,c.array.bG⟩,(g.ck,g.aF,g.rows,g.aO,()),()))):=by
 obtain⟨_,_,_,_,g5,g6,g7,g8⟩:=fP C;have b1:=nW g;have b2:=sJ g;obtain⟨n,T⟩:=fI (show 0<=g.aO by omega);obtain⟨B,hB⟩:∃B,B=((b*g.rows+r)*g.aO).toNat:=⟨_,rfl⟩
 have U:g.aO.toNat=n:=by omega
 rw[<-hB,U];have lz:B+n<=c.array.cells.length:=by
  have:=Vf C E I J L (show 0<=g.aO-1 by omega) (by omega);omega
 have e:=dx (step:=yu) n (λk=>(((),r,(),b*g.rows+r,(k:Int),()),(eG c ⟨oP B k c.array.cells,c.array.bI,c.array.bG⟩,(g.ck,g.aF,g.rows,g.aO,()),()))) (.inl (((),r,(),b*g.rows+r,()),(eG c ⟨oP B n c.array.cells,c.array.bI,c.array.bG⟩,(g.ck,g.aF,g.rows,g.aO,()),()))) aZ (λk hk=>by
  have Vh:=Vf C E I J L (show 0<=(k:Int) by omega) (by omega);have Y:W6 ((b*g.rows+r)*g.aO)=(b*g.rows+r)*g.aO:=bf (by omega) (by omega);have Z:W6 ((b*g.rows+r)*g.aO+(k:Int))=((B+k:Nat):Int):=by rw[bf (by omega) (by omega)];omega
  have hlen:=Ov B k c.array.cells;have O:=Ve k (by omega:B+k<=c.array.cells.length) Q;show yu (((),r,(),b*g.rows+r,(k:Int),()),(eG c ⟨oP B k c.array.cells,c.array.bI,c.array.bG⟩,(g.ck,g.aF,g.rows,g.aO,()),()))=some (.inl (((),r,(),b*g.rows+r,((k+1:Nat):Int),()),(eG c ⟨(oP B k c.array.cells).set (B+k) (Jq ((oP B k c.array.cells).getD (B+k) yV)),c.array.bI,c.array.bG⟩,(g.ck,g.aF,g.rows,g.aO,()),())));generalize oP B k c.array.cells=cs at hlen O;have D:B+k<cs.length:=by omega
  have s1:=Sy.mem O D;have l1:(0:Nat)<cs[B+k].symbols.length:=by rw[s1.1];omega
  have l2:(1:Nat)<cs[B+k].symbols.length:=by rw[s1.1];omega
  have c2:decide ((k:Int)<g.aO)=true:=aW (by omega);have F3:cs.getD (B+k) yV=cs[B+k]:=by rw[eX,bK D];rfl
  have f0:cs[B+k].symbols.getD 0 0=cs[B+k].symbols[0]:=by rw[eX,bK l1];rfl
  have f1:cs[B+k].symbols.getD 1 0=cs[B+k].symbols[1]:=by rw[eX,bK l2];rfl
  rw[F3];unfold Jq;rw[f0,f1];unfold yu eG xC aB xG xL xM;dsimp only;have t0:(0:Int).toNat=0:=rfl;have t1:(1:Int).toNat=1:=rfl;have p0:(0:Int)<=0:=Int.le_refl 0;have p1:(0:Int)<=1:=by omega
  rw[c2,ak];simp only[Y,Z,bJ];have cj:(0:Int)<=((B+k:Nat):Int):=by omega
  simp only[cj,D,p0,p1,t0,t1,l1,l2,and_self,dite_true,jE,List.getElem_set_self,List.set_set,alI];have w:=bP (i:=k) (by omega);simp only[w,List.getElem_set_ne (show (0:Nat)≠1 by decide)]) (by unfold yu xC aB xG xL xM;simp[T]) (bY (by omega))
 exact e
theorem afv{x:Int}(h:0<=x/\x<=100000):(if (100000:Int)<W6 (x+1)then (100000:Int)else W6 (x+1))=rG 1 x:=by
 rw[bf (n:=x+1) (by omega) (by omega)];rfl
def Ow(C:av)(J D L:Int)(E:aa Int):aj (af×(av×af)):=bif (decide (J<(W6 (L-(1:Int)))))then if T:0<=(W6 (D+(1:Int)))/\(W6 (D+(1:Int))).toNat<E.length then if O:(W6 (D+(1:Int))).toNat<E.length then (let I:=E[(W6 (D+(1:Int))).toNat]'O;if U:0<=(W6 (D+(1:Int)))/\(W6 (D+(1:Int))).toNat<E.length then if Q:(W6 (D+(1:Int))).toNat<E.length then (let Y:=E[(W6 (D+(1:Int))).toNat]'Q;some ((),((⟨C.config,C.box,C.now,C.bh,C.ready,⟨C.array.cells,(C.array.bI.set D.toNat (0:Int)),(E.set (W6 (D+(1:Int))).toNat (if (100000:Int)<(W6 (I+(1:Int)))then (100000:Int)else (W6 (I+(1:Int)))))⟩,C.spare,C.bu,C.bN,C.guard,C.pending,C.queue,C.shares,C.drain,C.bg,C.cT,C.errors,C.trace,C.cC⟩:av),())))else none else none)else none else none else some ((),((⟨C.config,C.box,C.now,C.bh,C.ready,⟨C.array.cells,(C.array.bI.set D.toNat (0:Int)),E⟩,C.spare,C.bu,C.bN,C.guard,C.pending,C.queue,C.shares,C.drain,C.bg,C.cT,C.errors,C.trace,C.cC⟩:av),()))
def Ox(D:av)(E C I:Int):aj (af×(av×af)):=if U:0<=C/\C.toNat<D.array.bI.length then if L:C.toNat<D.array.bI.length then (let Y:=D.array.bI[C.toNat]'L;if Z:0<=C/\C.toNat<D.array.bG.length then if O:C.toNat<D.array.bG.length then (let e50:=D.array.bG[C.toNat]'O;(bif (decide (E > (0:Int)))then if WY:0<=(W6 (C-(1:Int)))/\(W6 (C-(1:Int))).toNat<(D.array.bG.set C.toNat (0:Int)).length then if Q:(W6 (C-(1:Int))).toNat<(D.array.bG.set C.toNat (0:Int)).length then (let J:=(D.array.bG.set C.toNat (0:Int))[(W6 (C-(1:Int))).toNat]'Q;if WZ:0<=(W6 (C-(1:Int)))/\(W6 (C-(1:Int))).toNat<(D.array.bG.set C.toNat (0:Int)).length then if T:(W6 (C-(1:Int))).toNat<(D.array.bG.set C.toNat (0:Int)).length then (let TT:=(D.array.bG.set C.toNat (0:Int))[(W6 (C-(1:Int))).toNat]'T;(Ow D E C I ((D.array.bG.set C.toNat (0:Int)).set (W6 (C-(1:Int))).toNat (if (100000:Int)<(W6 (J+(1:Int)))then (100000:Int)else (W6 (J+(1:Int)))))))else none else none)else none else none else (Ow D E C I (D.array.bG.set C.toNat (0:Int)))))else none else none)else none else none
theorem afw{d:av}{R r:Int}{i:Nat}{H:aa Int}(hl:H.length<1000000)(D:r<R-1->i+1<H.length)(E:W6 (R-1)=R-1)(I:∀ x∈H,0<=x/\x<=100000)(hi:i<1000000):Ow d r (i:Int) R H=some ((),(eG d ⟨d.array.cells,d.array.bI.set i 0,bif decide (r<R-1)then yL (i+1) H else H⟩,())):=by
 have J:W6 ((i:Int)+1)=((i+1:Nat):Int):=bP (by omega);unfold Ow eG;rw[E,J];simp only[bJ];by_cases C:r<R-1
 ·have q:i+1<H.length:=D C;rw[aW C,ak,ak,aG ⟨by omega,q⟩,aG q,aG ⟨by omega,q⟩,aG q,afv (I _ (cP q)),aeF q]
 ·rw[br C,aq,aq]
theorem afx{d:av}{R r:Int}{i:Nat}(E:i<d.array.bI.length)(I:i<d.array.bG.length)(hl:d.array.bG.length<1000000)(Q:0<r->1<=i)(J:r<R-1->i+1<d.array.bG.length)(L:W6 (R-1)=R-1)(T:∀ x∈d.array.bG,0<=x/\x<=100000):Ox d r (i:Int) R=some ((),(eG d ⟨d.array.cells,d.array.bI.set i 0,Bk R r i d.array.bG⟩,())):=by
 have C:=N2 T (k:=i) (v:=0) ⟨by omega,by omega⟩;have U:(d.array.bG.set i 0).length=d.array.bG.length:=by simp
 unfold Ox Bk Bj;simp only[bJ];rw[aG ⟨by omega,E⟩,aG E,aG ⟨by omega,I⟩,aG I];obtain⟨H,O⟩:∃H,d.array.bG.set i 0=H:=⟨_,rfl⟩
 rw[O]at C U;simp only[O];by_cases D:0<r
 ·have Y:=Q D;have w1:W6 ((i:Int)-1)=((i-1:Nat):Int):=by rw[bf (by omega) (by omega)];omega
  have q:i-1<H.length:=by omega
  simp only[w1,bJ];rw[aW D,ak,ak,aG ⟨by omega,q⟩,aG q,aG ⟨by omega,q⟩,aG q,afv (C _ (cP q)),<-aeF q];exact afw (by rw[N3];omega) (λh=>by rw[N3];have:=J h;omega) L (UM C) (by omega)
 ·rw[br D,aq,aq];exact afw (by omega) (λh=>by have:=J h;omega) L C (by omega)
theorem afy{g:aN}(E:cF g=true)(l:lg){B:Int}(c:av)(C:fD g B c.array){b r:Int}(I:0<=b)(J:b<aV g)(T:0<=r)(U:r<g.rows):G3 g l c b r=some ((),(eG c (yW g l c.array b r),())):=by
 obtain⟨_,_,_,_,g5,g6,g7,g8⟩:=fP E;have b2:=sJ g;have er:aV g*g.rows=gw g:=by simp[gw,E]
 obtain⟨r0,r1,Y⟩:=yK I J T U;rw[er]at Y;have L:r<g.rows-1->b*g.rows+r+1<gw g:=λh=>by
  have:=(yK I J (show 0<=r+1 by omega) (show r+1<g.rows by omega)).2.2;omega
 have O:0<r->1<=b*g.rows+r:=λh=>by omega
 have a1:=C.bI;have a2:=C.bG;have e1:W6 (b*g.rows)=b*g.rows:=bf (by omega) (by omega);have e2:W6 (b*g.rows+r)=b*g.rows+r:=bf (by omega) (by omega);have Z:W6 (g.rows-1)=g.rows-1:=bf (by omega) (by omega);have Q:=auu E c C.cells C.syms I J T U;unfold yW;generalize oP ((b*g.rows+r)*g.aO).toNat g.aO.toNat c.array.cells=cs at Q;have hx:G3 g l c b r=(GW g l c.array (W6 (W6 (b*g.rows)+r))).bind λy1=>bif y1 then (iter yu aZ (((),r,(),W6 (W6 (b*g.rows)+r),(0:Int),()),(c,(g.ck,g.aF,g.rows,g.aO,()),()))).bind (Sum.elim (λD=>Ox D.2.1 D.1.2.1 D.1.2.2.2.1 D.2.2.1.2.2.1) (λz=>nomatch z))else Ox c r (W6 (W6 (b*g.rows)+r)) g.rows:=rfl
 rw[hx,e1,e2];obtain⟨i,hi⟩:=fI r1;rw[hi]at Q O L Y ⊢;rw[bJ,asC g l c.array i (by omega) (by omega),au];cases DU l c.array i with
 |false=>exact afx (d:=c) (r:=r) (R:=g.rows) (i:=i) (by omega) (by omega) (by omega) (λh=>by have:=O h;omega) (λh=>by have:=L h;omega) Z C.oM
 | true=>
  rw[ak,Q,au];exact afx (d:=eG c ⟨cs,c.array.bI,c.array.bG⟩) (r:=r) (R:=g.rows) (i:=i) (by show i<c.array.bI.length;omega) (by show i<c.array.bG.length;omega) (by show c.array.bG.length<_;omega) (λh=>by have:=O h;omega) (λh=>by show _<c.array.bG.length;have:=L h;omega) Z C.oM
theorem auv{c:eH}{p:dF}(hl:p.weights.length<1073741823)(h:mG c p=true):iV c.cc=true:=by
 obtain⟨b,e,C⟩:=UX c p hl;have hb:b=true:=by
  rw[Jk c p hl]at e;injection e with e;rw[<-e,h]
 have:=C hb;simp only[ni,aK]at this;exact this.2.1
def n7(i:Nat):aI:=⟨(i:Int) % 9+1,if (i:Int) % 9+1<=5 then (i:Int) / 9 else 0,0,0⟩
def yX(n m:Int):Int:=if n > m then n else m
def Oy(g:aN)(t:c8)(l:aa Int)(c:aI)(m:Int)(i:Nat):Int:=match l[i]? with
 |some n=>bif decide (n<0)then m else yX (n+yS g t (n7 i) c) m
 |none=>m
def vZ(g:aN)(t:c8)(l:aa Int)(c:aI)(k:Nat):Int:=(List.range k).foldl (Oy g t l c) 0
def Jr(g:aN)(t:c8)(r:dM)(c:aI):Int:=
 bif c.kind==1&&(r.bx.length:Int)==4 then yX (r.bx.getD 0 0+t.nB) (vZ g t r.last c r.last.length)else vZ g t r.last c r.last.length
theorem afz(g:aN)(t:c8)(l:aa Int)(c:aI)(k:Nat):vZ g t l c (k+1)=Oy g t l c (vZ g t l c k) k:=by
 unfold vZ;rw[List.range_succ,List.foldl_append];rfl
theorem afA{g:aN}{t:c8}{l:aa Int}{c:aI}{m:Int}{i:Nat}(h:i<l.length):Oy g t l c m i=bif decide (l[i]<0)then m else yX (l[i]+yS g t (n7 i) c) m:=by
 unfold Oy;rw[bK h]
theorem auw{a b C:Int}(D:a<=C)(hb:0<=b/\b<=C):0<=yX a b/\yX a b<=C:=by
 unfold yX;split<;>omega
structure Oz (g:aN) (t:c8) (r:dM):Prop where
 By:cF g=true
 OA:iV t=true
 len:r.last.length<1000
 last:∀(i:Nat) (h:i<r.last.length),(-1<=r.last[i]/\r.last[i]<=1000000)/\(r.last[i] = -1\/sM g i=true)
 a4:r.bx.length<=4
 act:∀x∈r.bx,0<=x/\x<=1000000
theorem auy{g:aN}{t:c8}{r:dM}(E:iV t=true)(h:lT g r=true):Oz g t r:=by
 have hb:=fG g;simp only[lT,aK,cv,eD]at h;obtain⟨I,C,D,J,L⟩:=h;have C:(r.last.length:Int)=9*(aV g+1):=by simpa using C
 have D:¬ (r.bx.length:Int) > 4:=by simpa using D
 refine⟨I,E,by omega,λi hi=>?_,by omega,λx O=>?_⟩
 ·have e:=J i hi;rw[Jb hi]at e;simp only[aK,dy]at e;refine⟨bC.1 e.1,?_⟩;rcases e.2 with e2 | e2
  ·exact .inr e2
  ·exact .inl (by simpa using e2)
 ·obtain⟨i,hi,rfl⟩:=iX.1 O;have e:=L i hi;cases i with
  |zero=>rw[Jc hi]at e;exact bC.1 e
  |succ i=>rw[DV hi]at e;simp only[aK]at e;exact bC.1 e.1
theorem auz(i:Nat):1<=(n7 i).kind/\(n7 i).kind<=9:=by
 unfold n7;dsimp only;omega
theorem afB{g:aN}{t:c8}{r:dM}(h:Oz g t r)(c:aI):∀ k,k<=r.last.length->0<=vZ g t r.last c k/\vZ g t r.last c k<=1000128
 |0,_=>⟨Int.le_refl _,by show (0:Int)<=_;omega⟩
 | k+1,D=>by
  have C:=afB h c k (by omega);rw[afz,afA (by omega)];have E:=afa h.OA g (n7 k) c;have hl:=(h.last k (by omega)).1;cases decide (r.last[k]<0)with
  |true=>exact C
  |false=>exact auw (by omega) C
theorem auA{g:aN}{t:c8}{r:dM}{c:aI}(h:Oz g t r)(L:eK g c=true):Mr g t r c=some (Jr g t r c):=by
 have hb:=λk E=>afB h c k E
 have Q:1<=c.kind/\c.kind<=9:=by
  simp only[eK,aK]at L;exact bC.1 L.2.1
 have e:=dx (step:=GP) r.last.length (λi=>(((),(),(),(),vZ g t r.last c i,(i:Int),()),((g.ck,g.aF,g.rows,g.aO,()),t,(r.last,r.bx,()),(c.kind,c.az,c.row,c.bT,()),()))) (.inl (((),(),(),vZ g t r.last c r.last.length,()),(t,(r.last,r.bx,()),(c.kind,c.az,c.row,c.bT,()),()))) aZ (λk E=>by
  have Y:=h.len;have Z:=(h.last k E).1;have h3:=hb k (by omega);have D:=afa h.OA g (n7 k) c;unfold GP aB xG xI;dsimp only;rw[aW (by omega),ak,aG ⟨by omega,by omega⟩,bP (by omega)];simp only[bJ];rw[afz,afA E];cases hd:decide (r.last[k]<0)with
  |true=>rfl
  | false=>
   have I:ym g t (n7 k) c=some (yS g t (n7 k) c):=atv h.By h.OA (auz k) Q;have T:W6 ((k:Int).tmod 9+1)=(k:Int) % 9+1:=by rw[p9 (by omega),bf (by omega) (by omega)]
   have U:W6 ((k:Int).tdiv 9)=(k:Int) / 9:=by rw[qM (by omega),bf (by omega) (by omega)]
   unfold n7 at I;rw[aq,aq,T,U];by_cases C:(k:Int) % 9+1<=5
   ·rw[bk C]at I;rw[aW C,ak,aG ⟨by omega,E⟩,nY];show Option.bind (ym g t _ c) _=_;rw[I,au,bf (n:=r.last[k]+_) (by unfold n7 at D;rw[bk C]at D;omega) (by unfold n7 at D;rw[bk C]at D;omega)];unfold n7 yX;rw[bk C]
   ·rw[bB C]at I;rw[br C,aq,aG ⟨by omega,E⟩,nY];show Option.bind (ym g t _ c) _=_;rw[I,au,bf (n:=r.last[k]+_) (by unfold n7 at D;rw[bB C]at D;omega) (by unfold n7 at D;rw[bB C]at D;omega)];unfold n7 yX;rw[bB C]) (by
  unfold GP aB xG xI;dsimp only;rw[br (by omega),aq]) (bY (by have:=h.len;omega))
 rw[cA]at e;unfold Mr Jr xI bw
 refine(bD (λo=>Option.bind o _) e).trans ?_
 rw[au];simp only[eO];have hL:=hb r.last.length (dV _);have hf:=atB h.OA;cases c.kind==(1:Int)with
 |false=>rfl
 | true=>
  cases O:(r.bx.length:Int)==(4:Int)with
  |false=>rfl
  | true=>
   have O:(r.bx.length:Int)=4:=by simpa using O
   have J:0<r.bx.length:=by omega
   have ha:=h.act _ (cP J);rw[ak,ak,aG ⟨by omega,J⟩];show some (if W6 (r.bx[0]+t.nB) > _ then W6 (r.bx[0]+t.nB)else _)=_;rw[bf (by omega) (by omega),eX,bK J];rfl
def iN(c:av)(x:aI):Bool:=pR c.bh x&&(decide (Jr c.config.ay c.config.cc c.ready x<=1000000)&&decide (Jr c.config.ay c.config.cc c.ready x<=c.now))
structure Pk (c:av):Prop where
 z:dO c
 ok:dU c=true
 rk:oN c.config.ay c.bh=true
 rdy:lT c.config.ay c.ready=true
 R:Oz c.config.ay c.config.cc c.ready
 bl:(c.bh.aF.length:Int)=aV c.config.ay
theorem Pk.of{c:av}(D:dO c)(h:dU c=true):Pk c:=by
 have L:c.box.bZ.weights.length<=1048576:=D.1.1;have I:=h;simp only[dU,aK]at h;obtain⟨J,O,Q,C,E,T,U,Y,Z,NH,OB,jJ,jo,kF,kj,jq,oe,qb,qc,sZ,uA,uB⟩:=h;have hb:(c.bh.aF.length:Int)=aV c.config.ay:=by
  simp only[oN,aK]at C
  simpa using C.2.1
 exact⟨D,I,C,E,auy (auv (by omega) J) E,hb⟩
theorem auB{g:aN}{x:aI}(C:eK g x=true):(1<=x.kind/\x.kind<=9)/\(x.kind<=5->0<=x.az/\x.az<aV g):=by
 simp only[eK,aK]at C
 refine⟨bC.1 C.2.1,λE=>?_⟩
 have D:=C.2.2.1;rw[Ok (bC.1 C.2.1),aW E]at D;have:=bC.1 D;omega
theorem OC{c:av}(h:Pk c){x:aI}(C:eK c.config.ay x=true):AI c x=some (iN c x):=by
 obtain⟨I,D⟩:=auB C;have hb:=fG c.config.ay;have hl:=h.bl;unfold AI iN;rw[att I (λE=>⟨(D E).1,by have:=D E;omega⟩) (by omega),au,auA h.R C,au];cases pR c.bh x with
 |false=>rfl
 | true=>
  cases decide (Jr c.config.ay c.config.cc c.ready x<=1000000)<;>rfl
def iB(i:Nat):aa Int->aa Int
 |[]=>[]
 |d::l=>bif decide (d >= 4)then (i:Int)::iB (i+1) l else iB (i+1) l
theorem auC(i:Nat)(a b:aa Int):iB i (a++b)=iB i a++iB (i+a.length) b:=by
 induction a generalizing i with
 |nil=>rfl
 | cons d a C=>
  rw[List.cons_append,iB,iB,C (i+1),kB,show i+1+a.length=i+(a.length+1) by omega];cases decide (d >= 4)<;>rfl
theorem OD(i:Nat)(l:aa Int):(iB i l).length<=l.length:=by
 induction l generalizing i with
 |nil=>exact dV _
 | cons d l C=>
  have:=C (i+1);unfold iB;cases decide (d >= 4)<;>simp<;>omega
theorem afC{l:aa Int}{i:Nat}(h:i<l.length):iB 0 (l.take (i+1))=bif decide (l[i] >= 4)then iB 0 (l.take i)++[(i:Int)]else iB 0 (l.take i):=by
 rw[sK h,auC,fR,Nat.min_eq_left (by omega),eN];show _++(bif decide (l[i] >= 4)then (i:Int)::iB (i+1) []else iB (i+1) [])=_;cases decide (l[i] >= 4)with
 |true=>rfl
 |false=>exact List.append_nil _
theorem auD{l:aa Int}{i:Nat}{b:Int}(h:b∈iB i l):∃ j:Nat,b=((i+j:Nat):Int)/\j<l.length/\l.getD j 0 >= 4:=by
 induction l generalizing i with
 |nil=>cases h
 | cons d l D=>
  unfold iB at h;have tl:b∈iB (i+1) l->∃ j:Nat,b=((i+j:Nat):Int)/\j<(d :: l).length/\(d :: l).getD j 0 >= 4:=λh=>by
   obtain⟨j,E,I,J⟩:=D h;exact⟨j+1,by rw[E];congr 1;omega,by simpa using I,by simpa using J⟩
  cases C:decide (d >= 4)with
  | true=>
   rw[C,ak]at h;rcases fF.1 h with rfl|h
   ·exact⟨0,rfl,by simp,by simpa using C⟩
   ·exact tl h
  | false=>
   rw[C,aq]at h;exact tl h
theorem v5{r:dc}(h:fq r=true):r.aU.length<=8/\1<=r.aU.length:=by
 simp only[fq,aK]at h;have:=bC.1 h.2.1;omega
theorem afD{r:dc}(C:fq r=true):Hq r=some (iB 0 r.aU):=by
 have hl:=v5 C;unfold Hq bw;have e:=dx (step:=Hp) r.aU.length (λi=>(((),(),(i:Int),()),((r.aU,r.wait,r.dR,()),iB 0 (r.aU.take i),()))) (.inl (((),()),(iB 0 r.aU,()))) aZ (λi h=>by
  have D:=OD 0 (r.aU.take i);rw[fR]at D;unfold Hp aB xG xI;dsimp only;rw[aW (by omega),ak,show (⟨r.aU,r.wait,r.dR⟩:dc)=r from rfl,N9 _ (by omega),au,C,ak,aG ⟨by omega,by omega⟩,bP (by omega),afC h];simp only[bJ];cases decide (r.aU[i] >= 4)with
  |true=>rw[ak,ak,ij,dh (by omega),ak]
  |false=>rfl) (by
  unfold Hp aB xG xI;dsimp only;rw[br (by omega),aq,jF]) (bY (by omega))
 rw[cA,List.take_zero]at e
 refine(bD (λo=>Option.bind o _) e).trans ?_
 rfl
def D0(c:av):Bool:=decide ((c.queue.length:Int) > 0) ||(decide ((c.pending.length:Int) > 0) ||decide (((iB 0 c.bu.aU).length:Int) > 0))
theorem afE{c:av}(C:fq c.bu=true):AR c=some (D0 c):=by
 unfold AR D0;rw[afD C,au];cases decide ((c.queue.length:Int) > 0)<;>cases decide ((c.pending.length:Int) > 0)<;>rfl
def yY(r:oc)(p:eY)(b:Bool):Int:=
 bif b then (bif p.state==1 then 7 else bif p.state==2 then 9 else 0)else bif p.state==0&&decide (p.idle >= r.sleep)then 8 else bif p.state==0&&decide (p.idle >= r.down)then 6 else bif p.state==1&&decide (p.idle >= r.sleep)then 7 else 0
theorem auE(r:oc)(p:eY)(b:Bool)(D:yN r=true)(E:ji p=true):MS r p b=some (yY r p b):=by
 unfold MS yY;simp only[aeO,U1,au,D,E,bR,aq];by_cases C:p.state=0
 ·rw[C];cases b<;>cases decide (p.idle >= r.sleep)<;>cases decide (p.idle >= r.down)<;>rfl
 ·by_cases s1:p.state=1
  ·rw[s1];cases b<;>cases decide (p.idle >= r.sleep)<;>rfl
  ·have C:(p.state==0)=false:=by simpa using C
   have s1:(p.state==1)=false:=by simpa using s1
   simp only[C,s1];cases b<;>cases p.state==2<;>rfl
theorem auF(r:oc)(p:eY)(b:Bool):yY r p b=0\/6<=yY r p b/\yY r p b<=9:=by
 unfold yY;cases b<;>cases p.state==0<;>cases p.state==1<;>cases p.state==2<;>cases decide (p.idle >= r.sleep)<;>cases decide (p.idle >= r.down)<;>decide
def Bz(D:Nat->Bool)(v:Nat->Int)(C:Int)(i:Nat):Int:=bif D i&&(decide (C<0) ||decide (v i > v C.toNat))then (i:Int)else C
def iC(C:Nat->Bool)(v:Nat->Int)(k:Nat):Int:=(List.range k).foldl (Bz C v) (-1)
theorem Js(C:Nat->Bool)(v:Nat->Int)(k:Nat):iC C v (k+1)=Bz C v (iC C v k) k:=by
 unfold iC;rw[List.range_succ,List.foldl_append];rfl
theorem v7(C:Nat->Bool)(v:Nat->Int):∀ k,-1<=iC C v k/\iC C v k<k
 |0=>⟨Int.le_refl _,by show (-1:Int)<0;omega⟩
 | k+1=>by
  have D:=v7 C v k;rw[Js];unfold Bz;cases C k&&(decide (iC C v k<0) ||decide (v k > v (iC C v k).toNat))with
  |true=>rw[ak];omega
  |false=>rw[aq];omega
theorem Vi(C:Nat->Bool)(v:Nat->Int):∀ k,iC C v k = -1\/C (iC C v k).toNat=true
 |0=>.inl rfl
 | k+1=>by
  have D:=Vi C v k;rw[Js];unfold Bz;cases hm:C k with
  |false=>rw[Bool.false_and,aq];exact D
  | true=>
   cases decide (iC C v k<0) ||decide (v k > v (iC C v k).toNat)with
   |true=>exact .inr (by rw[cM,ak,bJ];exact hm)
   |false=>exact D
theorem Vj{C:Nat->Bool}(v:Nat->Int){i:Nat}(h:C i=true):∀ k,i<k->0<=iC C v k
 |0,D=>by omega
 | k+1,D=>by
  have hb:=v7 C v k;rw[Js];unfold Bz;by_cases E:i=k
  ·subst E;rw[h,cM];by_cases I:iC C v i<0
   ·rw[aW I,Bool.true_or,ak];omega
   ·cases decide (iC C v i<0) || decide (v i > v (iC C v i).toNat)with
    |true=>rw[ak];omega
    |false=>rw[aq];omega
  ·have J:=Vj v h k (by omega);cases C k&&(decide (iC C v k<0) || decide (v k > v (iC C v k).toNat))with
   |true=>rw[ak];omega
   |false=>rw[aq];exact J
def rM(l:aa cq)(w:aa Bool):Int:=iC (λi=>w.getD i false) (λi=>(l.getD i ⟨0,0⟩).fz) (min l.length w.length)
theorem Jt(l:aa cq)(w:aa Bool)(hl:l.length<1073741824):IS l w=some (rM l w):=by
 unfold IS rM bw;generalize L:min l.length w.length=n;have e:=dx (step:=NK) n (λi=>((l,w,iC (λi=>w.getD i false) (λi=>(l.getD i ⟨0,0⟩).fz) i,(i:Int),()),())) (.inl ((iC (λi=>w.getD i false) (λi=>(l.getD i ⟨0,0⟩).fz) n,()),())) aZ (λi h=>by
  have C:i<l.length:=by omega
  have J:i<w.length:=by omega
  have hb:=v7 (λi=>w.getD i false) (λi=>(l.getD i ⟨0,0⟩).fz) i;rw[Js];generalize iC (λi=>w.getD i false) (λi=>(l.getD i ⟨0,0⟩).fz) i=D at hb;unfold NK Bz aB xG xI;dsimp only;rw[aW (by omega),ak,aW (by omega),ak,aG ⟨by omega,by omega⟩,bP (by omega)];simp only[bJ,eX,bK J,bK C,Option.getD_some];cases w[i]with
  |false=>rfl
  | true=>
   rw[ak,cM];by_cases E:D<0
   ·rw[aW E];rfl
   ·have I:D.toNat<l.length:=by omega
    rw[br E,aq,aG ⟨by omega,C⟩,aG ⟨by omega,I⟩,Bool.false_or,bK I,Option.getD_some];cases decide (l[i].fz > l[D.toNat].fz)<;>rfl) (by
  unfold NK aB xG xI;dsimp only;by_cases C:n<l.length
  ·rw[aW (by omega),ak,br (by omega),aq]
  ·rw[br (by omega),aq]) (bY (by omega))
 rw[cA]at e
 refine(bD (λo=>Option.bind o _) e).trans ?_
 rfl
theorem auG:MF=IS:=rfl
def rN(s:cq):cq:=⟨s.weight,s.weight⟩
def ia(l:aa cq):aa cq:=l.map rN
theorem Vk(l:aa cq)(w:aa Bool)(hl:l.length<1073741824):iter IT aZ ((w,(),(l.length:Int),(0:Int),()),(l,()))=some (.inl ((w,(),()),(ia l,()))):=by
 have e:=dx (step:=IT) l.length (λi=>((w,(),(l.length:Int),(i:Int),()),(upto rN l i,()))) (.inl ((w,(),()),(ia l,()))) aZ (λi h=>by
  have hlen:=IX rN l i;unfold IT aB xG xL;dsimp only;rw[aW (by omega),ak,aG ⟨by omega,by omega⟩,aG (by omega),aG ⟨by omega,by omega⟩,aG (by omega),bP (by omega)];simp only[bJ];rw[NS rN l i h,<-NT rN l i h];rfl) (by
  unfold IT aB xG xL;dsimp only;rw[br (by omega),aq,NR];rfl) (bY hl)
 rw[cA,NQ]at e;exact e
theorem auH(l:aa cq)(w:aa Bool)(hl:l.length<1073741824):iter Dj aZ ((w,(),(0:Int),()),(l,()))=some (.inl ((w,(),()),(ia l,()))):=by
 have e:=dx (step:=Dj) l.length (λi=>((w,(),(i:Int),()),(upto rN l i,()))) (.inl ((w,(),()),(ia l,()))) aZ (λi h=>by
  have hlen:=IX rN l i;unfold Dj aB xG xL;dsimp only;rw[aW (by omega),ak,aG ⟨by omega,by omega⟩,aG (by omega),aG ⟨by omega,by omega⟩,aG (by omega),bP (by omega)];simp only[bJ];rw[NS rN l i h,<-NT rN l i h];rfl) (by
  have hlen:=IX rN l l.length;unfold Dj aB xG xL;dsimp only;rw[br (by omega),aq,NR];rfl) (bY hl)
 rw[cA,NQ]at e;exact e
theorem afF(l:aa cq)(w:aa Bool)(hl:l.length<1073741823):G9 l w=qJ l w:=by
 unfold G9 qJ xC bw xL;rw[List.nil_append,auG,Jt l w (by omega),au,I7 _ (by omega),aeK _ (by omega),au,au];rw[Vk l w (by omega),auH l w (by omega)];rfl
theorem Vl{l:aa cq}(w:aa Bool)(hl:l.length<1073741823)(L:gj l=true)(T:l.length=w.length):∃ y t,qJ l w=some (y,t)/\y.length=l.length:=by
 unfold qJ xC bw xL;have hb:=v7 (λi=>w.getD i false) (λi=>(l.getD i ⟨0,0⟩).fz) (min l.length w.length);have D:(ia l).length=l.length:=by simp[ia]
 have O:=v7 (λi=>w.getD i false) (λi=>((ia l).getD i ⟨0,0⟩).fz) (min (ia l).length w.length);have Q:=Vi (λi=>w.getD i false) (λi=>(l.getD i ⟨0,0⟩).fz) (min l.length w.length);rw[List.nil_append,Jt l w (by omega),au,I7 _ (by omega),au,L,bR,aq,List.length_nil,eN,dh (by omega),ak];unfold rM;generalize U:iC (λi=>w.getD i false) (λi=>(l.getD i ⟨0,0⟩).fz) (min l.length w.length)=b at *
 by_cases I:b<0
 ·rw[aW I];exact⟨_,_,rfl,by simp[D]⟩
 ·have C:b.toNat<l.length:=by omega
  rw[br I,aq,aG ⟨by omega,C⟩,aG C];dsimp only;cases l[b.toNat].fz==0 with
  | false=>
   rw[aq,aG ⟨by omega,C⟩,aG C,aG ⟨by omega,C⟩,aG C];exact⟨_,_,rfl,by simp[D]⟩
  | true=>
   rw[ak,Vk l w (by omega),au];simp only[eO];rw[Jt _ w (by omega),au];have J:0<=rM (ia l) w:=Vj _ (i:=b.toNat) (by rcases Q with h|h;exact absurd h (by omega);exact h) _ (by rw[D];omega);have Y:rM (ia l) w<((min (ia l).length w.length:Nat):Int):=O.2;have E:(rM (ia l) w).toNat<(ia l).length:=by omega
   rw[aG ⟨J,E⟩,aG E,aG ⟨J,E⟩,aG E];exact⟨_,_,rfl,by simp[D]⟩
def yZ(m:kC)(n:Int)(a:aL):aL:=bif m.hash then ⟨(a.az+a.row) % n,a.row,a.bT⟩else a
def v8(g:aN)(m:kC)(l:Int):aL:=yZ m (aV g)
 (bif m.order==0 then ⟨l / g.aO % aV g,l / g.aO / aV g,l % g.aO⟩else bif m.order==1 then ⟨l % aV g,l / aV g / g.aO,l / aV g % g.aO⟩else ⟨l / g.aO / g.rows,l / g.aO % g.rows,l % g.aO⟩)
theorem D1{l a b:Int}(C:0<=l)(hb:0<b)(h:l<a*b):0<=l / b/\l / b<a/\l / b<=l:=by
 refine⟨Int.ediv_nonneg C (by omega),Int.ediv_lt_of_lt_mul hb h,?_⟩;exact Int.ediv_le_self _ C
theorem za{l b:Int}(hb:0<b):0<=l % b/\l % b<b:=⟨Int.emod_nonneg _ (by omega),Int.emod_lt_of_pos _ hb⟩
theorem Vm{m:kC}{n:Int}{a:aL}(C:0<n)(hb:0<=a.az/\a.az<n):0<=(yZ m n a).az/\(yZ m n a).az<n/\(yZ m n a).row=a.row/\(yZ m n a).bT=a.bT:=by
 unfold yZ;cases m.hash with
 |false=>exact⟨hb.1,hb.2,rfl,rfl⟩
 |true=>exact⟨(za C).1,(za C).2,rfl,rfl⟩
theorem Vn{m:kC}{n b r c:Int}(C:0<n)(D:n<=8)(E:0<=b/\b<=100000)(I:0<=r/\r<=100000):(bif m.hash then if n=0 then none else some ((⟨(W6 (b+r)).tmod n,r,c⟩:aL),true)else some ((⟨b,r,c⟩:aL),true))=some (yZ m n ⟨b,r,c⟩,true):=by
 unfold yZ;cases m.hash with
 |false=>rfl
 |true=>rw[ak,bB (by omega),bf (by omega) (by omega),p9 (by omega),ak]
theorem afG{g:aN}{m:kC}{l:Int}(L:cF g=true)(hm:aJ m.order 0 2=true)(D:0<=l)(hl:l<cX g):∀ (f:aj (aL×Bool)),f=(bif (m.order==(0:Int))then if g.aO=0 then none else if g.aO=0 then none else if aV g=0 then none else if g.aO=0 then none else if aV g=0 then none else bif m.hash then if aV g=0 then none else some ((⟨((W6 (((W6 (l.tdiv g.aO)).tmod (aV g))+(W6 ((W6 (l.tdiv g.aO)).tdiv (aV g))))).tmod (aV g)),(W6 ((W6 (l.tdiv g.aO)).tdiv (aV g))),(l.tmod g.aO)⟩:aL),true)else some ((⟨((W6 (l.tdiv g.aO)).tmod (aV g)),(W6 ((W6 (l.tdiv g.aO)).tdiv (aV g))),(l.tmod g.aO)⟩:aL),true)else bif (m.order==(1:Int))then if aV g=0 then none else if aV g=0 then none else if g.aO=0 then none else if aV g=0 then none else if g.aO=0 then none else bif m.hash then if aV g=0 then none else some ((⟨((W6 ((l.tmod (aV g))+(W6 ((W6 (l.tdiv (aV g))).tdiv g.aO)))).tmod (aV g)),(W6 ((W6 (l.tdiv (aV g))).tdiv g.aO)),((W6 (l.tdiv (aV g))).tmod g.aO)⟩:aL),true)else some ((⟨(l.tmod (aV g)),(W6 ((W6 (l.tdiv (aV g))).tdiv g.aO)),((W6 (l.tdiv (aV g))).tmod g.aO)⟩:aL),true)else if g.aO=0 then none else if g.aO=0 then none else if g.rows=0 then none else if g.aO=0 then none else if g.rows=0 then none else bif m.hash then if aV g=0 then none else some ((⟨((W6 ((W6 ((W6 (l.tdiv g.aO)).tdiv g.rows))+((W6 (l.tdiv g.aO)).tmod g.rows))).tmod (aV g)),((W6 (l.tdiv g.aO)).tmod g.rows),(l.tmod g.aO)⟩:aL),true)else some ((⟨(W6 ((W6 (l.tdiv g.aO)).tdiv g.rows)),((W6 (l.tdiv g.aO)).tmod g.rows),(l.tmod g.aO)⟩:aL),true))->f=some (v8 g m l,true)/\dA g (v8 g m l)=true:=by
 have hb:=fG g;have hp:=IY L;have hL:=nW g;have gb:=fP L;have eL:cX g=aV g*g.rows*g.aO:=by simp[cX,L]
 have zl:aJ l 0 (W6 (cX g-1))=true:=by rw[bf (by omega) (by omega)];exact bC.2 ⟨D,by omega⟩
 have ho:=bC.1 hm;rw[eL]at hl;have U:¬ aV g=0:=by omega
 have sj:¬ g.aO=0:=by omega
 have lE:¬ g.rows=0:=by omega
 rintro f rfl;simp only[bB U,bB sj,bB lE];unfold v8;by_cases Y:m.order=0
 ·have C:=D1 (a:=aV g*g.rows) D (show 0<g.aO by omega) hl;have E:=D1 (l:=l / g.aO) (a:=g.rows) (b:=aV g) C.1 (by omega) (by rw[Int.mul_comm];exact C.2.1);have O:=za (l:=l / g.aO) (b:=aV g) (by omega);have a4:=za (l:=l) (b:=g.aO) (by omega);rw[Y,ld,ak,ak,qM D,p9 D,bf (n:=l / g.aO) (by omega) (by omega),qM C.1,p9 C.1,bf (n:=l / g.aO / aV g) (by omega) (by omega)];obtain⟨Q,T,I,J⟩:=Vm (m:=m) (n:=aV g) (a:=⟨l / g.aO % aV g,l / g.aO / aV g,l % g.aO⟩) (by omega) O;refine⟨?_,vU L Q T (by rw[I];exact E.1) (by rw[I];exact E.2.1) (by rw[J];exact a4.1) (by rw[J];exact a4.2)⟩;refine Eq.trans ?_ (Vn (by omega) (by omega) (by omega) (by omega));rw[bB U]
 ·rw[jw Y,aq,aq];by_cases Z:m.order=1
  ·have C:=D1 (a:=g.rows*g.aO) D (show 0<aV g by omega) (by rw[Int.mul_comm,<-Int.mul_assoc];exact hl);have E:=D1 (l:=l / aV g) (a:=g.rows) (b:=g.aO) C.1 (by omega) C.2.1;have O:=za (l:=l) (b:=aV g) (by omega);have a4:=za (l:=l / aV g) (b:=g.aO) (by omega);rw[Z,ld,ak,ak,qM D,p9 D,bf (n:=l / aV g) (by omega) (by omega),qM C.1,p9 C.1,bf (n:=l / aV g / g.aO) (by omega) (by omega)];obtain⟨Q,T,I,J⟩:=Vm (m:=m) (n:=aV g) (a:=⟨l % aV g,l / aV g / g.aO,l / aV g % g.aO⟩) (by omega) O;refine⟨?_,vU L Q T (by rw[I];exact E.1) (by rw[I];exact E.2.1) (by rw[J];exact a4.1) (by rw[J];exact a4.2)⟩;refine Eq.trans ?_ (Vn (by omega) (by omega) (by omega) (by omega));rw[bB U]
  ·have C:=D1 (a:=aV g*g.rows) D (show 0<g.aO by omega) hl;have E:=D1 (l:=l / g.aO) (a:=aV g) (b:=g.rows) C.1 (by omega) C.2.1;have O:=za (l:=l / g.aO) (b:=g.rows) (by omega);have a4:=za (l:=l) (b:=g.aO) (by omega);rw[jw Z,aq,aq,qM D,p9 D,bf (n:=l / g.aO) (by omega) (by omega),qM C.1,p9 C.1,bf (n:=l / g.aO / g.rows) (by omega) (by omega)];obtain⟨Q,T,I,J⟩:=Vm (m:=m) (n:=aV g) (a:=⟨l / g.aO / g.rows,l / g.aO % g.rows,l % g.aO⟩) (by omega) ⟨E.1,E.2.1⟩;refine⟨?_,vU L Q T (by rw[I];exact O.1) (by rw[I];exact O.2) (by rw[J];exact a4.1) (by rw[J];exact a4.2)⟩;refine Eq.trans ?_ (Vn (by omega) (by omega) (by omega) (by omega));rw[bB U]
end Go.Proofs.YtglnbhiaknohlaaGreat
