/-
  Plain laws. Nothing here is a claim.
-/
import Derived.Test.YtcioagfjiccleaaGreatVZ
import Derived.Test.YtcioagfjiccleaaGreatOpenV
import Derived.Test.YtcioagfjiccleaaGreatG1
import Derived.Test.YtcioagfjiccleaaGreatG2
import Derived.Test.YtcioagfjiccleaaGreatG3
import Derived.Test.YtcioagfjiccleaaGreatG4
import Derived.Test.YtcioagfjiccleaaGreatG5
import Derived.Test.YtcioagfjiccleaaGreatG6
namespace Go.Proofs.YtcioagfjiccleaaGreat
open Go.RowKit
set_option linter.unusedVariables false
set_option linter.unusedSimpArgs false
set_option maxRecDepth 100000
theorem bD{n:Int}(h1:-9223372036854775808<=n)(h2:n<9223372036854775808):W6 n=n:=by
 exact(IntKind.wrap_i64 n).trans (by omega)
theorem VO{α β:Type}{step:α->aj (α⊕β)}(I:α->Prop)(m:α->Nat)(Q:β->Prop)
  (h:∀x,I x->(∃y,step x=some (.inl y)/\I y/\m y<m x)\/∃z,step x=some (.inr z)/\Q z):
  ∀(n:Nat) (x:α),I x->m x<n->∃z,iter step n x=some z/\Q z
 |0,x,_,hm=>by omega
 | n+1,x,hx,hm=>by
  unfold iter;rcases h x hx with ⟨y,h1,h2,h3⟩|⟨z,h1,h2⟩
  ·rw[h1];exact VO I m Q h n y h2 (by omega)
  ·rw[h1];exact⟨z,rfl,h2⟩
theorem av{α β:Type}(x:α)(f:α->aj β):(some x).bind f=f x:=rfl
theorem oN{α β T:Type}{step:α->aj (α⊕β)}(l:af T)(q:T->Bool)(S:Nat->α)(zf z:β)(fuel:Nat)(hs:∀ k (h:k<l.length),step (S k)=some (bif q l[k]then .inl (S (k+1))else .inr zf))(hz:step (S l.length)=some (.inr z))(hf:l.length<fuel):
  iter step fuel (S 0)=some (bif l.all q then z else zf):=by
 have key:∀ (n i fuel:Nat),i+n=l.length->n<fuel->iter step fuel (S i)=some (bif (l.drop i).all q then z else zf):=by
  intro n
  induction n with
  | zero=>
   intro i fuel hi hf
   match fuel,hf with
   | f+1,_=>
    have:i=l.length:=by omega
    subst this;unfold iter;rw[hz];simp
  | succ n ih=>
   intro i fuel hi hf
   match fuel,hf with
   | f+1,hf=>
    have bC:i<l.length:=by omega
    unfold iter;rw[hs i bC,List.drop_eq_getElem_cons bC,List.all_cons];cases q l[i]with
    |true=>simp only[aq,dF];exact ih (i+1) f (by omega) (by omega)
    |false=>rfl
 exact key l.length 0 fuel (by omega) hf
theorem eG{α β:Type}{step:α->aj (α⊕β)}(n:Nat)(S:Nat->α)(z:β)(fuel:Nat)(hs:∀ k,k<n->step (S k)=some (.inl (S (k+1))))(hz:step (S n)=some (.inr z))(hf:n<fuel):iter step fuel (S 0)=some z:=by
 have key:∀ (m i fuel:Nat),i+m=n->m<fuel->iter step fuel (S i)=some z:=by
  intro m
  induction m with
  | zero=>
   intro i fuel hi hf
   match fuel,hf with
   | f+1,_=>
    have:i=n:=by omega
    subst this;unfold iter;rw[hz]
  | succ m ih=>
   intro i fuel hi hf
   match fuel,hf with
   | f+1,hf=>
    unfold iter;rw[hs i (by omega)];exact ih (i+1) f (by omega) (by omega)
 exact key n 0 fuel (by omega) hf
theorem aed{α β:Type}{step:α->aj (α⊕β)}(n:Nat)(I:Nat->α->Prop)(Q:β->Prop){x:α}(fuel:Nat)(h0:I 0 x)(hs:∀ k,k<n->∀ x,I k x->∃ y,step x=some (.inl y)/\I (k+1) y)(hz:∀ x,I n x->∃ z,step x=some (.inr z)/\Q z)(hf:n<fuel):∃ z,iter step fuel x=some z/\Q z:=by
 have key:∀ (m i fuel:Nat) (x:α),i+m=n->m<fuel->I i x->∃ z,iter step fuel x=some z/\Q z:=by
  intro m
  induction m with
  | zero=>
   intro i fuel x hi hf hx
   match fuel,hf with
   | f+1,_=>
    have:i=n:=by omega
    subst this;obtain⟨z,h1,h2⟩:=hz x hx;unfold iter;rw[h1];exact⟨z,rfl,h2⟩
  | succ m ih=>
   intro i fuel x hi hf hx
   match fuel,hf with
   | f+1,hf=>
    obtain⟨y,h1,h2⟩:=hs i (by omega) x hx;unfold iter;rw[h1];exact ih (i+1) f y (by omega) (by omega) h2
 exact key n 0 fuel x (by omega) hf h0
theorem aee{α β:Type}{step:α->aj (α⊕β)}(n:Nat)(I:Nat->α->Prop)(Q:β->Prop){x:α}(fuel:Nat)(h0:I 0 x)(hs:∀ k,k<n->∀ x,I k x->(∃ y,step x=some (.inl y)/\I (k+1) y)\/∃ z,step x=some (.inr z)/\Q z)(hz:∀ x,I n x->∃ z,step x=some (.inr z)/\Q z)(hf:n<fuel):∃ z,iter step fuel x=some z/\Q z:=by
 have key:∀ (m i fuel:Nat) (x:α),i+m=n->m<fuel->I i x->∃ z,iter step fuel x=some z/\Q z:=by
  intro m
  induction m with
  | zero=>
   intro i fuel x hi hf hx
   match fuel,hf with
   | f+1,_=>
    have:i=n:=by omega
    subst this;obtain⟨z,h1,h2⟩:=hz x hx;unfold iter;rw[h1];exact⟨z,rfl,h2⟩
  | succ m ih=>
   intro i fuel x hi hf hx
   match fuel,hf with
   | f+1,hf=>
    unfold iter;rcases hs i (by omega) x hx with ⟨y,h1,h2⟩|⟨z,h1,h2⟩
    ·rw[h1];exact ih (i+1) f y (by omega) (by omega) h2
    ·rw[h1];exact⟨z,rfl,h2⟩
 exact key n 0 fuel x (by omega) hf h0
def upto{α:Type}(f:α->α)(l:af α)(i:Nat):af α:=(l.take i).map f++l.drop i
theorem PN{α:Type}(f:α->α)(l:af α)(i:Nat):(upto f l i).length=l.length:=by
 simp[upto];omega
theorem VP{α:Type}(f:α->α)(l:af α):upto f l 0=l:=by simp[upto]
theorem VQ{α:Type}(f:α->α)(l:af α):upto f l l.length=l.map f:=by simp[upto]
theorem VR{α:Type}(f:α->α)(l:af α)(i:Nat)(h:i<l.length)(h':i<(upto f l i).length):(upto f l i)[i]=l[i]:=by
 simp only[upto];rw[List.getElem_append_right (by simp;omega)];simp[Nat.min_eq_left (Nat.le_of_lt h)]
theorem VS{α:Type}(f:α->α)(l:af α)(i:Nat)(h:i<l.length):(upto f l i).set i (f l[i])=upto f l (i+1):=by
 have hm:min i l.length=i:=by omega
 have e:l.drop i=l[i]::l.drop (i+1):=List.drop_eq_getElem_cons h;simp only[upto];rw[List.set_append_right _ _ (by simp;omega),e,List.take_succ_eq_append_getElem h];simp only[List.map_append,kN,List.map_nil,eV,lM,hm,Nat.sub_self,List.set_cons_zero,List.append_assoc,List.cons_append,List.nil_append]
theorem mz{x y:Int}(h:¬ x=y):(x==y)=false:=by simp[h]
theorem mS{x y:Int}(h:¬ x=y):(x != y)=true:=by simp[h]
theorem gk{n:Nat}(h:n<1073741824):bZ n=true:=bz h
theorem cK{i:Nat}(h:i<4611686018427387904):W6 ((i:Int)+1)=((i+1:Nat):Int):=by
 rw[bD (by omega) (by omega)];simp
theorem cT{n:Nat}(h:n<1073741824):n<bB:=by unfold bB;omega
def aP(x a b:Int):Bool:=decide (a<=x)&&decide (x<=b)
theorem bO{x a b:Int}:aP x a b=true ↔ a<=x/\x<=b:=by simp[aP]
theorem dw(x a b:Int):cx x a b=some (aP x a b):=by
 unfold cx aP;by_cases h:a<=x<;>simp[h]
theorem aq1(x a b:Int):Fy x a b=some (aP x a b):=dw x a b
def cY(g:aR):Bool:=aP g.cU 1 2&&aP g.aI 1 4&&aP g.rows 2 16&&aP g.aU 1 8
theorem uU(g:aR):q9 g=some (cY g):=by
 unfold q9 cY;simp only[dw,av];cases aP g.cU 1 2<;>cases aP g.aI 1 4<;>cases aP g.rows 2 16<;>rfl
theorem aef(g:aR):JB g=some (cY g):=by
 unfold JB cY;simp only[aq1,av];cases aP g.cU 1 2<;>cases aP g.aI 1 4<;>cases aP g.rows 2 16<;>rfl
theorem jw{g:aR}(h:cY g=true):1<=g.cU/\g.cU<=2/\1<=g.aI/\g.aI<=4/\2<=g.rows/\g.rows<=16/\1<=g.aU/\g.aU<=8:=by
 simp only[cY,aP,aJ,iB]at h;omega
def bf(g:aR):Int:=bif cY g then g.cU*g.aI else 0
theorem iI(g:aR):0<=bf g/\bf g<=8:=by
 unfold bf;cases h:cY g with
 |false=>simp
 | true=>
  obtain⟨h1,h2,h3,h4,_⟩:=jw h;simp only[aq];rcases(by omega:g.cU=1\/g.cU=2)with e|e<;>rw[e]<;>omega
theorem PO{g:aR}(h:cY g=true):1<=bf g:=by
 obtain⟨h1,h2,h3,h4,_⟩:=jw h;simp only[bf,h,aq];rcases(by omega:g.cU=1\/g.cU=2)with e|e<;>rw[e]<;>omega
theorem mA(g:aR):mR g=some (bf g):=by
 have hb:=iI g;unfold mR;rw[uU,av];unfold bf at hb ⊢;cases h:cY g with
 |false=>rfl
 | true=>
  rw[h]at hb;simp only[aq]at hb;simp only[cm,au,aq];rw[bD (by omega) (by omega)]
theorem VT(g:aR):Fz g=some (bf g):=by
 have hb:=iI g;unfold Fz;rw[aef,av];unfold bf at hb ⊢;cases h:cY g with
 |false=>rfl
 | true=>
  rw[h]at hb;simp only[aq]at hb;simp only[cm,au,aq];rw[bD (by omega) (by omega)]
def jc(g:aR):Int:=bif cY g then bf g*g.rows else 0
def fE(g:aR):Int:=bif cY g then bf g*g.rows*g.aU else 0
theorem VU{a b A B:Int}(h1:0<=a)(h2:a<=A)(h3:0<=b)(h4:b<=B):0<=a*b/\a*b<=A*B:=
 ⟨Int.mul_nonneg h1 h3,Int.le_trans (Int.mul_le_mul_of_nonneg_right h2 h3) (Int.mul_le_mul_of_nonneg_left h4 (by omega))⟩
theorem vY(g:aR):0<=jc g/\jc g<=128:=by
 unfold jc;cases h:cY g with
 |false=>simp
 | true=>
  obtain⟨_,_,_,_,h5,h6,_⟩:=jw h;have:=iI g;exact VU this.1 this.2 (by omega) h6
theorem qj(g:aR):0<=fE g/\fE g<=1024:=by
 have hr:=vY g;unfold fE jc at *
 cases h:cY g with
 |false=>simp
 | true=>
  rw[h]at hr;obtain⟨_,_,_,_,h5,h6,h7,h8⟩:=jw h;exact VU hr.1 hr.2 (by omega) h8
theorem BS(g:aR):rj g=some (fE g):=by
 have h1:=qj g;have h2:=vY g;unfold rj;rw[mA,av];unfold fE jc at *
 cases h:cY g with
 |false=>simp only[bf,h,au,Int.zero_mul];rw[show W6 0=0 from rfl,Int.zero_mul];rfl
 | true=>
  rw[h]at h1 h2;simp only[aq]at h1 h2;simp only[aq];rw[bD (n:=bf g*g.rows) (by omega) (by omega),bD (by omega) (by omega)]
theorem aq2(g:aR):N2 g=some (fE g):=by
 have h1:=qj g;have h2:=vY g;unfold N2;rw[aef,av,VT,av];unfold fE jc at *
 cases h:cY g with
 |false=>rfl
 | true=>
  rw[h]at h1 h2;simp only[aq]at h1 h2;simp only[cm,aq,au];rw[bD (n:=bf g*g.rows) (by omega) (by omega),bD (by omega) (by omega)]
def fe(g:aR)(a:aV):Bool:=cY g&&aP a.aE 0 (bf g-1)&&aP a.row 0 (g.rows-1)&&aP a.cO 0 (g.aU-1)
theorem uV{g:aR}{a:aV}(h:fe g a=true):cY g=true/\0<=a.aE/\a.aE<bf g/\0<=a.row/\a.row<g.rows/\0<=a.cO/\a.cO<g.aU:=by
 simp only[fe,aP,aJ,iB]at h;exact⟨h.1.1.1,by omega⟩
theorem xA{g:aR}{a:aV}(h:cY g=true)(h1:0<=a.aE)(h2:a.aE<bf g)(h3:0<=a.row)(h4:a.row<g.rows)(h5:0<=a.cO)(h6:a.cO<g.aU):fe g a=true:=by
 simp only[fe,aP,aJ,iB];exact⟨⟨⟨h,by omega⟩,by omega⟩,by omega⟩
theorem DP(g:aR)(a:aV):zj g a=some (fe g a):=by
 unfold zj fe;simp only[uU,mA,dw,av];have hb:=iI g;cases h:cY g with
 |false=>rfl
 | true=>
  obtain⟨_,_,_,_,h5,h6,h7,h8⟩:=jw h;rw[bD (n:=bf g-1) (by omega) (by omega),bD (n:=g.rows-1) (by omega) (by omega),bD (n:=g.aU-1) (by omega) (by omega)];cases aP a.aE 0 (bf g-1)<;>cases aP a.row 0 (g.rows-1)<;>rfl
theorem DQ{b n r R:Int}(h1:0<=b)(h2:b<n)(h3:0<=r)(h4:r<R):0<=b*R/\0<=b*R+r/\b*R+r<n*R:=by
 have e1:0<=b*R:=Int.mul_nonneg h1 (by omega);have e2:(b+1)*R<=n*R:=Int.mul_le_mul_of_nonneg_right (by omega) (by omega);rw[Int.add_mul]at e2;omega
def vZ(g:aR)(a:aV):Int:=bif fe g a then (a.aE*g.rows+a.row)*g.aU+a.cO else -1
theorem aeg{g:aR}{a:aV}(h:fe g a=true):0<=vZ g a/\vZ g a<fE g/\0<=a.aE*g.rows/\0<=a.aE*g.rows+a.row/\a.aE*g.rows+a.row<jc g/\0<=(a.aE*g.rows+a.row)*g.aU:=by
 obtain⟨hg,h1,h2,h3,h4,h5,h6⟩:=uV h;obtain⟨r0,r1,r2⟩:=DQ h1 h2 h3 h4;obtain⟨l0,l1,l2⟩:=DQ r1 r2 h5 h6;simp only[vZ,h,fE,jc,hg,aq];omega
theorem Gr(g:aR)(a:aV):xz g a=some (vZ g a):=by
 unfold xz;rw[DP,av];cases h:fe g a with
 |false=>simp[vZ,h]
 | true=>
  have hb:=aeg h;have h1:=qj g;have h2:=vY g;obtain⟨hg,b1,b2,b3,b4,b5,b6⟩:=uV h;obtain⟨_,_,_,_,g5,g6,g7,g8⟩:=jw hg;simp only[vZ,h,aq]at hb ⊢;simp only[cm,au];rw[bD (n:=a.aE*g.rows) (by omega) (by omega),bD (n:=a.aE*g.rows+a.row) (by omega) (by omega),bD (n:=(a.aE*g.rows+a.row)*g.aU) (by omega) (by omega),bD (by omega) (by omega)]
theorem DR{α β:Type}{step:α->aj (α⊕β)}(S:Nat->α){z:β}:∀ (n i fuel:Nat),(∀ k,i<=k->k<i+n->step (S k)=some (.inl (S (k+1))))->step (S (i+n))=some (.inr z)->n<fuel->iter step fuel (S i)=some z
 | 0,i,fuel,_,hz,hf=>by
  match fuel,hf with
  |f+1,_=>unfold iter;rw[Nat.add_zero]at hz;rw[hz]
 | n+1,i,fuel,hs,hz,hf=>by
  match fuel,hf with
  | f+1,hf=>
   unfold iter;rw[hs i (gZ _) (by omega)];exact DR S n (i+1) f (λk h1 h2=>hs k (by omega) (by omega)) (by rw[show i+1+n=i+(n+1) by omega];exact hz) (by omega)
theorem xB{i:Nat}(h:i<4611686018427387904):W6 ((i:Int)+1)=((i+1:Nat):Int):=by
 rw[bD (by omega) (by omega)];simp
theorem aeh(y:Int):0<=bits .and .i64 y 255/\bits .and .i64 y 255<=255:=by
 have e:bits .and .i64 y 255=IntKind.wrap .i64 ((BitVec.ofInt 64 y &&& BitVec.ofInt 64 255).toNat:Int):=rfl;have h:(BitVec.ofInt 64 y &&& BitVec.ofInt 64 255).toNat<=255:=by
  rw[BitVec.toNat_and];exact Nat.le_trans Nat.and_le_right (by decide)
 rw[e,IntKind.wrap_i64];omega
structure lS (b:List Int) (c:bG):Prop where
 eq:c.b=b
 lo:0<=c.i
 hi:c.i<=b.length
 len:b.length<=1073741823
theorem lS.eta{b:af Int}{c:bG}(h:lS b c):(⟨b,c.i,c.h⟩:bG)=c:=by
 obtain⟨b',i,h'⟩:=c;have:=h.eq;simp only at this;subst this;rfl
def Dr{α:Type}(b:af Int)(f:aj (α×(bG×ak)))(P:α->Prop):Prop:=∃x c,f=some (x,(c,()))/\lS b c/\P x
theorem Dr.bind{α β:Type}{b:af Int}{f:aj (α×(bG×ak))}{g:α×(bG×ak)->aj (β×(bG×ak))}{P:α->Prop}{Q:β->Prop}(h:Dr b f P)(hg:∀ x c,P x->lS b c->Dr b (g (x,(c,()))) Q):Dr b (f.bind g) Q:=by
 obtain⟨x,c,h1,h2,h3⟩:=h;rw[h1];exact hg x c h3 h2
theorem Dr.pure{α:Type}{b:af Int}{x:α}{c:bG}{P:α->Prop}(hc:lS b c)(hp:P x):Dr b (some (x,(c,()))) P:=⟨x,c,rfl,hc,hp⟩
theorem aei(l:af Int)(h:l.length<=1073741823):∃ y,Dl l=some y:=by
 unfold Dl cC;obtain⟨z,h1,h2⟩:=VO (step:=Jz)
  (λx=>∃(i:Nat) (y:Int),x=(((),y,(i:Int),()),(l,()))/\i<=l.length)
  (λx=>l.length-x.1.2.2.1.toNat) (λz=>∃ y,(Sum.elim (λz3:((ak×Int×ak)×((af Int)×ak))=>some z3.1.2.1) (λz=>nomatch z)) z=some y) (by
   rintro x ⟨i,y,rfl,hi⟩;unfold Jz aH xG xI;dsimp only;by_cases h':i<l.length
   ·have c1:decide ((i:Int)<(l.length:Int))=true:=by simpa using h'
    have c2:0<=(i:Int)/\(i:Int).toNat<l.length:=⟨by omega,by simpa using h'⟩
    rw[c1,aq];cases h4:decide ((i:Int)<4000)with
    | true=>
     rw[aq,aK c2];left;refine⟨_,rfl,⟨i+1,_,by rw[xB (by omega)],by omega⟩,?_⟩;dsimp only;rw[xB (by omega)];omega
    | false=>
     rw[au];right;exact⟨_,rfl,_,rfl⟩
   ·have c1:decide ((i:Int)<(l.length:Int))=false:=by simpa using h'
    rw[c1,au];right;exact⟨_,rfl,_,rfl⟩)
  bB (((),(W6 ((97301:Int)+(l.length:Int))),((0:Nat):Int),()),(l,())) ⟨0,_,rfl,by omega⟩ (by dsimp only;unfold bB;omega)
 have h1:iter Jz bB (((),(W6 ((97301:Int)+(l.length:Int))),(0:Int),()),(l,()))=some z:=h1;rw[h1];exact h2
theorem aej(l:af Int)(y:Int)(h:l.length<=1073741823):lS l ⟨l,0,y⟩:=⟨rfl,Int.le_refl _,by simp,h⟩
theorem Lg{b:af Int}{c:bG}(hc:lS b c):Dr b (Bn c) λx=>0<=x/\x<=255:=by
 have hb:=hc.eq;have h1:=hc.lo;have h2:=hc.hi;have h3:=hc.len;unfold Bn xI;by_cases h:c.i<(c.b.length:Int)
 ·have c1:decide (c.i<(c.b.length:Int))=true:=by simpa using h
  rw[c1,aq,aK ⟨h1,by omega⟩];refine Dr.pure ⟨hb,?_,?_,h3⟩ (aeh _)
  ·show 0<=W6 (c.i+1);rw[hb]at h;rw[bD (by omega) (by omega)];omega
  ·show W6 (c.i+1)<=_;rw[hb]at h;rw[bD (by omega) (by omega)];omega
 ·have c1:decide (c.i<(c.b.length:Int))=false:=by simpa using h
  rw[c1,au];exact Dr.pure ⟨hb,h1,h2,h3⟩ (aeh _)
theorem aek{x n:Int}(h:0<=x)(hn:0<n):0<=x.tmod n/\x.tmod n<n:=by
 rw[uc h];exact⟨Int.emod_nonneg _ (by omega),Int.emod_lt_of_pos _ hn⟩
theorem fZ{b:af Int}{c:bG}(hc:lS b c)(n:Int):Dr b (fL c n) λx=>0<=x/\(n<=0->x=0)/\(0<n->x<n):=by
 unfold fL;by_cases h0:n<=0
 ·have c1:decide (n<=0)=true:=by simpa using h0
  rw[c1,aq];exact Dr.pure hc ⟨Int.le_refl _,λ_=>rfl,λh=>by omega⟩
 ·have c1:decide (n<=0)=false:=by simpa using h0
  have hn:¬ n=0:=by omega
  rw[c1,au];by_cases h1:n<=256
  ·have c2:decide (n<=256)=true:=by simpa using h1
   rw[c2,aq]
   refine(Lg hc).bind λx c' hx oh=>?_
   rw[bJ hn];dsimp only;rw[hc.eq,oh.eta];have:=aek hx.1 (show 0<n by omega);exact Dr.pure oh ⟨this.1,λh=>by omega,λ_=>this.2⟩
  ·have c2:decide (n<=256)=false:=by simpa using h1
   rw[c2,au,hc.eq]
   refine(Lg hc).bind λx1 k1 o8 eO=>?_
   dsimp only;rw[eO.eta]
   refine(Lg eO).bind λx2 k2 Co fV=>?_
   dsimp only;rw[fV.eta]
   refine(Lg fV).bind λx3 k3 Jx ni=>?_
   dsimp only;rw[ni.eta]
   refine(Lg ni).bind λx4 k4 hx4 tJ=>?_
   rw[bJ hn];dsimp only;rw[tJ.eta];rw[bD (n:=x1*16777216) (by omega) (by omega),bD (n:=x2*65536) (by omega) (by omega),bD (n:=x1*16777216+x2*65536) (by omega) (by omega),bD (n:=x3*256) (by omega) (by omega),bD (n:=x1*16777216+x2*65536+x3*256) (by omega) (by omega),bD (n:=x1*16777216+x2*65536+x3*256+x4) (by omega) (by omega)];have:=aek (x:=x1*16777216+x2*65536+x3*256+x4) (by omega) (show 0<n by omega);exact Dr.pure tJ ⟨this.1,λh=>by omega,λ_=>this.2⟩
theorem aq3(l:af Int)(h:l.length<=1073741823):∃ y,Od l=some y/\y.length=12/\∀ x∈y,0<=x/\x<10000:=by
 unfold Od cC;obtain⟨h0,e0⟩:=aei l h;rw[e0];obtain⟨z,h1,h2⟩:=VO (step:=JD)
  (λx=>∃(i:Nat) (c:bG) (y:af Int),x=(((),(),(i:Int),()),((l,c.i,c.h,()),y,()))/\i<=12/\lS l c/\y.length=i/\∀x∈y,0<=x/\x<10000)
  (λx=>12-x.1.2.2.1.toNat) (λz=>∃ y,(Sum.elim (λz3:((ak×ak)×((af Int)×ak))=>some z3.2.1) (λz=>nomatch z)) z=some y/\y.length=12/\∀ x∈y,0<=x/\x<10000) (by
   rintro x ⟨i,c,y,rfl,hi,hc,hy,hx⟩;unfold JD aH xG;dsimp only;by_cases h':i<12
   ·have c1:decide ((i:Int)<(12:Int))=true:=bz (by omega);rw[c1,aq,hc.eta];left;obtain⟨x,c',e1,oh,Js,_,o8⟩:=fZ hc 10000;rw[e1];have ho:bZ (y.length+([x]:af Int).length)=true:=by
     unfold bZ;simp;omega
    refine⟨(((),(),W6 ((i:Int)+1),()),((l,c'.i,c'.h,()),(y++[x]),())),?_,⟨i+1,c',y++[x],by rw[xB (by omega)],by omega,oh,by simp[hy],λu hu=>?_⟩,?_⟩
    ·show (bif bZ (y.length+([x]:af Int).length)then _ else none)=_;rw[ho];rfl
    ·rcases List.mem_append.1 hu with hu | hu
     ·exact hx u hu
     ·rw[List.mem_singleton.1 hu];exact⟨Js,o8 (by omega)⟩
    ·dsimp only;rw[xB (by omega)];omega
   ·have c1:decide ((i:Int)<(12:Int))=false:=bK (by omega);rw[c1,au];right;exact⟨_,rfl,y,rfl,by omega,hx⟩)
  bB (((),(),((0:Nat):Int),()),((l,0,h0,()),([]:af Int),())) ⟨0,⟨l,0,h0⟩,[],rfl,by omega,aej l h0 h,rfl,by simp⟩ (by dsimp only;unfold bB;omega)
 have h1:iter JD bB (((),(),(0:Int),()),((l,(0:Int),h0,()),([]:af Int),()))=some z:=h1;rw[av,h1];exact h2
theorem aq4(x a b:Int):cx x a b=some (decide (a<=x)&&decide (x<=b)):=by
 unfold cx;by_cases h:a<=x
 ·have:decide (x >= a)=true:=bz h;rw[this];rfl
 ·have:decide (x >= a)=false:=bK h;rw[this];rfl
theorem aq5{x a b:Int}(h:a<=x)(h':x<=b):cx x a b=some true:=by
 rw[aq4,bz h,bz h'];rfl
def opens:Nat->af gy->af Int
 |_,[]=>[]
 |i,b::bs=>bif b.open_ then (i:Int)::opens (i+1) bs else opens (i+1) bs
theorem ael(i:Nat)(a b:af gy):opens i (a++b)=opens i a++opens (i+a.length) b:=by
 induction a generalizing i with
 |nil=>simp[opens]
 | cons x a ih=>
  simp only[List.cons_append,opens,n9];rw[ih,show i+1+a.length=i+(a.length+1) by omega];cases x.open_<;>rfl
theorem aem(i:Nat)(l:af gy):(opens i l).length<=l.length:=by
 induction l generalizing i with
 |nil=>simp[opens]
 | cons x a ih=>
  have:=ih (i+1);simp only[opens];cases x.open_<;>simp<;>omega
theorem DS{α:Type}{l:af α}{i:Nat}(h:i<l.length):l.take (i+1)=l.take i++[l[i]]:=by
 rw[List.take_succ_eq_append_getElem h]
theorem PR(r:dj)(h:r.aI.length<1073741823):tM r=some (opens 0 r.aI):=by
 unfold tM cC;have e:=DR (step:=FJ) (λi=>(((),r.aI,(r.aI.length:Int),(i:Int),()),(opens 0 (r.aI.take i),()))) (z:=.inl (((),()),(opens 0 r.aI,()))) r.aI.length 0 bB (λk _ hk=>?_) ?_ (by unfold bB;omega)
 ·have e:iter FJ bB (((),r.aI,(r.aI.length:Int),(0:Int),()),(([]:af Int),()))=_:=e;rw[e];rfl
 ·have hk:k<r.aI.length:=by omega
  unfold FJ aH xG xI;dsimp only;have c1:decide ((k:Int)<(r.aI.length:Int))=true:=bz (by omega);have c2:0<=(k:Int)/\(k:Int).toNat<r.aI.length:=⟨by omega,by simpa using hk⟩
  have hl:=aem 0 (r.aI.take k);rw[lM]at hl;have c3:bZ ((opens 0 (r.aI.take k)).length+([(k:Int)]:af Int).length)=true:=by
   unfold bZ;refine bz ?_;simp;omega
  rw[c1,aq,aK c2,xB (by omega),DS hk,ael];simp only[bX,opens,lM,fQ,Nat.min_eq_left (Nat.le_of_lt hk)];cases r.aI[k].open_ with
  |true=>rw[aq,c3];rfl
  |false=>rw[au,au,List.append_nil]
 ·rw[fQ];unfold FJ aH xG xI;dsimp only;have c1:decide ((r.aI.length:Int)<(r.aI.length:Int))=false:=bK (by omega);rw[c1,au,List.take_length]
theorem v5(l:af Int)(h:l.length<1073741823):sA l l=some true:=by
 unfold sA cX;have c0:((l.length:Int) != (l.length:Int))=false:=by simp
 rw[c0,au];have e:=DR (step:=Gn) (λi=>((l,l,(i:Int),()),())) (z:=.inr (.inl ((),()))) l.length 0 bB (λk _ hk=>?_) ?_ (by unfold bB;omega)
 ·have e:iter Gn bB ((l,l,(0:Int),()),())=_:=e;rw[e];rfl
 ·have hk:k<l.length:=by omega
  unfold Gn aH bI xG xI;dsimp only;have c1:decide ((k:Int)<(l.length:Int))=true:=bz (by omega);have c2:0<=(k:Int)/\(k:Int).toNat<l.length:=⟨by omega,by simpa using hk⟩
  rw[c1,aq,aK c2,aK c2,xB (by omega)];have:(l[(k:Int).toNat]'c2.2 != l[(k:Int).toNat]'c2.2)=false:=by simp
  rw[this];rfl
 ·rw[fQ];unfold Gn aH bI xG xI;dsimp only;have c1:decide ((l.length:Int)<(l.length:Int))=false:=bK (by omega);rw[c1,au]
theorem aq6(l:af gy)(h:l.length<1073741823):Px l l=some true:=by
 unfold Px cX;have c0:((l.length:Int) != (l.length:Int))=false:=by simp
 rw[c0,au];have e:=DR (step:=Gq) (λi=>((l,l,(i:Int),()),())) (z:=.inr (.inl ((),()))) l.length 0 bB (λk _ hk=>?_) ?_ (by unfold bB;omega)
 ·have e:iter Gq bB ((l,l,(0:Int),()),())=_:=e;rw[e];rfl
 ·have hk:k<l.length:=by omega
  unfold Gq aH bI xG xI;dsimp only;have c1:decide ((k:Int)<(l.length:Int))=true:=bz (by omega);have c2:0<=(k:Int)/\(k:Int).toNat<l.length:=⟨by omega,by simpa using hk⟩
  rw[c1,aq,aK c2,aK c2,xB (by omega)];simp
 ·rw[fQ];unfold Gq aH bI xG xI;dsimp only;have c1:decide ((l.length:Int)<(l.length:Int))=false:=bK (by omega);rw[c1,au]
def gmT:Nat:=116196760129267793630862849262464326346044543732748708940920453221664288556434379745879494961270582141731748813355742142288220638766218855867759359510984593843506004200114943278699875244065120512813025380665946106619127097398772031257643617143689515450995722003729973585221105779229319991106539050771048038400
def gm(a b:Nat):Nat:=(gmT / 2 ^ (4*(16*a+b))) % 16
def pwT:Nat:=44684875893970114885940500792407720993
def pw(n:Nat):Nat:=(pwT / 2 ^ (4*n)) % 16
def sB(f:Nat->Bool):Bool:=(List.range 16).all f
theorem oO{f:Nat->Bool}(h:sB f=true){a:Nat}(ha:a<16):f a=true:=by
 have:=c9.1 h a (iA.2 ha);exact this
theorem jx(a b:Nat):gm a b<16:=Nat.mod_lt _ (by decide)
theorem aen(n:Nat):pw n<16:=Nat.mod_lt _ (by decide)
theorem aq7:(sB λa=>sB λb=>lI (Int.ofNat a) (Int.ofNat b)==some (Int.ofNat (gm a b)))=true:=by kernel_rfl
theorem aq8:((List.range 31).all λn=>Kd 2 (Int.ofNat n)==some (Int.ofNat (pw n)))=true:=by kernel_rfl
theorem aeo:(sB λa=>sB λb=>decide (bits .xor .i64 (Int.ofNat a) (Int.ofNat b)=Int.ofNat (a ^^^ b))&&Nat.blt (a ^^^ b) 16)=true:=by kernel_rfl
theorem aq9:(sB λa=>Nat.beq (gm a 1) a&&Nat.beq (gm 0 a) 0)=true:=by kernel_rfl
theorem ara:(sB λs0=>sB λs1=>sB λs2=>
  (λy z=>(λx=>Nat.beq (gm x 1 ^^^ (gm y 1 ^^^ (gm z 1 ^^^ s0))) 0&&Nat.beq (gm x 1 ^^^ (gm y 2 ^^^ (gm z 4 ^^^ s1))) 0&&Nat.beq (gm x 1 ^^^ (gm y 4 ^^^ (gm z 3 ^^^ s2))) 0) (s0 ^^^ y ^^^ z))
   (gm (gm 2 (s0 ^^^ s1) ^^^ gm 5 (s0 ^^^ s2)) 13) (gm (gm 3 (s0 ^^^ s2) ^^^ gm 5 (s0 ^^^ s1)) 13))=true:=by kernel_rfl
theorem arb:DB 4=some 13:=by kernel_rfl
theorem DT{a b:Nat}(ha:a<16)(hb:b<16):lI (a:Int) (b:Int)=some (gm a b:Int):=by
 have h:=oO (oO aq7 ha) hb;exact eq_of_beq h
theorem arc{n:Nat}(h:n<31):Kd 2 (n:Int)=some (pw n:Int):=eq_of_beq (c9.1 aq8 n (iA.2 h))
theorem xD{a b:Nat}(ha:a<16)(hb:b<16):bits .xor .i64 (a:Int) (b:Int)=((a ^^^ b:Nat):Int):=by
 have h:=oO (oO aeo ha) hb;rw[aJ]at h;exact of_decide_eq_true h.1
theorem oP{a b:Nat}(ha:a<16)(hb:b<16):a ^^^ b<16:=by
 have h:=oO (oO aeo ha) hb;rw[aJ]at h;exact cH h.2
theorem ard{a:Nat}(ha:a<16):gm 0 a=0:=by
 have h:=oO aq9 ha;rw[aJ]at h;exact cz h.2
abbrev cR (w:af Nat):af Int:=w.map λ(n:Nat)=>(n:Int)
def mB(w:af Nat):Prop:=∀x∈w,x<16
theorem tP(w:af Nat):(cR w).length=w.length:=by simp[cR]
theorem VV{w:af Nat}{k:Nat}(h:k<(cR w).length):(cR w)[k]=((w.getD k 0:Nat):Int):=by
 have h':k<w.length:=by rw[tP]at h;exact h
 simp[cR,iz,bT h']
theorem mB.get{w:af Nat}(h:mB w)(k:Nat):w.getD k 0<16:=by
 by_cases hk:k<w.length
 ·simp only[iz,bT hk,Option.getD_some];exact h _ (dy hk)
 ·simp[iz,List.getElem?_eq_none (Nat.le_of_not_lt hk)]
theorem VW{w:af Nat}(hw:mB w)(hl:w.length<1000)(n:Int):xu (cR w) n=some ((w.length:Int)==n):=by
 unfold xu cX;have e:=DR (step:=zi) (λi=>((cR w,n,cR w,((cR w).length:Int),(i:Int),()),())) (z:=.inr (.inl ((cR w,n,()),()))) w.length 0 bB (λk _ hk=>?_) ?_ (by unfold bB;omega)
 ·have e:iter zi bB ((cR w,n,cR w,((cR w).length:Int),(0:Int),()),())=_:=e;rw[e];show some (((cR w).length:Int)==n)=_;rw[tP]
 ·have hk:k<(cR w).length:=by rw[tP];omega
  unfold zi aH bI xG xI;dsimp only;have c1:decide ((k:Int)<((cR w).length:Int))=true:=bz (by omega);have c2:0<=(k:Int)/\(k:Int).toNat<(cR w).length:=⟨by omega,by simpa using hk⟩
  rw[c1,aq,aK c2];have c3:(cR w)[(k:Int).toNat]'c2.2=((w.getD k 0:Nat):Int):=VV hk;rw[c3];have:=hw.get k;unfold uN;rw[aq5 (by omega) (by omega),av,av,xB (by omega)];rfl
 ·unfold zi aH bI xG xI;dsimp only;have c1:decide (((0+w.length:Nat):Int)<((cR w).length:Int))=false:=bK (by rw[tP];omega);rw[c1,au]
def eD(w:af Nat)(j:Nat):Nat->Nat
 |0=>0
 |i+1=>eD w j i ^^^ gm (w.getD i 0) (pw (i*j))
theorem zC(w:af Nat)(j:Nat):∀ i,eD w j i<16
 |0=>Nat.zero_lt_succ _
 |i+1=>oP (zC w j i) (jx _ _)
theorem arf{w:af Nat}(hw:mB w)(hl:w.length=11)(j:Nat)(hj:j<3)(a b:Int)(o:af Int)(ho:j<o.length)(h0:o.set j 0=o):
  iter DA bB ((cR w,(),(j:Int),a,b,cR w,((cR w).length:Int),(0:Int),()),(o,()))=some (.inl ((cR w,(),a,b,()),(o.set j (eD w j 11:Int),()))):=by
 have e:=DR (step:=DA) (λi=>((cR w,(),(j:Int),a,b,cR w,((cR w).length:Int),(i:Int),()),(o.set j (eD w j i:Int),()))) (z:=.inl ((cR w,(),a,b,()),(o.set j (eD w j 11:Int),()))) 11 0 bB (λk _ hk=>?_) ?_ (by unfold bB;omega)
 ·have e:iter DA bB ((cR w,(),(j:Int),a,b,cR w,((cR w).length:Int),(0:Int),()),(o.set j 0,()))=_:=e;rw[h0]at e;exact e
 ·have hk:k<(cR w).length:=by rw[tP];omega
  unfold DA xC aH xG xI;dsimp only;have c1:decide ((k:Int)<((cR w).length:Int))=true:=bz (by omega);have c2:0<=(k:Int)/\(k:Int).toNat<(cR w).length:=⟨by omega,by simpa using hk⟩
  have c4:0<=(j:Int)/\(j:Int).toNat<(o.set j (eD w j k:Int)).length:=⟨by omega,by simpa using ho⟩
  have c3:(cR w)[(k:Int).toNat]'c2.2=((w.getD k 0:Nat):Int):=VV hk;have c5:(o.set j (eD w j k:Int))[(j:Int).toNat]'c4.2=(eD w j k:Int):=List.getElem_set_self _;rw[c1,aq,aK c2,aK c4,aK c4.2,c3,c5];have HY:k*j<=20:=Nat.le_trans (Nat.mul_le_mul (show k<=10 by omega) (show j<=2 by omega)) (by decide);have c6:W6 ((k:Int)*(j:Int))=((k*j:Nat):Int):=by
   rw[<-Int.natCast_mul,bD (by omega) (by omega)]
  rw[c6,arc (by omega),av,DT (hw.get k) (aen _),av,aK c4,aK c4.2,xD (zC _ _ _) (jx _ _),xB (by omega)];have c7:(o.set j (eD w j k:Int)).set (j:Int).toNat ((eD w j k ^^^ gm (w.getD k 0) (pw (k*j)):Nat):Int)=o.set j (eD w j (k+1):Int):=List.set_set ..;rw[c7]
 ·unfold DA xC aH xG xI;dsimp only;have c1:decide (((0+11:Nat):Int)<((cR w).length:Int))=false:=bK (by rw[tP];omega);rw[c1,au]
def uW(w:af Nat):Nat->af Int
 |0=>[0,0,0]
 |1=>[(eD w 0 11:Int),0,0]
 |2=>[(eD w 0 11:Int),(eD w 1 11:Int),0]
 |_=>[(eD w 0 11:Int),(eD w 1 11:Int),(eD w 2 11:Int)]
theorem VX{w:af Nat}(hw:mB w)(hl:w.length=11):By (cR w)=some [(eD w 0 11:Int),(eD w 1 11:Int),(eD w 2 11:Int)]:=by
 unfold By cC;have c0:((w.length:Int)==(11:Int))=true:=by rw[hl];rfl
 rw[VW hw (by omega),c0,av];have e:=DR (step:=F3) (λj=>((cR w,(),(3:Int),(j:Int),()),(uW w j,()))) (z:=.inl (((),()),(uW w 3,()))) 3 0 bB (λk _ hk=>?_) ?_ (by unfold bB;omega)
 ·have e:iter F3 bB ((cR w,(),((List.replicate (3:Int).toNat (0:Int)).length:Int),(0:Int),()),(List.replicate (3:Int).toNat (0:Int),()))=_:=e;rw[show (!true)=false from rfl,au,bu (by decide),e];rfl
 ·unfold F3 aH xG cC;dsimp only;have c1:decide ((k:Int)<(3:Int))=true:=bz (by omega);have e2:uW w k=(uW w k).set k 0/\k<(uW w k).length/\(uW w k).set k (eD w k 11:Int)=uW w (k+1):=by
   have:k=0\/k=1\/k=2:=by omega
   rcases this with rfl|rfl|rfl
   ·exact⟨rfl,by simp[uW],rfl⟩
   ·exact⟨rfl,by simp[uW],rfl⟩
   ·exact⟨rfl,by simp[uW],rfl⟩
  rw[c1,aq,arf hw hl k (by omega) (3:Int) (k:Int) (uW w k) e2.2.1 e2.1.symm,e2.2.2];show some (Sum.inl ((cR w,(),(3:Int),W6 ((k:Int)+1),()),(uW w (k+1),())))=_;rw[xB (by omega)]
 ·unfold F3 aH xG cC;dsimp only;rfl
theorem arh{w:af Nat}(hw:mB w)(hl:w.length=11):Oz (cR w)=some (Nat.beq (eD w 0 11) 0&&(Nat.beq (eD w 1 11) 0&&Nat.beq (eD w 2 11) 0)):=by
 unfold Oz xC;rw[VX hw hl,av];generalize eD w 0 11=a;generalize eD w 1 11=b;generalize eD w 2 11=c;have q:∀ n:Nat,((n:Int)==(0:Int))=Nat.beq n 0:=by
  intro n;cases n with
  |zero=>rfl
  |succ n=>rfl
 show (bif ((a:Int)==(0:Int))then (bif ((b:Int)==(0:Int))then some ((c:Int)==(0:Int))else some false)else some false)=_;rw[q,q,q];cases Nat.beq a 0<;>cases Nat.beq b 0<;>rfl
theorem ari(a0 a1 a2:Nat)(h0:a0<16)(h1:a1<16)(h2:a2<16):
  (λy z=>(λx=>(gm x 1 ^^^ (gm y 1 ^^^ (gm z 1 ^^^ a0)))=0/\(gm x 1 ^^^ (gm y 2 ^^^ (gm z 4 ^^^ a1)))=0/\(gm x 1 ^^^ (gm y 4 ^^^ (gm z 3 ^^^ a2)))=0) (a0 ^^^ y ^^^ z))
   (gm (gm 2 (a0 ^^^ a1) ^^^ gm 5 (a0 ^^^ a2)) 13) (gm (gm 3 (a0 ^^^ a2) ^^^ gm 5 (a0 ^^^ a1)) 13):=by
 have h:=oO (oO (oO ara h0) h1) h2;dsimp only at h ⊢;rw[aJ,aJ]at h;exact⟨cz h.1.1,cz h.1.2,cz h.2⟩
theorem arj{d:af Nat}(hd:mB d)(hl:d.length=8):∃ w,KQ (cR d)=some (cR w)/\w.length=11/\mB w/\w.drop 3=d/\eD w 0 11=0/\eD w 1 11=0/\eD w 2 11=0:=by
 have hz:mB (0 :: 0 :: 0 :: d):=by
  intro x hx;simp only[iL]at hx;rcases hx with rfl|rfl|rfl|hx
  ·decide
  ·decide
  ·decide
  ·exact hd x hx
 have key:∀ j x y z,j<3->x<16->y<16->z<16->eD (x :: y :: z :: d) j 11=gm x (pw (0*j)) ^^^ (gm y (pw (1*j)) ^^^ (gm z (pw (2*j)) ^^^ eD (0 :: 0 :: 0 :: d) j 11)):=by
  intro j x y z hj hx hy hz;simp only[eD,List.getD_cons_zero,List.getD_cons_succ,Nat.xor_assoc,Nat.zero_xor,ard (aen _)]
 have e0:∀ a0 a1 a2:Nat,a0<16->a1<16->a2<16->By (cR (0 :: 0 :: 0 :: d))=some [(a0:Int),(a1:Int),(a2:Int)]->
   KQ (cR d)=some (cR ((a0 ^^^ gm (gm 2 (a0 ^^^ a1) ^^^ gm 5 (a0 ^^^ a2)) 13 ^^^ gm (gm 3 (a0 ^^^ a2) ^^^ gm 5 (a0 ^^^ a1)) 13)::gm (gm 2 (a0 ^^^ a1) ^^^ gm 5 (a0 ^^^ a2)) 13::gm (gm 3 (a0 ^^^ a2) ^^^ gm 5 (a0 ^^^ a1)) 13::d)):=by
  intro a0 a1 a2 h0 h1 h2 hs;unfold KQ xC;have c0:((d.length:Int)==(8:Int))=true:=by rw[hl];rfl
  have c1:bZ ((List.replicate (3:Int).toNat (0:Int)).length+(cR d).length)=true:=by
   rw[tP,hl];rfl
  rw[VW hd (by omega),av,c0,show (!true)=false from rfl,au,bu (by decide),c1,aq];have e1:By (List.replicate (3:Int).toNat (0:Int)++cR d)=some [(a0:Int),(a1:Int),(a2:Int)]:=hs;rw[e1,av];show (DB (4:Int)).bind (λfX=>(lI (2:Int) (bits .xor .i64 (a0:Int) (a1:Int))).bind λcM=>(lI (5:Int) (bits .xor .i64 (a0:Int) (a2:Int))).bind λiu=>(lI (bits .xor .i64 cM iu) fX).bind λkH=>(lI (3:Int) (bits .xor .i64 (a0:Int) (a2:Int))).bind λoJ=>(lI (5:Int) (bits .xor .i64 (a0:Int) (a1:Int))).bind λvX=>(lI (bits .xor .i64 oJ vX) fX).bind λnU=>some (bits .xor .i64 (bits .xor .i64 (a0:Int) kH) nU::kH::nU::cR d))=_;have m2:∀b:Nat,b<16->lI (2:Int) (b:Int)=some (gm 2 b:Int):=λb hb=>DT (a:=2) (by decide) hb
  have m3:∀b:Nat,b<16->lI (3:Int) (b:Int)=some (gm 3 b:Int):=λb hb=>DT (a:=3) (by decide) hb
  have m5:∀b:Nat,b<16->lI (5:Int) (b:Int)=some (gm 5 b:Int):=λb hb=>DT (a:=5) (by decide) hb
  have m13:∀b:Nat,b<16->lI (b:Int) (13:Int)=some (gm b 13:Int):=λb hb=>DT (b:=13) hb (by decide)
  rw[arb,av,xD h0 h1,xD h0 h2,m2 _ (oP h0 h1),av,m5 _ (oP h0 h2),av,xD (jx _ _) (jx _ _),m13 _ (oP (jx _ _) (jx _ _)),av,m3 _ (oP h0 h2),av,m5 _ (oP h0 h1),av,xD (jx _ _) (jx _ _),m13 _ (oP (jx _ _) (jx _ _)),av,xD h0 (jx _ _),xD (oP h0 (jx _ _)) (jx _ _)];rfl
 have h0:=zC (0::0::0::d) 0 11;have h1:=zC (0::0::0::d) 1 11;have h2:=zC (0::0::0::d) 2 11;have e1:=e0 _ _ _ h0 h1 h2 (VX hz (by simp[hl]));have f:=ari _ _ _ h0 h1 h2;dsimp only at f;refine⟨_,e1,by simp[hl],?_,rfl,?_,?_,?_⟩
 ·intro x hx;simp only[iL]at hx;rcases hx with rfl | rfl | rfl | hx
  ·exact oP (oP h0 (jx _ _)) (jx _ _)
  ·exact jx _ _
  ·exact jx _ _
  ·exact hd x hx
 ·rw[key 0 _ _ _ (by decide) (oP (oP h0 (jx _ _)) (jx _ _)) (jx _ _) (jx _ _)];exact f.1
 ·rw[key 1 _ _ _ (by decide) (oP (oP h0 (jx _ _)) (jx _ _)) (jx _ _) (jx _ _)];exact f.2.1
 ·rw[key 2 _ _ _ (by decide) (oP (oP h0 (jx _ _)) (jx _ _)) (jx _ _) (jx _ _)];exact f.2.2
theorem mB.set{w:af Nat}(h:mB w){k v:Nat}(hv:v<16):mB (w.set k v):=by
 intro x hx;rcases List.mem_or_eq_of_mem_set hx with hx|rfl
 ·exact h x hx
 ·exact hv
def ivT:Nat:=9460475325918865680
def iv(a:Nat):Nat:=(ivT / 2 ^ (4*a)) % 16
theorem ark(a:Nat):iv a<16:=Nat.mod_lt _ (by decide)
theorem arl:(sB λa=>Nat.beq a 0 ||DB (Int.ofNat a)==some (Int.ofNat (iv a)))=true:=by kernel_rfl
theorem arn(w:af Nat)(k v:Nat):(cR w).set k (v:Int)=cR (w.set k v):=(List.map_set ..).symm
def DU(s:Int):Bool:=aP s 0 15
def xE(l:af Int)(n:Int):Bool:=l.all DU&&decide ((l.length:Int)=n)
theorem aep(l:af Int)(n:Int)(hl:l.length<1073741824):xu l n=some (xE l n):=by
 unfold xu xE cX;have e:=oN (step:=zi) l DU (λi=>((l,n,l,(l.length:Int),(i:Int),()),())) (.inl ((false,()),())) (.inr (.inl ((l,n,()),()))) bB (λk h=>by
  unfold zi uN aH bI xG xI;simp (disch:=omega) [h,cK,dw,DU];cases aP l[k] 0 15<;>rfl) (by unfold zi aH bI xG xI;simp) (cT hl)
 rw[cZ]at e;rw[e];cases l.all DU<;>simp;rfl
def Sy(l:af Int):Prop:=l.length=11/\∀s∈l,0<=s/\s<=15
theorem Sy.ok{l:af Int}(h:Sy l):xE l 11=true:=by
 simp only[xE,aJ,c9,iB,DU,bO];exact⟨λx hx=>h.2 x hx,by rw[h.1];rfl⟩
theorem Sy.of{l:af Int}(h:xE l 11=true):Sy l:=by
 simp only[xE,aJ,c9,iB,DU,bO]at h;exact⟨by omega,h.1⟩
theorem VY{a b:Int}(ha:0<=a/\a<=15)(hb:0<=b/\b<=15):0<=bits .xor .i64 a b/\bits .xor .i64 a b<=15/\bits .xor .i64 (bits .xor .i64 a b) b=a:=by
 obtain⟨x,rfl⟩:=iM ha.1;obtain⟨y,rfl⟩:=iM hb.1;have hx:x<16:=by omega
 have hy:y<16:=by omega
 have:=oP hx hy;rw[xD hx hy];rw[xD this hy];refine⟨by omega,by omega,?_⟩;rw[Nat.xor_assoc,Nat.xor_self,Nat.xor_zero]
theorem Sy.set{l:af Int}(h:Sy l){k:Nat}{v:Int}(hv:0<=v/\v<=15):Sy (l.set k v):=by
 refine⟨by simp[h.1],λs hs=>?_⟩
 rcases List.mem_or_eq_of_mem_set hs with hs|rfl
 ·exact h.2 s hs
 ·exact hv
theorem Sy.get{l:af Int}(h:Sy l){k:Nat}(hk:k<l.length):0<=l[k]/\l[k]<=15:=h.2 _ (dy hk)
structure fH (g:aR) (B:Int) (a:dK):Prop where
 cells:(a.cells.length:Int)=fE g
 syms:∀c∈a.cells,Sy c.symbols
 bU:(a.bU.length:Int)=jc g
 bL:(a.bL.length:Int)=jc g
 Gs:∀x∈a.bU,0<=x/\x<=B
 nW:∀x∈a.bL,0<=x/\x<=100000
theorem aeq(c:cq)(h:c.symbols.length<1073741824):J2 c=some c:=by
 unfold J2;simp[bZ,h]
theorem aer(a:dK)(h1:a.cells.length<1073741823)(h2:a.bU.length<1073741824)(h3:a.bL.length<1073741824)(h4:∀ c∈a.cells,c.symbols.length<1073741824):Dz a=some a:=by
 unfold Dz cC;have e:=eG (step:=J3) a.cells.length (λi=>(((),(),a.cells,(a.cells.length:Int),(i:Int),()),(((),(),(),()),((),(),(),()),([]:af cq),([]:af Int),([]:af Int),a.cells.take i,(([]:af Int)++a.bU),(([]:af Int)++a.bL),())))
  (.inl (((),(),()),(((),(),(),()),((),(),(),()),([]:af cq),([]:af Int),([]:af Int),a.cells,(([]:af Int)++a.bU),(([]:af Int)++a.bL),()))) bB (λk h=>by
  unfold J3 aH xG xI;have hk:min k a.cells.length=k:=by omega
  have ho:bZ (k+1)=true:=gk (by omega);simp (disch:=omega) [h,cK,aeq _ (h4 _ (dy h)),hk,ho]) (by unfold J3 aH xG xI;simp) (cT (by omega))
 rw[cZ,List.take_zero]at e;rw[e];simp[bZ,h2,h3]
theorem fH.lens{g:aR}{B:Int}{a:dK}(h:fH g B a):a.cells.length<1073741823/\a.bU.length<1073741824/\a.bL.length<1073741824/\∀ c∈a.cells,c.symbols.length<1073741824:=by
 have h1:=h.cells;have h2:=h.bU;have h3:=h.bL;have b1:=qj g;have b2:=vY g;exact⟨by omega,by omega,by omega,λc hc=>by rw[(h.syms c hc).1];omega⟩
theorem fH.copy{g:aR}{B:Int}{a:dK}(h:fH g B a):Dz a=some a:=
 let ⟨h1,h2,h3,h4⟩:=h.lens;aer a h1 h2 h3 h4
def Lh(c:cq):Bool:=xE c.symbols 11
def zD(p:Int×Int):Bool:=aP p.1 0 100000&&aP p.2 0 100000
def pM(g:aR)(a:dK):Bool:=cY g&&(decide ((a.cells.length:Int)=fE g)&&(decide ((a.bU.length:Int)=jc g)&&(decide ((a.bL.length:Int)=jc g)&&(a.cells.all Lh&&(a.bU.zip a.bL).all zD))))
theorem aes(g:aR)(a:dK)(h4:∀ c∈a.cells,c.symbols.length<1073741824):Ds g a=some (pM g a):=by
 unfold Ds pM cX;rw[mA,av,uU,av,BS];cases hg:cY g with
 |false=>rfl
 | true=>
  have b1:=qj g;have b2:=vY g;have er:bf g*g.rows=jc g:=by simp[jc,hg]
  simp only[cm,au,av,dF,er];rw[bD (by omega) (by omega)];by_cases e1:(a.cells.length:Int)=fE g
  ·by_cases e2:(a.bU.length:Int)=jc g
   ·by_cases e3:(a.bL.length:Int)=jc g
    ·have hl:a.bU.length=a.bL.length:=by omega
     have l1:=oN (step:=JO) a.cells Lh (λi=>(((),a.cells,(a.cells.length:Int),(i:Int),()),((a.cells,a.bU,a.bL,()),()))) (.inl ((false,()),())) (.inr (.inl (((),()),((a.cells,a.bU,a.bL,()),())))) bB (λk h=>by
      unfold JO aH bI xG xI;simp (disch:=omega) [h,cK,aep _ 11 (h4 _ (dy h)),Lh];cases xE a.cells[k].symbols 11<;>rfl) (by unfold JO aH bI xG xI;simp) (cT (by omega))
     have l2:=oN (step:=JP) (a.bU.zip a.bL) zD (λi=>(((),(a.bU.length:Int),(i:Int),()),((a.cells,a.bU,a.bL,()),()))) (.inl ((false,()),())) (.inr (.inl ((),()))) bB (λk h=>by
      have h':k<a.bU.length:=by simp at h;omega
      have h'':k<a.bL.length:=by omega
      unfold JP aH bI xG xI;simp (disch:=omega) [h',h'',cK,dw,zD];cases aP a.bU[k] 0 100000<;>cases aP a.bL[k] 0 100000<;>rfl) (by unfold JP aH bI xG xI;simp[hl]) (cT (by simp;omega))
     rw[cZ]at l1 l2;simp only[e1,e2,e3,bne_self_eq_false,au,decide_true,dF];rw[<-e1,l1];cases h1:a.cells.all Lh with
     |false=>simp
     | true=>
      simp only[aq,Option.bind_some,Sum.elim_inr,jf];rw[l2];cases (a.bU.zip a.bL).all zD<;>simp
    ·simp[e1,e2,mS e3,e3]
   ·simp[e1,mS e2,e2]
  ·simp[mS e1,e1]
theorem fH.ok{g:aR}{B:Int}{a:dK}(h:fH g B a)(hg:cY g=true)(hB:B<=100000):Ds g a=some true:=by
 rw[aes g a (λc hc=>by rw[(h.syms c hc).1];omega)];have h1:=h.cells;have h2:=h.bU;have h3:=h.bL;have c1:a.cells.all Lh=true:=c9.2 λc hc=>(h.syms c hc).ok
 have c2:(a.bU.zip a.bL).all zD=true:=c9.2 λp hp=>by
  obtain⟨x,y⟩:=p;have hm:=List.of_mem_zip hp;have a1:=h.Gs x hm.1;have a2:=h.nW y hm.2;simp only[zD,aJ,bO];omega
 simp[pM,hg,h1,h2,h3,c1,c2]
theorem PS{b:af Int}{c:bG}(hc:lS b c)(l:af Int)(hl:0<l.length):Dr b (Bo c l) λx=>x∈l:=by
 unfold Bo xI;rw[hc.eq]
 refine(fZ hc _).bind λx1 k1 o8 eO=>?_
 have a1:=o8.2.2 (by omega);rw[aK ⟨o8.1,by dsimp only;omega⟩];dsimp only;rw[eO.eta];exact Dr.pure eO (dy _)
theorem PT{b:af Int}{c:bG}(hc:lS b c)(n:Int):Dr b (Dm c n) λ_=>True:=by
 unfold Dm;rw[hc.eq]
 refine(fZ hc _).bind λx1 k1 o8 eO=>?_
 dsimp only;rw[eO.eta];exact Dr.pure eO trivial
theorem tQ(g:aR):(⟨g.cU,g.aI,g.rows,g.aU⟩:aR)=g:=rfl
theorem aro{b:af Int}{c:bG}(hc:lS b c){g:aR}(hg:cY g=true):Dr b (N3 c g) λa=>fe g a=true:=by
 have hp:=PO hg;obtain⟨_,_,_,_,g5,g6,g7,g8⟩:=jw hg;unfold N3;rw[VT,av,hc.eq]
 refine(fZ hc _).bind λx1 k1 o8 eO=>?_
 dsimp only;rw[eO.eta]
 refine(fZ eO _).bind λx2 k2 Co fV=>?_
 dsimp only;rw[fV.eta]
 refine(fZ fV _).bind λx3 k3 Jx ni=>?_
 dsimp only;rw[ni.eta];exact Dr.pure ni (xA hg o8.1 (o8.2.2 (by omega)) Co.1 (Co.2.2 (by omega)) Jx.1 (Jx.2.2 (by omega)))
def v7(n x:Int):Int:=if 100000<x+n then 100000 else x+n
theorem aet(l:af Int)(h:∀ s∈l,0<=s/\s<=15):cR (l.map Int.toNat)=l/\mB (l.map Int.toNat):=by
 constructor
 ·induction l with
  |nil=>rfl
  | cons x l ih=>
   have hx:=h x (.head _);have:=ih λs hs=>h s (.tail _ hs)
   simp only[cR,kN]at this ⊢;rw[this];congr 1;omega
 ·intro x hx;obtain⟨s,hs,rfl⟩:=List.mem_map.1 hx;have:=h s hs;omega
theorem aeu{w:af Nat}(hw:mB w)(hl:w.length=11):Sy (cR w):=by
 refine⟨by rw[tP,hl],λs hs=>?_⟩
 simp only[cR,List.mem_map]at hs;obtain⟨x,hx,rfl⟩:=hs;have:=hw x hx;omega
theorem Sy.mem{l:af cq}(h:∀c∈l,Sy c.symbols){k:Nat}(hk:k<l.length):Sy l[k].symbols:=h _ (dy hk)
theorem Sy.bP{l:af cq}(h:∀ c∈l,Sy c.symbols){k:Nat}{d:cq}(hd:Sy d.symbols):∀ c∈l.set k d,Sy c.symbols:=by
 intro c hc;rcases List.mem_or_eq_of_mem_set hc with hc|rfl
 ·exact h c hc
 ·exact hd
theorem PU{l:af Int}{B C:Int}(h:∀ x∈l,B<=x/\x<=C){k:Nat}{v:Int}(hv:B<=v/\v<=C):∀ x∈l.set k v,B<=x/\x<=C:=by
 intro x hx;rcases List.mem_or_eq_of_mem_set hx with hx|rfl
 ·exact h x hx
 ·exact hv
def Gt(l:rI)(a:dK)(i:Nat):Bool:=decide (a.bU.getD i 0 > l.bU) ||decide (a.bL.getD i 0 > l.bL)
theorem arp{l:af Int}{B C:Int}(h:∀ x∈l,B<=x/\x<=C)(k:Nat)(h0:B<=0/\0<=C):B<=l.getD k 0/\l.getD k 0<=C:=by
 rw[iz];cases hk:l[k]? with
 |none=>exact h0
 |some x=>exact h x (iy hk)
theorem aev{x:Int}(h:0<=x/\x<=100000){n:Int}(hn:0<=n):0<=v7 n x/\v7 n x<=100000:=by
 unfold v7;split<;>omega
def sC(k:Nat)(h:af Int):af Int:=h.set k (v7 1 (h.getD k 0))
theorem VZ(k:Nat)(h:af Int):(sC k h).length=h.length:=by simp[sC]
theorem V0{k:Nat}{h:af Int}(hb:∀ x∈h,0<=x/\x<=100000):∀ x∈sC k h,0<=x/\x<=100000:=
 PU hb (aev (arp hb k ⟨by omega,by omega⟩) (by omega))
theorem arq{k:Nat}{h:af Int}(hk:k<h.length):sC k h=h.set k (v7 1 h[k]):=by
 unfold sC;rw[iz,bT hk];rfl
def DV(row:Int)(i:Nat)(h:af Int):af Int:=bif decide (0<row)then sC (i-1) (h.set i 0)else h.set i 0
def BU(R row:Int)(i:Nat)(h:af Int):af Int:=bif decide (row<R-1)then sC (i+1) (DV row i h)else DV row i h
theorem ars(row:Int)(i:Nat)(h:af Int):(DV row i h).length=h.length:=by
 unfold DV;cases decide (0<row)<;>simp[VZ]
theorem art(R row:Int)(i:Nat)(h:af Int):(BU R row i h).length=h.length:=by
 unfold BU;cases decide (row<R-1)<;>simp[VZ,ars]
theorem aru{row:Int}{i:Nat}{h:af Int}(hb:∀ x∈h,0<=x/\x<=100000):∀ x∈DV row i h,0<=x/\x<=100000:=by
 have b1:=PU hb (k:=i) (v:=0) ⟨by omega,by omega⟩;unfold DV;cases decide (0<row)
 ·exact b1
 ·exact V0 b1
theorem arv{R row:Int}{i:Nat}{h:af Int}(hb:∀ x∈h,0<=x/\x<=100000):∀ x∈BU R row i h,0<=x/\x<=100000:=by
 have b1:=aru (row:=row) (i:=i) hb;unfold BU;cases decide (row<R-1)
 ·exact b1
 ·exact V0 b1
def v8(t:fA):af Int:=[t.pT,t.rp,t.kB,t.qw,t.oa,t.mI,t.qx,t.qy,t.ny,t.wr,t.rG,t.rH,t.ud,t.sL,t.sM,t.xp,t.xs]
def Li(x:Int):Bool:=aP x 1 64
def oQ(t:fA):Bool:=(v8 t).all Li&&(decide (t.pT<=t.kB)&&(decide (t.qw<=t.oa)&&(decide (t.qx<=t.qy)&&decide (t.rG<=t.rH))))
theorem V1(t:fA):FD t=some (oQ t):=by
 unfold FD oQ cX;change (iter FC bB (((),(),((v8 t).length:Int),(0:Int),()),(t,v8 t,()))).bind _=_;have od:(v8 t).length=17:=rfl;generalize v8 t=l at *
 have e:=oN (step:=FC) l Li (λi=>(((),(),(l.length:Int),(i:Int),()),(t,l,()))) (.inl ((false,()),())) (.inr (.inl (((),()),(t,())))) bB (λk h=>by
  unfold FC xC aH bI xG;simp (disch:=omega) [h,cK,dw,Li];cases aP l[k] 1 64<;>rfl) (by unfold FC xC aH bI xG;simp) (cT (by omega))
 rw[cZ]at e;rw[e];cases l.all Li<;>simp;cases decide (t.pT<=t.kB)<;>cases decide (t.qw<=t.oa)<;>cases decide (t.qx<=t.qy)<;>rfl
theorem arw(t:fA):∃ y,FE t=some y:=by
 unfold FE;rw[V1,av];cases oQ t<;>exact⟨_,rfl⟩
def aew(R i:Nat):Int:=((i % R:Nat):Int)
def tR(n R:Nat):af Int:=(List.range n).map (aew R)
theorem aex(n R:Nat):(tR n R).length=n:=by simp[tR]
def pN(g:aR)(n:Int):Bool:=cY g&&(aP n 0 2&&decide (2<=g.rows-n))
def xF(g:aR)(n:Int):fF×Bool:=bif pN g n then (⟨n,tR ((bf g).toNat*(g.rows-n).toNat) (g.rows-n).toNat⟩,true)else (⟨0,[]⟩,false)
theorem aey{g:aR}{n:Int}(h:pN g n=true):cY g=true/\0<=n/\n<=2/\2<=g.rows-n/\g.rows<=16:=by
 simp only[pN,aJ,bO,iB]at h;obtain⟨h1,⟨h2,h3⟩,h4⟩:=h;have:=jw h1;exact⟨h1,h2,h3,h4,by omega⟩
theorem arx(b R:Nat)(hR:0<R)(j:Nat)(hj:j<=R):tR (b*R+j) R=tR (b*R) R++(List.range j).map (λi:Nat=>(i:Int)):=by
 unfold tR;rw[List.range_add,List.map_append,List.map_map];congr 1
 refine lK λi hi=>?_
 have hi:i<j:=iA.1 hi;simp only[Function.comp,aew];rw[Nat.mul_comm,Nat.mul_add_mod,Nat.mod_eq_of_lt (by omega)]
theorem V2(g:aR)(n:Int):FB g n=some (xF g n):=by
 unfold FB xF cC;rw[uU,av];cases hg:cY g with
 |false=>simp[pN,hg]
 | true=>
  simp only[cm,au,dw,av];cases hn:aP n 0 2 with
  |false=>simp[pN,hn]
  | true=>
   have sR:=bO.1 hn;have gb:=jw hg;simp only[cm,au];rw[bD (by omega) (by omega)];by_cases hr:g.rows-n<2
   ·have:decide (2<=g.rows-n)=false:=bK (by omega);rw[bz hr,aq];simp[pN,this]
   ·have hs:pN g n=true:=by simp[pN,hg,hn];omega
    rw[bK hr,au,hs,aq];have b1:=iI g;obtain⟨bn,hb⟩:=iM b1.1;obtain⟨R,hR⟩:=iM (show 0<=g.rows-n by omega);have hw:W6 (g.rows-n)=(R:Int):=by rw[hR];exact bD (by omega) (by omega)
    have inner:∀ b:Nat,b<bn->iter FA bB ((n,(),(),(),(b:Int),(0:Int),()),((g.cU,g.aI,g.rows,g.aU,()),((0:Int),(),()),(n,(),()),([]:af Int),tR (b*R) R,()))=some (.inl ((n,(),(),(),(b:Int),()),((g.cU,g.aI,g.rows,g.aU,()),((0:Int),(),()),(n,(),()),([]:af Int),tR ((b+1)*R) R,()))):=by
     intro b v9;have hm:b*R<=8*16:=Nat.mul_le_mul (by omega) (by omega);have e:=eG (step:=FA) R (λj=>((n,(),(),(),(b:Int),(j:Int),()),((g.cU,g.aI,g.rows,g.aU,()),((0:Int),(),()),(n,(),()),([]:af Int),tR (b*R) R++(List.range j).map (λi:Nat=>(i:Int)),())))
      (.inl ((n,(),(),(),(b:Int),()),((g.cU,g.aI,g.rows,g.aU,()),((0:Int),(),()),(n,(),()),([]:af Int),tR (b*R) R++(List.range R).map (λi:Nat=>(i:Int)),()))) bB (λk h=>by
      unfold FA aH xG;have ho:bZ ((tR (b*R) R++(List.range k).map (λi:Nat=>(i:Int))).length+1)=true:=gk (by simp[aex];omega);dsimp only;rw[hw,bz (by omega),aq];simp only[n9,List.length_nil,fQ];rw[ho,aq,cK (by omega),List.range_succ,List.map_append,List.append_assoc];rfl) (by
      unfold FA aH xG;dsimp only;rw[hw,bK (by omega),au]) (cT (by omega))
     rw[cZ,List.range_zero,List.map_nil,List.append_nil]at e;rw[e,<-arx b R (by omega) R (gZ _),je]
    have e:=eG (step:=JE) bn (λi=>((n,(),(),(),(i:Int),()),((g.cU,g.aI,g.rows,g.aU,()),((0:Int),(),()),(n,(),()),([]:af Int),tR (i*R) R,())))
     (.inl (((),(),()),(((0:Int),(),()),(n,(),()),([]:af Int),tR (bn*R) R,()))) bB (λk h=>by
     unfold JE aH xG cC;dsimp only;rw[tQ,mA,av,hb,bz (by omega),aq]
     refine(cA (λo=>Option.bind o _) (inner k h)).trans ?_
     rw[av];simp only[jf];rw[cK (by omega)]) (by
     unfold JE aH xG cC;dsimp only;rw[tQ,mA,av,hb,bK (by omega),au]) (cT (by omega))
    rw[cZ,Nat.zero_mul]at e
    refine(cA (λo=>Option.bind o _) e).trans ?_
    rw[hb,hR];rfl
def Lj(t:fA):Int:=(FE t).getD 0
theorem ary(t:fA):FE t=some (Lj t):=by
 obtain⟨y,e⟩:=arw t;unfold Lj;rw[e];rfl
theorem aez(m:pS):JF m=some (aP m.order 0 2):=by
 unfold JF;rw[dw];rfl
def tS(c:gu):Bool:=cY c.aD&&(oQ c.bV&&(aP c.mapping.order 0 2&&(pN c.aD c.cg&&(aP c.interval (Lj c.bV) 10000&&(aP c.kO 1 16&&(aP c.gf.bU (W6 ((6:Int)*c.interval)) 100000&&aP c.gf.bL 0 100000))))))
theorem aeA(g:aR)(n:Int):(xF g n).2=pN g n:=by
 unfold xF;cases pN g n<;>rfl
theorem V3(c:gu):Oe c=some (tS c):=by
 unfold Oe tS;simp only[V2,uU,V1,aez,ary,dw,av,aeA];cases cY c.aD<;>cases oQ c.bV<;>cases aP c.mapping.order 0 2<;>cases pN c.aD c.cg<;>cases aP c.interval (Lj c.bV) 10000<;>cases aP c.kO 1 16<;>cases aP c.gf.bU (W6 ((6:Int)*c.interval)) 100000<;>rfl
theorem arz{c:gu}(h:tS c=true):cY c.aD=true/\oQ c.bV=true/\pN c.aD c.cg=true/\aP c.kO 1 16=true:=by
 simp only[tS,aJ]at h;exact⟨h.1,h.2.1,h.2.2.2.1,h.2.2.2.2.2.1⟩
theorem arB{t:fA}(h:oQ t=true):(1<=t.kB/\t.kB<=64)/\1<=t.rp/\t.rp<=64:=by
 simp only[oQ,aJ,c9]at h;have h1:=h.1 t.kB (by simp[v8]);have h2:=h.1 t.rp (by simp[v8]);simp only[Li,bO]at h1 h2;exact⟨h1,h2⟩
def sD(s:cI):Bool:=aP s.weight 1 9&&aP s.iN 0 s.weight
def lT(l:af cI):Bool:=l.all sD&&aP (l.length:Int) 1 4
theorem PW(l:af cI)(hl:l.length<1073741824):FF l=some (lT l):=by
 unfold FF lT cX;have e:=oN (step:=JG) l sD (λi=>((l,l,(l.length:Int),(i:Int),()),())) (.inl ((false,()),())) (.inr (.inl ((l,()),()))) bB (λk h=>by
  unfold JG aH bI xG xI;simp (disch:=omega) [h,cK,dw,sD];cases aP l[k].weight 1 9<;>cases aP l[k].iN 0 l[k].weight<;>rfl) (by unfold JG aH bI xG xI;simp) (cT hl)
 rw[cZ]at e;rw[e];cases l.all sD<;>simp[dw]
def nX(w:Int):cI:=⟨w,w⟩
def DW(l:af Int):af cI×Bool:=bif lT (l.map nX)then (l.map nX,true)else ([],false)
theorem arC{l:af Int}{k:Nat}(h:k<l.length):(l.take (k+1)).map nX=(l.take k).map nX++[⟨l[k],l[k]⟩]:=by
 rw[List.take_succ_eq_append_getElem h,List.map_append];rfl
theorem V4(l:af Int)(hl:l.length<1073741823):zg l=some (DW l):=by
 unfold zg DW cC;have e:=eG (step:=JH) l.length (λi=>(((),l,(l.length:Int),(i:Int),()),((l.take i).map nX,()))) (.inl (((),()),(l.map nX,()))) bB (λk h=>by
  unfold JH aH xG xI;have ho:bZ (((l.take k).map nX).length+1)=true:=gk (by simp;omega);dsimp only;rw[bz (by omega),aq,aK ⟨by omega,by omega⟩];simp only[n9,List.length_nil,fQ,bX];rw[ho,aq,cK (by omega),arC h]) (by
  unfold JH aH xG xI;dsimp only;rw[bK (by omega),au,List.take_length]) (cT (by omega))
 rw[cZ,List.take_zero,List.map_nil]at e
 refine(cA (λo=>Option.bind o _) e).trans ?_
 rw[av];simp only[jf];rw[PW _ (by simp;omega),av];cases lT (l.map nX)<;>rfl
theorem arD(l:af Int):(DW l).2=lT (l.map nX):=by
 unfold DW;cases lT (l.map nX)<;>rfl
def rq(d:mJ):Bool:=decide (d.low >= 0)&&(decide (d.low<d.high)&&decide (d.high<=12))
theorem PX(d:mJ):Br d=some (rq d):=by
 unfold Br rq;cases decide (d.low >= 0)<;>cases decide (d.low<d.high)<;>rfl
def Gu(r:ue):Bool:=aP r.down 1 10000&&(decide (r.sleep > r.down)&&decide (r.sleep<=20000))
theorem aeB(r:ue):FG r=some (Gu r):=by
 unfold FG Gu;rw[dw,av];cases aP r.down 1 10000<;>cases decide (r.sleep > r.down)<;>rfl
def tT(p:eM):Bool:=aP p.fS 0 1&&(aP p.cap 0 100000&&(aP p.fB 3 1000&&(rq ⟨false,p.low,p.high⟩&&((p.weights.length:Int)==4&&(lT (p.weights.map nX)&&Gu p.eE)))))
theorem arE(x:Int):aP x 0 1=(x==0 || x==1):=by
 rw[Bool.eq_iff_iff];simp[aP];omega
theorem Lk(p:eM)(hl:p.weights.length<1073741823):FH p=some (tT p):=by
 unfold FH tT;simp only[V4 _ hl,av,dw,PX,aeB,arD,arE];cases (p.fS==0)<;>cases (p.fS==1)<;>cases aP p.cap 0 100000<;>cases aP p.fB 3 1000<;>cases rq ⟨false,p.low,p.high⟩<;>cases ((p.weights.length:Int)==4)<;>cases lT (p.weights.map nX)<;>rfl
theorem aeC(x:Int):∃ y,FI x=some y:=by
 unfold FI;rw[dw,av];cases aP x 3 1000<;>exact⟨_,rfl⟩
theorem V5(c:gu)(p:eM)(hl:p.weights.length<1073741823):∃ b,uM c p=some b/\(b=true->tS c=true):=by
 unfold uM;obtain⟨y,e⟩:=aeC p.fB;simp only[V3,Lk _ hl,e,av];cases hc:tS c with
 |false=>exact⟨false,rfl,λh=>by cases h⟩
 | true=>
  have ht:=arB (arz hc).2.1;have hn:¬ W6 (c.bV.kB+c.bV.rp)=0:=by
   rw[bD (by omega) (by omega)];omega
  cases tT p with
  |false=>exact⟨false,rfl,λ_=>rfl⟩
  | true=>
   simp only[bJ hn,cm,au,aq];cases decide (W6 (y+2)<=c.gf.bL)<;>exact⟨_,rfl,λ_=>by first|rfl|trivial⟩
theorem aeD(i:Nat)(l:af gy):((opens i l).length==0)=l.all λb=>!b.open_:=by
 induction l generalizing i with
 |nil=>rfl
 | cons x a ih=>
  simp only[opens,List.all_cons];cases x.open_ with
  |true=>simp
  |false=>simpa using ih (i+1)
def BV(g:aR)(b:gy):Bool:=aP b.row 0 (g.rows-1)&&(b.open_ ||b.row==0)
def oR(g:aR)(r:dj):Bool:=cY g&&(((r.aI.length:Int)==bf g)&&(aP r.aX 0 2&&(r.aI.all (BV g)&&(r.aX != 2 ||r.aI.all λb=>!b.open_))))
theorem aeE(g:aR)(r:dj):JJ g r=some (oR g r):=by
 unfold JJ oR cX;rw[uU,av,mA];cases hg:cY g with
 |false=>rfl
 | true=>
  simp only[cm,au,av,dF];by_cases e1:(r.aI.length:Int)=bf g
  ·have b1:=iI g;have gb:=jw hg;simp only[e1,bne_self_eq_false,au,beq_self_eq_true,dF,dw,av];cases hp:aP r.aX 0 2 with
   |false=>rfl
   | true=>
    have e:=oN (step:=JI) r.aI (BV g) (λi=>(((),(),r.aI,(r.aI.length:Int),(i:Int),()),((g.cU,g.aI,g.rows,g.aU,()),(r.aI,r.aX,()),()))) (.inl ((false,()),())) (.inr (.inl (((),()),((r.aI,r.aX,()),())))) bB (λk h=>by
     unfold JI aH bI xG xI;dsimp only;rw[bz (by omega),aq,aK ⟨by omega,by omega⟩];simp only[bX,dw,av];rw[bD (n:=g.rows-1) (by omega) (by omega),cK (by omega)];unfold BV;cases aP r.aI[k].row 0 (g.rows-1)with
     |false=>rfl
     | true=>
      cases r.aI[k].open_ with
      |true=>rfl
      | false=>
       simp only[bne];cases r.aI[k].row==0<;>rfl) (by
     unfold JI aH bI xG xI;dsimp only;rw[bK (by omega),au]) (cT (by omega))
    rw[cZ,e1]at e;simp only[cm,au,dF]
    refine(cA (λo=>Option.bind o _) e).trans ?_
    rw[av];cases r.aI.all (BV g)with
    |false=>rfl
    | true=>
     simp only[aq,Sum.elim_inr,jf,dF];cases hq:r.aX != 2 with
     |true=>rfl
     | false=>
      simp only[au,Bool.false_or];have:(⟨r.aI,r.aX⟩:dj)=r:=rfl;rw[PR ⟨r.aI,r.aX⟩ (by show r.aI.length<_;omega),av,<-aeD 0 r.aI];congr 1;simp only;rw[Bool.eq_iff_iff];simp
  ·have e2:((r.aI.length:Int)==bf g)=false:=by simp[e1]
   rw[mS e1,e2];rfl
def DX(d:Int):Bool:=aP d (-2) 5
def gP(r:eo):Bool:=r.aN.all DX&&(aP (r.aN.length:Int) 1 8&&aP r.wait 1 10000)
theorem Gv(r:eo)(hl:r.aN.length<1073741824):zk r=some (gP r):=by
 unfold zk gP cX;have e:=oN (step:=JU) r.aN DX (λi=>(((),r.aN,(r.aN.length:Int),(i:Int),()),((r.aN,r.wait,r.gL,()),()))) (.inl ((false,()),())) (.inr (.inl (((),()),((r.aN,r.wait,r.gL,()),())))) bB (λk h=>by
  unfold JU aH bI xG xI;simp (disch:=omega) [h,cK,dw,DX];cases aP r.aN[k] (-2) 5<;>rfl) (by unfold JU aH bI xG xI;simp) (cT hl)
 rw[cZ]at e;rw[e];cases r.aN.all DX<;>simp[dw];cases aP (r.aN.length:Int) 1 8<;>rfl
def ko{T:Type}(p:T->Bool)(l:af T):Int:=match l.findIdx? p with
 |some i=>(i:Int)
 |none=>-1
theorem Gw{α β T:Type}{step:α->aj (α⊕β)}(l:af T)(p:T->Bool)(S:Nat->α)(zf:Nat->β)(z:β)(fuel:Nat)(hs:∀ k (h:k<l.length),step (S k)=some (bif p l[k]then .inr (zf k)else .inl (S (k+1))))(hz:step (S l.length)=some (.inr z))(hf:l.length<fuel):
  iter step fuel (S 0)=some (match l.findIdx? p with|some i=>zf i|none=>z):=by
 have key:∀ (n i fuel:Nat),i+n=l.length->n<fuel->(∀ j (h:j<l.length),j<i->p l[j]=false)->iter step fuel (S i)=some (match l.findIdx? p with | some i=>zf i | none=>z):=by
  intro n
  induction n with
  | zero=>
   intro i fuel hi hf hn
   match fuel,hf with
   | f+1,_=>
    have:i=l.length:=by omega
    subst this;have e:l.findIdx? p=none:=by
     rw[List.findIdx?_eq_none_iff];intro x hx;obtain⟨j,hj,rfl⟩:=lV.1 hx;exact hn j hj hj
    unfold iter;rw[hz,e]
  | succ n ih=>
   intro i fuel hi hf hn
   match fuel,hf with
   | f+1,hf=>
    have bC:i<l.length:=by omega
    unfold iter;rw[hs i bC];cases hp:p l[i]with
    | true=>
     have e:l.findIdx? p=some i:=by
      rw[qv]
      refine⟨bC,hp,λj hj=>?_⟩
      rw[hn j (by omega) hj];simp
     rw[e];rfl
    | false=>
     simp only[au]
     refine ih (i+1) f (by omega) (by omega) λj hj eZ=>?_
     by_cases e:j=i
     ·subst e;exact hp
     ·exact hn j hj (by omega)
 exact key l.length 0 fuel (by omega) hf λj _ h=>by omega
theorem aeF{T:Type}{p:T->Bool}{l:af T}{i:Nat}(h:i<l.length)(hp:p l[i]=true):(ko p l != (i:Int))=(l.take i).any p:=by
 unfold ko;cases ha:(l.take i).any p with
 | false=>
  have e:l.findIdx? p=some i:=by
   rw[qv]
   refine⟨h,hp,λj hj=>?_⟩
   have:=mW.1 ha l[j] (lV.2 ⟨j,by simp;omega,by simp⟩);exact this
  rw[e];simp
 | true=>
  obtain⟨x,hx,Iy⟩:=List.any_eq_true.1 ha;obtain⟨j,hj,rfl⟩:=lV.1 hx;rw[lM]at hj;cases hf:l.findIdx? p with
  |none=>simp
  | some k=>
   obtain⟨k1,k2,k3⟩:=qv.1 hf;have:k≠i:=by
    rintro rfl;have:=k3 j (by omega);rw[List.getElem_take]at Iy;exact this Iy
   simp only;simp;omega
def V6(x:Int):Bool:=aP x 0 4294967295
def we(n:Int)(r:bk):Bool:=aP r.id 1 100000&&(aP r.bM 0 3&&(decide (r.line >= 0)&&(decide (r.line<n)&&(V6 r.data&&((r.write ||r.data==0)&&aP r.at_ 0 1000000)))))
theorem arF(n:Int)(r:bk):On n r=some (we n r):=by
 unfold On we Du V6;simp only[dw,av];cases aP r.id 1 100000<;>cases aP r.bM 0 3<;>cases decide (r.line >= 0)<;>cases decide (r.line<n)<;>cases aP r.data 0 4294967295<;>cases r.write<;>cases r.data==0<;>rfl
def gY(x y:bk):Bool:=decide (x.at_<y.at_) ||(x.at_==y.at_&&decide (x.id<y.id))
theorem V7(x y:bk):JY x y=some (gY x y):=by
 unfold JY gY;cases decide (x.at_<y.at_)<;>cases x.at_==y.at_<;>rfl
def wg(n:Int)(q:af bk)(i:Nat):Bool:=match q[i]? with
 |some r=>we n r&&((i==0 ||(match q[i-1]? with|some x=>gY x r|none=>false)) && !((q.take i).any λx=>x.id==r.id))
 |none=>false
theorem aeG{n:Int}{q:af bk}(h:0<q.length):wg n q 0=we n q[0]:=by
 unfold wg;rw[bT h];simp
theorem PY{n:Int}{q:af bk}{i:Nat}(h:i+1<q.length):wg n q (i+1)=(we n q[i+1]&&(gY q[i] q[i+1] && !((q.take (i+1)).any λx=>x.id==q[i+1].id))):=by
 unfold wg;rw[bT h];simp only[Nat.add_sub_cancel];rw[bT (by omega)];simp
def jI(n:Int)(q:af bk):Bool:=(List.range q.length).all (wg n q)&&decide ((q.length:Int)<=12)
theorem arG(n:Int)(q:af bk){i:Nat}(h:i<q.length)(hl:q.length<1073741824):
  iter Dv bB ((n,q,(),q,(q.length:Int),(i:Int),((q.take i).drop 0),(((q.take i).drop 0).length:Int),(0:Int),()),((q[i].id,q[i].bM,q[i].line,q[i].write,q[i].data,q[i].at_,()),()))=some (bif (q.take i).any (λx=>x.id==q[i].id)then .inl ((false,()),())else .inr (.inl ((n,q,q,(q.length:Int),(i:Int),()),()))):=by
 rw[List.drop_zero];have hlen:(q.take i).length=i:=by rw[lM];omega
 generalize hr:q[i]=r;generalize ht:q.take i=t at *
 have e:=oN (step:=Dv) t (λx=>!(x.id==r.id)) (λj=>((n,q,(),q,(q.length:Int),(i:Int),t,(t.length:Int),(j:Int),()),((r.id,r.bM,r.line,r.write,r.data,r.at_,()),()))) (.inl ((false,()),())) (.inr (.inl ((n,q,q,(q.length:Int),(i:Int),()),()))) bB (λk h=>by
  unfold Dv aH bI xG xI;dsimp only;rw[bz (by omega),aq,aK ⟨by omega,by omega⟩];simp only[bX];rw[cK (by omega)];cases t[k].id==r.id<;>rfl) (by
  unfold Dv aH bI xG xI;dsimp only;rw[bK (by omega),au]) (cT (by omega))
 rw[cZ]at e;rw[e];have:t.all (λx=>!(x.id==r.id)) = !t.any λx=>x.id==r.id:=by rw[List.any_eq_not_all_not,Bool.not_not]
 rw[this];cases t.any λx=>x.id==r.id<;>rfl
theorem V8(n:Int)(q:af bk)(hl:q.length<1073741824):Dw n q=some (jI n q):=by
 unfold Dw jI cX;have e:=oN (step:=JZ) (List.range q.length) (wg n q) (λi=>((n,q,q,(q.length:Int),(i:Int),()),())) (.inl ((false,()),())) (.inr (.inl ((q,()),()))) bB (λk h=>by
   rw[gq]at h;rw[pR];unfold JZ aH bI xG xI cX;dsimp only;rw[bz (by omega),aq,aK ⟨by omega,by omega⟩];simp only[bX,arF,av];have hq:=arG n q h hl;cases k with
   | zero=>
    rw[aeG h];cases we n q[0]with
    |false=>rfl
    | true=>
     simp only[cm,au,aq];rw[bK (by omega),au,bu ⟨by omega,by omega,by omega⟩]
     refine(cA (λo=>Option.bind o _) hq).trans ?_
     simp;rfl
   | succ k=>
    rw[PY h];cases we n q[k+1]with
    |false=>rfl
    | true=>
     simp only[cm,au,dF];have hw:W6 (((k+1:Nat):Int)-1)=(k:Int):=by rw[bD (by omega) (by omega)];omega
     simp only[hw,bX];rw[bz (by omega),aq,aK ⟨by omega,by omega⟩,V7,av];cases gY q[k] q[k+1]with
     |false=>rfl
     | true=>
      simp only[cm,au,dF];rw[bu ⟨by omega,by omega,by omega⟩]
      refine(cA (λo=>Option.bind o _) hq).trans ?_
      rw[av];cases (q.take (k+1)).any λx=>x.id==q[k+1].id with
      |true=>rfl
      | false=>
       simp only[au,Sum.elim_inr,jf];rw[cK (by omega)];rfl) (by
   rw[gq];unfold JZ aH bI xG xI cX;dsimp only;rw[bK (by omega),au]) (by rw[gq];exact cT (by omega))
 rw[cZ]at e
 refine(cA (λo=>Option.bind o _) e).trans ?_
 rw[av];cases (List.range q.length).all (wg n q)<;>rfl
def nY(p:jh):Bool:=aP p.state 0 2&&(aP p.since 0 1000000&&aP p.idle 0 1000000)
theorem PZ(p:jh):Dx p=some (nY p):=by
 unfold Dx nY;simp only[dw,av];cases aP p.state 0 2<;>cases aP p.since 0 1000000<;>rfl
def zE(e:cy):Bool:=aP e.line 0 1023&&((e.code==1 ||e.code==2)&&aP e.times 1 999)
def nZ(e x:cy):Bool:=x.line==e.line&&x.code==e.code
def Ll(l:af cy)(i:Nat):Bool:=match l[i]? with
 |some e=>zE e && !((l.take i).any (nZ e))
 |none=>false
theorem V9{l:af cy}{i:Nat}(h:i<l.length):Ll l i=(zE l[i] && !((l.take i).any (nZ l[i]))):=by
 unfold Ll;rw[bT h]
def qk(l:af cy):Bool:=(List.range l.length).all (Ll l)&&decide ((l.length:Int)<=6)
theorem arH(l:af cy){i:Nat}(h:i<l.length)(hl:l.length<1073741824):
  iter Dy bB ((l,(),l,(l.length:Int),(i:Int),((l.take i).drop 0),(((l.take i).drop 0).length:Int),(0:Int),()),((l[i].line,l[i].code,l[i].times,()),()))=some (bif (l.take i).any (nZ l[i])then .inl ((false,()),())else .inr (.inl ((l,l,(l.length:Int),(i:Int),()),()))):=by
 rw[List.drop_zero];have hlen:(l.take i).length=i:=by rw[lM];omega
 generalize hr:l[i]=r;generalize ht:l.take i=t at *
 have e:=oN (step:=Dy) t (λx=>!(nZ r x)) (λj=>((l,(),l,(l.length:Int),(i:Int),t,(t.length:Int),(j:Int),()),((r.line,r.code,r.times,()),()))) (.inl ((false,()),())) (.inr (.inl ((l,l,(l.length:Int),(i:Int),()),()))) bB (λk h=>by
  unfold Dy nZ aH bI xG xI;dsimp only;rw[bz (by omega),aq,aK ⟨by omega,by omega⟩];simp only[bX];rw[cK (by omega),BEq.comm (a:=r.line),BEq.comm (a:=r.code)];cases t[k].line==r.line<;>cases t[k].code==r.code<;>rfl) (by
  unfold Dy aH bI xG xI;dsimp only;rw[bK (by omega),au]) (cT (by omega))
 rw[cZ]at e;rw[e];have:t.all (λx=>!(nZ r x)) = !t.any (nZ r):=by rw[List.any_eq_not_all_not,Bool.not_not]
 rw[this];cases t.any (nZ r)<;>rfl
theorem aeH(l:af cy)(hl:l.length<1073741824):J1 l=some (qk l):=by
 unfold J1 qk cX;have e:=oN (step:=J0) (List.range l.length) (Ll l) (λi=>((l,l,(l.length:Int),(i:Int),()),())) (.inl ((false,()),())) (.inr (.inl ((l,()),()))) bB (λk h=>by
   rw[gq]at h;rw[pR,V9 h];have hq:=arH l h hl;unfold J0 zE aH bI xG xI cX;dsimp only;rw[bz (by omega),aq,aK ⟨by omega,by omega⟩];simp only[bX,dw,av,bne];rw[bu ⟨by omega,by omega,by omega⟩];rw[show (0:Int).toNat=0 from rfl,hq];cases aP l[k].line 0 1023<;>cases l[k].code==1<;>cases l[k].code==2<;>cases aP l[k].times 1 999<;>cases (l.take k).any (nZ l[k])<;>first|rfl|(simp only[aq,au,cm,Bool.not_false,av,Sum.elim_inr,jf];rw[cK (by omega)];rfl)) (by
   rw[gq];unfold J0 aH bI xG xI cX;dsimp only;rw[bK (by omega),au]) (by rw[gq];exact cT (by omega))
 rw[cZ]at e
 refine(cA (λo=>Option.bind o _) e).trans ?_
 rw[av];cases (List.range l.length).all (Ll l)<;>rfl
theorem P0(l:af Int)(x:Int)(hl:l.length<1073741824):Bt l x=some (ko (λe=>x==e) l):=by
 unfold Bt ko;have e:=Gw (step:=JV) l (λe=>x==e) (λi=>((l,x,(l.length:Int),(i:Int),()),())) (λi=>.inl (((i:Int),()),())) (.inr (.inl ((),()))) bB (λk h=>by
  unfold JV aH bI xG xI;dsimp only;rw[bz (by omega),aq,aK ⟨by omega,by omega⟩];simp only[bX];rw[cK (by omega)];cases x==l[k]<;>rfl) (by
  unfold JV aH bI xG xI;dsimp only;rw[bK (by omega),au]) (cT hl)
 rw[cZ]at e;rw[e];cases l.findIdx? (λe=>x==e)<;>rfl
def Ln(t:dm)(i:Nat):Bool:=match t.rows[i]?,t.counts[i]? with
 |some r,some c=>aP r (-1) 15&&(aP c t.fR 100000&&((r != -1 ||c==0)&&(r == -1 ||!((t.rows.take i).any λx=>r==x))))
 |_,_=>false
theorem Wa{t:dm}{i:Nat}(h:i<t.rows.length)(h':i<t.counts.length):Ln t i=(aP t.rows[i] (-1) 15&&(aP t.counts[i] t.fR 100000&&((t.rows[i] != -1 || t.counts[i]==0)&&(t.rows[i] == -1 || !((t.rows.take i).any λx=>t.rows[i]==x))))):=by
 unfold Ln;rw[bT h,bT h']
def mC(t:dm):Bool:=aP (t.rows.length:Int) 1 16&&((t.rows.length:Int)==(t.counts.length:Int)&&(aP t.fR 0 100000&&(List.range t.rows.length).all (Ln t)))
theorem Wb(t:dm):Bu t=some (mC t):=by
 unfold Bu mC cX;simp only[dw,av];cases h1:aP (t.rows.length:Int) 1 16 with
 |false=>rfl
 | true=>
  have h1:=bO.1 h1;by_cases h2:(t.rows.length:Int)=(t.counts.length:Int)
  ·simp only[h2,bne_self_eq_false,beq_self_eq_true,cm,au,dF];cases h3:aP t.fR 0 100000 with
   |false=>rfl
   | true=>
    have e:=oN (step:=JW) (List.range t.rows.length) (Ln t) (λi=>(((),t.rows,(t.rows.length:Int),(i:Int),()),((t.rows,t.counts,t.fR,()),()))) (.inl ((false,()),())) (.inr (.inl ((),()))) bB (λk h=>by
     rw[gq]at h;have h':k<t.counts.length:=by omega
     rw[pR,Wa h h'];unfold JW aH bI xG xI;dsimp only;rw[bz (by omega),aq,aK ⟨by omega,by omega⟩,aK ⟨by omega,by omega⟩,aK ⟨by omega,by omega⟩];simp only[bX,dw,av,P0 _ _ (show t.rows.length<1073741824 by omega)];rw[aeF (p:=λe=>t.rows[k]==e) h (by simp),cK (by omega)];simp only[bne];cases aP t.rows[k] (-1) 15<;>cases aP t.counts[k] t.fR 100000<;>cases t.rows[k] == -1<;>cases t.counts[k]==0<;>cases (t.rows.take k).any (λe=>t.rows[k]==e)<;>rfl) (by
     rw[gq];unfold JW aH bI xG xI;dsimp only;rw[bK (by omega),au]) (by rw[gq];exact cT (by omega))
    rw[cZ,h2]at e;simp only[cm,au,dF]
    refine(cA (λo=>Option.bind o _) e).trans ?_
    rw[av];cases (List.range t.rows.length).all (Ln t)<;>rfl
  ·have e2:((t.rows.length:Int)==(t.counts.length:Int))=false:=by simp[h2]
   have e3:((t.counts.length:Int) != (t.rows.length:Int))=true:=mS λh=>h2 h.symm
   rw[e2,e3];rfl
theorem w9(g:aR):W6 ((9:Int)*(W6 (bf g+(1:Int))))=9*(bf g+1):=by
 have:=iI g;rw[bD (n:=bf g+1) (by omega) (by omega),bD (by omega) (by omega)]
theorem Lo(k:Int):zh k=some (aP k 1 5):=by
 unfold zh;rw[dw];rfl
theorem arI(n:Int)(u:Bool)(k:Int):DD n u k=some (bif u then aP n 0 (W6 (k-1))else n==0):=by
 unfold DD;rw[dw];cases u<;>rfl
def tU(g:aR)(i:Nat):Bool:=decide ((i:Int) / 9<bf g)==decide ((i:Int) % 9+1<=5)
theorem arJ(g:aR){i:Nat}(hi:i<1000):∃ c,Dq g (i:Int)=some (c,tU g i):=by
 unfold Dq tU;rw[mA,av,vf (by omega),uc (by omega),bD (by omega) (by omega),bD (by omega) (by omega),Lo,av];have:aP ((i:Int) % 9+1) 1 5=decide ((i:Int) % 9+1<=5):=by
  rw[Bool.eq_iff_iff];simp[aP];omega
 rw[this];cases decide ((i:Int) / 9<bf g)<;>exact⟨_,rfl⟩
def Lp(g:aR)(l:af Int)(i:Nat):Bool:=match l[i]? with
 |some e=>aP e (-1) 1000000&&(tU g i ||e == -1)
 |none=>false
theorem P1{g:aR}{l:af Int}{i:Nat}(h:i<l.length):Lp g l i=(aP l[i] (-1) 1000000&&(tU g i || l[i] == -1)):=by
 unfold Lp;rw[bT h]
def sE(l:af Int)(i:Nat):Bool:=match l[i]? with
 |some e=>aP e 0 1000000&&(i==0 ||(match l[i-1]? with|some x=>!(decide (x >= e))|none=>false))
 |none=>false
theorem P2{l:af Int}(h:0<l.length):sE l 0=aP l[0] 0 1000000:=by
 unfold sE;rw[bT h];simp
theorem Lq{l:af Int}{i:Nat}(h:i+1<l.length):sE l (i+1)=(aP l[i+1] 0 1000000 && !(decide (l[i] >= l[i+1]))):=by
 unfold sE;rw[bT h];simp only[Nat.add_sub_cancel];rw[bT (by omega)];simp
def oS(g:aR)(r:gA):Bool:=cY g&&((r.last.length:Int)==9*(bf g+1)&&(!(decide ((r.aY.length:Int) > 4))&&((List.range r.last.length).all (Lp g r.last)&&(List.range r.aY.length).all (sE r.aY))))
theorem Wc(g:aR)(r:gA):FK g r=some (oS g r):=by
 unfold FK oS cX;rw[uU,av,mA];cases hg:cY g with
 |false=>rfl
 | true=>
  simp only[cm,au,av,dF,w9];by_cases e1:(r.last.length:Int)=9*(bf g+1)
  ·have b1:=iI g;rw[e1,bne_self_eq_false,au,beq_self_eq_true,dF,<-e1];cases h2:decide ((r.aY.length:Int) > 4)with
   |true=>rfl
   | false=>
    have h2:=of_decide_eq_false h2;have l1:=oN (step:=JK) (List.range r.last.length) (Lp g r.last) (λi=>(((),(),r.last,(r.last.length:Int),(i:Int),()),((g.cU,g.aI,g.rows,g.aU,()),(r.last,r.aY,()),()))) (.inl ((false,()),())) (.inr (.inl (((),()),((r.last,r.aY,()),())))) bB (λk h=>by
     rw[gq]at h;obtain⟨c,hc⟩:=arJ g (i:=k) (by omega);rw[pR,P1 h];unfold JK aH bI xG xI;dsimp only;rw[bz (by omega),aq,aK ⟨by omega,by omega⟩];simp only[bX,dw,av,tQ,hc,bne];rw[cK (by omega)];cases aP r.last[k] (-1) 1000000<;>cases tU g k<;>cases r.last[k] == -1<;>rfl) (by
     rw[gq];unfold JK aH bI xG xI;dsimp only;rw[bK (by omega),au]) (by rw[gq];exact cT (by omega))
    have l2:=oN (step:=JL) (List.range r.aY.length) (sE r.aY) (λi=>(((),r.aY,(r.aY.length:Int),(i:Int),()),((r.last,r.aY,()),()))) (.inl ((false,()),())) (.inr (.inl ((),()))) bB (λk h=>by
     rw[gq]at h;rw[pR];unfold JL aH bI xG xI;dsimp only;rw[bz (by omega),aq,aK ⟨by omega,by omega⟩];simp only[bX,dw,av];cases k with
     | zero=>
      rw[P2 h];cases aP r.aY[0] 0 1000000 with
      |false=>rfl
      | true=>
       rw[bK (by omega)];rfl
     | succ k=>
      rw[Lq h];have hw:W6 (((k+1:Nat):Int)-1)=(k:Int):=by rw[bD (by omega) (by omega)];omega
      simp only[hw,bX];rw[bz (show ((k+1:Nat):Int) > 0 by omega),aK ⟨by omega,by omega⟩,cK (by omega)];cases aP r.aY[k+1] 0 1000000<;>cases decide (r.aY[k] >= r.aY[k+1])<;>rfl) (by
     rw[gq];unfold JL aH bI xG xI;dsimp only;rw[bK (by omega),au]) (by rw[gq];exact cT (by omega))
    rw[cZ]at l1 l2;simp only[Bool.not_false,au,dF]
    refine(cA (λo=>Option.bind o _) l1).trans ?_
    rw[av];cases (List.range r.last.length).all (Lp g r.last)with
    |false=>rfl
    | true=>
     simp only[aq,Sum.elim_inr,jf,dF]
     refine(cA (λo=>Option.bind o _) l2).trans ?_
     rw[av];cases (List.range r.aY.length).all (sE r.aY)<;>rfl
  ·have e2:((r.last.length:Int)==9*(bf g+1))=false:=by simp[e1]
   rw[mS e1,e2];rfl
theorem arK(l:af Int)(x:Int)(hl:l.length<1073741824):Oj l x=some (l.count x:Int):=by
 unfold Oj cC;have e:=eG (step:=JQ) l.length (λi=>((x,((l.take i).count x:Int),l,(l.length:Int),(i:Int),()),())) (.inl (((l.count x:Int),()),())) bB (λk h=>by
  unfold JQ aH xG xI;have hc:(l.take k).count x<=k:=Nat.le_trans List.count_le_length (by rw[lM];omega);dsimp only;rw[bz (by omega),aq,aK ⟨by omega,by omega⟩];simp only[bX];rw[List.take_succ_eq_append_getElem h,List.count_append,List.count_singleton,cK (by omega),cK (by omega)];cases l[k]==x<;>rfl) (by
  unfold JQ aH xG xI;dsimp only;rw[bK (by omega),au,List.take_length]) (cT hl)
 rw[cZ,List.take_zero,List.count_nil]at e;rw[cZ]at e;rw[e];rfl
theorem aeI{x:Int}:∀ (l:af Int),(∀ j (h:j<l.length),l[j]=x->x ∉ l.take j)->l.count x<=1
 |[],_=>by simp
 | y :: ys,h=>by
  rw[List.count_cons];by_cases e:y=x
  ·have:x ∉ ys:=by
    intro hx;obtain⟨j,hj,e2⟩:=lV.1 hx;refine h (j+1) (by simp;omega) (by simpa using e2) ?_;rw[List.take_succ_cons,e];exact List.mem_cons_self
   rw[List.count_eq_zero.2 this];split<;>omega
  ·have:=aeI ys λj hj e2 hx=>h (j+1) (by simp;omega) (by simpa using e2) (by rw[List.take_succ_cons];exact List.mem_cons_of_mem _ hx)
   have hb:(y==x)=false:=by simp[e]
   rw[hb]
   simpa using this
theorem arL{x:Int}:∀ (l:af Int) (j:Nat) (h:j<l.length),l[j]=x->x∈l.take j->2<=l.count x:=by
 intro l j h e hx;have h1:1<=(l.take j).count x:=List.count_pos_iff.2 hx;have h2:1<=(l.drop j).count x:=List.count_pos_iff.2 (by rw[<-e];exact lV.2 ⟨0,by simp;omega,by simp⟩);have:l.count x=(l.take j).count x+(l.drop j).count x:=by rw[<-List.count_append,List.take_append_drop]
 omega
def uX(R M:Int)(L:af Int)(j:Nat):Bool:=match L[j]? with
 |some e=>e==(j:Int) ||(aP e R M && !(decide ((L.count e:Int) > 1)))
 |none=>false
def DY(R M:Int)(L:af Int)(j:Nat):Bool:=match L[j]? with
 |some e=>e==(j:Int) ||(aP e R M && !((L.take j).any λx=>x==e))
 |none=>false
theorem aeJ(R M:Int)(L:af Int)(hR:(L.length:Int)=R):(List.range L.length).all (uX R M L)=(List.range L.length).all (DY R M L):=by
 rw[Bool.eq_iff_iff,c9,c9];simp only[iA];constructor
 ·intro h j hj;have:=h j hj;unfold uX at this;unfold DY;rw[bT hj]at *
  simp only[eH,aJ,hD,oW]at *
  rcases this with h1|⟨h1,h2⟩
  ·exact .inl h1
  ·refine .inr ⟨h1,?_⟩;rw[mW];intro x hx We;have We:x=L[j]:=by simpa using We
   have:=arL L j hj rfl (We ▸ hx);omega
 ·intro h j hj;have:=h j hj;unfold DY at this;unfold uX;rw[bT hj]at *
  simp only[eH,aJ,hD,oW]at *
  rcases this with h1|⟨h1,h2⟩
  ·exact .inl h1
  ·refine .inr ⟨h1,?_⟩;have hle:=(bO.1 h1).1;have:=aeI (x:=L[j]) L λk hk e hx=>by
    have fV:=h k hk;unfold DY at fV;rw[bT hk]at fV;simp only[eH,aJ,hD]at fV;rcases fV with h3|⟨_,h4⟩
    ·have h3:L[k]=(k:Int):=by simpa using h3
     omega
    ·have:=mW.1 h4 L[j] hx;rw[e]at this;simp at this
   omega
def gJ(m:af Int)(R b:Nat):af Int:=(m.take ((b+1)*R)).drop (b*R)
theorem P3(m:af Int)(R b:Nat):gJ m R b=(m.drop (b*R)).take R:=by
 unfold gJ;rw[List.drop_take,je,Nat.add_sub_cancel_left]
theorem Gx{m:af Int}{R b:Nat}(h:(b+1)*R<=m.length):(gJ m R b).length=R:=by
 rw[P3,lM,List.length_drop];rw[je]at h;omega
theorem Gy{bn R b j:Nat}(hb:b<bn)(hj:j<=R):b*R+j<=bn*R:=by
 have:(b+1)*R<=bn*R:=kz R hb;rw[je]at this;omega
def oT(g:aR)(s:fF):Bool:=pN g s.cg&&((s.map.length:Int)==((bf g).toNat*(g.rows-s.cg).toNat:Nat)&&(List.range (bf g).toNat).all λb=>(List.range (g.rows-s.cg).toNat).all (uX (g.rows-s.cg) (g.rows-1) (gJ s.map (g.rows-s.cg).toNat b)))
theorem P4{g:aR}{s:fF}{R bn b:Nat}(hR:g.rows-s.cg=(R:Int))(gC:R<=16)(h8:bn<=8)(hb:b<bn)(hl:s.map.length=bn*R):Dt g s (b:Int)=some (b*R,(b+1)*R):=by
 have hm:bn*R<=8*16:=Nat.mul_le_mul h8 gC;have h1:b*R+R<=bn*R:=Gy hb (gZ R);have hw:W6 (g.rows-s.cg)=(R:Int):=by rw[hR];exact bD (by omega) (by omega)
 have m1:W6 ((b:Int)*(R:Int))=((b*R:Nat):Int):=by rw[<-Int.natCast_mul];exact bD (by omega) (by omega)
 have m2:W6 (((b+1:Nat):Int)*(R:Int))=(((b+1)*R:Nat):Int):=by
  rw[<-Int.natCast_mul];exact bD (by omega) (by rw[je];omega)
 unfold Dt;rw[hw,cK (by omega),m1,m2,je,bu ⟨by omega,by omega,by omega⟩];simp only[bX]
theorem arM{g:aR}{s:fF}(R b:Int)(L:af Int)(hg:cY g=true)(hL:L.length<1073741824):
  iter FM bB (((),(),R,b,L,L,(L.length:Int),(0:Int),()),((g.cU,g.aI,g.rows,g.aU,()),(s.cg,s.map,()),()))=some (bif (List.range L.length).all (uX R (g.rows-1) L)then .inr (.inl (((),(),R,b,()),((g.cU,g.aI,g.rows,g.aU,()),(s.cg,s.map,()),())))else .inl ((false,()),())):=by
 have gb:=jw hg;have e:=oN (step:=FM) (List.range L.length) (uX R (g.rows-1) L) (λi=>(((),(),R,b,L,L,(L.length:Int),(i:Int),()),((g.cU,g.aI,g.rows,g.aU,()),(s.cg,s.map,()),()))) (.inl ((false,()),())) (.inr (.inl (((),(),R,b,()),((g.cU,g.aI,g.rows,g.aU,()),(s.cg,s.map,()),())))) bB (λk h=>by
  rw[gq]at h;rw[pR];unfold FM uX aH bI xG xI;dsimp only;rw[bz (by omega),aq,aK ⟨by omega,by omega⟩,bT h];simp only[bX,dw,av,arK _ _ hL,bne];rw[cK (by omega),bD (n:=g.rows-1) (by omega) (by omega)];cases L[k]==(k:Int)<;>cases aP L[k] R (g.rows-1)<;>cases decide ((L.count L[k]:Int) > 1)<;>rfl) (by
  rw[gq];unfold FM aH bI xG xI;dsimp only;rw[bK (by omega),au]) (by rw[gq];exact cT (by omega))
 rw[cZ]at e;exact e
theorem aeK(g:aR)(s:fF):JS g s=some (oT g s):=by
 unfold JS oT cX;rw[V2,av,aeA];cases hs:pN g s.cg with
 |false=>rfl
 | true=>
  obtain⟨hg,s0,s2,Cn,P5⟩:=aey hs;have b1:=iI g;have qJ:((xF g s.cg).1.map.length:Int)=(((bf g).toNat*(g.rows-s.cg).toNat:Nat):Int):=by
   unfold xF;rw[hs,aq,aex]
  rw[qJ];obtain⟨bn,hb⟩:=iM b1.1;obtain⟨R,hR⟩:=iM (show 0<=g.rows-s.cg by omega);rw[hb,hR];simp only[bX,cm,au,dF];by_cases hl:(s.map.length:Int)=((bn*R:Nat):Int)
  ·have gR:s.map.length=bn*R:=by omega
   rw[hl,bne_self_eq_false,au,beq_self_eq_true,dF];have hw:W6 (R:Int)=(R:Int):=bD (by omega) (by omega);have e:=oN (step:=JR) (List.range bn) (λb=>(List.range R).all (uX (R:Int) (g.rows-1) (gJ s.map R b))) (λi=>(((),(),(R:Int),(i:Int),()),((g.cU,g.aI,g.rows,g.aU,()),(s.cg,s.map,()),()))) (.inl ((false,()),())) (.inr (.inl ((),()))) bB (λk h=>by
    rw[gq]at h;rw[pR];have hk:=Gy (R:=R) h (gZ R);have hlen:(gJ s.map R k).length=R:=Gx (by rw[je,gR];exact hk);have sP:=arM (g:=g) (s:=s) (R:Int) (k:Int) (gJ s.map R k) hg (by omega);unfold JR aH bI xG cX;dsimp only;rw[tQ,mA,av,hb,bz (by omega),aq];have hbr:Dt g (⟨s.cg,s.map⟩:fF) (k:Int)=some (k*R,(k+1)*R):=P4 (s:=⟨s.cg,s.map⟩) hR (by omega) (by omega) h gR;rw[hbr,av];have hc:(Nat.ble (k*R) ((k+1)*R)&&Nat.ble ((k+1)*R) s.map.length)=true:=by
     rw[aJ];exact⟨jV (by rw[je];omega),jV (by rw[je];omega)⟩
    rw[hc,aq]
    refine(cA (λo=>Option.bind o _) sP).trans ?_
    rw[av,hlen];cases (List.range R).all (uX (R:Int) (g.rows-1) (gJ s.map R k))with
    |false=>rfl
    | true=>
     simp only[aq,Sum.elim_inr,jf];rw[cK (by omega)]) (by
    rw[gq];unfold JR aH bI xG cX;dsimp only;rw[tQ,mA,av,hb,bK (by omega),au]) (by rw[gq];exact cT (by omega))
   rw[cZ]at e;rw[hw]
   refine(cA (λo=>Option.bind o _) e).trans ?_
   rw[av];cases (List.range bn).all λb=>(List.range R).all (uX (R:Int) (g.rows-1) (gJ s.map R b))<;>rfl
  ·have e2:((s.map.length:Int)==((bn*R:Nat):Int))=false:=by simp only[beq_eq_false_iff_ne];exact hl
   rw[mS hl,e2];rfl
def gK(g:aR)(s:fF):aR:=bif oT g s then ⟨g.cU,g.aI,W6 (g.rows-s.cg),g.aU⟩else ⟨0,0,0,0⟩
theorem DZ(g:aR)(s:fF):zl g s=some (gK g s):=by
 unfold zl gK;rw[aeK,av];cases oT g s<;>rfl
def BW(c:ay):ay:=c
def kJ(a x:aV):Bool:=x.aE==a.aE&&(x.row==a.row&&(x.cO==a.cO&&true))
theorem aeL(l:af aV)(a:aV)(hl:l.length<1073741824):FO l a=some (ko (kJ a) l):=by
 unfold FO ko;have e:=Gw (step:=JX) l (kJ a) (λi=>((l,(),(l.length:Int),(i:Int),()),((a.aE,a.row,a.cO,()),()))) (λi=>.inl (((i:Int),()),())) (.inr (.inl ((),()))) bB (λk h=>by
  unfold JX kJ aH bI xG xI;dsimp only;rw[bz (by omega),aq,aK ⟨by omega,by omega⟩];simp only[bX];rw[cK (by omega),BEq.comm (a:=a.aE),BEq.comm (a:=a.row),BEq.comm (a:=a.cO)];cases (l[k].aE==a.aE&&(l[k].row==a.row&&(l[k].cO==a.cO&&true)))<;>rfl) (by
  unfold JX aH bI xG xI;dsimp only;rw[bK (by omega),au]) (cT hl)
 rw[cZ]at e;rw[e];cases l.findIdx? (kJ a)<;>rfl
def partAt(c:ay)(i:Nat):Bool:=match c.bx[i]?,c.guard[i]? with
 |some t,some x=>mC t&&aP x 3 1000
 |_,_=>false
def BX(c:ay)(i:Nat):Bool:=match c.pending[i]? with
 |some a=>fe c.config.aD a&&(a.cO==0 && !((c.pending.take i).any (kJ a)))
 |none=>false
def uY(c:ay):Bool:=(c.bh.aN.length:Int)==bf c.config.aD&&((c.bx.length:Int)==bf c.config.aD&&((c.guard.length:Int)==bf c.config.aD&&(!(decide ((c.pending.length:Int) > 128))&&((List.range c.bx.length).all (partAt c)&&(List.range c.pending.length).all (BX c)))))
theorem aeM(c:ay)(G:(Int×Int×Int×Int×ak))(n i:Int):Ok (((),(),n,i,()),(BW c,G,()))=(bif (decide (i<n))then if h2:0<=i/\i.toNat<c.bx.length then (Bu (c.bx[i.toNat]'h2.2)).bind λy4=>bif (!y4)then some (.inr (.inl ((false,()),())))else if h5:0<=i/\i.toNat<c.guard.length then (cx (c.guard[i.toNat]'h5.2) (3:Int) (1000:Int)).bind λy7=>bif (!y7)then some (.inr (.inl ((false,()),())))else some (.inl (((),(),n,(W6 (i+(1:Int))),()),(BW c,G,())))else none else none else some (.inr (.inr (.inl (((),(),()),(BW c,G,())))))):=rfl
theorem aeN(c:ay)(g:aR)(l:af aV)(n i:Int):Ol (((),(),l,n,i,()),(BW c,(g.cU,g.aI,g.rows,g.aU,()),()))=(bif (decide (i<n))then if fJ:0<=i/\i.toNat<l.length then (zj g (l[i.toNat]'fJ.2)).bind λfW=>bif (!fW)then some (.inr (.inl ((false,()),())))else bif ((l[i.toNat]'fJ.2).cO != (0:Int))then some (.inr (.inl ((false,()),())))else (FO c.pending (l[i.toNat]'fJ.2)).bind λez=>bif (ez != i)then some (.inr (.inl ((false,()),())))else some (.inl (((),(),l,n,(W6 (i+(1:Int))),()),(BW c,(g.cU,g.aI,g.rows,g.aU,()),())))else none else some (.inr (.inr (.inl ((),()))))):=rfl
theorem arN(c:ay)(hd:c.bh.aN.length<1073741824):Om c=some (gP c.bh&&uY c):=by
 unfold Om uY cX;rw[mA,av,Gv _ hd,av];cases gP c.bh with
 |false=>rfl
 |true=>
 simp only[cm,au,dF];have b1:=iI c.config.aD;by_cases e1:(c.bh.aN.length:Int)=bf c.config.aD
 ·by_cases e2:(c.bx.length:Int)=bf c.config.aD
  ·by_cases e3:(c.guard.length:Int)=bf c.config.aD
   ·have n1:((c.bh.aN.length:Int) != bf c.config.aD)=false:=by simp[e1]
    have n2:((c.bx.length:Int) != bf c.config.aD)=false:=by simp[e2]
    have n3:((c.guard.length:Int) != bf c.config.aD)=false:=by simp[e3]
    have q1:((c.bh.aN.length:Int)==bf c.config.aD)=true:=by simp[e1]
    have q2:((c.bx.length:Int)==bf c.config.aD)=true:=by simp[e2]
    have q3:((c.guard.length:Int)==bf c.config.aD)=true:=by simp[e3]
    rw[n1,n2,n3,q1,q2,q3];simp only[au,dF];cases h4:decide ((c.pending.length:Int) > 128)with
    |true=>rfl
    | false=>
     have h4:=of_decide_eq_false h4;have l1:=oN (step:=Ok) (List.range c.bx.length) (partAt c) (λi=>(((),(),(c.bx.length:Int),(i:Int),()),(BW c,(c.config.aD.cU,c.config.aD.aI,c.config.aD.rows,c.config.aD.aU,()),()))) (.inl ((false,()),())) (.inr (.inl (((),(),()),(BW c,(c.config.aD.cU,c.config.aD.aI,c.config.aD.rows,c.config.aD.aU,()),())))) bB (λk h=>by
      rw[gq]at h;rw[pR,aeM,bz (by omega),aq,aK ⟨by omega,by omega⟩,aK ⟨by omega,by omega⟩];simp only[bX,Wb,dw,av];unfold partAt;rw[bT h,bT (show k<c.guard.length by omega),cK (by omega)];simp only;cases mC c.bx[k]<;>cases aP (c.guard[k]'(by omega)) 3 1000<;>rfl) (by
      rw[gq,aeM,bK (by omega),au]) (by rw[gq];exact cT (by omega))
     have l2:=oN (step:=Ol) (List.range c.pending.length) (BX c) (λi=>(((),(),c.pending,(c.pending.length:Int),(i:Int),()),(BW c,(c.config.aD.cU,c.config.aD.aI,c.config.aD.rows,c.config.aD.aU,()),()))) (.inl ((false,()),())) (.inr (.inl ((),()))) bB (λk h=>by
      rw[gq]at h;rw[pR,aeN,bz (by omega),aq,aK ⟨by omega,by omega⟩];simp only[bX,DP,av,aeL _ _ (show c.pending.length<1073741824 by omega),bne];have hs:=aeF (p:=kJ c.pending[k]) h (by simp[kJ]);rw[bne]at hs;rw[hs];unfold BX;rw[bT h,cK (by omega)];simp only;cases fe c.config.aD c.pending[k]<;>cases c.pending[k].cO==0<;>cases (c.pending.take k).any (kJ c.pending[k])<;>rfl) (by
      rw[gq,aeN,bK (by omega),au]) (by rw[gq];exact cT (by omega))
     rw[cZ]at l1 l2;simp only[Bool.not_false,au,dF]
     refine(cA (λo=>Option.bind o _) l1).trans ?_
     rw[av];cases (List.range c.bx.length).all (partAt c)with
     |false=>rfl
     | true=>
      simp only[aq,Sum.elim_inr,jf,dF]
      refine(cA (λo=>Option.bind o _) l2).trans ?_
      rw[av];cases (List.range c.pending.length).all (BX c)<;>rfl
   ·simp[e1,e2,mS e3,e3]
  ·simp[e1,mS e2,e2]
 ·simp[mS e1,e1]
def tV(n:Int)(u:Bool)(k:Int):Bool:=bif u then aP n 0 (k-1)else n==0
def gx(g:aR)(c:aT):Bool:=cY g&&(aP c.kind 1 9&&(tV c.aE (aP c.kind 1 5) (bf g)&&(tV c.row (c.kind==1) g.rows&&tV c.cO (c.kind==2 ||c.kind==3) g.aU)))
theorem arO(k:Int):OI k=some (k==1):=by
 unfold OI;rfl
theorem arP(k:Int):OJ k=some (k==2 || k==3):=by
 unfold OJ;cases k==2<;>rfl
theorem Wf{n k:Int}(u:Bool)(h:-1000<k/\k<1000):DD n u k=some (tV n u k):=by
 rw[arI,bD (by omega) (by omega)];rfl
theorem Wg(g:aR)(c:aT):F5 g c=some (gx g c):=by
 unfold F5 gx;rw[uU,av];cases hg:cY g with
 |false=>rfl
 | true=>
  have b1:=iI g;have gb:=jw hg;unfold Vp;simp only[aq,mA,av,dw,Lo,arO,arP,Wf _ (show -1000<bf g/\bf g<1000 by omega),Wf _ (show -1000<g.rows/\g.rows<1000 by omega),Wf _ (show -1000<g.aU/\g.aU<1000 by omega),dF];cases aP c.kind 1 9<;>cases tV c.aE (aP c.kind 1 5) (bf g)<;>cases tV c.row (c.kind==1) g.rows<;>rfl
theorem Gz{g:aR}{c:aT}(h:gx g c=true):cY g=true/\(1<=c.kind/\c.kind<=9)/\(c.kind<=5->0<=c.aE/\c.aE<bf g)/\(5<c.kind->c.aE=0):=by
 simp only[gx,aJ,bO]at h
 refine⟨h.1,h.2.1,λhk=>?_,λhk=>?_⟩
 ·have:=h.2.2.1;rw[tV,show aP c.kind 1 5=true from bO.2 ⟨h.2.1.1,hk⟩,aq,bO]at this;omega
 ·have:=h.2.2.1;have hu:aP c.kind 1 5=false:=by
   cases hu:aP c.kind 1 5 with
   |false=>rfl
   |true=>have:=bO.1 hu;omega
  rw[tV,hu,au,iC]at this;exact this
theorem kinds{k:Int}(h:1<=k/\k<=9):k=1\/k=2\/k=3\/k=4\/k=5\/k=6\/k=7\/k=8\/k=9:=by omega
def mT(r:dj)(b:Int):gy:=r.aI.getD b.toNat ⟨false,0⟩
def sF(r:dj)(c:aT):Bool:=
 bif c.kind==1 ||c.kind==5 then r.aX==0 && !(mT r c.aE).open_ else
 bif c.kind==2 ||c.kind==3 ||c.kind==4 then r.aX==0&&(mT r c.aE).open_ else
 bif c.kind==6 then r.aX==0 else
 bif c.kind==8 then r.aX==0&&r.aI.all (λb=>!b.open_)else
 bif c.kind==7 then r.aX==1 else r.aX==2
def iX(r:dj)(c:aT):dj:=
 bif c.kind==1 then ⟨r.aI.set c.aE.toNat ⟨true,c.row⟩,r.aX⟩else
 bif c.kind==4 then ⟨r.aI.set c.aE.toNat ⟨false,0⟩,r.aX⟩else
 bif c.kind==6 then ⟨r.aI,1⟩else
 bif c.kind==8 then ⟨r.aI,2⟩else
 bif c.kind==7 ||c.kind==9 then ⟨r.aI,0⟩else r
theorem arQ{r:dj}{b:Int}(h:b.toNat<r.aI.length):r.aI[b.toNat]=mT r b:=by
 simp[mT,h]
theorem arR(r:dj):(((opens 0 r.aI).length:Int)==0)=r.aI.all λb=>!b.open_:=by
 rw[<-aeD 0 r.aI,Bool.eq_iff_iff];simp only[iC];omega
theorem Wh(g:aR)(r:dj)(c:aT):Kj g r c=some (oR g r&&(gx g c&&sF r c)):=by
 unfold Kj xI;rw[aeE,av];cases hr:oR g r with
 |false=>rfl
 | true=>
  rw[Wg,av];cases hc:gx g c with
  |false=>rfl
  | true=>
   obtain⟨hg,hk,hb,_⟩:=Gz hc;have hlen:(r.aI.length:Int)=bf g:=by
    simp only[oR,aJ,iC]at hr;exact hr.2.1
   have b1:=iI g;have hb:c.kind<=5->0<=c.aE/\c.aE.toNat<r.aI.length:=λh=>by have:=hb h;omega
   have hl:r.aI.length<1073741823:=by omega
   simp only[cm,au,dF];unfold sF;rcases kinds hk with h|h|h|h|h|h|h|h|h
   case inr.inr.inr.inr.inr.inr.inr.inl=>simp[h,PR r hl,arR];cases r.aX==0<;>rfl
   all_goals (try (have hb:=hb (by omega)))<;>simp[h,hb,arQ]<;>(cases r.aX==0<;>rfl)
def qm(g:aR)(r:dj)(c:aT):Bool:=oR g r&&(gx g c&&sF r c)
def Wi(g:aR)(r:dj)(c:aT):dj×Bool:=bif qm g r c then (iX r c,true)else (r,false)
theorem Lr{g:aR}{r:dj}{c:aT}(h:qm g r c=true):cY g=true/\(r.aI.length:Int)=bf g/\(1<=c.kind/\c.kind<=9)/\(c.kind<=5->0<=c.aE/\c.aE.toNat<r.aI.length):=by
 simp only[qm,aJ]at h;obtain⟨hg,hk,hb,_⟩:=Gz h.2.1;have hr:=h.1;simp only[oR,aJ,iC]at hr;exact⟨hg,hr.2.1,hk,λh=>by have:=hb h;omega⟩
theorem arS(r:dj)(h:r.aI.length<1073741824):FT r=some r:=by
 unfold FT;rw[show ([]:af gy).length+r.aI.length=r.aI.length by simp,gk h];rfl
theorem arT(g:aR)(r:dj)(c:aT)(h:r.aI.length<1073741824):KH g r c=some (Wi g r c):=by
 unfold KH Wi xC;rw[arS r h,av,Wh,av];change (bif !(qm g r c)then _ else _)=_;cases ha:qm g r c with
 |false=>rfl
 | true=>
  obtain⟨hg,hlen,hk,hb⟩:=Lr ha;simp only[cm,au,aq];unfold iX;rcases kinds hk with h|h|h|h|h|h|h|h|h<;>(try (have hb:=hb (by omega)))<;>simp[h,hb]
def P6(g:aR):dj:=⟨List.replicate (bf g).toNat ⟨false,0⟩,0⟩
theorem arU(g:aR):Po g=some (P6 g):=by
 have b1:=iI g;unfold Po P6;rw[uU,av];cases hg:cY g with
 | false=>
  have:bf g=0:=by simp[bf,hg]
  rw[this];rfl
 | true=>
  simp only[cm,au,mA,av];rw[bu ⟨by omega,by omega,by omega⟩]
theorem arV(r:dj)(c:aT):(iX r c).aI.length=r.aI.length:=by
 unfold iX;cases c.kind==1<;>cases c.kind==4<;>cases c.kind==6<;>cases c.kind==8<;>cases (c.kind==7 ||c.kind==9)<;>simp
def D0(t:fA)(a b:Int):Int:=
 bif a==1 then (bif b==2 ||b==3 then t.pT else bif b==4 then t.kB else bif b==1 ||b==5 then W6 (t.kB+t.rp)else 0)else
 bif a==2 then (bif b==4 then t.ny else bif b==1 ||b==5 then W6 (t.ny+t.rp)else 0)else
 bif a==3 then (bif b==4 then t.wr else bif b==1 ||b==5 then W6 (t.wr+t.rp)else 0)else
 bif a==4 then (bif b==1 ||b==5 then t.rp else 0)else
 bif a==5 then (bif b==1 ||b==5 then t.sL else 0)else 0
def D1(t:fA)(a b:Int)(D2:Bool):Int:=
 bif a==7 then t.xp else bif a==9 then t.xs else
 bif (a==6&&b==7) ||(a==8&&b==9)then t.sM else
 bif a==1&&b==1 then (bif D2 then t.oa else t.qw)else
 bif (a==2&&b==2) ||(a==3&&b==3)then (bif D2 then t.qy else t.qx)else
 bif a==3&&b==2 then (bif D2 then t.rH else t.rG)else
 bif a==2&&b==3 then t.ud else
 bif a==5&&b==5 then t.oa else
 bif a==2&&b==6 then t.ny else bif a==3&&b==6 then t.wr else
 bif b==8 then D0 t a 1 else 0
theorem arW(t:fA){a b:Int}(ha:1<=a/\a<=9)(hb:1<=b/\b<=9):Kk t a b=some (D0 t a b):=by
 rcases kinds ha with rfl|rfl|rfl|rfl|rfl|rfl|rfl|rfl|rfl<;>rcases kinds hb with rfl|rfl|rfl|rfl|rfl|rfl|rfl|rfl|rfl<;>kernel_rfl
theorem Wj(t:fA){a b:Int}(D2:Bool)(ha:1<=a/\a<=9)(hb:1<=b/\b<=9):Kq t a b D2=some (D1 t a b D2):=by
 cases D2<;>rcases kinds ha with rfl|rfl|rfl|rfl|rfl|rfl|rfl|rfl|rfl<;>rcases kinds hb with rfl|rfl|rfl|rfl|rfl|rfl|rfl|rfl|rfl<;>kernel_rfl
def P7(a b:aT):Bool:=aP a.kind 1 5&&aP b.kind 1 5
def P8(g:aR)(a b:aT):Bool:=P7 a b&&(W6 (a.aE.tdiv g.aI)==W6 (b.aE.tdiv g.aI))
def D3(g:aR)(t:fA)(a b:aT):Int:=
 bif P7 a b&&a.aE==b.aE then max (max 1 (D1 t a.kind b.kind (P8 g a b))) (D0 t a.kind b.kind)else max 1 (D1 t a.kind b.kind (P8 g a b))
theorem P9(x y:Int):(if x > y then x else y)=max x y:=by
 rw[Int.max_def];split<;>split<;>omega
theorem aeO{g:aR}{b:Int}(h:0<=b/\b<bf g)(hg:cY g=true):Ks g b=some (W6 (b.tdiv g.aI)):=by
 have b1:=iI g;have gb:=jw hg;unfold Ks;rw[mA,av,dw,av,bD (by omega) (by omega),bO.2 ⟨h.1,by omega⟩,cm,au,bJ (by omega)]
theorem arX{k:Int}(h:1<=k/\k<=9):aP k 1 5=decide (k<=5):=by
 unfold aP;rw[bz h.1,dF]
theorem arY{g:aR}(t:fA){a b:aT}(hg:cY g=true)(ka:1<=a.kind/\a.kind<=9)(kb:1<=b.kind/\b.kind<=9)(ba:a.kind<=5->0<=a.aE/\a.aE<bf g)(bb:b.kind<=5->0<=b.aE/\b.aE<bf g):Kt g t a b=some (D3 g t a b):=by
 unfold Kt D3 P8 P7;simp only[Lo,av];cases ua:aP a.kind 1 5 with
 | false=>
  simp only[au,Bool.false_and];rw[Wj t false ka kb,av,P9,Int.max_comm]
 | true=>
  cases ub:aP b.kind 1 5 with
  | false=>
   simp only[aq,au,Bool.and_false,Bool.false_and];rw[Wj t false ka kb,av,P9,Int.max_comm]
  | true=>
   have ua':=bO.1 ua;have ub':=bO.1 ub;simp only[aq,dF,Bool.and_self];rw[aeO (ba ua'.2) hg,av,aeO (bb ub'.2) hg,av,Wj t _ ka kb,av,arW t ka kb];cases a.aE==b.aE with
   |false=>simp only[au,P9,Int.max_comm]
   | true=>
    simp only[aq,av,P9];rw[Int.max_comm (D0 _ _ _),Int.max_comm (D1 _ _ _ _)]
theorem Wl{t:fA}(h:oQ t=true):∀ x∈v8 t,1<=x/\x<=64:=by
 simp only[oQ,aJ,c9]at h;exact λx hx=>bO.1 (h.1 x hx)
theorem aeP{t:fA}(h:oQ t=true)(a b:Int):0<=D0 t a b/\D0 t a b<=128:=by
 have hb:=Wl h;simp only[v8,iL,List.not_mem_nil,or_false,forall_eq_or_imp,forall_eq]at hb;obtain⟨h1,h2,h3,h4,h5,h6,h7,h8,h9,fJ,gT,jz,gU,js,jA,gC,od⟩:=hb;unfold D0;rw[bD (n:=t.kB+t.rp) (by omega) (by omega),bD (n:=t.ny+t.rp) (by omega) (by omega),bD (n:=t.wr+t.rp) (by omega) (by omega)];cases a==1<;>cases a==2<;>cases a==3<;>cases a==4<;>cases a==5<;>cases b==4<;>cases (b==2 ||b==3)<;>cases (b==1 ||b==5)<;>simp only[aq,au]<;>omega
theorem arZ{c:Bool}{x y a b:Int}(hx:a<=x/\x<=b)(hy:a<=y/\y<=b):a<=(bif c then x else y)/\(bif c then x else y)<=b:=by
 cases c
 ·exact hy
 ·exact hx
theorem ar0{t:fA}(h:oQ t=true)(a b:Int)(n:Bool):0<=D1 t a b n/\D1 t a b n<=128:=by
 have hb:=Wl h;simp only[v8,iL,List.not_mem_nil,or_false,forall_eq_or_imp,forall_eq]at hb;obtain⟨h1,h2,h3,h4,h5,h6,h7,h8,h9,fJ,gT,jz,gU,js,jA,gC,od⟩:=hb;have h0:=aeP h a 1;unfold D1
 repeat' (first|exact h0|refine arZ ?_ ?_|omega)
def sG(g:aR)(c:aT):Int:=9*(bif aP c.kind 1 5 then c.aE else bf g)+c.kind-1
theorem aeQ{g:aR}{c:aT}(h:gx g c=true):0<=sG g c/\sG g c<9*(bf g+1):=by
 obtain⟨hg,hk,hb,_⟩:=Gz h;have b1:=iI g;unfold sG;cases hu:aP c.kind 1 5 with
 |true=>have:=bO.1 hu;have:=hb this.2;simp only[aq];omega
 |false=>simp only[au];omega
theorem ar1{g:aR}{c:aT}(h:gx g c=true):OY g c=some (sG g c):=by
 obtain⟨hg,hk,hb,_⟩:=Gz h;have b1:=iI g;unfold OY sG;simp only[mA,av,Lo];cases hu:aP c.kind 1 5 with
 | true=>
  have:=bO.1 hu;have:=hb this.2;simp only[aq];rw[bD (n:=9*c.aE) (by omega) (by omega),bD (n:=9*c.aE+c.kind) (by omega) (by omega),bD (by omega) (by omega)]
 | false=>
  simp only[au];rw[bD (n:=9*bf g) (by omega) (by omega),bD (n:=9*bf g+c.kind) (by omega) (by omega),bD (by omega) (by omega)]
theorem ar2(r:gA)(h1:r.last.length<1073741824)(h2:r.aY.length<1073741824):FU r=some r:=by
 unfold FU;rw[show ([]:af Int).length+r.last.length=r.last.length by simp,gk h1,show ([]:af Int).length+r.aY.length=r.aY.length by simp,gk h2];rfl
def GA(r:gA)(x:Int):Bool:=match r.aY.getLast? with
 |some y=>decide (x<=y)
 |none=>false
def Ls(l:af Int)(x:Int):af Int:=(l++[x]).drop (l.length+1-4)
def zF(g:aR)(r:gA)(e:fo):gA:=
 bif oS g r&&(gx g e.cmd&&(aP e.at_ 0 1000000 && !(e.cmd.kind==1&&GA r e.at_)))then ⟨r.last.set (sG g e.cmd).toNat e.at_,bif e.cmd.kind==1 then Ls r.aY e.at_ else r.aY⟩else r
theorem Wm{g:aR}{r:gA}(h:oS g r=true):cY g=true/\(r.last.length:Int)=9*(bf g+1)/\r.aY.length<=4:=by
 simp only[oS,aJ,iC,hD,oW]at h;exact⟨h.1,h.2.1,by omega⟩
theorem ar3{l:af Int}(h:0<l.length)(h':(W6 ((l.length:Int)-1)).toNat<l.length)(hl:l.length<1073741824):l.getLast?=some (l[(W6 ((l.length:Int)-1)).toNat]'h'):=by
 have e:(W6 ((l.length:Int)-1)).toNat=l.length-1:=by rw[bD (by omega) (by omega)];omega
 simp only[e];rw[List.getLast?_eq_getElem?,bT (by omega)]
theorem ar4(g:aR)(r:gA)(e:fo)(h1:r.last.length<1073741824)(h2:r.aY.length<1073741824):OZ g r e=some (zF g r e):=by
 unfold OZ zF xC xI;rw[ar2 r h1 h2,av,Wc,av];cases hr:oS g r with
 |false=>rfl
 | true=>
  simp only[cm,au,dF];rw[Wg,av];cases hc:gx g e.cmd with
  |false=>rfl
  | true=>
   simp only[cm,au,dF];rw[dw,av];cases ha:aP e.at_ 0 1000000 with
   |false=>rfl
   | true=>
    obtain⟨hg,hl,h4⟩:=Wm hr;have hp:=aeQ hc;have b1:=iI g;simp only[cm,au,dF,ar1 hc,av];cases hk:(e.cmd.kind==1)with
    | false=>
     simp only[au,Bool.false_and,Bool.not_false,aq];rw[aK ⟨hp.1,by omega⟩,aK (by omega)]
    | true=>
     have tl:∀ (A B:aj gA),(if jz:0<=sG g e.cmd/\(sG g e.cmd).toNat<r.last.length then if gU:(sG g e.cmd).toNat<r.last.length then (bif bZ (r.aY.length+([e.at_]:af Int).length)then if 0<=(if W6 (((r.aY++[e.at_]).length:Int)-4) > 0 then W6 (((r.aY++[e.at_]).length:Int)-4)else 0)/\(if W6 (((r.aY++[e.at_]).length:Int)-4) > 0 then W6 (((r.aY++[e.at_]).length:Int)-4)else 0)<=((r.aY++[e.at_]).length:Int)/\((r.aY++[e.at_]).length:Int)<=((r.aY++[e.at_]).length:Int)then bif bZ (([]:af Int).length+(((r.aY++[e.at_]).take (((r.aY++[e.at_]).length:Int).toNat)).drop ((if W6 (((r.aY++[e.at_]).length:Int)-4) > 0 then W6 (((r.aY++[e.at_]).length:Int)-4)else 0).toNat)).length)then some (⟨(r.last.set (sG g e.cmd).toNat e.at_),(([]:af Int)++(((r.aY++[e.at_]).take (((r.aY++[e.at_]).length:Int).toNat)).drop ((if W6 (((r.aY++[e.at_]).length:Int)-4) > 0 then W6 (((r.aY++[e.at_]).length:Int)-4)else 0).toNat)))⟩:gA)else none else none else none)else A else B)=some ⟨r.last.set (sG g e.cmd).toNat e.at_,Ls r.aY e.at_⟩:=by
      intro A B;have eL:(r.aY++[e.at_]).length=r.aY.length+1:=by simp
      have ew:(if W6 (((r.aY.length+1:Nat):Int)-4) > 0 then W6 (((r.aY.length+1:Nat):Int)-4)else 0)=((r.aY.length+1-4:Nat):Int):=by
       rw[bD (by omega) (by omega)];split<;>omega
      rw[aK ⟨hp.1,by omega⟩,aK (by omega),gk (by simp;omega),aq,eL,ew,bu ⟨by omega,by omega,by omega⟩,gk (by simp;omega),aq];unfold Ls;simp only[bX,List.nil_append];rw[<-eL,List.take_length]
     simp only[aq,dF];unfold GA;by_cases h0:0<r.aY.length
     ·have hw:(W6 ((r.aY.length:Int)-1))=((r.aY.length-1:Nat):Int):=by rw[bD (by omega) (by omega)];omega
      have hi:(W6 ((r.aY.length:Int)-1)).toNat<r.aY.length:=by rw[hw];omega
      rw[bz (show (r.aY.length:Int) > 0 by omega),aq,aK ⟨by rw[hw];omega,hi⟩,ar3 h0 hi (by omega)];dsimp only;cases decide (e.at_<=r.aY[(W6 ((r.aY.length:Int)-1)).toNat])with
      |true=>rfl
      | false=>
       simp only[au,Bool.not_false,aq];exact tl _ _
     ·have h0:r.aY=[]:=List.eq_nil_of_length_eq_zero (by omega);rw[bK (by rw[h0];simp),au];rw[show r.aY.getLast?=none by rw[h0];rfl];simp only[Bool.not_false,aq];exact tl _ _
theorem aeR{t:fA}(ht:oQ t=true)(g:aR)(a b:aT):1<=D3 g t a b/\D3 g t a b<=128:=by
 have h1:=ar0 ht a.kind b.kind (P8 g a b);have h2:=aeP ht a.kind b.kind;unfold D3;cases P7 a b&&a.aE==b.aE<;>simp only[aq,au]<;>omega
theorem ar5{t:fA}(ht:oQ t=true):1<=t.mI/\t.mI<=64:=Wl ht _ (by simp[v8])
theorem Wn{T:Type}{p:T->Bool}{l:af T}{i:Nat}{x:T}(h:l.all p=true)(hx:p x=true):(l.set i x).all p=true:=by
 rw[c9]at h ⊢;intro y hy;rcases List.mem_or_eq_of_mem_set hy with hy|rfl
 ·exact h y hy
 ·exact hx
theorem BY{g:aR}{r:dj}(h:oR g r=true):cY g=true/\(r.aI.length:Int)=bf g/\(0<=r.aX/\r.aX<=2)/\r.aI.all (BV g)=true/\(r.aX=2->(r.aI.all λb=>!b.open_)=true):=by
 simp only[oR,aJ,iC,bO,eH,bne_iff_ne]at h;exact⟨h.1,h.2.1,h.2.2.1,h.2.2.2.1,λe=>h.2.2.2.2.resolve_left (λhn=>hn e)⟩
theorem GB{g:aR}{r:dj}(h1:cY g=true)(h2:(r.aI.length:Int)=bf g)(h3:0<=r.aX/\r.aX<=2)(h4:r.aI.all (BV g)=true)(h5:r.aX=2->(r.aI.all λb=>!b.open_)=true):oR g r=true:=by
 simp only[oR,aJ,iC,bO,eH,bne_iff_ne];refine⟨h1,h2,h3,h4,?_⟩;by_cases e:r.aX=2
 ·exact .inr (h5 e)
 ·exact .inl e
theorem aeS{g:aR}{r:dj}{c:aT}(hr:oR g r=true)(hc:gx g c=true)(hm:sF r c=true):oR g (iX r c)=true:=by
 obtain⟨hg,hlen,hp,ir,hz⟩:=BY hr;obtain⟨_,hk,hb,_⟩:=Gz hc;have gb:=jw hg;have jZ:c.kind=1->0<=c.row/\c.row<=g.rows-1:=by
  intro h;simp only[gx,aJ]at hc;have:=hc.2.2.2.1;rw[tV,h]at this
  simpa [bO]using this
 rcases kinds hk with h|h|h|h|h|h|h|h|h
 ·have e:iX r c=⟨r.aI.set c.aE.toNat ⟨true,c.row⟩,r.aX⟩:=by simp[iX,h]
  have wV:r.aX=0:=by simp[sF,h]at hm;exact hm.1
  rw[e];exact GB hg (by simpa using hlen) (by omega) (Wn ir (by simp only[BV,aJ,bO];exact⟨jZ h,by simp⟩)) (λe=>by simp only at e;omega)
 ·have e:iX r c=r:=by simp[iX,h]
  rw[e];exact hr
 ·have e:iX r c=r:=by simp[iX,h]
  rw[e];exact hr
 ·have e:iX r c=⟨r.aI.set c.aE.toNat ⟨false,0⟩,r.aX⟩:=by simp[iX,h]
  have wV:r.aX=0:=by simp[sF,h]at hm;exact hm.1
  rw[e];exact GB hg (by simpa using hlen) (by omega) (Wn ir (by simp only[BV,aJ,bO];exact⟨by omega,by simp⟩)) (λe=>by simp only at e;omega)
 ·have e:iX r c=r:=by simp[iX,h]
  rw[e];exact hr
 ·have e:iX r c=⟨r.aI,1⟩:=by simp[iX,h]
  rw[e];exact GB hg hlen (by simp) ir (λe=>by simp at e)
 ·have e:iX r c=⟨r.aI,0⟩:=by simp[iX,h]
  rw[e];exact GB hg hlen (by simp) ir (λe=>by simp at e)
 ·have e:iX r c=⟨r.aI,2⟩:=by simp[iX,h]
  rw[e];exact GB hg hlen (by simp) ir (λ_=>by simp[sF,h]at hm;simpa using hm.2)
 ·have e:iX r c=⟨r.aI,0⟩:=by simp[iX,h]
  rw[e];exact GB hg hlen (by simp) ir (λe=>by simp at e)
def wh(n k:Nat):af Int:=List.replicate k (-1)++List.replicate (n-k) 0
theorem ar6{n k:Nat}(h:k<=n):(wh n k).length=n:=by
 unfold wh;simp;omega
theorem ar7{n k:Nat}(h:k<n):(wh n k).set k (-1)=wh n (k+1):=by
 obtain⟨m,rfl⟩:∃m,n=k+1+m:=⟨n-k-1,by omega⟩
 unfold wh;rw[show k+1+m-k=m+1 by omega,show k+1+m-(k+1)=m by omega,List.set_append_right _ _ (by simp),nv,Nat.sub_self,List.replicate_succ,List.set_cons_zero,List.replicate_succ',List.append_assoc];rfl
theorem ar8(n:Nat):wh n 0=List.replicate n 0:=by simp[wh]
theorem ar9(n:Nat):wh n n=List.replicate n (-1):=by simp[wh]
def Qa(g:aR):gA:=⟨List.replicate (9*(bf g+1)).toNat (-1),[]⟩
theorem asa{g:aR}(hg:cY g=true):Pp g=some (Qa g):=by
 have hb:=iI g;obtain⟨n,hn⟩:∃n:Nat,9*(bf g+1)=(n:Int):=⟨(9*(bf g+1)).toNat,by omega⟩
 have sR:n<1073741824:=by omega
 have e:=eG (step:=K0) n (λi=>(((),(),(n:Int),(i:Int),()),(((),(),()),((),(),()),([]:af Int),([]:af Int),wh n i,([]:af Int),()))) (.inl (((),(),()),(((),(),()),((),(),()),([]:af Int),([]:af Int),wh n n,([]:af Int),()))) bB (λk h=>by
  have hl:=ar6 (show k<=n by omega);unfold K0 xC aH xG;dsimp only;rw[bz (by omega),aq,aK ⟨by omega,by omega⟩,aK (by omega),cK (by omega),bX,ar7 h]) (by
  unfold K0 xC aH xG;dsimp only;rw[bK (by omega),au]) (cT (by omega))
 rw[ar8,ar9,cZ]at e;unfold Pp Qa cC;rw[uU,av,hg,cm,au,mA,av,w9,hn,bu ⟨by omega,by omega,by omega⟩,bX,nv];exact(cA (λo=>Option.bind o _) e).trans rfl
theorem asb(g:aR)(r:gA)(e:fo):(zF g r e).last.length=r.last.length/\(r.aY.length<=4->(zF g r e).aY.length<=4):=by
 unfold zF;cases (oS g r&&(gx g e.cmd&&(aP e.at_ 0 1000000 && !(e.cmd.kind==1&&GA r e.at_))))with
 |false=>exact⟨rfl,id⟩
 | true=>
  refine⟨by simp,λh=>?_⟩
  simp only[aq];cases e.cmd.kind==1 with
  |false=>exact h
  | true=>
   simp only[aq,Ls,List.length_drop,List.length_append,rF];omega
def Lt(x:eM):Prop:=(x.weights.length<=1048576)
def place(l:af bk)(id:Int):Int:=match l.findIdx? (λr=>r.id==id)with
 |some i=>(i:Int)
 |none=>-1
theorem asc(l:af (Int×Bool))(k j:Int):mO (nh l k true) j=(j==k || mO l j):=by
 induction l with
 | nil=>
  simp only[nh,mO];cases (j==k)<;>rfl
 | cons p ps ih=>
  simp only[nh];cases hk:(k==p.1)with
  | true=>
   have e:k=p.1:=by simpa using hk
   rw[aq];simp only[mO];rw[<-e];cases (j==k)<;>rfl
  | false=>
   rw[au];simp only[mO];rw[ih];cases hj:(j==p.1)with
   | true=>
    have e:j=p.1:=by simpa using hj
    have hn:(j==k)=false:=by
     rw[e];cases hb:(p.1==k)with
     |false=>rfl
     | true=>
      have e2:p.1=k:=by simpa using hb
      rw[e2,beq_self_eq_true]at hk;cases hk
    rw[hn];rfl
   |false=>rfl
theorem asd(x y:Int):(x==y)=(y==x):=Bool.eq_iff_iff.2 ⟨λh=>by simpa using (by simpa using h:x=y).symm,λh=>by simpa using (by simpa using h:y=x).symm⟩
def kK(g:aR)(a:aV):Nat:=(vZ g a).toNat
theorem Lu{g:aR}{a:aV}(h:fe g a=true):vZ g a=(kK g a:Int)/\(kK g a:Int)<fE g:=by
 have:=aeg h;unfold kK;omega
theorem fH.lt{g:aR}{B:Int}{a:dK}(ha:fH g B a){at_:aV}(h:fe g at_=true):kK g at_<a.cells.length:=by
 have:=Lu h;have:=ha.cells;omega
theorem fH.D4{g:aR}{B:Int}{a:dK}(ha:fH g B a)(k:Nat){c:cq}(hc:Sy c.symbols):fH g B ⟨a.cells.set k c,a.bU,a.bL⟩:=
 ⟨by simp[ha.cells],Sy.bP ha.syms hc,ha.bU,ha.bL,ha.Gs,ha.nW⟩
theorem ase{g:aR}{B:Int}{a:dK}(ha:fH g B a)(hB:B<=100000){at_:aV}(h:fe g at_=true)(hl:kK g at_<a.cells.length){k:Nat}(hk:k<11)(dU:k<a.cells[kK g at_].symbols.length){x:Int}(hx:0<=x/\x<=15):
  BR g a at_ (k:Int) x=some ⟨a.cells.set (kK g at_) ⟨a.cells[kK g at_].symbols.set k (bits .xor .i64 a.cells[kK g at_].symbols[k] x),a.cells[kK g at_].jg⟩,a.bU,a.bL⟩:=by
 obtain⟨hg,_⟩:=uV h;obtain⟨h1,h2⟩:=Lu h;have c1:aP (k:Int) 0 10=true:=by rw[bO];omega
 have c2:aP x 0 15=true:=bO.2 hx;unfold BR uN xC;simp[ha.copy,ha.ok hg hB,DP,h,dw,c1,c2,Gr,h1,hl,dU]
theorem asf(c:cq)(h:c.symbols.length<1073741823):Pz c c=some true:=by
 unfold Pz;rw[v5 _ h];simp
def oU(R row:Int):af Int:=(bif decide (0<row)then [row-1]else [])++(bif decide (row<R-1)then [row+1]else [])
theorem aeT{R row:Int}(h1:2<=R)(h2:R<=16)(h3:0<=row)(h4:row<R):Gi R row=some (oU R row):=by
 unfold Gi oU;have c1:aP R 2 16=true:=by rw[bO];omega
 have c2:aP row 0 (R-1)=true:=by rw[bO];omega
 rw[dw,av,c1,bD (n:=R-1) (by omega) (by omega),dw,bD (n:=row-1) (by omega) (by omega),bD (n:=row+1) (by omega) (by omega)];by_cases p1:0<row<;>by_cases p2:row<R-1<;>simp[c2,p1,p2,bZ]
theorem aeU{R row:Int}(h3:0<=row)(h4:row<R):∀ n∈oU R row,0<=n/\n<R:=by
 intro n hn;unfold oU at hn;by_cases p1:0<row<;>by_cases p2:row<R-1<;>simp[p1,p2]at hn<;>omega
theorem asg(R row:Int):(oU R row).length<=2:=by
 unfold oU;by_cases p1:0<row<;>by_cases p2:row<R-1<;>simp[p1,p2]
theorem ash{R row k:Int}{i:Nat}(hi:k+row=(i:Int))(h0:0<=k)(h3:0<=row)(H:af Int):(oU R row).foldl (λh n=>sC (k+n).toNat h) (H.set i 0)=BU R row i H:=by
 unfold oU BU DV;have e1:(k+(row-1)).toNat=i-1:=by omega
 have e2:(k+(row+1)).toNat=i+1:=by omega
 by_cases p1:0<row<;>by_cases p2:row<R-1<;>simp[p1,p2,e1,e2]
theorem aeV(k:Int):∀ (l:af Int) (H:af Int),(l.foldl (λh n=>sC (k+n).toNat h) H).length=H.length
 |[],H=>rfl
 |x::l,H=>by rw[List.foldl_cons,aeV k l,VZ]
theorem aeW(k:Int):∀ (l:af Int) (H:af Int),(∀ x∈H,0<=x/\x<=100000)->∀ x∈l.foldl (λh n=>sC (k+n).toNat h) H,0<=x/\x<=100000
 |[],H,h=>h
 |x::l,H,h=>by rw[List.foldl_cons];exact aeW k l _ (V0 h)
theorem asi{g:aR}(hg:cY g=true){B:Int}{a:dK}(ha:fH g B a)(hB:B<=100000){n:Int}(h0:0<=n)(h1:n<=100000):J9 g a n=some ⟨a.cells,a.bU.map (v7 n),a.bL⟩:=by
 have b2:=vY g;have a1:=ha.bU;have c1:aP n 0 100000=true:=by rw[bO];omega
 unfold J9 cC;rw[ha.copy,av,ha.ok hg hB,av,dw,av,c1];have e:=eG (step:=J8) a.bU.length (λi=>((n,(),(),(a.bU.length:Int),(i:Int),()),(((),(),(),()),((),(),(),()),([]:af cq),([]:af Int),([]:af Int),a.cells,upto (v7 n) a.bU i,a.bL,()))) (.inl (((),(),()),(((),(),(),()),((),(),(),()),([]:af cq),([]:af Int),([]:af Int),a.cells,a.bU.map (v7 n),a.bL,()))) bB (λk h=>by
  unfold J8 xC aH xG;have hx:=ha.Gs _ (dy h);have hs:=VS (v7 n) a.bU k h;have hg:=VR (v7 n) a.bU k h (by rw[PN];exact h);simp (disch:=omega) [PN,h,hg,bD];rw[<-hs];rfl) (by unfold J8 xC aH xG;simp[VQ]) (cT (by omega))
 rw[cZ,VP]at e;simp only[cm,au];rw[e];rfl
theorem asj(y:Int):0<=bits .and .i64 y 15/\bits .and .i64 y 15<=15:=by
 have e:bits .and .i64 y 15=IntKind.wrap .i64 ((BitVec.ofInt 64 y &&& BitVec.ofInt 64 15).toNat:Int):=rfl;have h:(BitVec.ofInt 64 y &&& BitVec.ofInt 64 15).toNat<=15:=by
  rw[BitVec.toNat_and];exact Nat.le_trans Nat.and_le_right (by decide)
 rw[e,IntKind.wrap_i64];omega
def lg(a:Nat):Nat:=(14688061253356765440 / 2 ^ (4*a)) % 16
def okB(s0 s1 s2 i:Nat):Bool:=!Nat.beq s0 0&&(Nat.beq (gm s0 (pw i)) s1&&Nat.beq (gm s1 (pw i)) s2)
def loc(s0 s1 s2:Nat):aj Nat:=(List.range 11).find? (okB s0 s1 s2)
def GC:aj Nat->Nat
 |some n=>n
 |none=>99
theorem asl:(sB λa=>Nat.beq a 0 ||OA (Int.ofNat a)==some (Int.ofNat (lg a)))=true:=by kernel_rfl
theorem aeX:(sB λs0=>sB λs1=>sB λs2=>bif Nat.beq s0 0 || Nat.beq s1 0 then Nat.beq (GC (loc s0 s1 s2)) 99 else
  (λx=>!Nat.beq x 0&&Nat.beq (GC (loc s0 s1 s2)) (bif Nat.blt (lg x) 11&&Nat.beq (gm s1 x) s2 then lg x else 99)) (gm s1 (iv s0)))=true:=by kernel_rfl
def GD(w:af Nat):Bool:=Nat.beq (eD w 0 11) 0&&(Nat.beq (eD w 1 11) 0&&Nat.beq (eD w 2 11) 0)
def mU(w:af Nat):af Nat×Int×Int:=bif GD w then (w,0,-1)else match loc (eD w 0 11) (eD w 1 11) (eD w 2 11)with
 |some k=>(w.set k (w.getD k 0 ^^^ eD w 0 11),1,(k:Int))
 |none=>(w,2,-1)
theorem Wo(n m:Nat):((n:Int)==(m:Int))=Nat.beq n m:=by
 cases h:Nat.beq n m with
 |true=>obtain rfl:=cz h;simp
 | false=>
  have:n≠m:=by rintro rfl;simp at h
  simp;omega
theorem aeY{s0 s1 s2 k:Nat}(h:loc s0 s1 s2=some k):k<11/\okB s0 s1 s2 k=true/\∀ i,i<k->okB s0 s1 s2 i=false:=by
 refine⟨iA.1 (List.mem_of_find?_eq_some h),List.find?_some h,λi hi=>?_⟩
 obtain⟨h1,l1,l2,h2,h3⟩:=List.find?_eq_some_iff_append.1 h;have hk:l1.length=k/\l1=List.range k:=by
  have e1:(List.range 11)[l1.length]?=some k:=by rw[h2];simp
  have bC:l1.length<11:=by have:=cA List.length h2;simp at this;omega
  rw[List.getElem?_range bC]at e1;injection e1 with e1;refine⟨e1,?_⟩;have e2:(List.range 11).take l1.length=l1:=by rw[h2];simp
  rw[List.take_range,Nat.min_eq_left (by omega),e1]at e2;exact e2.symm
 have:=h3 i (by rw[hk.2];exact iA.2 hi)
 simpa using this
theorem aeZ{s0 s1 s2:Nat}(h0:s0<16)(h1:s1<16)(h2:s2<16)(h:s0=0\/s1=0):loc s0 s1 s2=none:=by
 have t:=oO (oO (oO aeX h0) h1) h2;have hc:(Nat.beq s0 0 ||Nat.beq s1 0)=true:=by rcases h with rfl|rfl<;>simp
 dsimp only at t;rw[hc,aq]at t;have t:=cz t;cases hl:loc s0 s1 s2 with
 |none=>rfl
 | some k=>
  rw[hl]at t;have:=(aeY hl).1;simp only[GC]at t;omega
theorem asm{s0 s1 s2:Nat}(h0:s0<16)(h1:s1<16)(h2:s2<16)(n0:s0≠0)(n1:s1≠0):gm s1 (iv s0)≠0/\loc s0 s1 s2=bif Nat.blt (lg (gm s1 (iv s0))) 11&&Nat.beq (gm s1 (gm s1 (iv s0))) s2 then some (lg (gm s1 (iv s0)))else none:=by
 have t:=oO (oO (oO aeX h0) h1) h2;have c0:Nat.beq s0 0=false:=by cases h:Nat.beq s0 0 with|false=>rfl|true=>exact absurd (cz h) n0
 have c1:Nat.beq s1 0=false:=by cases h:Nat.beq s1 0 with|false=>rfl|true=>exact absurd (cz h) n1
 dsimp only at t;rw[c0,c1,Bool.or_false,au,aJ]at t;obtain⟨t1,t2⟩:=t;have t2:=cz t2;refine⟨(by rintro e;rw[e]at t1;cases t1),?_⟩;cases hb:(Nat.blt (lg (gm s1 (iv s0))) 11&&Nat.beq (gm s1 (gm s1 (iv s0))) s2)with
 | true=>
  rw[hb,aq]at t2;rw[aJ]at hb;have bC:lg (gm s1 (iv s0))<11:=cH hb.1;cases hl:loc s0 s1 s2 with
  |none=>rw[hl]at t2;simp only[GC]at t2;omega
  |some k=>rw[hl]at t2;simp only[GC]at t2;rw[t2];rfl
 | false=>
  rw[hb,au]at t2;cases hl:loc s0 s1 s2 with
  |none=>rfl
  | some k=>
   have:=(aeY hl).1;rw[hl]at t2;simp only[GC]at t2;omega
theorem asn{a:Nat}(h:a<16)(h0:a≠0):DB (a:Int)=some (iv a:Int):=by
 have t:=oO arl h;rw[eH]at t;rcases t with t|t
 ·exact absurd (cz t) h0
 ·exact eq_of_beq t
theorem aso{a:Nat}(h:a<16)(h0:a≠0):OA (a:Int)=some (lg a:Int):=by
 have t:=oO asl h;rw[eH]at t;rcases t with t|t
 ·exact absurd (cz t) h0
 ·exact eq_of_beq t
theorem ae0{w:af Nat}(hw:mB w)(hl:w.length=11):Ke (cR w)=some (cR (mU w).1,(mU w).2.1,(mU w).2.2):=by
 have ho:bZ (([]:af Int).length+(cR w).length)=true:=gk (by simp[tP,hl]);have h0:∀n:Nat,((n:Int)==(0:Int))=Nat.beq n 0:=λn=>Wo n 0
 have l9:=zC w 0 11;have nI:=zC w 1 11;have fT:=zC w 2 11;have qK:∀i (h:i<(cR w).length),(cR w)[i]=((w.getD i 0:Nat):Int):=λi h=>VV h
 have GF:∀ k,(cR w).set k (bits .xor .i64 ((w.getD k 0:Nat):Int) ((eD w 0 11:Nat):Int))=cR (w.set k (w.getD k 0 ^^^ eD w 0 11)):=λk=>by
  rw[xD (hw.get k) l9,arn]
 have hlen:(cR w).length=11:=by rw[tP,hl]
 unfold Ke xC;rw[VX hw hl,av,arh hw hl,ho];have asp:kT [((eD w 0 11:Nat):Int),((eD w 1 11:Nat):Int),((eD w 2 11:Nat):Int)]=false:=rfl;rw[asp,au,aq,av];unfold mU GD;cases hz:(Nat.beq (eD w 0 11) 0&&(Nat.beq (eD w 1 11) 0&&Nat.beq (eD w 2 11) 0))with
 |true=>simp
 | false=>
  simp only[au,List.nil_append];generalize hW:cR w=W at qK GF hlen ⊢;generalize hg0:eD w 0 11=s0 at *
  generalize hg1:eD w 1 11=s1 at *
  generalize nG:eD w 2 11=s2 at *
  have bg:∀n:Nat,((n:Int) != (0:Int)) = !Nat.beq n 0:=λn=>by rw[bne,h0]
  by_cases n0:s0=0
  ·rw[aeZ l9 nI fT (.inl n0)];subst n0;simp[hW]
  ·have c0:Nat.beq s0 0=false:=by cases h:Nat.beq s0 0 with | false=>rfl | true=>exact absurd (cz h) n0
   by_cases n1:s1=0
   ·rw[aeZ l9 nI fT (.inr n1)];subst n1;simp[bg,c0,hW]
   ·have c1:Nat.beq s1 0=false:=by cases h:Nat.beq s1 0 with | false=>rfl | true=>exact absurd (cz h) n1
    obtain⟨nx,nK⟩:=asm l9 nI fT n0 n1;have e1:=asn l9 n0;have e2:=DT nI (ark s0);rw[nK];generalize hx:gm s1 (iv s0)=x at *
    have ae1:x<16:=by rw[<-hx];exact jx _ _
    have e3:=aso ae1 nx;have e4:=DT nI ae1;generalize hn:lg x=n at *
    by_cases q1:n<11
    ·have d1:Nat.blt n 11=true:=jV q1;have d2:(n:Int)<11:=by omega
     have bC:n<W.length:=by omega
     have qK:=qK n bC;have GF:=GF n;cases q2:Nat.beq (gm s1 x) s2 with
     | true=>
      simp only[d1,dF,aq];generalize w.getD n 0=c at qK GF ⊢;generalize cR (w.set n (c ^^^ s0))=R at GF ⊢;simp[bg,c0,c1,e1,e2,e3,e4,d2,Wo,q2,bC,qK,GF]
     | false=>
      simp only[d1,dF,au];simp[bg,c0,c1,e1,e2,e3,e4,d2,Wo,q2,hW]
    ·have d1:Nat.blt n 11=false:=by
      cases h:Nat.blt n 11 with
      |false=>rfl
      |true=>exact absurd (cH h) (by omega)
     have d2:¬ (n:Int)<11:=by omega
     simp only[d1,Bool.false_and,au];simp[bg,c0,c1,e1,e2,e3,d2,hW]
theorem Qb{w:af Nat}(hw:mB w)(hl:w.length=11):(mU w).1.length=11/\mB (mU w).1/\((mU w).2.1=0\/(mU w).2.1=1\/(mU w).2.1=2):=by
 have l9:=zC w 0 11;unfold mU;cases GD w with
 |true=>exact⟨hl,hw,.inl rfl⟩
 | false=>
  simp only[au];cases loc (eD w 0 11) (eD w 1 11) (eD w 2 11)with
  |none=>exact⟨hl,hw,.inr (.inr rfl)⟩
  |some k=>exact⟨by simp[hl],hw.set (oP (hw.get k) l9),.inr (.inl rfl)⟩
theorem asq{w:af Nat}(hw:mB w)(hl:w.length=11):OE (cR w)=some (cR (w.drop 3)):=by
 unfold OE;have c0:((w.length:Int)==(11:Int))=true:=by rw[hl];rfl
 have gR:(cR w).length=11:=by rw[tP,hl]
 rw[VW hw (by omega),av,c0,show (!true)=false from rfl,au,gR,bu (by decide)];have e:((cR w).take ((11:Nat):Int).toNat).drop (3:Int).toNat=cR (w.drop 3):=by
  show ((cR w).take 11).drop 3=_;rw[List.take_of_length_le (by omega)];exact(List.map_drop ..).symm
 have c1:bZ (([]:af Int).length+(cR (w.drop 3)).length)=true:=by
  rw[tP,List.length_drop,hl];rfl
 rw[e,c1,aq];rfl
def Lv(x:kX):Prop:=Lt x.ck/\Lt x.next
def Wp(x:dj):Prop:=(x.aI.length<=1048576)
def asr(x:gA):Prop:=(x.last.length<=1048576)/\(x.aY.length<=1048576)
def Qc(x:cq):Prop:=(x.symbols.length<=1048576)
def Qd(x:dK):Prop:=(x.cells.length<=1048576/\∀y∈x.cells,Qc y)/\(x.bU.length<=1048576)/\(x.bL.length<=1048576)
def ae2(x:fF):Prop:=(x.map.length<=1048576)
def BZ(x:eo):Prop:=(x.aN.length<=1048576)
def nq(x:dm):Prop:=(x.rows.length<=1048576)/\(x.counts.length<=1048576)
def dS(x:ay):Prop:=Lv x.box/\Wp x.br/\asr x.ready/\Qd x.array/\ae2 x.spare/\BZ x.bh/\(x.bx.length<=1048576/\∀y∈x.bx,nq y)/\(x.guard.length<=1048576)/\(x.pending.length<=1048576)/\(x.queue.length<=1048576)/\(x.shares.length<=1048576)/\(x.errors.length<=1048576)/\(x.trace.length<=1048576)/\(x.bR.length<=1048576)
def ru(c:gu)(p:eM):Bool:=(uM c p).getD false
theorem Lw(c:gu)(p:eM)(hl:p.weights.length<1073741823):uM c p=some (ru c p):=by
 obtain⟨b,e,_⟩:=V5 c p hl;unfold ru;rw[e];rfl
theorem ba1(a x:Bool):(bif a then some x else some false)=some (a&&x):=by cases a<;>rfl
theorem ba2(a x:Bool):(bif !a then some false else some x)=some (a&&x):=by cases a<;>rfl
theorem ba3(a b:Int)(x:Bool):(bif a != b then some false else some x)=some (a==b&&x):=by
 rw[bne];cases a==b<;>rfl
theorem ba4(p:Prop)[Decidable p](x:Bool):(bif decide p then some false else some x)=some (!decide p&&x):=by cases decide p<;>rfl
def ff(c:ay):Bool:=
 ru c.config c.box.ck&&(ru c.config c.box.next&&(aP c.now 0 1000000&&(oR c.config.aD c.br&&(oS c.config.aD c.ready&&(pM c.config.aD c.array&&(oT c.config.aD c.spare&&(c.spare.cg==c.config.cg&&((gP c.bh&&uY c)&&(jI (fE (gK c.config.aD c.spare)) c.queue&&(lT c.shares&&((c.shares.length:Int)==4&&(rq c.drain&&(nY c.aX&&(c.aX.state==c.br.aX&&(!decide (c.aX.since > c.now)&&(aP c.cB.every 1 100000&&(aP c.cB.wait 1 c.cB.every&&(aP c.cB.next 0 (W6 (fE c.config.aD-1))&&(qk c.errors&&(decide ((c.trace.length:Int)<=2000)&&decide ((c.bR.length:Int)<=400)))))))))))))))))))))
theorem D5(c:ay)(hz:dS c):zm c=some (ff c):=by
 obtain⟨⟨z1,z2⟩,z3,⟨z4,z5⟩,⟨⟨z6,z6'⟩,z7,z8⟩,z9,bF,⟨fm,awj⟩,gI,iH,fy,jq,kG,z17,kj⟩:=hz;unfold Lt at z1 z2;have rz:∀ x∈c.array.cells,x.symbols.length<1073741824:=λx hx=>by
  have:=z6' x hx;unfold Qc at this;omega
 unfold BZ at bF;unfold zm ff;simp only[Lw _ _ (show c.box.ck.weights.length<1073741823 by omega),Lw _ _ (show c.box.next.weights.length<1073741823 by omega),dw,aeE,Wc,aes _ _ rz,aeK,arN _ (show c.bh.aN.length<1073741824 by omega),DZ,BS,V8 _ _ (show c.queue.length<1073741824 by omega),PW _ (show c.shares.length<1073741824 by omega),PX,PZ,aeH _ (show c.errors.length<1073741824 by omega),av,ba1,ba2,ba3,ba4]
theorem ae3{g:aR}{a:dK}(h:pM g a=true):cY g=true/\(a.bU.length:Int)=jc g/\(a.bL.length:Int)=jc g:=by
 simp only[pM,aJ,iB]at h;exact⟨h.1,h.2.2.1,h.2.2.2.1⟩
def ae4(p:eM):Prop:=(0<=p.fS/\p.fS<=1)/\(0<=p.cap/\p.cap<=200)/\(0<=p.low/\p.low<=2)/\(p.low<p.high/\p.high<=6)/\(∃(i:Nat) (w:Int),i<4/\1<=w/\w<=4/\p.weights=[1,1,1,1].set i w)/\(5<=p.eE.down/\p.eE.down<=24)/\(60<=p.eE.sleep/\p.eE.sleep<=119)
def zG(p:eM):Prop:=ae4 p/\8<=p.fB/\p.fB<=17
theorem ass{b:af Int}{c:bG}(hc:lS b c):Dr b (N1 c) ae4:=by
 unfold N1 xC;rw[hc.eq];show Dr b (Option.bind (some _) _) _;rw[av]
 refine(fZ hc 2).bind λx1 k1 h1 eO=>?_
 dsimp only;rw[eO.eta]
 refine(PS eO _ (by decide)).bind λx2 k2 h2 fV=>?_
 dsimp only;rw[fV.eta]
 refine(fZ fV 6).bind λx3 k3 h3 ni=>?_
 dsimp only;rw[ni.eta]
 refine(fZ ni 3).bind λx4 k4 h4 tJ=>?_
 dsimp only;rw[tJ.eta]
 refine(fZ tJ 4).bind λx5 k5 h5 oG=>?_
 dsimp only;rw[oG.eta]
 refine(fZ oG 4).bind λx6 k6 h6 wj=>?_
 dsimp only;rw[wj.eta]
 refine(fZ wj 4).bind λx7 k7 h7 B0=>?_
 have a1:=h1.2.2 (by omega);have a3:=h3.2.2 (by omega);have a4:=h4.2.2 (by omega);have a5:=h5.2.2 (by omega);have a6:=h6.2.2 (by omega);have a7:=h7.2.2 (by omega);have b3:=h3.1;have b4:=h4.1;have b5:=h5.1;have b6:=h6.1;have b7:=h7.1;have hl:x6.toNat<([1,1,1,1]:af Int).length:=by simp only[n9,List.length_nil];omega
 dsimp only;rw[aK ⟨b6,hl⟩,aK hl,B0.eta]
 refine(fZ B0 20).bind λx8 k8 h8 Lx=>?_
 dsimp only;rw[Lx.eta]
 refine(fZ Lx 60).bind λx9 k9 h9 Ly=>?_
 dsimp only;rw[Ly.eta];have a8:=h8.2.2 (by omega);have a9:=h9.2.2 (by omega);have b8:=h8.1;have b9:=h9.1;rw[bD (n:=3+x3) (by omega) (by omega),bD (n:=x4+1) (by omega) (by omega),bD (n:=x4+1+x5) (by omega) (by omega),bD (n:=1+x7) (by omega) (by omega),bD (n:=5+x8) (by omega) (by omega),bD (n:=60+x9) (by omega) (by omega)];simp only[iL,List.not_mem_nil,or_false]at h2;refine Dr.pure Ly ⟨⟨h1.1,by show x1<=_;omega⟩,⟨by show 0<=x2;omega,by show x2<=_;omega⟩,⟨h4.1,by show x4<=_;omega⟩,⟨by show x4<x4+1+x5;omega,by show x4+1+x5<=_;omega⟩,⟨x6.toNat,1+x7,by omega,by omega,by omega,rfl⟩,⟨by show 5<=5+x8;omega,by show 5+x8<=_;omega⟩,⟨by show 60<=60+x9;omega,by show 60+x9<=_;omega⟩⟩
theorem ae5{b:af Int}{c:bG}(hc:lS b c):Dr b (JA c) zG:=by
 unfold JA;rw[hc.eq]
 refine(ass hc).bind λx1 k1 h1 eO=>?_
 dsimp only;rw[eO.eta]
 refine(fZ eO 10).bind λx2 k2 h2 fV=>?_
 dsimp only;rw[fV.eta];have a2:=h2.2.2 (by omega);have b2:=h2.1;rw[bD (by omega) (by omega)];exact Dr.pure fV ⟨h1,by show 8<=8+x2;omega,by show 8+x2<=_;omega⟩
theorem ast{b:af Int}{c:bG}(hc:lS b c):Dr b (NX c) λg=>g.cU=1/\1<=g.aI/\g.aI<=2/\1<=g.aU/\g.aU<=2:=by
 unfold NX;rw[hc.eq]
 refine(fZ hc 2).bind λx1 k1 h1 eO=>?_
 dsimp only;rw[eO.eta]
 refine(fZ eO 3).bind λx2 k2 h2 fV=>?_
 dsimp only;rw[fV.eta]
 refine(fZ fV 2).bind λx3 k3 h3 ni=>?_
 dsimp only;rw[ni.eta];have a1:=h1.2.2 (by omega);have a2:=h2.2.2 (by omega);have a3:=h3.2.2 (by omega);have b1:=h1.1;have b2:=h2.1;have b3:=h3.1;rw[bD (by omega) (by omega),bD (by omega) (by omega),bD (by omega) (by omega)];exact Dr.pure ni ⟨rfl,by show 1<=1+x1;omega,by show 1+x1<=_;omega,by show 1<=1+x3;omega,by show 1+x3<=_;omega⟩
theorem asu{b:af Int}{c:bG}(hc:lS b c):Dr b (NZ c) λm=>0<=m.order/\m.order<=2:=by
 unfold NZ;rw[hc.eq]
 refine(fZ hc 3).bind λx1 k1 h1 eO=>?_
 dsimp only;rw[eO.eta]
 refine(PT eO 2).bind λx2 k2 h2 fV=>?_
 dsimp only;rw[fV.eta];have a1:=h1.2.2 (by omega);exact Dr.pure fV ⟨h1.1,by show x1<=2;omega⟩
def Wq(ny wr:Int):fA:=⟨3,3,7,2,3,10,2,3,ny,wr,4,5,4,12,3,4,16⟩
def Qe(g:aR):Prop:=(1<=g.cU/\g.cU<=2)/\(1<=g.aI/\g.aI<=2)/\(4<=g.rows/\g.rows<=6)/\(1<=g.aU/\g.aU<=2)
def xH(x:gu):Prop:=Qe x.aD/\(∃r w:Int,1<=r/\r<=4/\4<=w/\w<=8/\x.bV=Wq r w)/\(0<=x.mapping.order/\x.mapping.order<=2)/\(0<=x.cg/\x.cg<=2)/\(200<=x.interval/\x.interval<=259)/\x.kO=16/\x.gf=⟨6*x.interval,40⟩
theorem asv{b:af Int}{c:bG}(hc:lS b c):Dr b (N0 c) xH:=by
 unfold N0;rw[hc.eq]
 refine(ast hc).bind λg kg hg hkg=>?_
 dsimp only;rw[hkg.eta];obtain⟨g1,g2,g3,g4,g5⟩:=hg;show Dr b (Option.bind (some _) _) _;rw[av]
 refine(asu hkg).bind λm km hm hkm=>?_
 dsimp only;rw[hkm.eta]
 refine(fZ hkm 60).bind λx1 k1 h1 eO=>?_
 dsimp only;rw[eO.eta]
 refine(fZ eO 3).bind λx2 k2 h2 fV=>?_
 dsimp only;rw[fV.eta]
 refine(fZ fV 2).bind λx3 k3 h3 ni=>?_
 dsimp only;rw[ni.eta]
 refine(fZ ni 3).bind λx4 k4 h4 tJ=>?_
 dsimp only;rw[tJ.eta]
 refine(PT tJ 3).bind λx5 k5 h5 oG=>?_
 dsimp only;rw[oG.eta];have a1:=h1.2.2 (by omega);have a2:=h2.2.2 (by omega);have a3:=h3.2.2 (by omega);have a4:=h4.2.2 (by omega);have b1:=h1.1;have b2:=h2.1;have b3:=h3.1;have b4:=h4.1;have e1:W6 (200+x1)=200+x1:=bD (by omega) (by omega);have e2:W6 (6*(200+x1))=6*(200+x1):=bD (by omega) (by omega);have e3:W6 (4+x2)=4+x2:=bD (by omega) (by omega);have e4:W6 (1+x3)=1+x3:=bD (by omega) (by omega);rw[e1,e2,e3,e4];have hG:Qe ⟨1+x3,g.aI,4+x2,g.aU⟩:=⟨⟨by show 1<=1+x3;omega,by show 1+x3<=2;omega⟩,⟨g2,g3⟩,⟨by show 4<=4+x2;omega,by show 4+x2<=6;omega⟩,⟨g4,g5⟩⟩
 cases x5 with
 | true=>
  rw[aq]
  refine(fZ oG 5).bind λx6 k6 h6 wj=>?_
  dsimp only;rw[wj.eta]
  refine(fZ wj 4).bind λx7 k7 h7 B0=>?_
  dsimp only;rw[B0.eta];have a6:=h6.2.2 (by omega);have a7:=h7.2.2 (by omega);have b6:=h6.1;have b7:=h7.1;rw[bD (n:=1+x7) (by omega) (by omega),bD (n:=4+x6) (by omega) (by omega)];exact Dr.pure B0 ⟨hG,⟨1+x7,4+x6,by omega,by omega,by omega,by omega,rfl⟩,hm,⟨b4,by show x4<=2;omega⟩,⟨by show 200<=200+x1;omega,by show 200+x1<=259;omega⟩,rfl,rfl⟩
 |false=>exact Dr.pure oG ⟨hG,⟨3,6,by omega,by omega,by omega,by omega,rfl⟩,hm,⟨b4,by show x4<=2;omega⟩,⟨by show 200<=200+x1;omega,by show 200+x1<=259;omega⟩,rfl,rfl⟩
def mV(p:bk->Bool)(q:af bk):Nat:=(q.findIdx? p).getD q.length
theorem Wr(p:bk->Bool)(q:af bk):mV p q<=q.length:=by
 unfold mV;cases h:q.findIdx? p with
 |none=>exact gZ _
 | some k=>
  obtain⟨k1,_⟩:=qv.1 h;exact Nat.le_of_lt k1
def mD(p:bk->Bool)(q:af bk)(r:bk):af bk:=(q.take (mV p q)++[r])++q.drop (mV p q)
theorem ae6(p:bk->Bool)(q:af bk)(r:bk):(mD p q r).length=q.length+1:=by
 have:=Wr p q;simp[mD];omega
theorem asw{p:bk->Bool}{q:af bk}{i:Nat}(h:i<mV p q)(hi:i<q.length):p q[i]=false:=by
 unfold mV at h;cases hf:q.findIdx? p with
 | none=>
  have:=List.findIdx?_eq_none_iff.1 hf q[i] (dy hi)
  simpa using this
 | some k=>
  rw[hf]at h;obtain⟨_,_,k3⟩:=qv.1 hf;have:=k3 i h
  simpa using this
theorem asx{p:bk->Bool}{q:af bk}(h:mV p q<q.length):p q[mV p q]=true:=by
 unfold mV at h;cases hf:q.findIdx? p with
 |none=>rw[hf]at h;simp at h
 | some k=>
  obtain⟨k1,k2,_⟩:=qv.1 hf;have e:mV p q=k:=by unfold mV;rw[hf];rfl
  simp only[e];exact k2
theorem Ws{n:Int}{l:af bk}(h:jI n l=true){i j:Nat}(qU:i<j)(hj:j<l.length):(l[i].id==l[j].id)=false:=by
 unfold jI at h;rw[aJ,c9]at h;have h1:=h.1 j (iA.2 hj);unfold wg at h1;rw[bT hj]at h1;simp only[aJ,hD,mW]at h1;have:=h1.2.2 l[i] (lV.2 ⟨i,by simp;omega,by simp⟩)
 simpa using this
theorem ae7{n:Int}{p:bk->Bool}{q:af bk}{r:bk}(h:jI n (mD p q r)=true):∀ x∈q,(x.id==r.id)=false:=by
 intro x hx;have hk:=Wr p q;have hl:=ae6 p q r;obtain⟨i,hi,rfl⟩:=lV.1 hx;have hr:(mD p q r)[mV p q]'(by omega)=r:=by
  unfold mD;rw[List.getElem_append_left (by simp;omega),List.getElem_append_right (by simp;omega)];simp
 by_cases c:i<mV p q
 ·have e:(mD p q r)[i]'(by omega)=q[i]:=by
   unfold mD;rw[List.getElem_append_left (by simp;omega),List.getElem_append_left (by simp;omega),List.getElem_take]
  have:=Ws h c (by omega);rw[e,hr]at this;exact this
 ·have e:(mD p q r)[i+1]'(by omega)=q[i]:=by
   unfold mD;rw[List.getElem_append_right (by simp;omega),List.getElem_drop];congr 1;simp;omega
  have:=Ws h (show mV p q<i+1 by omega) (by omega);rw[e,hr]at this;rw[asd];exact this
theorem ae8{p p':bk->Bool}:∀ {q:af bk},(∀ x∈q,p x=p' x)->q.findIdx? p=q.findIdx? p'
 |[],_=>rfl
 | y :: q,h=>by
  rw[List.findIdx?_cons,List.findIdx?_cons,h y (.head _),ae8 λx hx=>h x (.tail _ hx)]
theorem ae9{n:Int}{q:af bk}{r:bk}(h:jI n (mD (λx=>!gY x r) q r)=true\/jI n (mD (λx=>gY r x) q r)=true):mD (λx=>!gY x r) q r=mD (λx=>gY r x) q r:=by
 have hid:∀ x∈q,(x.id==r.id)=false:=by
  rcases h with h|h
  ·exact ae7 h
  ·exact ae7 h
 have hx:∀ x∈q,(!gY x r)=gY r x:=by
  intro x hx;have h1:=hid x hx;have h1:¬ x.id=r.id:=by simpa using h1
  unfold gY;rw[Bool.eq_iff_iff];simp only[hD,oX,Bool.and_eq_false_iff,oW,beq_eq_false_iff_ne,eH,aJ,iB,iC];omega
 have e:mV (λx=>!gY x r) q=mV (λx=>gY r x) q:=by
  unfold mV;rw[ae8 hx]
 unfold mD;rw[e]
def Lz(n:Int)(q:af bk)(r:bk):af bk×Bool:=bif jI n q&&jI n (mD (λx=>gY r x) q r)then (mD (λx=>gY r x) q r,true)else (q,false)
theorem Wt(q:af bk)(h:q.length<1073741824):FX q=some q:=by
 unfold FX;rw[gk (by simpa using h)];rfl
theorem Wu(r:bk):(⟨r.id,r.bM,r.line,r.write,r.data,r.at_⟩:bk)=r:=rfl
theorem asy(n:Int)(q:af bk)(r:bk)(hl:q.length<1000000000):Ov n q r=some (Lz n q r):=by
 have hk:=Wr (λx=>!gY x r) q;unfold Ov cC;have e:=eG (step:=J5) (mV (λx=>!gY x r) q) (λi=>((n,q,(),(i:Int),()),((r.id,r.bM,r.line,r.write,r.data,r.at_,()),()))) (.inl ((n,q,(),((mV (λx=>!gY x r) q:Nat):Int),()),((r.id,r.bM,r.line,r.write,r.data,r.at_,()),()))) bB (λk h=>by
  have h2:=asw h (by omega);have h2:gY q[k] r=true:=by simpa using h2
  unfold J5 aH xG xI;dsimp only;rw[bz (by omega),aq,aK ⟨by omega,by omega⟩];simp only[bX];rw[Wu,V7,av,h2,aq,cK (by omega)]) (by
  unfold J5 aH xG xI;dsimp only;by_cases c:mV (λx=>!gY x r) q<q.length
  ·have h2:=asx c;have h2:gY q[mV (λx=>!gY x r) q] r=false:=by simpa using h2
   rw[bz (by omega),aq,aK ⟨by omega,by omega⟩];simp only[bX];rw[Wu,V7,av,h2,au]
  ·rw[bK (by omega),au]) (cT (by omega))
 rw[cZ]at e;rw[e,av];simp only[jf];rw[bu ⟨by omega,by omega,by omega⟩,bu ⟨by omega,by omega,by omega⟩];simp only[bX,Int.toNat_zero,List.drop_zero,List.take_length];rw[Wu,Wt _ (by simp;omega),av,gk (by simp;omega),aq,gk (by simp;omega),aq,V8 n q (by omega),av];unfold Lz;have hle:=ae6 (λx=>!gY x r) q r;cases h1:jI n q with
 | false=>
  rw[Bool.not_false,aq,Wt _ (by omega),av];rfl
 | true=>
  rw[cm,au];show (Dw n (mD (λx=>!gY x r) q r)).bind _=_;rw[V8 n _ (by omega),av,dF];cases h2:jI n (mD (λx=>!gY x r) q r)with
  | false=>
   have h3:jI n (mD (λx=>gY r x) q r)=false:=by
    cases h3:jI n (mD (λx=>gY r x) q r)with
    |false=>rfl
    |true=>rw[ae9 (.inr h3),h3]at h2;cases h2
   rw[h3,Bool.not_false,aq,Wt _ (by omega),av];rfl
  | true=>
   have h3:=ae9 (.inl h2);rw[<-h3,h2,cm,au,aq];rfl
abbrev asz:=((ak×ak×ak×(af dm)×Int×Int×ak)×(ay×ay×(Int×Int×Int×Int×Int×Int×Int×Int×Int×Int×Int×Int×Int×Int×Int×Int×Int×Int×Int×Int×Int×Int×Bool×Int×Int×Int×Int×Int×Int×Int×Int×Int×Int×ak×Int×Int×Int×Int×Int×Int×Int×ak×Int×Int×Bool×Int×ak×Int×ak×ak×ak×ak×ak×Int×ak×ak×Int×Bool×ak×(af Int)×(af aV)×(af bk)×(af cI)×Bool×Int×Int×Int×Int×Int×Int×Int×Int×(af cy)×(af fo)×(af eN)×ak)×(af Int)×(af Int)×(af gy)×(af Int)×(af Int)×(af cq)×(af Int)×(af Int)×(af Int)×(af Int)×(af dm)×ak))
theorem pO{α:Type}(l:af α)(h:l.length<=1048577):bZ (([]:af α).length+l.length)=true:=gk (by simp;omega)
theorem afa(t:dm)(h:nq t):FV t=some t:=by
 unfold FV;have h1:=h.1;have h2:=h.2;rw[pO _ (by omega),aq,pO _ (by omega),aq];rfl
theorem asA(s:asz)(h0:s.1.2.2.2.2.2.1=0)(hn:s.1.2.2.2.2.1=(s.1.2.2.2.1.length:Int))(ho:s.2.2.2.2.2.2.2.2.2.2.2.2.2.2.1=[])(hz:s.1.2.2.2.1.length<=1048576/\∀ y∈s.1.2.2.2.1,nq y):iter FW bB s=some (.inl (((),(),(),()),(s.2.1,s.2.2.1,s.2.2.2.1,s.2.2.2.2.1,s.2.2.2.2.2.1,s.2.2.2.2.2.2.1,s.2.2.2.2.2.2.2.1,s.2.2.2.2.2.2.2.2.1,s.2.2.2.2.2.2.2.2.2.1,s.2.2.2.2.2.2.2.2.2.2.1,s.2.2.2.2.2.2.2.2.2.2.2.1,s.2.2.2.2.2.2.2.2.2.2.2.2.1,s.2.2.2.2.2.2.2.2.2.2.2.2.2.1,s.1.2.2.2.1,s.2.2.2.2.2.2.2.2.2.2.2.2.2.2.2))):=by
 have e:=eG (step:=FW) s.1.2.2.2.1.length (λi=>(((),(),(),s.1.2.2.2.1,(s.1.2.2.2.1.length:Int),(i:Int),()),(s.2.1,s.2.2.1,s.2.2.2.1,s.2.2.2.2.1,s.2.2.2.2.2.1,s.2.2.2.2.2.2.1,s.2.2.2.2.2.2.2.1,s.2.2.2.2.2.2.2.2.1,s.2.2.2.2.2.2.2.2.2.1,s.2.2.2.2.2.2.2.2.2.2.1,s.2.2.2.2.2.2.2.2.2.2.2.1,s.2.2.2.2.2.2.2.2.2.2.2.2.1,s.2.2.2.2.2.2.2.2.2.2.2.2.2.1,s.1.2.2.2.1.take i,s.2.2.2.2.2.2.2.2.2.2.2.2.2.2.2))) (.inl (((),(),(),()),(s.2.1,s.2.2.1,s.2.2.2.1,s.2.2.2.2.1,s.2.2.2.2.2.1,s.2.2.2.2.2.2.1,s.2.2.2.2.2.2.2.1,s.2.2.2.2.2.2.2.2.1,s.2.2.2.2.2.2.2.2.2.1,s.2.2.2.2.2.2.2.2.2.2.1,s.2.2.2.2.2.2.2.2.2.2.2.1,s.2.2.2.2.2.2.2.2.2.2.2.2.1,s.2.2.2.2.2.2.2.2.2.2.2.2.2.1,s.1.2.2.2.1,s.2.2.2.2.2.2.2.2.2.2.2.2.2.2.2))) bB (λk h=>by
  unfold FW aH xG xI;dsimp only;rw[bz (by omega),aq,aK ⟨by omega,by omega⟩];simp only[bX];rw[afa _ (hz.2 _ (dy _)),av,gk (by simp;omega),aq,cK (by omega),DS h]) (by
  unfold FW aH xG xI;dsimp only;rw[bK (by omega),au,List.take_length]) (cT (by omega))
 have es:s=(((),(),(),s.1.2.2.2.1,(s.1.2.2.2.1.length:Int),((0:Nat):Int),()),(s.2.1,s.2.2.1,s.2.2.2.1,s.2.2.2.2.1,s.2.2.2.2.2.1,s.2.2.2.2.2.2.1,s.2.2.2.2.2.2.2.1,s.2.2.2.2.2.2.2.2.1,s.2.2.2.2.2.2.2.2.2.1,s.2.2.2.2.2.2.2.2.2.2.1,s.2.2.2.2.2.2.2.2.2.2.2.1,s.2.2.2.2.2.2.2.2.2.2.2.2.1,s.2.2.2.2.2.2.2.2.2.2.2.2.2.1,s.1.2.2.2.1.take 0,s.2.2.2.2.2.2.2.2.2.2.2.2.2.2.2)):=by
  rw[List.take_zero,<-ho,cZ,<-h0,<-hn]
 rw[<-e,<-es]
theorem afb(l:af Int)(h:l.length<=1048577):Ot l=some l:=by
 cases l with
 |nil=>rfl
 | cons a l=>
  show (bif bZ (([]:af Int).length+(a::l).length)then some (([]:af Int)++(a::l))else none)=_;rw[pO _ h];rfl
theorem asC(l:af aV)(h:l.length<=1048577):Ve l=some l:=by
 cases l with
 |nil=>rfl
 | cons a l=>
  show (bif bZ (([]:af aV).length+(a::l).length)then some (([]:af aV)++(a::l))else none)=_;rw[pO _ h];rfl
theorem asD(l:af bk)(h:l.length<=1048577):Vf l=some l:=by
 cases l with
 |nil=>rfl
 | cons a l=>
  show (bif bZ (([]:af bk).length+(a::l).length)then some (([]:af bk)++(a::l))else none)=_;rw[pO _ h];rfl
theorem asE(l:af cI)(h:l.length<=1048577):Vg l=some l:=by
 cases l with
 |nil=>rfl
 | cons a l=>
  show (bif bZ (([]:af cI).length+(a::l).length)then some (([]:af cI)++(a::l))else none)=_;rw[pO _ h];rfl
theorem asF(l:af cy)(h:l.length<=1048577):Vh l=some l:=by
 cases l with
 |nil=>rfl
 | cons a l=>
  show (bif bZ (([]:af cy).length+(a::l).length)then some (([]:af cy)++(a::l))else none)=_;rw[pO _ h];rfl
theorem asG(l:af fo)(h:l.length<=1048577):Vi l=some l:=by
 cases l with
 |nil=>rfl
 | cons a l=>
  show (bif bZ (([]:af fo).length+(a::l).length)then some (([]:af fo)++(a::l))else none)=_;rw[pO _ h];rfl
theorem asH(l:af eN)(h:l.length<=1048577):Vj l=some l:=by
 cases l with
 |nil=>rfl
 | cons a l=>
  show (bif bZ (([]:af eN).length+(a::l).length)then some (([]:af eN)++(a::l))else none)=_;rw[pO _ h];rfl
theorem Wv(b:kX)(h:Lv b):FR b=some b:=by
 have h1:b.ck.weights.length<=1048576:=h.1;have h2:b.next.weights.length<=1048576:=h.2
 unfold FR uO;rw[pO _ (by omega),aq,av,pO _ (by omega),aq];rfl
theorem GG(c:ay)(hz:dS c):Bv c=some c:=by
 obtain⟨z1,z2,z3,z4,z5,z6,z7,z8,z9,bF,fm,gI,iH,fy⟩:=hz;have y2:c.br.aI.length<=1048576:=z2;obtain⟨y3,y3'⟩:=z3;have y5:c.spare.map.length<=1048576:=z5;have y6:c.bh.aN.length<=1048576:=z6;unfold Bv cC;rw[Wv _ z1,av];unfold FT FU zn;rw[pO _ (by omega),aq,av,pO _ (by omega),aq,pO _ (by omega),aq,av,aer _ (by have:=z4.1.1;omega) (by have:=z4.2.1;omega) (by have:=z4.2.2;omega) (λx hx=>by have:x.symbols.length<=1048576:=z4.1.2 x hx;omega),av,afb _ (by omega),av,pO _ (by omega),aq,av]
 refine(cA (λo=>Option.bind o _) (asA _ rfl rfl rfl z7)).trans ?_
 rw[av];simp only[jf];rw[afb c.guard (by omega),av,asC c.pending (by omega),av,asD c.queue (by omega),av,asE c.shares (by omega),av,asF c.errors (by omega),av,asG c.trace (by omega),av,asH c.bR (by omega),av];rfl
def fN{α:Type}(p:α->Bool)(q:af α):Nat:=(q.findIdx? p).getD q.length
theorem GH{α:Type}(p:α->Bool)(q:af α):fN p q<=q.length:=by
 unfold fN;cases h:q.findIdx? p with
 |none=>exact gZ _
 | some k=>
  obtain⟨k1,_⟩:=qv.1 h;exact Nat.le_of_lt k1
theorem wm{α:Type}{p:α->Bool}{q:af α}{i:Nat}(h:i<fN p q)(hi:i<q.length):p q[i]=false:=by
 unfold fN at h;cases hf:q.findIdx? p with
 | none=>
  have:=List.findIdx?_eq_none_iff.1 hf q[i] (dy hi)
  simpa using this
 | some k=>
  rw[hf]at h;obtain⟨_,_,k3⟩:=qv.1 hf;have:=k3 i h
  simpa using this
theorem B1{α:Type}{p:α->Bool}{q:af α}(h:fN p q<q.length):p q[fN p q]=true:=by
 unfold fN at h;cases hf:q.findIdx? p with
 |none=>rw[hf]at h;simp at h
 | some k=>
  obtain⟨k1,k2,_⟩:=qv.1 hf;have e:fN p q=k:=by unfold fN;rw[hf];rfl
  simp only[e];exact k2
theorem Ww{α:Type}(p:α->Bool)(q:af α):q.any p=decide (fN p q<q.length):=by
 by_cases c:fN p q<q.length
 ·rw[bz c,List.any_eq_true];exact⟨_,dy c,B1 c⟩
 ·rw[bK c,mW];intro x hx;obtain⟨i,hi,rfl⟩:=lV.1 hx;rw[wm (p:=p) (i:=i) (by omega) hi];simp
theorem asJ(l:af eN)(r:bk)(hl:l.length<=1048576):Ow l r=some (l.any λx=>x.id==r.id):=by
 have hk:=GH (λx:eN=>x.id==r.id) l;unfold Ow Vk;rw[Ww];have e:=eG (step:=J6) (fN (λx:eN=>x.id==r.id) l) (λi=>((l,r,(l.length:Int),(i:Int),()),())) (if fN (λx:eN=>x.id==r.id) l<l.length then .inl ((((fN (λx:eN=>x.id==r.id) l:Nat):Int),()),())else .inr (.inl ((),()))) bB (λk h=>by
  have h2:=wm h (by omega);unfold J6 aH bI xG xI;dsimp only;rw[bz (by omega),aq,aK ⟨by omega,by omega⟩];simp only[bX];rw[h2,au,cK (by omega)]) (by
  unfold J6 aH bI xG xI;dsimp only;by_cases c:fN (λx:eN=>x.id==r.id) l<l.length
  ·rw[bz (by omega),aq,aK ⟨by omega,by omega⟩,bu c];simp only[bX];rw[B1 c,aq]
  ·rw[bK (by omega),au,bJ c]) (cT (by omega))
 rw[cZ]at e;rw[e,av];by_cases c:fN (λx:eN=>x.id==r.id) l<l.length
 ·rw[bu c,bz c,jf,av];dsimp only;rw[bz (by omega)]
 ·rw[bJ c,bK c,Sum.elim_inr,jf,av];rfl
def LA(c:ay)(r:bk):bk:=⟨r.id,r.bM,r.line,r.write,r.data,c.now⟩
def uZ(c:ay)(r:bk):af bk×Bool:=Lz (fE (gK c.config.aD c.spare)) c.queue (LA c r)
def B2(c:ay)(r:bk):ay×Bool:=bif (!ff c) ||((!(uZ c r).2) ||(c.bR.any λx=>x.id==r.id))then (c,false)else ({ c with queue:=(uZ c r).1 },true)
theorem asK(c:ay)(r:bk)(hz:dS c):Ox c r=some (B2 c r):=by
 unfold Ox B2;rw[GG c hz,av,D5 c hz,av];obtain⟨z1,z2,z3,z4,z5,z6,z7,z8,z9,bF,fm,gI,iH,fy⟩:=hz;cases h:ff c with
 |false=>rfl
 | true=>
  rw[cm,au,Bool.false_or,DZ,av,BS,av,asy _ _ _ (by omega),av,asJ _ _ fy,av];show (bif !(uZ c r).2 then some (c,false)else bif (c.bR.any λx=>x.id==r.id)then some (c,false)else some ({ c with queue:=(uZ c r).1 },true))=_;cases (uZ c r).2<;>cases (c.bR.any λx=>x.id==r.id)<;>rfl
theorem asM(c:ay)(r:bk)(h:c.queue.length<=1048576):(uZ c r).1.length<=1048576:=by
 unfold uZ Lz;cases hq:(jI (fE (gK c.config.aD c.spare)) c.queue&&jI (fE (gK c.config.aD c.spare)) (mD (λx=>gY (LA c r) x) c.queue (LA c r)))with
 |false=>exact h
 | true=>
  rw[aq];rw[aJ]at hq;have:=hq.2;unfold jI at this;rw[aJ,iB]at this;have:=this.2;dsimp only;omega
theorem asN(c:ay)(r:bk)(hz:dS c):dS (B2 c r).1:=by
 unfold B2;cases hb:((!ff c) ||((!(uZ c r).2) ||(c.bR.any λx=>x.id==r.id)))with
 |true=>exact hz
 | false=>
  obtain⟨z1,z2,z3,z4,z5,z6,z7,z8,z9,bF,fm,gI,iH,fy⟩:=hz;exact⟨z1,z2,z3,z4,z5,z6,z7,z8,z9,asM c r bF,fm,gI,iH,fy⟩
def nb(l:af UInt8):af Int:=l.map λb=>(b.toNat:Int)
def fh(c:ay)(a:dK):ay:=⟨c.config,c.box,c.now,c.br,c.ready,a,c.spare,c.bh,c.bx,c.guard,c.pending,c.queue,c.shares,c.drain,c.aX,c.cB,c.errors,c.trace,c.bR⟩
def B3:cq:=⟨[],false⟩
def LB(d:cq):cq:=⟨(d.symbols.set 0 (bits .xor .i64 (d.symbols.getD 0 0) 5)).set 1 (bits .xor .i64 (d.symbols.getD 1 0) 10),d.jg⟩
def rA(base:Nat):Nat->af cq->af cq
 |0,cs=>cs
 |n+1,cs=>(rA base n cs).set (base+n) (LB ((rA base n cs).getD (base+n) B3))
theorem Qf(base:Nat):∀ (n:Nat) (cs:af cq),(rA base n cs).length=cs.length
 |0,_=>rfl
 | n+1,cs=>by
  show ((rA base n cs).set _ _).length=_;rw[kM,Qf base n]
theorem asO{d:cq}(h:Sy d.symbols):Sy (LB d).symbols:=by
 have l0:0<d.symbols.length:=by rw[h.1];omega
 have l1:1<d.symbols.length:=by rw[h.1];omega
 have e0:d.symbols.getD 0 0=d.symbols[0]:=by rw[iz,bT l0];rfl
 have e1:d.symbols.getD 1 0=d.symbols[1]:=by rw[iz,bT l1];rfl
 have x0:=VY (h.get (k:=0) l0) (b:=5) ⟨by omega,by omega⟩;have x1:=VY (h.get (k:=1) l1) (b:=10) ⟨by omega,by omega⟩;unfold LB;rw[e0,e1];exact(h.set (k:=0) ⟨x0.1,x0.2.1⟩).set (k:=1) ⟨x1.1,x1.2.1⟩
theorem Wx{base:Nat}:∀ (n:Nat) {cs:af cq},base+n<=cs.length->(∀ c∈cs,Sy c.symbols)->∀ c∈rA base n cs,Sy c.symbols
 |0,cs,_,h=>h
 | n+1,cs,hl,h=>by
  have ih:=Wx (base:=base) n (cs:=cs) (by omega) h;have hlen:=Qf base n cs;refine Sy.bP ih (asO ?_);have hb:base+n<(rA base n cs).length:=by omega
  rw[iz,bT hb];exact Sy.mem ih hb
def B4(g:aR)(l:rI)(a:dK)(b r:Int):dK:=
 ⟨bif Gt l a (b*g.rows+r).toNat then rA ((b*g.rows+r)*g.aU).toNat g.aU.toNat a.cells else a.cells,a.bU.set (b*g.rows+r).toNat 0,BU g.rows r (b*g.rows+r).toNat a.bL⟩
theorem Wy{g:aR}(hg:cY g=true){b r k:Int}(h1:0<=b)(h2:b<bf g)(h3:0<=r)(h4:r<g.rows)(h5:0<=k)(h6:k<g.aU):0<=(b*g.rows+r)*g.aU/\(b*g.rows+r)*g.aU+k<fE g/\0<=b*g.rows+r/\b*g.rows+r<jc g:=by
 have er:bf g*g.rows=jc g:=by simp[jc,hg]
 obtain⟨r0,r1,r2⟩:=DQ h1 h2 h3 h4;rw[er]at r2;obtain⟨q0,q1,q2⟩:=DQ r1 r2 h5 h6;have el:jc g*g.aU=fE g:=by simp[jc,fE,hg]
 rw[el]at q2;exact⟨q0,q2,r1,r2⟩
theorem asP{g:aR}(hg:cY g=true)(c:ay){b r:Int}(hc:(c.array.cells.length:Int)=fE g)(hs:∀ x∈c.array.cells,Sy x.symbols)(h1:0<=b)(h2:b<bf g)(h3:0<=r)(h4:r<g.rows):
  iter DL bB (((),b,r,(),(0:Int),()),(c,(g.cU,g.aI,g.rows,g.aU,()),()))=some (.inl (((),b,r,(),()),(fh c ⟨rA ((b*g.rows+r)*g.aU).toNat g.aU.toNat c.array.cells,c.array.bU,c.array.bL⟩,(g.cU,g.aI,g.rows,g.aU,()),()))):=by
 obtain⟨_,_,_,_,g5,g6,g7,g8⟩:=jw hg;have b1:=qj g;obtain⟨n,hn⟩:=iM (show 0<=g.aU by omega);obtain⟨B,hB⟩:∃B,B=((b*g.rows+r)*g.aU).toNat:=⟨_,rfl⟩
 have sR:g.aU.toNat=n:=by omega
 rw[<-hB,sR];have ji:B+n<=c.array.cells.length:=by
  have:=Wy hg h1 h2 h3 h4 (show 0<=g.aU-1 by omega) (by omega);omega
 have e:=eG (step:=DL) n (λk=>(((),b,r,(),(k:Int),()),(fh c ⟨rA B k c.array.cells,c.array.bU,c.array.bL⟩,(g.cU,g.aI,g.rows,g.aU,()),()))) (.inl (((),b,r,(),()),(fh c ⟨rA B n c.array.cells,c.array.bU,c.array.bL⟩,(g.cU,g.aI,g.rows,g.aU,()),()))) bB (λk hk=>by
  have Qg:fe g ⟨b,r,(k:Int)⟩=true:=xA hg h1 h2 h3 h4 (by dsimp only;omega) (by dsimp only;omega);have hix:vZ g ⟨b,r,(k:Int)⟩=((B+k:Nat):Int):=by
   have:=Wy hg h1 h2 h3 h4 (show 0<=(k:Int) by omega) (by omega);unfold vZ;rw[Qg,aq];dsimp only;omega
  have hlen:=Qf B k c.array.cells;have rz:=Wx k (by omega:B+k<=c.array.cells.length) hs;show DL (((),b,r,(),(k:Int),()),(fh c ⟨rA B k c.array.cells,c.array.bU,c.array.bL⟩,(g.cU,g.aI,g.rows,g.aU,()),()))=some (.inl (((),b,r,(),((k+1:Nat):Int),()),(fh c ⟨(rA B k c.array.cells).set (B+k) (LB ((rA B k c.array.cells).getD (B+k) B3)),c.array.bU,c.array.bL⟩,(g.cU,g.aI,g.rows,g.aU,()),())));generalize rA B k c.array.cells=cs at hlen rz;have bC:B+k<cs.length:=by omega
  have s1:=Sy.mem rz bC;have l1:(0:Nat)<cs[B+k].symbols.length:=by rw[s1.1];omega
  have l2:(1:Nat)<cs[B+k].symbols.length:=by rw[s1.1];omega
  have c2:decide ((k:Int)<g.aU)=true:=bz (by omega);have Jd:cs.getD (B+k) B3=cs[B+k]:=by rw[iz,bT bC];rfl
  have f0:cs[B+k].symbols.getD 0 0=cs[B+k].symbols[0]:=by rw[iz,bT l1];rfl
  have f1:cs[B+k].symbols.getD 1 0=cs[B+k].symbols[1]:=by rw[iz,bT l2];rfl
  rw[Jd];unfold LB;rw[f0,f1];unfold DL fh xC aH xG;dsimp only;rw[c2,aq,tQ g,Gr,av,hix];generalize B+k=j at bC s1 l1 l2;simp (disch:=omega) [bC,cK,l1,l2]) (by unfold DL xC aH xG;simp[hn]) (cT (by omega))
 exact e
theorem asQ(c:ay){R k:Int}{nb:af Int}(hl:nb.length<1000)(hn:∀ n∈nb,0<=n/\n<R)(h0:0<=k)(hk:k+R<=(c.array.bL.length:Int))(hH:c.array.bL.length<1000000)(hb:∀ x∈c.array.bL,0<=x/\x<=100000):
  iter BN bB (((),k,(),(nb.length:Int),(0:Int),()),(c,nb,()))=some (.inl ((),(fh c ⟨c.array.cells,c.array.bU,nb.foldl (λh n=>sC (k+n).toNat h) c.array.bL⟩,()))):=by
 have e:=eG (step:=BN) nb.length (λi=>(((),k,(),(nb.length:Int),(i:Int),()),(fh c ⟨c.array.cells,c.array.bU,(nb.take i).foldl (λh n=>sC (k+n).toNat h) c.array.bL⟩,nb,()))) (.inl ((),(fh c ⟨c.array.cells,c.array.bU,nb.foldl (λh n=>sC (k+n).toNat h) c.array.bL⟩,()))) bB (λj h=>by
  have hx:=hn _ (dy h);have hL:=aeV k (nb.take j) c.array.bL;have hB:=aeW k (nb.take j) c.array.bL hb;rw[List.take_succ_eq_append_getElem h,List.foldl_append];simp only[List.foldl_cons,List.foldl_nil];generalize (nb.take j).foldl (λh n=>sC (k+n).toNat h) c.array.bL=G at hL hB;obtain⟨q,hq⟩:=iM (show 0<=k+nb[j] by omega);have Wz:q<G.length:=by omega
  have hg:=hB _ (dy Wz);have e1:W6 (k+nb[j])=(q:Int):=by rw[hq];exact bD (by omega) (by omega)
  have e2:W6 (G[q]+1)=G[q]+1:=bD (by omega) (by omega);rw[hq,bX,arq Wz];unfold BN fh xC aH xG;simp (disch:=omega) [h,e1,Wz,e2,cK,v7]) (by unfold BN xC aH xG;simp) (cT (by omega))
 rw[cZ,List.take_zero,List.foldl_nil]at e;exact e
theorem WA{g:aR}(hg:cY g=true)(l:rI){B:Int}(hB:0<=B){a:dK}(ha:fH g B a){b r:Int}(h1:0<=b)(h2:b<bf g)(h3:0<=r)(h4:r<g.rows):fH g B (B4 g l a b r):=by
 obtain⟨_,_,_,_,g5,g6,g7,g8⟩:=jw hg;have b1:=qj g;have ji:((b*g.rows+r)*g.aU).toNat+g.aU.toNat<=a.cells.length:=by
  have:=Wy hg h1 h2 h3 h4 (show 0<=g.aU-1 by omega) (by omega);have:=ha.cells;omega
 unfold B4;refine⟨?_,?_,by simp[ha.bU],by simp[art,ha.bL],PU ha.Gs ⟨by omega,by omega⟩,arv ha.nW⟩
 ·dsimp only;cases Gt l a (b*g.rows+r).toNat with
  |false=>exact ha.cells
  |true=>rw[aq,Qf];exact ha.cells
 ·dsimp only;cases Gt l a (b*g.rows+r).toNat with
  |false=>exact ha.syms
  |true=>rw[aq];exact Wx _ ji ha.syms
theorem afc{g:aR}(hg:cY g=true)(l:rI){B:Int}(c:ay)(ha:fH g B c.array){b r:Int}(h1:0<=b)(h2:b<bf g)(h3:0<=r)(h4:r<g.rows):KI g l c b r=some ((),(fh c (B4 g l c.array b r),())):=by
 obtain⟨_,_,_,_,g5,g6,g7,g8⟩:=jw hg;have b2:=vY g;have er:bf g*g.rows=jc g:=by simp[jc,hg]
 obtain⟨r0,r1,r2⟩:=DQ h1 h2 h3 h4;rw[er]at r2;have hk:b*g.rows+g.rows<=jc g:=by
  have:=(DQ h1 h2 (show 0<=g.rows-1 by omega) (show g.rows-1<g.rows by omega)).2.2;omega
 have a1:=ha.bU;have a2:=ha.bL;have e1:W6 (b*g.rows)=b*g.rows:=bD (by omega) (by omega);have e2:W6 (b*g.rows+r)=b*g.rows+r:=bD (by omega) (by omega);have eL:=asP hg c ha.cells ha.syms h1 h2 h3 h4;unfold B4;generalize rA ((b*g.rows+r)*g.aU).toNat g.aU.toNat c.array.cells=cs at eL;obtain⟨i,hi⟩:=iM r1;obtain⟨k,GI⟩:∃k,k=b*g.rows:=⟨_,rfl⟩
 rw[<-GI]at hi hk e1 e2 r0 r1 r2;unfold KI xC cC;rw[<-GI,e1,e2];rw[hi]at r2;rw[hi,bX];have i1:i<c.array.bU.length:=by omega
 have i2:i<c.array.bL.length:=by omega
 have IF:O1 g l c.array b r=some (Gt l c.array i):=by
  unfold O1 xI;have WB:W6 (i:Int)=i:=bD (by omega) (by omega);simp only[<-GI,e1,hi,WB];unfold Gt;simp only[iz,bT i1,bT i2,Option.getD_some];by_cases h:c.array.bU[i] > l.bU<;>simp[i1,i2,h]
 rw[IF,av];have b1:=PU ha.nW (k:=i) (v:=0) ⟨by omega,by omega⟩;have xe:=aeT g5 g6 h3 h4;have ur:=asg g.rows r;have WC:∀ cells:af cq,iter BN bB (((),k,(),((oU g.rows r).length:Int),(0:Int),()),(fh c ⟨cells,c.array.bU.set i 0,c.array.bL.set i 0⟩,oU g.rows r,()))=some (.inl ((),(fh c ⟨cells,c.array.bU.set i 0,BU g.rows r i c.array.bL⟩,()))):=λcells=>by
  have:=asQ (fh c ⟨cells,c.array.bU.set i 0,c.array.bL.set i 0⟩) (R:=g.rows) (k:=k) (nb:=oU g.rows r) (by omega) (aeU h3 h4) r0 (by simp[fh];omega) (by simp[fh];omega) b1;simp only[fh]at this ⊢;rw[ash hi r0 h3]at this;exact this
 have h2x:VE=BN:=rfl;unfold fh at WC eL ⊢;cases Gt l c.array i with
 | false=>
  simp[i1,i2,xe,h2x,WC]
 | true=>
  rw[aq,eL];have WB:W6 (i:Int)=i:=bD (by omega) (by omega);simp[<-GI,e1,WB,hi,i1,i2,xe,WC]
theorem asR{c:gu}{p:eM}(hl:p.weights.length<1073741823)(h:ru c p=true):oQ c.bV=true:=by
 obtain⟨b,e,e2⟩:=V5 c p hl;have hb:b=true:=by
  rw[Lw c p hl]at e;injection e with e;rw[<-e,h]
 have:=e2 hb;simp only[tS,aJ]at this;exact this.2.1
def sH(i:Nat):aT:=⟨(i:Int) % 9+1,if (i:Int) % 9+1<=5 then (i:Int) / 9 else 0,0,0⟩
def D6(n m:Int):Int:=if n > m then n else m
def Qh(g:aR)(t:fA)(l:af Int)(c:aT)(m:Int)(i:Nat):Int:=match l[i]? with
 |some n=>bif decide (n<0)then m else D6 (n+D3 g t (sH i) c) m
 |none=>m
def zH(g:aR)(t:fA)(l:af Int)(c:aT)(k:Nat):Int:=(List.range k).foldl (Qh g t l c) 0
def zI(g:aR)(t:fA)(r:gA)(c:aT):Int:=
 bif c.kind==1&&(r.aY.length:Int)==4 then D6 (r.aY.getD 0 0+t.mI) (zH g t r.last c r.last.length)else zH g t r.last c r.last.length
theorem afd(g:aR)(t:fA)(l:af Int)(c:aT)(k:Nat):zH g t l c (k+1)=Qh g t l c (zH g t l c k) k:=by
 unfold zH;rw[List.range_succ,List.foldl_append];rfl
theorem afe{g:aR}{t:fA}{l:af Int}{c:aT}{m:Int}{i:Nat}(h:i<l.length):Qh g t l c m i=bif decide (l[i]<0)then m else D6 (l[i]+D3 g t (sH i) c) m:=by
 unfold Qh;rw[bT h]
theorem asT{a b C:Int}(ha:a<=C)(hb:0<=b/\b<=C):0<=D6 a b/\D6 a b<=C:=by
 unfold D6;split<;>omega
structure LC (g:aR) (t:fA) (r:gA):Prop where
 D7:cY g=true
 Qi:oQ t=true
 len:r.last.length<1000
 last:∀(i:Nat) (h:i<r.last.length),(-1<=r.last[i]/\r.last[i]<=1000000)/\(r.last[i] = -1\/tU g i=true)
 a4:r.aY.length<=4
 act:∀x∈r.aY,0<=x/\x<=1000000
theorem asU{g:aR}{t:fA}{r:gA}(ht:oQ t=true)(h:oS g r=true):LC g t r:=by
 have hb:=iI g;simp only[oS,aJ,c9,iA]at h;obtain⟨h1,h2,h3,h4,h5⟩:=h;have h2:(r.last.length:Int)=9*(bf g+1):=by simpa using h2
 have h3:¬ (r.aY.length:Int) > 4:=by simpa using h3
 refine⟨h1,ht,by omega,λi hi=>?_,by omega,λx hx=>?_⟩
 ·have e:=h4 i hi;rw[P1 hi]at e;simp only[aJ,eH]at e;refine⟨bO.1 e.1,?_⟩;rcases e.2 with e2 | e2
  ·exact .inr e2
  ·exact .inl (by simpa using e2)
 ·obtain⟨i,hi,rfl⟩:=lV.1 hx;have e:=h5 i hi;cases i with
  |zero=>rw[P2 hi]at e;exact bO.1 e
  |succ i=>rw[Lq hi]at e;simp only[aJ]at e;exact bO.1 e.1
theorem asW(i:Nat):1<=(sH i).kind/\(sH i).kind<=9:=by
 unfold sH;dsimp only;omega
theorem asX{g:aR}{i:Nat}(hu:tU g i=true):(sH i).kind<=5->0<=(sH i).aE/\(sH i).aE<bf g:=by
 unfold tU at hu;unfold sH;dsimp only;intro h;rw[bu h];rw[bz h]at hu;have hu:(i:Int) / 9<bf g:=by simpa using hu
 omega
theorem asY{g:aR}{i:Nat}(hi:i<1000)(hu:tU g i=true):∃ b,Dq g (i:Int)=some (sH i,b):=by
 have kS:=hu;unfold tU at hu;unfold Dq sH;rw[mA,av,vf (by omega),uc (by omega),bD (by omega) (by omega),bD (by omega) (by omega),Lo,av];cases hd:decide ((i:Int) / 9<bf g)with
 | true=>
  rw[hd]at hu;have h5:(i:Int) % 9+1<=5:=by simpa using hu
  rw[aq,bu h5];exact⟨_,rfl⟩
 | false=>
  rw[hd]at hu;have h5:¬ (i:Int) % 9+1<=5:=by
   intro h;rw[bz h]at hu;cases hu
  rw[au,bJ h5];exact⟨_,rfl⟩
theorem WD{g:aR}{t:fA}{r:gA}(h:LC g t r)(c:aT):∀ k,k<=r.last.length->0<=zH g t r.last c k/\zH g t r.last c k<=1000128
 |0,_=>⟨Int.le_refl _,by show (0:Int)<=_;omega⟩
 | k+1,hk=>by
  have ih:=WD h c k (by omega);rw[afd,afe (by omega)];have hg:=aeR h.Qi g (sH k) c;have hl:=(h.last k (by omega)).1;cases decide (r.last[k]<0)with
  |true=>exact ih
  |false=>exact asT (by omega) ih
theorem asZ{g:aR}{t:fA}{r:gA}(h:LC g t r)(c:aT):0<=zI g t r c:=by
 have hL:=WD h c r.last.length (gZ _);unfold zI D6;cases c.kind==1&&(r.aY.length:Int)==4 with
 |false=>exact hL.1
 | true=>
  rw[aq];split<;>omega
theorem as0{g:aR}{t:fA}{r:gA}{c:aT}(h:LC g t r)(hr:oS g r=true)(hc:gx g c=true):OL g t r c=some (bif decide (zI g t r c > 1000000)then -1 else zI g t r c):=by
 have hb:=λk hk=>WD h c k hk
 have kc:(1<=c.kind/\c.kind<=9)/\(c.kind<=5->0<=c.aE/\c.aE<bf g):=by
  simp only[gx,aJ]at hc
  refine⟨bO.1 hc.2.1,λh5=>?_⟩
  have h1:=hc.2.2.1;rw[arX (bO.1 hc.2.1),bz h5]at h1;have:=bO.1 h1;omega
 have e:=eG (step:=Ku) r.last.length (λi=>(((),(),(),(),zH g t r.last c i,r.last,(r.last.length:Int),(i:Int),()),((g.cU,g.aI,g.rows,g.aU,()),t,(r.last,r.aY,()),(c.kind,c.aE,c.row,c.cO,()),()))) (.inl (((),(),(),zH g t r.last c r.last.length,()),(t,(r.last,r.aY,()),(c.kind,c.aE,c.row,c.cO,()),()))) bB (λk hk=>by
  have h1:=h.len;have h2:=(h.last k hk).1;have h3:=hb k (by omega);have hg:=aeR h.Qi g (sH k) c;unfold Ku aH xG xI;dsimp only;rw[bz (by omega),aq,aK ⟨by omega,by omega⟩,cK (by omega)];simp only[bX];rw[afd,afe hk];cases hd:decide (r.last[k]<0)with
  |true=>rfl
  | false=>
   have awk:¬ r.last[k]<0:=by simpa using hd
   have hu:tU g k=true:=by
    rcases(h.last k hk).2 with h9|h9
    ·omega
    ·exact h9
   obtain⟨b,eb⟩:=asY (g:=g) (i:=k) (by omega) hu;rw[au,au,tQ,eb,av];show Option.bind (Kt g t (sH k) c) _=_;rw[arY t h.D7 (asW k) kc.1 (asX hu) kc.2,av,bD (n:=r.last[k]+_) (by omega) (by omega)];rfl) (by
  unfold Ku aH xG xI;dsimp only;rw[bK (by omega),au]) (cT (by have:=h.len;omega))
 rw[cZ]at e;unfold OL zI xI cC;rw[V1,av,h.Qi,cm,au,Wc,av,hr,cm,au,Wg,av,hc,cm,au]
 refine(cA (λo=>Option.bind o _) e).trans ?_
 rw[av];simp only[jf];have hL:=hb r.last.length (gZ _);have hf:=ar5 h.Qi;have WE:∀m:Int,(bif decide (m > 1000000)then some (-1:Int)else some m)=some (bif decide (m > 1000000)then -1 else m):=λm=>by cases decide (m > 1000000)<;>rfl
 cases c.kind==(1:Int)with
 |false=>exact WE _
 | true=>
  cases h4:(r.aY.length:Int)==(4:Int)with
  |false=>exact WE _
  | true=>
   have h4:(r.aY.length:Int)=4:=by simpa using h4
   have h0:0<r.aY.length:=by omega
   have ha:=h.act _ (dy h0);rw[aq,aq,aK ⟨by omega,h0⟩];show (bif decide ((if W6 (r.aY[0]+t.mI) > _ then W6 (r.aY[0]+t.mI)else _) > 1000000)then _ else some (if W6 (r.aY[0]+t.mI) > _ then W6 (r.aY[0]+t.mI)else _))=_;rw[bD (by omega) (by omega),iz,bT h0];exact WE _
def ga(c:ay)(x:aT):Bool:=sF c.br x&&(decide (zI c.config.aD c.config.bV c.ready x<=1000000)&&decide (zI c.config.aD c.config.bV c.ready x<=c.now))
structure Pk (c:ay):Prop where
 z:dS c
 ok:ff c=true
 rk:oR c.config.aD c.br=true
 rdy:oS c.config.aD c.ready=true
 R:LC c.config.aD c.config.bV c.ready
 bl:(c.br.aI.length:Int)=bf c.config.aD
theorem Pk.of{c:ay}(hz:dS c)(h:ff c=true):Pk c:=by
 have z1:c.box.ck.weights.length<=1048576:=hz.1.1;have h0:=h;simp only[ff,aJ]at h;obtain⟨h1,h2,h3,h4,h5,h6,h7,h8,h9,fJ,gT,jz,gU,js,jA,gC,od,lP,oY,mZ,vi,sN⟩:=h;have hb:(c.br.aI.length:Int)=bf c.config.aD:=by
  simp only[oR,aJ]at h4
  simpa using h4.2.1
 exact⟨hz,h0,h4,h5,asU (asR (by omega) h1) h5,hb⟩
theorem zJ{c:ay}(h:Pk c){x:aT}(hc:gx c.config.aD x=true):kI c x=some (ga c x):=by
 have h0:=asZ h.R x;unfold kI ga;rw[Wh,av,h.rk,hc,dF,dF,as0 h.R h.rdy hc,av];cases sF c.br x with
 |false=>rfl
 | true=>
  rw[cm,au,dF];by_cases hm:zI c.config.aD c.config.bV c.ready x<=1000000
  ·have bg:(zI c.config.aD c.config.bV c.ready x != -1)=true:=by rw[bne_iff_ne];omega
   rw[bK (by omega),au,bz hm,dF,bg,aq]
  ·rw[bz (by omega),aq,bK hm,Bool.false_and];rfl
def cS(i:Nat):af Int->af Int
 |[]=>[]
 |d::l=>bif decide (d >= 4)then (i:Int)::cS (i+1) l else cS (i+1) l
theorem as1(i:Nat)(a b:af Int):cS i (a++b)=cS i a++cS (i+a.length) b:=by
 induction a generalizing i with
 |nil=>rfl
 | cons d a ih=>
  rw[List.cons_append,cS,cS,ih (i+1),n9,show i+1+a.length=i+(a.length+1) by omega];cases decide (d >= 4)<;>rfl
theorem WG(i:Nat)(l:af Int):(cS i l).length<=l.length:=by
 induction l generalizing i with
 |nil=>exact gZ _
 | cons d l ih=>
  have:=ih (i+1);unfold cS;cases decide (d >= 4)<;>simp<;>omega
theorem as2{l:af Int}{i:Nat}(h:i<l.length):cS 0 (l.take (i+1))=bif decide (l[i] >= 4)then cS 0 (l.take i)++[(i:Int)]else cS 0 (l.take i):=by
 rw[DS h,as1,lM,Nat.min_eq_left (by omega),fQ];show _++(bif decide (l[i] >= 4)then (i:Int)::cS (i+1) []else cS (i+1) [])=_;cases decide (l[i] >= 4)with
 |true=>rfl
 |false=>exact List.append_nil _
theorem aff{l:af Int}{i:Nat}{b:Int}(h:b∈cS i l):∃ j:Nat,b=((i+j:Nat):Int)/\j<l.length/\l.getD j 0 >= 4:=by
 induction l generalizing i with
 |nil=>cases h
 | cons d l ih=>
  unfold cS at h;have tl:b∈cS (i+1) l->∃ j:Nat,b=((i+j:Nat):Int)/\j<(d :: l).length/\(d :: l).getD j 0 >= 4:=λh=>by
   obtain⟨j,h1,h2,h3⟩:=ih h;exact⟨j+1,by rw[h1];congr 1;omega,by simpa using h2,by simpa using h3⟩
  cases hd:decide (d >= 4)with
  | true=>
   rw[hd,aq]at h;rcases iL.1 h with rfl|h
   ·exact⟨0,rfl,by simp,by simpa using hd⟩
   ·exact tl h
  | false=>
   rw[hd,au]at h;exact tl h
theorem zK{r:eo}(h:gP r=true):r.aN.length<=8/\1<=r.aN.length:=by
 simp only[gP,aJ]at h;have:=bO.1 h.2.1;omega
theorem WH{r:eo}(hr:gP r=true):F1 r=some (cS 0 r.aN):=by
 have hl:=zK hr;unfold F1 cC;rw[Gv _ (by omega),av,hr,cm,au];have e:=eG (step:=Kb) r.aN.length (λi=>(((),r.aN,(r.aN.length:Int),(i:Int),()),(cS 0 (r.aN.take i),()))) (.inl (((),()),(cS 0 r.aN,()))) bB (λi h=>by
  have hu:=WG 0 (r.aN.take i);rw[lM]at hu;unfold Kb aH xG xI;dsimp only;rw[bz (by omega),aq,aK ⟨by omega,by omega⟩,cK (by omega),as2 h];simp only[bX];cases decide (r.aN[i] >= 4)with
  |true=>rw[aq,aq,rF,gk (by omega),aq]
  |false=>rfl) (by
  unfold Kb aH xG xI;dsimp only;rw[bK (by omega),au,List.take_length]) (cT (by omega))
 rw[cZ]at e
 refine(cA (λo=>Option.bind o _) e).trans ?_
 rfl
def GJ(c:ay):Bool:=decide ((c.queue.length:Int) > 0) ||(decide ((c.pending.length:Int) > 0) ||decide (((cS 0 c.bh.aN).length:Int) > 0))
theorem afg{c:ay}(hr:gP c.bh=true):Bw c=some (GJ c):=by
 unfold Bw GJ;rw[WH hr,av];cases decide ((c.queue.length:Int) > 0)<;>cases decide ((c.pending.length:Int) > 0)<;>rfl
def B5(r:ue)(p:jh)(b:Bool):Int:=
 bif b then (bif p.state==1 then 7 else bif p.state==2 then 9 else 0)else bif p.state==0&&decide (p.idle >= r.sleep)then 8 else bif p.state==0&&decide (p.idle >= r.down)then 6 else bif p.state==1&&decide (p.idle >= r.sleep)then 7 else 0
theorem as3(r:ue)(p:jh)(b:Bool)(h1:Gu r=true)(h2:nY p=true):OM r p b=some (B5 r p b):=by
 unfold OM B5;rw[aeB,av,h1,cm,au,PZ,av,h2,cm,au];by_cases s0:p.state=0
 ·rw[s0];cases b<;>cases decide (p.idle >= r.sleep)<;>cases decide (p.idle >= r.down)<;>rfl
 ·have s0:(p.state==0)=false:=by simpa using s0
  rw[s0];cases b<;>cases p.state==1<;>cases p.state==2<;>cases decide (p.idle >= r.sleep)<;>rfl
theorem as4(r:ue)(p:jh)(b:Bool):B5 r p b=0\/6<=B5 r p b/\B5 r p b<=9:=by
 unfold B5;cases b<;>cases p.state==0<;>cases p.state==1<;>cases p.state==2<;>cases decide (p.idle >= r.sleep)<;>cases decide (p.idle >= r.down)<;>decide
def D8(may:Nat->Bool)(v:Nat->Int)(rB:Int)(i:Nat):Int:=bif may i&&(decide (rB<0) ||decide (v i > v rB.toNat))then (i:Int)else rB
def kr(may:Nat->Bool)(v:Nat->Int)(k:Nat):Int:=(List.range k).foldl (D8 may v) (-1)
theorem LD(may:Nat->Bool)(v:Nat->Int)(k:Nat):kr may v (k+1)=D8 may v (kr may v k) k:=by
 unfold kr;rw[List.range_succ,List.foldl_append];rfl
theorem zL(may:Nat->Bool)(v:Nat->Int):∀ k,-1<=kr may v k/\kr may v k<k
 |0=>⟨Int.le_refl _,by show (-1:Int)<0;omega⟩
 | k+1=>by
  have ih:=zL may v k;rw[LD];unfold D8;cases may k&&(decide (kr may v k<0) ||decide (v k > v (kr may v k).toNat))with
  |true=>rw[aq];omega
  |false=>rw[au];omega
theorem WI(may:Nat->Bool)(v:Nat->Int):∀ k,kr may v k = -1\/may (kr may v k).toNat=true
 |0=>.inl rfl
 | k+1=>by
  have ih:=WI may v k;rw[LD];unfold D8;cases hm:may k with
  |false=>rw[Bool.false_and,au];exact ih
  | true=>
   cases decide (kr may v k<0) ||decide (v k > v (kr may v k).toNat)with
   |true=>exact .inr (by rw[dF,aq,bX];exact hm)
   |false=>exact ih
theorem WJ{may:Nat->Bool}(v:Nat->Int){i:Nat}(h:may i=true):∀ k,i<k->0<=kr may v k
 |0,hk=>by omega
 | k+1,hk=>by
  have hb:=zL may v k;rw[LD];unfold D8;by_cases hik:i=k
  ·subst hik;rw[h,dF];by_cases hn:kr may v i<0
   ·rw[bz hn,Bool.true_or,aq];omega
   ·cases decide (kr may v i<0) || decide (v i > v (kr may v i).toNat)with
    |true=>rw[aq];omega
    |false=>rw[au];omega
  ·have ih:=WJ v h k (by omega);cases may k&&(decide (kr may v k<0) || decide (v k > v (kr may v k).toNat))with
   |true=>rw[aq];omega
   |false=>rw[au];exact ih
def u5(l:af cI)(w:af Bool):Int:=kr (λi=>w.getD i false) (λi=>(l.getD i ⟨0,0⟩).iN) (min l.length w.length)
theorem Qj(l:af cI)(w:af Bool)(hl:l.length<1073741824):Kx l w=some (u5 l w):=by
 unfold Kx u5 cC;generalize hk:min l.length w.length=n;have e:=eG (step:=Kw) n (λi=>((l,w,kr (λi=>w.getD i false) (λi=>(l.getD i ⟨0,0⟩).iN) i,(i:Int),()),())) (.inl ((kr (λi=>w.getD i false) (λi=>(l.getD i ⟨0,0⟩).iN) n,()),())) bB (λi h=>by
  have h1:i<l.length:=by omega
  have h2:i<w.length:=by omega
  have hb:=zL (λi=>w.getD i false) (λi=>(l.getD i ⟨0,0⟩).iN) i;rw[LD];generalize kr (λi=>w.getD i false) (λi=>(l.getD i ⟨0,0⟩).iN) i=rB at hb;unfold Kw D8 aH xG xI;dsimp only;rw[bz (by omega),aq,bz (by omega),aq,aK ⟨by omega,by omega⟩,cK (by omega)];simp only[bX,iz,bT h2,bT h1,Option.getD_some];cases w[i]with
  |false=>rfl
  | true=>
   rw[aq,dF];by_cases hn:rB<0
   ·rw[bz hn];rfl
   ·have h3:rB.toNat<l.length:=by omega
    rw[bK hn,au,aK ⟨by omega,h1⟩,aK ⟨by omega,h3⟩,Bool.false_or,bT h3,Option.getD_some];cases decide (l[i].iN > l[rB.toNat].iN)<;>rfl) (by
  unfold Kw aH xG xI;dsimp only;by_cases h1:n<l.length
  ·rw[bz (by omega),aq,bK (by omega),au]
  ·rw[bK (by omega),au]) (cT (by omega))
 rw[cZ]at e
 refine(cA (λo=>Option.bind o _) e).trans ?_
 rfl
def D9(s:cI):cI:=⟨s.weight,s.weight⟩
def kL(l:af cI):af cI:=l.map D9
theorem afh(l:af cI)(w:af Bool)(hl:l.length<1073741824):iter Gb bB ((w,(),(l.length:Int),(0:Int),()),(l,()))=some (.inl ((w,(),()),(kL l,()))):=by
 have e:=eG (step:=Gb) l.length (λi=>((w,(),(l.length:Int),(i:Int),()),(upto D9 l i,()))) (.inl ((w,(),()),(kL l,()))) bB (λi h=>by
  have hlen:=PN D9 l i;unfold Gb xC aH xG;dsimp only;rw[bz (by omega),aq,aK ⟨by omega,by omega⟩,aK (by omega),aK ⟨by omega,by omega⟩,aK (by omega),cK (by omega)];simp only[bX];rw[VR D9 l i h,<-VS D9 l i h];rfl) (by
  unfold Gb xC aH xG;dsimp only;rw[bK (by omega),au,VQ];rfl) (cT hl)
 rw[cZ,VP]at e;exact e
theorem WK{l:af cI}(w:af Bool)(hl:l.length<1073741823)(hs:lT l=true)(hw:l.length=w.length):∃ y t,uQ l w=some (y,t)/\y.length=l.length:=by
 unfold uQ xC cC;have hb:=zL (λi=>w.getD i false) (λi=>(l.getD i ⟨0,0⟩).iN) (min l.length w.length);have Ea:(kL l).length=l.length:=by simp[kL]
 have fT:=zL (λi=>w.getD i false) (λi=>((kL l).getD i ⟨0,0⟩).iN) (min (kL l).length w.length);have hm:=WI (λi=>w.getD i false) (λi=>(l.getD i ⟨0,0⟩).iN) (min l.length w.length);rw[List.nil_append,Qj l w (by omega),av,PW _ (by omega),av,hs,cm,au,List.length_nil,fQ,gk (by omega),aq];unfold u5;generalize hr:kr (λi=>w.getD i false) (λi=>(l.getD i ⟨0,0⟩).iN) (min l.length w.length)=b at *
 by_cases h0:b<0
 ·rw[bz h0];exact⟨_,_,rfl,by simp[Ea]⟩
 ·have h1:b.toNat<l.length:=by omega
  rw[bK h0,au,aK ⟨by omega,h1⟩,aK h1];dsimp only;cases l[b.toNat].iN==0 with
  | false=>
   rw[au,aK ⟨by omega,h1⟩,aK h1,aK ⟨by omega,h1⟩,aK h1];exact⟨_,_,rfl,by simp[Ea]⟩
  | true=>
   rw[aq,afh l w (by omega),av];simp only[jf];rw[Qj _ w (by omega),av];have hp:0<=u5 (kL l) w:=WJ _ (i:=b.toNat) (by rcases hm with h|h;exact absurd h (by omega);exact h) _ (by rw[Ea];omega);have hq:u5 (kL l) w<((min (kL l).length w.length:Nat):Int):=fT.2;have h3:(u5 (kL l) w).toNat<(kL l).length:=by omega
   rw[aK ⟨hp,h3⟩,aK h3,aK ⟨hp,h3⟩,aK h3];exact⟨_,_,rfl,by simp[Ea]⟩
def B6(m:pS)(n:Int)(a:aV):aV:=bif m.hash then ⟨(a.aE+a.row) % n,a.row,a.cO⟩else a
def Eb(g:aR)(m:pS)(l:Int):aV:=B6 m (bf g)
 (bif m.order==0 then ⟨l / g.aU % bf g,l / g.aU / bf g,l % g.aU⟩else bif m.order==1 then ⟨l % bf g,l / bf g / g.aU,l / bf g % g.aU⟩else ⟨l / g.aU / g.rows,l / g.aU % g.rows,l % g.aU⟩)
theorem GK{l a b:Int}(h0:0<=l)(hb:0<b)(h:l<a*b):0<=l / b/\l / b<a/\l / b<=l:=by
 refine⟨Int.ediv_nonneg h0 (by omega),Int.ediv_lt_of_lt_mul hb h,?_⟩;exact Int.ediv_le_self _ h0
theorem B7{l b:Int}(hb:0<b):0<=l % b/\l % b<b:=⟨Int.emod_nonneg _ (by omega),Int.emod_lt_of_pos _ hb⟩
theorem WL{m:pS}{n:Int}{a:aV}(hn:0<n)(hb:0<=a.aE/\a.aE<n):0<=(B6 m n a).aE/\(B6 m n a).aE<n/\(B6 m n a).row=a.row/\(B6 m n a).cO=a.cO:=by
 unfold B6;cases m.hash with
 |false=>exact⟨hb.1,hb.2,rfl,rfl⟩
 |true=>exact⟨(B7 hn).1,(B7 hn).2,rfl,rfl⟩
theorem WM{m:pS}{n b r c:Int}(hn:0<n)(EX:n<=8)(h1:0<=b/\b<=100000)(h2:0<=r/\r<=100000):(bif m.hash then if n=0 then none else some ((⟨(W6 (b+r)).tmod n,r,c⟩:aV),true)else some ((⟨b,r,c⟩:aV),true))=some (B6 m n ⟨b,r,c⟩,true):=by
 unfold B6;cases m.hash with
 |false=>rfl
 |true=>rw[aq,bJ (by omega),bD (by omega) (by omega),uc (by omega),aq]
theorem as5{g:aR}{m:pS}{l:Int}(hg:cY g=true)(hm:aP m.order 0 2=true)(h0:0<=l)(hl:l<fE g):∀ (f:aj (aV×Bool)),f=(bif (m.order==(0:Int))then if g.aU=0 then none else if g.aU=0 then none else if bf g=0 then none else if g.aU=0 then none else if bf g=0 then none else bif m.hash then if bf g=0 then none else some ((⟨((W6 (((W6 (l.tdiv g.aU)).tmod (bf g))+(W6 ((W6 (l.tdiv g.aU)).tdiv (bf g))))).tmod (bf g)),(W6 ((W6 (l.tdiv g.aU)).tdiv (bf g))),(l.tmod g.aU)⟩:aV),true)else some ((⟨((W6 (l.tdiv g.aU)).tmod (bf g)),(W6 ((W6 (l.tdiv g.aU)).tdiv (bf g))),(l.tmod g.aU)⟩:aV),true)else bif (m.order==(1:Int))then if bf g=0 then none else if bf g=0 then none else if g.aU=0 then none else if bf g=0 then none else if g.aU=0 then none else bif m.hash then if bf g=0 then none else some ((⟨((W6 ((l.tmod (bf g))+(W6 ((W6 (l.tdiv (bf g))).tdiv g.aU)))).tmod (bf g)),(W6 ((W6 (l.tdiv (bf g))).tdiv g.aU)),((W6 (l.tdiv (bf g))).tmod g.aU)⟩:aV),true)else some ((⟨(l.tmod (bf g)),(W6 ((W6 (l.tdiv (bf g))).tdiv g.aU)),((W6 (l.tdiv (bf g))).tmod g.aU)⟩:aV),true)else if g.aU=0 then none else if g.aU=0 then none else if g.rows=0 then none else if g.aU=0 then none else if g.rows=0 then none else bif m.hash then if bf g=0 then none else some ((⟨((W6 ((W6 ((W6 (l.tdiv g.aU)).tdiv g.rows))+((W6 (l.tdiv g.aU)).tmod g.rows))).tmod (bf g)),((W6 (l.tdiv g.aU)).tmod g.rows),(l.tmod g.aU)⟩:aV),true)else some ((⟨(W6 ((W6 (l.tdiv g.aU)).tdiv g.rows)),((W6 (l.tdiv g.aU)).tmod g.rows),(l.tmod g.aU)⟩:aV),true))->f=some (Eb g m l,true)/\fe g (Eb g m l)=true:=by
 have hb:=iI g;have hp:=PO hg;have hL:=qj g;have gb:=jw hg;have eL:fE g=bf g*g.rows*g.aU:=by simp[fE,hg]
 have sP:aP l 0 (W6 (fE g-1))=true:=by rw[bD (by omega) (by omega)];exact bO.2 ⟨h0,by omega⟩
 have ho:=bO.1 hm;rw[eL]at hl;have Ql:¬ bf g=0:=by omega
 have vC:¬ g.aU=0:=by omega
 have di:¬ g.rows=0:=by omega
 rintro f rfl;simp only[bJ Ql,bJ vC,bJ di];unfold Eb;by_cases o0:m.order=0
 ·have a1:=GK (a:=bf g*g.rows) h0 (show 0<g.aU by omega) hl;have a2:=GK (l:=l / g.aU) (a:=g.rows) (b:=bf g) a1.1 (by omega) (by rw[Int.mul_comm];exact a1.2.1);have a3:=B7 (l:=l / g.aU) (b:=bf g) (by omega);have a4:=B7 (l:=l) (b:=g.aU) (by omega);rw[o0,beq_self_eq_true,aq,aq,vf h0,uc h0,bD (n:=l / g.aU) (by omega) (by omega),vf a1.1,uc a1.1,bD (n:=l / g.aU / bf g) (by omega) (by omega)];obtain⟨k1,k2,k3,k4⟩:=WL (m:=m) (n:=bf g) (a:=⟨l / g.aU % bf g,l / g.aU / bf g,l % g.aU⟩) (by omega) a3;refine⟨?_,xA hg k1 k2 (by rw[k3];exact a2.1) (by rw[k3];exact a2.2.1) (by rw[k4];exact a4.1) (by rw[k4];exact a4.2)⟩;refine Eq.trans ?_ (WM (by omega) (by omega) (by omega) (by omega));rw[bJ Ql]
 ·rw[mz o0,au,au];by_cases o1:m.order=1
  ·have a1:=GK (a:=g.rows*g.aU) h0 (show 0<bf g by omega) (by rw[Int.mul_comm,<-Int.mul_assoc];exact hl);have a2:=GK (l:=l / bf g) (a:=g.rows) (b:=g.aU) a1.1 (by omega) a1.2.1;have a3:=B7 (l:=l) (b:=bf g) (by omega);have a4:=B7 (l:=l / bf g) (b:=g.aU) (by omega);rw[o1,beq_self_eq_true,aq,aq,vf h0,uc h0,bD (n:=l / bf g) (by omega) (by omega),vf a1.1,uc a1.1,bD (n:=l / bf g / g.aU) (by omega) (by omega)];obtain⟨k1,k2,k3,k4⟩:=WL (m:=m) (n:=bf g) (a:=⟨l % bf g,l / bf g / g.aU,l / bf g % g.aU⟩) (by omega) a3;refine⟨?_,xA hg k1 k2 (by rw[k3];exact a2.1) (by rw[k3];exact a2.2.1) (by rw[k4];exact a4.1) (by rw[k4];exact a4.2)⟩;refine Eq.trans ?_ (WM (by omega) (by omega) (by omega) (by omega));rw[bJ Ql]
  ·have a1:=GK (a:=bf g*g.rows) h0 (show 0<g.aU by omega) hl;have a2:=GK (l:=l / g.aU) (a:=bf g) (b:=g.rows) a1.1 (by omega) a1.2.1;have a3:=B7 (l:=l / g.aU) (b:=g.rows) (by omega);have a4:=B7 (l:=l) (b:=g.aU) (by omega);rw[mz o1,au,au,vf h0,uc h0,bD (n:=l / g.aU) (by omega) (by omega),vf a1.1,uc a1.1,bD (n:=l / g.aU / g.rows) (by omega) (by omega)];obtain⟨k1,k2,k3,k4⟩:=WL (m:=m) (n:=bf g) (a:=⟨l / g.aU / g.rows,l / g.aU % g.rows,l % g.aU⟩) (by omega) ⟨a2.1,a2.2.1⟩;refine⟨?_,xA hg k1 k2 (by rw[k3];exact a3.1) (by rw[k3];exact a3.2) (by rw[k4];exact a4.1) (by rw[k4];exact a4.2)⟩;refine Eq.trans ?_ (WM (by omega) (by omega) (by omega) (by omega));rw[bJ Ql]
theorem as6{g:aR}{m:pS}{l:Int}(hg:cY g=true)(hm:aP m.order 0 2=true)(h0:0<=l)(hl:l<fE g):ON g m l=some (Eb g m l,true)/\fe g (Eb g m l)=true:=by
 have hL:=qj g;have sP:aP l 0 (W6 (fE g-1))=true:=by rw[bD (by omega) (by omega)];exact bO.2 ⟨h0,by omega⟩
 refine as5 hg hm h0 hl _ ?_;unfold ON;rw[uU,av,hg,cm,au,aez,av,hm,cm,au,BS,av,dw,av,sP,cm,au,mA,av]
def iJ(c:ay)(l:Int):aV:=
 let a:=Eb (gK c.config.aD c.spare) c.config.mapping l
 ⟨a.aE,c.spare.map.getD (a.aE*(c.config.aD.rows-c.spare.cg)+a.row).toNat 0,a.cO⟩
theorem Qm{g:aR}{s:fF}(h:oT g s=true):gK g s=⟨g.cU,g.aI,g.rows-s.cg,g.aU⟩/\cY g=true/\cY (gK g s)=true/\bf (gK g s)=bf g/\0<=s.cg/\s.cg<=2/\2<=g.rows-s.cg/\g.rows<=16:=by
 have h0:=h;simp only[oT,aJ]at h;obtain⟨hg,h1,h2,h3,h4⟩:=aey h.1;have gb:=jw hg;have e:gK g s=⟨g.cU,g.aI,g.rows-s.cg,g.aU⟩:=by
  unfold gK;rw[h0,aq,bD (by omega) (by omega)]
 have nG:cY (gK g s)=true:=by
  rw[e];unfold cY;simp only[aJ,bO];refine⟨⟨⟨?_,?_⟩,?_⟩,?_⟩<;>omega
 refine⟨e,hg,nG,?_,h1,h2,h3,h4⟩;unfold bf;rw[hg,nG,e]
theorem as7{g:aR}{s:fF}(h:oT g s=true){b r:Int}(hb:0<=b/\b<bf g)(hr:0<=r/\r<g.rows-s.cg):(b*(g.rows-s.cg)+r).toNat<s.map.length/\0<=s.map.getD (b*(g.rows-s.cg)+r).toNat 0/\s.map.getD (b*(g.rows-s.cg)+r).toNat 0<g.rows:=by
 obtain⟨_,hg,_,_,h1,h2,h3,h4⟩:=Qm h;have v9:=iI g;simp only[oT,aJ,iC,c9,iA]at h;obtain⟨_,hl,ha⟩:=h;obtain⟨b,rfl⟩:=iM hb.1;obtain⟨r,rfl⟩:=iM hr.1;obtain⟨R,hR⟩:=iM (show 0<=g.rows-s.cg by omega);obtain⟨bn,hn⟩:=iM v9.1;rw[hR,hn,bX,bX]at hl;have hl:s.map.length=bn*R:=by exact_mod_cast hl
 have rV:b<bn:=by omega
 have kY:r<R:=by omega
 have e:((b:Int)*(g.rows-s.cg)+(r:Int)).toNat=b*R+r:=by rw[hR,<-Int.natCast_mul,<-Int.natCast_add,bX]
 have bC:=Gy (R:=R) rV (show r+1<=R from kY);have hi:b*R+r<s.map.length:=by omega
 have h5:=ha b (by omega) r (by omega);rw[e];refine⟨hi,?_⟩;rw[iz,bT hi,Option.getD_some];have vm:(gJ s.map R b)[r]?=some s.map[b*R+r]:=by rw[P3,List.getElem?_take_of_lt kY,List.getElem?_drop,bT hi]
 rw[hR,bX]at h5;unfold uX at h5;rw[vm]at h5;simp only[eH,aJ,iC,bO]at h5;rcases h5 with h5|h5
 ·omega
 ·have:=h5.1;omega
theorem as8{c:ay}(h:Pk c)(hs:oT c.config.aD c.spare=true)(he:c.spare.cg=c.config.cg)(hm:aP c.config.mapping.order 0 2=true){l:Int}(h0:0<=l)(hl:l<fE (gK c.config.aD c.spare)):vW c l=some (iJ c l,true)/\fe c.config.aD (iJ c l)=true:=by
 obtain⟨e1,hg,nG,eb,s1,s2,s3,s4⟩:=Qm hs;obtain⟨m1,m3⟩:=as6 nG hm h0 hl;obtain⟨_,b1,b2,b3,b4,b5,b6⟩:=uV m3;rw[eb]at b2;have gb:=jw hg;have hb:=iI c.config.aD;have er:(gK c.config.aD c.spare).rows=c.config.aD.rows-c.spare.cg:=by rw[e1]
 have ec:(gK c.config.aD c.spare).aU=c.config.aD.aU:=by rw[e1]
 rw[er]at b4;rw[ec]at b6;obtain⟨k1,k2,k3⟩:=as7 hs ⟨b1,b2⟩ ⟨b3,b4⟩;have hmul:=DQ b1 b2 b3 b4;have hM:=VU (a:=bf c.config.aD) (b:=c.config.aD.rows-c.spare.cg) (A:=8) (B:=16) hb.1 hb.2 (by omega) (by omega);unfold iJ;generalize hA:Eb (gK c.config.aD c.spare) c.config.mapping l=A at *
 dsimp only;refine⟨?_,xA hg b1 b2 k2 k3 b5 b6⟩;unfold vW;rw[DZ,av,m1,av];dsimp only;rw[cm,au];unfold DE xI;have hx:BE (gK c.config.aD c.spare) A.aE A.row=some true:=by
  unfold BE;rw[DP,av,xA (a:=⟨A.aE,A.row,0⟩) nG b1 (by rw[eb];exact b2) b3 (by rw[er];exact b4) (Int.le_refl 0) (by rw[ec];show (0:Int)<_;omega)]
 obtain⟨b,hbN⟩:=iM b1;obtain⟨r,hrN⟩:=iM b3;obtain⟨R,hR⟩:=iM (show 0<=c.config.aD.rows-c.spare.cg by omega);obtain⟨bn,hn⟩:=iM hb.1;have gF:c.spare.map.length=bn*R:=by
  simp only[oT,aJ,iC]at hs;have:=hs.2.1;rw[hR,hn,bX,bX]at this
  exact_mod_cast this
 have rV:b<bn:=by omega
 have kY:r<R:=by omega
 have bC:=Gy (R:=R) rV (show r+1<=R from kY);have WN:=Gy (R:=R) rV (gZ R);have hi:b*R+r<c.spare.map.length:=by omega
 rw[DZ,av,hx,av,cm,au,hbN,P4 hR (by omega) (by omega) rV gF,av];have ht:((c.spare.map.take ((b+1)*R)).drop (b*R))=gJ c.spare.map R b:=rfl;have fk:(gJ c.spare.map R b).length=R:=Gx (by rw[gF];exact kz R rV);have hgx:(gJ c.spare.map R b)[r]?=some c.spare.map[b*R+r]:=by rw[P3,List.getElem?_take_of_lt kY,List.getElem?_drop,bT hi]
 have WO:(gJ c.spare.map R b)[r]'(by omega)=c.spare.map[b*R+r]:=by
  have:=bT (l:=gJ c.spare.map R b) (i:=r) (by omega);rw[hgx]at this;injection this with this;exact this.symm
 dsimp only;rw[jV (by rw[je];omega),jV (by rw[je,gF];omega),dF,aq,hrN,aK ⟨by omega,by rw[ht,fk,bX];exact kY⟩];simp only[bX,ht,WO,av];rw[hR,<-Int.natCast_mul,<-Int.natCast_add,bX,iz,bT hi,Option.getD_some]
theorem GL{c:gu}{p:eM}(hl:p.weights.length<1073741823)(h:ru c p=true):tS c=true/\tT p=true:=by
 obtain⟨b,e,e2⟩:=V5 c p hl;have hb:b=true:=by
  rw[Lw c p hl]at e;injection e with e;rw[<-e,h]
 subst hb;have hc:=e2 rfl;refine⟨hc,?_⟩;unfold uM at e;obtain⟨y,e1⟩:=aeC p.fB;simp only[V3,Lk _ hl,e1,av,hc]at e;cases hp:tT p with
 |true=>rfl
 | false=>
  rw[hp]at e;exact absurd e (by simp)
structure Pq (c:ay):Prop where
 p:Pk c
 sp:oT c.config.aD c.spare=true
 se:c.spare.cg=c.config.cg
 mo:aP c.config.mapping.order 0 2=true
 q:∀r∈c.queue,(0<=r.line/\r.line<fE (gK c.config.aD c.spare))/\(0<=r.bM/\r.bM<=3)/\(0<=r.at_/\r.at_<=1000000)
 ql:c.queue.length<=12
 pe:∀a∈c.pending,fe c.config.aD a=true
 pl:c.pending.length<=128
 rf:gP c.bh=true
 dl:(c.bh.aN.length:Int)=bf c.config.aD
 sh:lT c.shares=true
 shl:c.shares.length=4
 dr:rq c.drain=true
 pw:nY c.aX=true
 ps:c.aX.state=c.br.aX
 nw:0<=c.now/\c.now<=1000000
 cap:0<=c.box.ck.cap/\c.box.ck.cap<=100000
 eE:Gu c.box.ck.eE=true
theorem Pq.of{c:ay}(hz:dS c)(h:ff c=true):Pq c:=by
 have hp:=Pk.of hz h;have z1:c.box.ck.weights.length<=1048576:=hz.1.1;simp only[ff,aJ]at h;obtain⟨h1,h2,h3,h4,h5,h6,h7,h8,h9,fJ,gT,jz,gU,js,jA,gC,od,lP,oY,mZ,vi,sN⟩:=h;obtain⟨f1,f2⟩:=GL (by omega) h1;simp only[tS,aJ]at f1;simp only[tT,aJ]at f2;obtain⟨f3,f4,f5,f6,f7,f8,f9⟩:=f2;simp only[uY,aJ,iC,hD,oW,c9,iA]at h9;obtain⟨h9,g1,g2,g3,g4,g5,g6⟩:=h9;simp only[jI,aJ,c9,iA,iB]at fJ;obtain⟨q1,q2⟩:=fJ;have jb:c.shares.length=4:=by
  have jz:(c.shares.length:Int)=4:=by simpa using jz
  omega
 refine⟨hp,h7,by simpa using h8,f1.2.2.1,λr hr=>?_,by omega,λa ha=>?_,by omega,h9,g1,gT,jb,gU,js,by simpa using jA,bO.1 h3,bO.1 f4,f9⟩
 ·obtain⟨i,hi,rfl⟩:=lV.1 hr;have hb:=q1 i hi;unfold wg at hb;rw[bT hi]at hb;simp only[we,aJ,iB]at hb;obtain⟨⟨k1,k2,k3,k4,k5,k6,k7⟩,_⟩:=hb;exact⟨⟨k3,k4⟩,bO.1 k2,bO.1 k7⟩
 ·obtain⟨i,hi,rfl⟩:=lV.1 ha;have hb:=g6 i hi;unfold BX at hb;rw[bT hi]at hb;simp only[aJ]at hb;exact hb.1
def LF(r:dj)(a:aV):Bool:=(mT r a.aE).open_&&((mT r a.aE).row==a.row)
def rC(r:dj)(a:aV)(w:Bool):aT:=
 bif !(mT r a.aE).open_ then ⟨1,a.aE,a.row,0⟩else bif (mT r a.aE).row != a.row then ⟨4,a.aE,0,0⟩else bif w then ⟨3,a.aE,0,a.cO⟩else ⟨2,a.aE,0,a.cO⟩
theorem LG{r:dj}{b:Int}(h:b.toNat<r.aI.length):mT r b=r.aI[b.toNat]:=by
 unfold mT;rw[iz,bT h];rfl
theorem Qn{b:Int}{n:Nat}(h0:0<=b)(h:b.toNat<n)(hn:n<=1048576):aP b 0 (W6 ((n:Int)-1))=true:=by
 rw[bD (by omega) (by omega)];exact bO.2 ⟨h0,by omega⟩
theorem afi{r:dj}{a:aV}(w:Bool)(h0:0<=a.aE)(h:a.aE.toNat<r.aI.length)(hl:r.aI.length<=1048576):BF r a w=some (rC r a w):=by
 unfold BF rC xI;rw[dw,av,Qn h0 h hl,cm,au,aK ⟨h0,h⟩,LG h];dsimp only;cases r.aI[a.aE.toNat].open_ with
 |false=>rfl
 | true=>
  rw[cm,au,aK ⟨h0,h⟩,au];cases r.aI[a.aE.toNat].row != a.row<;>cases w<;>rfl
theorem as9{r:dj}{b:Int}(h0:0<=b)(h:b.toNat<r.aI.length)(hl:r.aI.length<=1048576):OR r b=some (bif (mT r b).open_ then (mT r b).row else -1):=by
 unfold OR xI;rw[dw,av,Qn h0 h hl,cm,au,aK ⟨h0,h⟩,LG h];dsimp only;cases r.aI[b.toNat].open_ with
 |false=>rfl
 |true=>rw[cm,au,aK ⟨h0,h⟩];rfl
theorem ata{r:dj}{a:aV}(hr:0<=a.row)(h0:0<=a.aE)(h:a.aE.toNat<r.aI.length)(hl:r.aI.length<=1048576):DF r a=some (LF r a):=by
 unfold DF LF;rw[mS (by omega:¬ a.row = -1),aq,as9 h0 h hl,av];cases (mT r a.aE).open_ with
 |false=>rw[au,mz (by omega:¬ (-1:Int)=a.row)];rfl
 |true=>rfl
theorem atb{g:aR}{r:dj}{a:aV}(w:Bool)(h:fe g a=true):gx g (rC r a w)=true:=by
 obtain⟨hg,b1,b2,b3,b4,b5,b6⟩:=uV h;have e1:aP a.aE 0 (bf g-1)=true:=bO.2 ⟨b1,by omega⟩;have e2:aP a.row 0 (g.rows-1)=true:=bO.2 ⟨b3,by omega⟩;have e3:aP a.cO 0 (g.aU-1)=true:=bO.2 ⟨b5,by omega⟩;unfold rC gx tV;cases (mT r a.aE).open_<;>cases (mT r a.aE).row != a.row<;>cases w<;>simp[hg,aP,e1,e2,e3]<;>simp only[aP,aJ,iB]at e1 e2 e3<;>omega
theorem LH{g:aR}{k b:Int}(hg:cY g=true)(hk:k=4\/k=5)(hb:0<=b/\b<bf g):gx g ⟨k,b,0,0⟩=true:=by
 have e1:aP b 0 (bf g-1)=true:=bO.2 ⟨hb.1,by omega⟩;unfold gx tV;rcases hk with rfl|rfl<;>simp[hg,aP]<;>simp only[aP,aJ,iB]at e1<;>omega
theorem atc{g:aR}{a:aV}(h:fe g a=true):gx g ⟨1,a.aE,a.row,0⟩=true:=by
 obtain⟨hg,b1,b2,b3,b4,b5,b6⟩:=uV h;unfold gx tV;simp[hg,aP];omega
theorem afj{g:aR}{k:Int}(hg:cY g=true)(hk:6<=k/\k<=9):gx g ⟨k,0,0,0⟩=true:=by
 obtain⟨n,rfl⟩:=iM (show 0<=k by omega);have:n=6\/n=7\/n=8\/n=9:=by omega
 unfold gx;rw[hg];rcases this with rfl|rfl|rfl|rfl<;>rfl
theorem WQ(l:af aV)(b:Int)(hl:l.length<=1048576):BB l b=some (l.any λa=>a.aE==b):=by
 have hk:=GH (λa:aV=>a.aE==b) l;unfold BB Vx Vw;rw[Ww];have e:=eG (step:=F9) (fN (λa:aV=>a.aE==b) l) (λi=>((l,b,(l.length:Int),(i:Int),()),())) (if fN (λa:aV=>a.aE==b) l<l.length then .inl ((((fN (λa:aV=>a.aE==b) l:Nat):Int),()),())else .inr (.inl ((),()))) bB (λk h=>by
  have h2:=wm h (by omega);unfold F9 aH bI xG xI;dsimp only;rw[bz (by omega),aq,aK ⟨by omega,by omega⟩];simp only[bX];rw[h2,au,cK (by omega)]) (by
  by_cases bC:fN (λa:aV=>a.aE==b) l<l.length
  ·have h2:=B1 bC;unfold F9 aH bI xG xI;dsimp only;rw[bz (by omega),aq,aK ⟨by omega,by omega⟩];simp only[bX];rw[h2,aq,bu bC]
  ·unfold F9 aH bI xG xI;dsimp only;rw[bK (by omega),au,bJ bC]) (cT (by omega))
 rw[cZ]at e;rw[e];by_cases bC:fN (λa:aV=>a.aE==b) l<l.length
 ·rw[bu bC,bz bC];simp
 ·rw[bJ bC,bK bC];rfl
def u6(t:dm)(row:Int):aj Nat:=match t.rows.findIdx? (λe=>e==row)with
 |some i=>some i
 |none=>t.counts.findIdx? (λe=>e==t.fR)
def mE(t:dm)(row:Int):dm:=match t.rows.findIdx? (λe=>e==row)with
 |some i=>⟨t.rows,t.counts.set i (t.counts.getD i 0+1),t.fR⟩
 | none=>match t.counts.findIdx? (λe=>e==t.fR)with
  |some i=>⟨t.rows.set i row,t.counts.set i (t.fR+1),t.fR⟩
  |none=>⟨t.rows,t.counts,t.fR+1⟩
def zM(t:dm)(row dQ:Int):dm×Bool:=bif mC t&&(aP row 0 15&&aP dQ 2 1000)then (bif mC (mE t row)then (mE t row,match u6 t row with
    |some i=>((mE t row).counts.getD i 0).tmod dQ==0
    |none=>false)else (t,false))else (t,false)
structure Tk (t:dm):Prop where
 rl:t.rows.length<=16
 cl:t.counts.length=t.rows.length
 sp:0<=t.fR/\t.fR<=100000
 cs:∀i (h:i<t.counts.length),0<=t.counts[i]/\t.counts[i]<=100000
theorem Tk.of{t:dm}(h:mC t=true):Tk t:=by
 simp only[mC,aJ,iC,c9,iA]at h;obtain⟨h1,h2,h3,h4⟩:=h;have h1:=bO.1 h1;have h3:=bO.1 h3
 refine⟨by omega,by omega,h3,λi hi=>?_⟩
 have hb:=h4 i (by omega);rw[Wa (by omega) hi,aJ,aJ]at hb;have:=bO.1 hb.2.1;omega
theorem LI{T:Type}{p:T->Bool}{l:af T}{i:Nat}(h:l.findIdx? p=some i):∃ hi:i<l.length,p l[i]=true:=by
 obtain⟨hi,hp,_⟩:=qv.1 h;exact⟨hi,hp⟩
theorem afk{t:dm}(row:Int):(mE t row).rows.length=t.rows.length/\(mE t row).counts.length=t.counts.length:=by
 unfold mE;cases t.rows.findIdx? (λe=>e==row)with
 |some i=>simp
 | none=>
  cases t.counts.findIdx? (λe=>e==t.fR)with
  |some i=>simp
  |none=>simp
theorem atd{t:dm}(h:Tk t){row:Int}{i:Nat}(hi:u6 t row=some i):i<t.counts.length:=by
 have:=h.cl;unfold u6 at hi;split at hi
 next j hj=>injection hi with hi;subst hi;obtain⟨h1,_⟩:=LI hj;omega
 ·exact(LI hi).1
theorem ate(t:dm)(hz:nq t)(row dQ:Int):O2 t row dQ=some (zM t row dQ):=by
 have sw:∀x:Int,(λe:Int=>x==e)=λe=>e==x:=λx=>funext λe=>by rw[Bool.eq_iff_iff,iC,iC];exact eq_comm
 unfold O2 zM xC;rw[afa t hz,av,Wb,av];dsimp only;cases ht:mC t with
 |false=>rfl
 | true=>
  have tk:=Tk.of ht;have r1:=tk.rl;have r2:=tk.cl;have sQ:=tk.sp;rw[cm,au,dw,av,dF];cases h1:aP row 0 15 with
  |false=>rfl
  | true=>
   rw[cm,au,dw,av,dF];cases h2:aP dQ 2 1000 with
   |false=>rfl
   | true=>
    have hl:=bO.1 h2;rw[cm,au,aq,P0 _ _ (by omega),av,sw row];have WR:∀ (mw:Int) (t':dm),t'=mE t row->(mw=match u6 t row with | some i=>(i:Int) | none=>-1)->
      ((Bu t').bind λoJ=>bif (!oJ)then ((some t).bind λvX=>some (vX,false))else (bif (decide (mw >= (0:Int)))then if wF:0<=mw/\mw.toNat<t'.counts.length then if yb:mw.toNat<t'.counts.length then (if dQ=0 then none else some (t',(t'.counts[mw.toNat]'yb).tmod dQ==(0:Int)))else none else none else some (t',false)))=some (bif mC (mE t row)then (mE t row,match u6 t row with
        |some i=>((mE t row).counts.getD i 0).tmod dQ==0
        |none=>false)else (t,false)):=by
     intro mw t' e1 e2;subst e1;rw[Wb,av];cases h3:mC (mE t row)with
     |false=>rfl
     | true=>
      rw[cm,au,aq,e2];cases h4:u6 t row with
      |none=>rfl
      | some i=>
       have hi:i<(mE t row).counts.length:=by rw[(afk row).2];exact atd tk h4
       simp only[bX];rw[bz (by omega),aq,aK ⟨by omega,hi⟩,aK hi,bJ (by omega),iz,bT hi];rfl
    cases h0:t.rows.findIdx? (λe=>e==row)with
    | some i=>
     obtain⟨hi,_⟩:=LI h0;have GM:i<t.counts.length:=by omega
     have hc:=tk.cs i GM;have eI:u6 t row=some i:=by unfold u6;rw[h0]
     have eT:mE t row=⟨t.rows,t.counts.set i (t.counts[i]+1),t.fR⟩:=by unfold mE;simp only[h0];rw[iz,bT GM];rfl
     have e1:ko (λe=>e==row) t.rows=(i:Int):=by unfold ko;rw[h0]
     rw[e1,bK (by omega),au];simp only[bX];rw[bz (by omega),aq,aK ⟨by omega,GM⟩,aK GM,aK ⟨by omega,GM⟩,aK GM];have hw:W6 (t.counts[i]+1)=t.counts[i]+1:=bD (by omega) (by omega);simp only[hw];exact WR (i:Int) ⟨t.rows,t.counts.set i (t.counts[i]+1),t.fR⟩ eT.symm (by rw[eI])
    | none=>
     have e1:ko (λe=>e==row) t.rows = -1:=by unfold ko;rw[h0]
     rw[e1,bz (by omega),aq,P0 _ _ (by omega),av,sw t.fR];cases s7:t.counts.findIdx? (λe=>e==t.fR)with
     | some i=>
      obtain⟨hi,hp⟩:=LI s7;have hir:i<t.rows.length:=by omega
      have hp:t.counts[i]=t.fR:=by simpa using hp
      have eI:u6 t row=some i:=by unfold u6;rw[h0];exact s7
      have eT:mE t row=⟨t.rows.set i row,t.counts.set i (t.fR+1),t.fR⟩:=by unfold mE;rw[h0];simp only[s7]
      have e3:ko (λe=>e==t.fR) t.counts=(i:Int):=by unfold ko;rw[s7]
      rw[e3];simp only[bX];rw[bz (by omega),aq,aK ⟨by omega,hir⟩,aK hir,aq,aK ⟨by omega,hi⟩,aK hi,aK ⟨by omega,hi⟩,aK hi];have hw:W6 (t.fR+1)=t.fR+1:=bD (by omega) (by omega);simp only[hp,hw];exact WR (i:Int) ⟨t.rows.set i row,t.counts.set i (t.fR+1),t.fR⟩ eT.symm (by rw[eI])
     | none=>
      have eI:u6 t row=none:=by unfold u6;rw[h0];exact s7
      have eT:mE t row=⟨t.rows,t.counts,t.fR+1⟩:=by unfold mE;rw[h0];simp only[s7]
      have e3:ko (λe=>e==t.fR) t.counts = -1:=by unfold ko;rw[s7]
      have hw:W6 (t.fR+1)=t.fR+1:=bD (by omega) (by omega);rw[e3,bK (by omega),au,au];simp only[hw];exact WR (-1) ⟨t.rows,t.counts,t.fR+1⟩ eT.symm (by rw[eI])
def xJ(k:Int):dm:=⟨List.replicate k.toNat (-1),List.replicate k.toNat 0,0⟩
theorem atf{k:Int}(h:aP k 1 16=true):Gk k=some (xJ k,true):=by
 have hb:=bO.1 h;unfold Gk;have e:Dk ([(-1:Int)]:af Int) k=some (List.replicate k.toNat (-1)):=by
  unfold Dk;rw[bz hb.1,bz hb.2];rfl
 rw[dw,av,h,cm,au,e,av,bu ⟨by omega,Int.le_refl _,by omega⟩];rfl
def B8(r:eo)(b:Int):eo:=bif decide (r.aN.getD b.toNat 0 = -2)then r else ⟨r.aN.set b.toNat (r.aN.getD b.toNat 0-1),r.wait,r.gL⟩
theorem WS{r:eo}(h:gP r=true):∀ x∈r.aN,-2<=x/\x<=5:=by
 simp only[gP,aJ,c9,DX]at h;exact λx hx=>bO.1 (h.1 x hx)
theorem atg{α β:Type}{o:aj (α×β)}{a:α}(h:o.map Prod.fst=some a):∃ b,o=some (a,b):=by
 cases o with
 |none=>cases h
 | some x=>
  obtain⟨x1,x2⟩:=x;injection h with h;exact⟨x2,by rw[<-h]⟩
theorem ath{r:eo}(h:gP r=true){b:Int}(h0:0<=b)(h1:b.toNat<r.aN.length):∃ y,O7 r b=some (B8 r b,y):=by
 have hl:=zK h;have hx:=WS h _ (dy h1);have hg:r.aN.getD b.toNat 0=r.aN[b.toNat]:=by rw[iz,bT h1];rfl
 unfold O7 zn B8 xC xI;rw[gk (by simp;omega),aq,av,Gv _ (by omega),av,h,cm,au,dw,av,Qn h0 h1 (by omega),cm,au,aK ⟨h0,h1⟩,hg];dsimp only;by_cases h2:r.aN[b.toNat] = -2
 ·rw[bz h2,show (r.aN[b.toNat] == -2)=true by rw[h2];rfl];exact⟨_,rfl⟩
 ·rw[mz h2,bK h2,au,au,List.nil_append,aK ⟨h0,h1⟩,aK h1,aK ⟨h0,h1⟩,aK h1,bD (n:=r.aN[b.toNat]-1) (by omega) (by omega)];exact⟨_,rfl⟩
def Ec(p:jh)(k now:Int):jh:=bif nY p&&aP now p.since 1000000 then
 (bif (k==6)&&(p.state==0)then ⟨1,now,p.idle⟩else bif (k==8)&&(p.state==0)then ⟨2,now,p.idle⟩else bif (k==7)&&(p.state==1)then ⟨0,now,p.idle⟩else bif (k==9)&&(p.state==2)then ⟨0,now,p.idle⟩else p)else p
theorem Qo(p:jh){k:Int}(hk:6<=k/\k<=9)(now:Int):∃ y,Pb p k now=some (Ec p k now,y):=by
 refine atg ?_;unfold Pb Ec;rw[PZ,av];cases nY p with
 |false=>rfl
 | true=>
  rw[cm,au,dw,av];cases aP now p.since 1000000 with
  |false=>rfl
  | true=>
   have:k=6\/k=7\/k=8\/k=9:=by omega
   rcases this with rfl|rfl|rfl|rfl
   ·cases h:p.state==0<;>simp[bne,h]
   ·cases h:p.state==1<;>simp[bne,h]
   ·cases h:p.state==0<;>simp[bne,h]
   ·cases h:p.state==2<;>simp[bne,h]
theorem afl{α β T:Type}{step:α->aj (α⊕β)}(p:T->Bool)(S:Nat->Nat->af T->α)(Z:Nat->af T->β)
  (hs:∀i j s (hj:j<s.length),i<=j->j<1073741824->step (S i j s)=some (.inl (bif p s[j]then S i (j+1) s else S (i+1) (j+1) (s.set i s[j]))))
  (hz:∀i s,i<=s.length->step (S i s.length s)=some (.inr (Z i s))):
  ∀(n i j fuel:Nat) (s:af T),j+n=s.length->i<=j->s.length<1073741824->n<fuel->∃s' i',iter step fuel (S i j s)=some (Z i' s')/\s'.length=s.length/\i'<=s.length/\s'.take i'=s.take i++(s.drop j).filter (λx=>!p x):=by
 intro n
 induction n with
 | zero=>
  intro i j fuel s hn hi hl hf;obtain⟨f,rfl⟩:∃f,fuel=f+1:=⟨fuel-1,by omega⟩
  have ej:j=s.length:=by omega
  subst ej;refine⟨s,i,?_,rfl,hi,by simp⟩;unfold iter;rw[hz i s hi]
 | succ n ih=>
  intro i j fuel s hn hi hl hf;obtain⟨f,rfl⟩:∃f,fuel=f+1:=⟨fuel-1,by omega⟩
  have hj:j<s.length:=by omega
  unfold iter;rw[hs i j s hj hi (by omega)];have hd:s.drop j=s[j]::s.drop (j+1):=List.drop_eq_getElem_cons hj;cases hp:p s[j]with
  | true=>
   obtain⟨s',i',h1,h2,h3,h4⟩:=ih i (j+1) f s (by omega) (by omega) hl (by omega);refine⟨s',i',h1,h2,h3,?_⟩;rw[h4,hd,List.filter_cons_of_neg (by simp[hp])]
  | false=>
   obtain⟨s',i',h1,h2,h3,h4⟩:=ih (i+1) (j+1) f (s.set i s[j]) (by simp;omega) (by omega) (by simp;omega) (by omega);refine⟨s',i',h1,by simpa using h2,by simpa using h3,?_⟩;rw[h4,hd,List.filter_cons_of_pos (by simp[hp]),List.drop_set_of_lt (by omega),List.take_add_one,List.getElem?_set_self (by omega),List.take_set_of_le (by omega)];simp
end Go.Proofs.YtcioagfjiccleaaGreat
