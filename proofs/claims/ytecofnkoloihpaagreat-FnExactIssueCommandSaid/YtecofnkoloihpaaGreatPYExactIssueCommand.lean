/-
  Plain laws. Nothing here is a claim.
-/
import Derived.Test.YtecofnkoloihpaaGreatVZ
import Derived.Test.YtecofnkoloihpaaGreatOpenV
import Derived.Test.YtecofnkoloihpaaGreatG1
import Derived.Test.YtecofnkoloihpaaGreatG2
import Derived.Test.YtecofnkoloihpaaGreatG3
import Derived.Test.YtecofnkoloihpaaGreatG4
import Derived.Test.YtecofnkoloihpaaGreatG5
import Derived.Test.YtecofnkoloihpaaGreatG6
import Derived.Test.YtecofnkoloihpaaGreatG7
import Derived.Test.YtecofnkoloihpaaGreatG8
import Derived.Test.YtecofnkoloihpaaGreatG9
namespace Go.Proofs.YtecofnkoloihpaaGreat
open Go.RowKit
set_option linter.unusedVariables false
set_option linter.unusedSimpArgs false
set_option maxRecDepth 100000
theorem aY{n:Int}(h1:-9223372036854775808<=n)(h2:n<9223372036854775808):W6 n=n:=by
 exact(IntKind.wrap_i64 n).trans (by omega)
theorem WK{α β:Type}{step:α->ak (α⊕β)}(I:α->Prop)(m:α->Nat)(Q:β->Prop)
  (h:∀x,I x->(∃y,step x=some (.inl y)/\I y/\m y<m x)\/∃z,step x=some (.inr z)/\Q z):
  ∀(n:Nat) (x:α),I x->m x<n->∃z,iter step n x=some z/\Q z
 |0,x,_,hm=>by omega
 | n+1,x,hx,hm=>by
  unfold iter;rcases h x hx with ⟨y,h1,h2,h3⟩|⟨z,h1,h2⟩
  ·rw[h1];exact WK I m Q h n y h2 (by omega)
  ·rw[h1];exact⟨z,rfl,h2⟩
theorem av{α β:Type}(x:α)(f:α->ak β):(some x).bind f=f x:=rfl
theorem gZ{α β T:Type}{step:α->ak (α⊕β)}(l:af T)(q:T->Bool)(S:Nat->α)(zf z:β)(fuel:Nat)(hs:∀ k (h:k<l.length),step (S k)=some (bif q l[k]then .inl (S (k+1))else .inr zf))(hz:step (S l.length)=some (.inr z))(hf:l.length<fuel):
  iter step fuel (S 0)=some (bif l.all q then z else zf):=by
 have key:∀ (n i fuel:Nat),i+n=l.length->n<fuel->iter step fuel (S i)=some (bif (l.drop i).all q then z else zf):=by
  intro n
  induction n with
  | zero=>
   intro i fuel hi hf
   match fuel,hf with
   | f+1,_=>
    have:i=l.length:=by omega
    subst this;unfold iter;rw[hz];simp
  | succ n ih=>
   intro i fuel hi hf
   match fuel,hf with
   | f+1,hf=>
    have bW:i<l.length:=by omega
    unfold iter;rw[hs i bW,List.drop_eq_getElem_cons bW,List.all_cons];cases q l[i]with
    |true=>simp only[aq,cM];exact ih (i+1) f (by omega) (by omega)
    |false=>rfl
 exact key l.length 0 fuel (by omega) hf
theorem gJ{α β:Type}{step:α->ak (α⊕β)}(n:Nat)(S:Nat->α)(z:β)(fuel:Nat)(hs:∀ k,k<n->step (S k)=some (.inl (S (k+1))))(hz:step (S n)=some (.inr z))(hf:n<fuel):iter step fuel (S 0)=some z:=by
 have key:∀ (m i fuel:Nat),i+m=n->m<fuel->iter step fuel (S i)=some z:=by
  intro m
  induction m with
  | zero=>
   intro i fuel hi hf
   match fuel,hf with
   | f+1,_=>
    have:i=n:=by omega
    subst this;unfold iter;rw[hz]
  | succ m ih=>
   intro i fuel hi hf
   match fuel,hf with
   | f+1,hf=>
    unfold iter;rw[hs i (by omega)];exact ih (i+1) f (by omega) (by omega)
 exact key n 0 fuel (by omega) hf
theorem avl{α β:Type}{step:α->ak (α⊕β)}(n:Nat)(I:Nat->α->Prop)(Q:β->Prop){x:α}(fuel:Nat)(h0:I 0 x)(hs:∀ k,k<n->∀ x,I k x->(∃ y,step x=some (.inl y)/\I (k+1) y)\/∃ z,step x=some (.inr z)/\Q z)(hz:∀ x,I n x->∃ z,step x=some (.inr z)/\Q z)(hf:n<fuel):∃ z,iter step fuel x=some z/\Q z:=by
 have key:∀ (m i fuel:Nat) (x:α),i+m=n->m<fuel->I i x->∃ z,iter step fuel x=some z/\Q z:=by
  intro m
  induction m with
  | zero=>
   intro i fuel x hi hf hx
   match fuel,hf with
   | f+1,_=>
    have:i=n:=by omega
    subst this;obtain⟨z,h1,h2⟩:=hz x hx;unfold iter;rw[h1];exact⟨z,rfl,h2⟩
  | succ m ih=>
   intro i fuel x hi hf hx
   match fuel,hf with
   | f+1,hf=>
    unfold iter;rcases hs i (by omega) x hx with ⟨y,h1,h2⟩|⟨z,h1,h2⟩
    ·rw[h1];exact ih (i+1) f y (by omega) (by omega) h2
    ·rw[h1];exact⟨z,rfl,h2⟩
 exact key n 0 fuel x (by omega) hf h0
def upto{α:Type}(f:α->α)(l:af α)(i:Nat):af α:=(l.take i).map f++l.drop i
theorem WL{α:Type}(f:α->α)(l:af α)(i:Nat):(upto f l i).length=l.length:=by
 simp[upto];omega
theorem agP{α:Type}(f:α->α)(l:af α):upto f l 0=l:=by simp[upto]
theorem agQ{α:Type}(f:α->α)(l:af α):upto f l l.length=l.map f:=by simp[upto]
theorem agR{α:Type}(f:α->α)(l:af α)(i:Nat)(h:i<l.length)(h':i<(upto f l i).length):(upto f l i)[i]=l[i]:=by
 simp only[upto];rw[List.getElem_append_right (by simp;omega)];simp[Nat.min_eq_left (Nat.le_of_lt h)]
theorem agS{α:Type}(f:α->α)(l:af α)(i:Nat)(h:i<l.length):(upto f l i).set i (f l[i])=upto f l (i+1):=by
 have hm:min i l.length=i:=by omega
 have e:l.drop i=l[i]::l.drop (i+1):=List.drop_eq_getElem_cons h;simp only[upto];rw[List.set_append_right _ _ (by simp;omega),e,List.take_succ_eq_append_getElem h];simp only[List.map_append,lK,List.map_nil,gB,jN,hm,Nat.sub_self,List.set_cons_zero,List.append_assoc,List.cons_append,List.nil_append]
theorem kX{x y:Int}(h:¬ x=y):(x==y)=false:=by simp[h]
theorem iZ{x y:Int}(h:¬ x=y):(x != y)=true:=by simp[h]
theorem fl{n:Nat}(h:n<1073741824):bH n=true:=bF h
theorem bZ{i:Nat}(h:i<4611686018427387904):W6 ((i:Int)+1)=((i+1:Nat):Int):=by
 rw[aY (by omega) (by omega)];simp
theorem cP{n:Nat}(h:n<1073741824):n<bA:=by unfold bA;omega
def aM(x a b:Int):Bool:=decide (a<=x)&&decide (x<=b)
theorem de{x a b:Int}:aM x a b=true ↔ a<=x/\x<=b:=by simp[aM]
theorem fC(x a b:Int):cS x a b=some (aM x a b):=by
 unfold cS aM;by_cases h:a<=x<;>simp[h]
theorem fP(x a b:Int):ct x a b=some (aM x a b):=fC x a b
def dw(g:aX):Bool:=aM g.cQ 1 2&&aM g.aI 1 4&&aM g.rows 2 16&&aM g.aL 1 8
theorem yz(g:aX):tR g=some (dw g):=by
 unfold tR dw;simp only[fC,av];cases aM g.cQ 1 2<;>cases aM g.aI 1 4<;>cases aM g.rows 2 16<;>rfl
theorem FD(g:aX):yc g=some (dw g):=by
 unfold yc dw;simp only[fP,av];cases aM g.cQ 1 2<;>cases aM g.aI 1 4<;>cases aM g.rows 2 16<;>rfl
theorem iC{g:aX}(h:dw g=true):1<=g.cQ/\g.cQ<=2/\1<=g.aI/\g.aI<=4/\2<=g.rows/\g.rows<=16/\1<=g.aL/\g.aL<=8:=by
 simp only[dw,aM,bx,decide_eq_true_eq]at h;omega
def bq(g:aX):Int:=bif dw g then g.cQ*g.aI else 0
theorem g9(g:aX):0<=bq g/\bq g<=8:=by
 unfold bq;cases h:dw g with
 |false=>simp
 | true=>
  obtain⟨h1,h2,h3,h4,_⟩:=iC h;simp only[aq];rcases(by omega:g.cQ=1\/g.cQ=2)with e|e<;>rw[e]<;>omega
theorem agT{g:aX}(h:dw g=true):1<=bq g:=by
 obtain⟨h1,h2,h3,h4,_⟩:=iC h;simp only[bq,h,aq];rcases(by omega:g.cQ=1\/g.cQ=2)with e|e<;>rw[e]<;>omega
theorem pQ(g:aX):pP g=some (bq g):=by
 have hb:=g9 g;unfold pP;rw[yz,av];unfold bq at hb ⊢;cases h:dw g with
 |false=>rfl
 | true=>
  rw[h]at hb;simp only[aq]at hb;simp only[bS,au,aq];rw[aY (by omega) (by omega)]
theorem tS(g:aX):rI g=some (bq g):=by
 have hb:=g9 g;unfold rI;rw[FD,av];unfold bq at hb ⊢;cases h:dw g with
 |false=>rfl
 | true=>
  rw[h]at hb;simp only[aq]at hb;simp only[bS,au,aq];rw[aY (by omega) (by omega)]
def iU(g:aX):Int:=bif dw g then bq g*g.rows else 0
def jJ(g:aX):Int:=bif dw g then bq g*g.rows*g.aL else 0
theorem WM{a b A B:Int}(h1:0<=a)(h2:a<=A)(h3:0<=b)(h4:b<=B):0<=a*b/\a*b<=A*B:=
 ⟨Int.mul_nonneg h1 h3,Int.le_trans (Int.mul_le_mul_of_nonneg_right h2 h3) (Int.mul_le_mul_of_nonneg_left h4 (by omega))⟩
theorem va(g:aX):0<=iU g/\iU g<=128:=by
 unfold iU;cases h:dw g with
 |false=>simp
 | true=>
  obtain⟨_,_,_,_,h5,h6,_⟩:=iC h;have:=g9 g;exact WM this.1 this.2 (by omega) h6
theorem tT(g:aX):0<=jJ g/\jJ g<=1024:=by
 have hr:=va g;unfold jJ iU at *
 cases h:dw g with
 |false=>simp
 | true=>
  rw[h]at hr;obtain⟨_,_,_,_,h5,h6,h7,h8⟩:=iC h;exact WM hr.1 hr.2 (by omega) h8
theorem WN(g:aX):CL g=some (jJ g):=by
 have h1:=tT g;have h2:=va g;unfold CL;rw[pQ,av];unfold jJ iU at *
 cases h:dw g with
 |false=>simp only[bq,h,au,Int.zero_mul];rw[show W6 0=0 from rfl,Int.zero_mul];rfl
 | true=>
  rw[h]at h1 h2;simp only[aq]at h1 h2;simp only[aq];rw[aY (n:=bq g*g.rows) (by omega) (by omega),aY (by omega) (by omega)]
theorem WO(g:aX):Cv g=some (jJ g):=by
 have h1:=tT g;have h2:=va g;unfold Cv;rw[FD,av,tS,av];unfold jJ iU at *
 cases h:dw g with
 |false=>rfl
 | true=>
  rw[h]at h1 h2;simp only[aq]at h1 h2;simp only[bS,aq,au];rw[aY (n:=bq g*g.rows) (by omega) (by omega),aY (by omega) (by omega)]
def jX(g:aX)(a:aP):Bool:=dw g&&aM a.ay 0 (bq g-1)&&aM a.row 0 (g.rows-1)&&aM a.bL 0 (g.aL-1)
theorem FE{g:aX}{a:aP}(h:jX g a=true):dw g=true/\0<=a.ay/\a.ay<bq g/\0<=a.row/\a.row<g.rows/\0<=a.bL/\a.bL<g.aL:=by
 simp only[jX,aM,bx,decide_eq_true_eq]at h;exact⟨h.1.1.1,by omega⟩
theorem FF{g:aX}{a:aP}(h:dw g=true)(h1:0<=a.ay)(h2:a.ay<bq g)(h3:0<=a.row)(h4:a.row<g.rows)(h5:0<=a.bL)(h6:a.bL<g.aL):jX g a=true:=by
 simp only[jX,aM,bx,decide_eq_true_eq];exact⟨⟨⟨h,by omega⟩,by omega⟩,by omega⟩
theorem WQ(g:aX)(a:aP):CO g a=some (jX g a):=by
 unfold CO jX;simp only[yz,pQ,fC,av];have hb:=g9 g;cases h:dw g with
 |false=>rfl
 | true=>
  obtain⟨_,_,_,_,h5,h6,h7,h8⟩:=iC h;rw[aY (n:=bq g-1) (by omega) (by omega),aY (n:=g.rows-1) (by omega) (by omega),aY (n:=g.aL-1) (by omega) (by omega)];cases aM a.ay 0 (bq g-1)<;>cases aM a.row 0 (g.rows-1)<;>rfl
theorem WR(g:aX)(a:aP):CB g a=some (jX g a):=by
 unfold CB jX;simp only[tS,fP,av];have hb:=g9 g;rw[aY (n:=bq g-1) (by omega) (by omega)];cases h:dw g with
 | false=>
  have:aM a.ay 0 (bq g-1)=false:=by
   simp only[bq,h,au,aM];by_cases hx:0<=a.ay<;>simp[hx];omega
  rw[this];rfl
 | true=>
  obtain⟨_,_,_,_,h5,h6,h7,h8⟩:=iC h;rw[aY (n:=g.rows-1) (by omega) (by omega),aY (n:=g.aL-1) (by omega) (by omega)];cases aM a.ay 0 (bq g-1)<;>cases aM a.row 0 (g.rows-1)<;>rfl
theorem yA{b n r R:Int}(h1:0<=b)(h2:b<n)(h3:0<=r)(h4:r<R):0<=b*R/\0<=b*R+r/\b*R+r<n*R:=by
 have e1:0<=b*R:=Int.mul_nonneg h1 (by omega);have e2:(b+1)*R<=n*R:=Int.mul_le_mul_of_nonneg_right (by omega) (by omega);rw[Int.add_mul]at e2;omega
def rP(g:aX)(a:aP):Int:=bif jX g a then (a.ay*g.rows+a.row)*g.aL+a.bL else -1
theorem WS{g:aX}{a:aP}(h:jX g a=true):0<=rP g a/\rP g a<jJ g/\0<=a.ay*g.rows/\0<=a.ay*g.rows+a.row/\a.ay*g.rows+a.row<iU g/\0<=(a.ay*g.rows+a.row)*g.aL:=by
 obtain⟨hg,h1,h2,h3,h4,h5,h6⟩:=FE h;obtain⟨r0,r1,r2⟩:=yA h1 h2 h3 h4;obtain⟨l0,l1,l2⟩:=yA r1 r2 h5 h6;simp only[rP,h,jJ,iU,hg,aq];omega
theorem WT(g:aX)(a:aP):CV g a=some (rP g a):=by
 unfold CV;rw[WQ,av];cases h:jX g a with
 |false=>simp[rP,h]
 | true=>
  have hb:=WS h;have h1:=tT g;have h2:=va g;obtain⟨hg,b1,b2,b3,b4,b5,b6⟩:=FE h;obtain⟨_,_,_,_,g5,g6,g7,g8⟩:=iC hg;simp only[rP,h,aq]at hb ⊢;simp only[bS,au];rw[aY (n:=a.ay*g.rows) (by omega) (by omega),aY (n:=a.ay*g.rows+a.row) (by omega) (by omega),aY (n:=(a.ay*g.rows+a.row)*g.aL) (by omega) (by omega),aY (by omega) (by omega)]
theorem avm(g:aX)(a:aP):OF g a=some (rP g a):=by
 unfold OF;rw[WR,av];cases h:jX g a with
 |false=>simp[rP,h]
 | true=>
  have hb:=WS h;have h1:=tT g;have h2:=va g;obtain⟨hg,b1,b2,b3,b4,b5,b6⟩:=FE h;obtain⟨_,_,_,_,g5,g6,g7,g8⟩:=iC hg;simp only[rP,h,aq]at hb ⊢;simp only[bS,au];rw[aY (n:=a.ay*g.rows) (by omega) (by omega),aY (n:=a.ay*g.rows+a.row) (by omega) (by omega),aY (n:=(a.ay*g.rows+a.row)*g.aL) (by omega) (by omega),aY (by omega) (by omega)]
theorem wC{α β:Type}{step:α->ak (α⊕β)}(S:Nat->α){z:β}:∀ (n i fuel:Nat),(∀ k,i<=k->k<i+n->step (S k)=some (.inl (S (k+1))))->step (S (i+n))=some (.inr z)->n<fuel->iter step fuel (S i)=some z
 | 0,i,fuel,_,hz,hf=>by
  match fuel,hf with
  |f+1,_=>unfold iter;rw[Nat.add_zero]at hz;rw[hz]
 | n+1,i,fuel,hs,hz,hf=>by
  match fuel,hf with
  | f+1,hf=>
   unfold iter;rw[hs i (gj _) (by omega)];exact wC S n (i+1) f (λk h1 h2=>hs k (by omega) (by omega)) (by rw[show i+1+n=i+(n+1) by omega];exact hz) (by omega)
theorem AS{i:Nat}(h:i<4611686018427387904):W6 ((i:Int)+1)=((i+1:Nat):Int):=by
 rw[aY (by omega) (by omega)];simp
structure Cok (b:List Int) (c:F1):Prop where
 eq:c.b=b
 lo:0<=c.i
 hi:c.i<=b.length
 len:b.length<=1073741823
theorem avn(x a b:Int):cS x a b=some (decide (a<=x)&&decide (x<=b)):=by
 unfold cS;by_cases h:a<=x
 ·have:decide (x >= a)=true:=bF h;rw[this];rfl
 ·have:decide (x >= a)=false:=bD h;rw[this];rfl
theorem agU{x a b:Int}(h:a<=x)(h':x<=b):cS x a b=some true:=by
 rw[avn,bF h,bF h'];rfl
theorem avo{x a b:Int}(h:a<=x)(h':x<=b):ct x a b=some true:=agU h h'
def opens:Nat->af c8->af Int
 |_,[]=>[]
 |i,b::bs=>bif b.open_ then (i:Int)::opens (i+1) bs else opens (i+1) bs
theorem agV(i:Nat)(a b:af c8):opens i (a++b)=opens i a++opens (i+a.length) b:=by
 induction a generalizing i with
 |nil=>simp[opens]
 | cons x a ih=>
  simp only[List.cons_append,opens,nj];rw[ih,show i+1+a.length=i+(a.length+1) by omega];cases x.open_<;>rfl
theorem agW(i:Nat)(l:af c8):(opens i l).length<=l.length:=by
 induction l generalizing i with
 |nil=>simp[opens]
 | cons x a ih=>
  have:=ih (i+1);simp only[opens];cases x.open_<;>simp<;>omega
theorem Lp{α:Type}{l:af α}{i:Nat}(h:i<l.length):l.take (i+1)=l.take i++[l[i]]:=by
 rw[List.take_succ_eq_append_getElem h]
theorem agX(r:dy)(h:r.aI.length<1073741823):wz r=some (opens 0 r.aI):=by
 unfold wz bQ;have e:=wC (step:=Fj) (λi=>(((),r.aI,(r.aI.length:Int),(i:Int),()),(opens 0 (r.aI.take i),()))) (z:=.inl (((),()),(opens 0 r.aI,()))) r.aI.length 0 bA (λk _ hk=>?_) ?_ (by unfold bA;omega)
 ·have e:iter Fj bA (((),r.aI,(r.aI.length:Int),(0:Int),()),(([]:af Int),()))=_:=e;rw[e];rfl
 ·have hk:k<r.aI.length:=by omega
  unfold Fj ax xG xI;dsimp only;have c1:decide ((k:Int)<(r.aI.length:Int))=true:=bF (by omega);have c2:0<=(k:Int)/\(k:Int).toNat<r.aI.length:=⟨by omega,by simpa using hk⟩
  have hl:=agW 0 (r.aI.take k);rw[jN]at hl;have c3:bH ((opens 0 (r.aI.take k)).length+([(k:Int)]:af Int).length)=true:=by
   unfold bH;refine bF ?_;simp;omega
  rw[c1,aq,aG c2,AS (by omega),Lp hk,agV];simp only[cc,opens,jN,fV,Nat.min_eq_left (Nat.le_of_lt hk)];cases r.aI[k].open_ with
  |true=>rw[aq,c3];rfl
  |false=>rw[au,au,List.append_nil]
 ·rw[fV];unfold Fj ax xG xI;dsimp only;have c1:decide ((r.aI.length:Int)<(r.aI.length:Int))=false:=bD (by omega);rw[c1,au,mL]
def gmT:Nat:=116196760129267793630862849262464326346044543732748708940920453221664288556434379745879494961270582141731748813355742142288220638766218855867759359510984593843506004200114943278699875244065120512813025380665946106619127097398772031257643617143689515450995722003729973585221105779229319991106539050771048038400
def gm(a b:Nat):Nat:=(gmT / 2 ^ (4*(16*a+b))) % 16
def pwT:Nat:=44684875893970114885940500792407720993
def pw(n:Nat):Nat:=(pwT / 2 ^ (4*n)) % 16
def kE(f:Nat->Bool):Bool:=(List.range 16).all f
theorem iD{f:Nat->Bool}(h:kE f=true){a:Nat}(ha:a<16):f a=true:=by
 have:=dQ.1 h a (jY.2 ha);exact this
theorem iw(a b:Nat):gm a b<16:=Nat.mod_lt _ (by decide)
theorem vb(n:Nat):pw n<16:=Nat.mod_lt _ (by decide)
theorem avp:(kE λa=>kE λb=>kW (Int.ofNat a) (Int.ofNat b)==some (Int.ofNat (gm a b)))=true:=by kernel_rfl
theorem avq:((List.range 31).all λn=>Kq 2 (Int.ofNat n)==some (Int.ofNat (pw n)))=true:=by kernel_rfl
theorem agY:(kE λa=>kE λb=>decide (bits .xor .i64 (Int.ofNat a) (Int.ofNat b)=Int.ofNat (a ^^^ b))&&Nat.blt (a ^^^ b) 16)=true:=by kernel_rfl
theorem avr:(kE λa=>kE λb=>kE λc=>Nat.beq (gm (a ^^^ b) c) (gm a c ^^^ gm b c))=true:=by kernel_rfl
theorem agZ:(kE λa=>Nat.beq (gm a 1) a&&Nat.beq (gm 0 a) 0)=true:=by kernel_rfl
theorem avs:(kE λs0=>kE λs1=>kE λs2=>
  (λy z=>(λx=>Nat.beq (gm x 1 ^^^ (gm y 1 ^^^ (gm z 1 ^^^ s0))) 0&&Nat.beq (gm x 1 ^^^ (gm y 2 ^^^ (gm z 4 ^^^ s1))) 0&&Nat.beq (gm x 1 ^^^ (gm y 4 ^^^ (gm z 3 ^^^ s2))) 0) (s0 ^^^ y ^^^ z))
   (gm (gm 2 (s0 ^^^ s1) ^^^ gm 5 (s0 ^^^ s2)) 13) (gm (gm 3 (s0 ^^^ s2) ^^^ gm 5 (s0 ^^^ s1)) 13))=true:=by kernel_rfl
theorem avt:CZ 4=some 13:=by kernel_rfl
theorem C9{a b:Nat}(ha:a<16)(hb:b<16):kW (a:Int) (b:Int)=some (gm a b:Int):=by
 have h:=iD (iD avp ha) hb;exact eq_of_beq h
theorem avu{n:Nat}(h:n<31):Kq 2 (n:Int)=some (pw n:Int):=eq_of_beq (dQ.1 avq n (jY.2 h))
theorem sR{a b:Nat}(ha:a<16)(hb:b<16):bits .xor .i64 (a:Int) (b:Int)=((a ^^^ b:Nat):Int):=by
 have h:=iD (iD agY ha) hb;rw[bx]at h;exact of_decide_eq_true h.1
theorem nM{a b:Nat}(ha:a<16)(hb:b<16):a ^^^ b<16:=by
 have h:=iD (iD agY ha) hb;rw[bx]at h;exact cT h.2
theorem avv{a b c:Nat}(ha:a<16)(hb:b<16)(hc:c<16):gm (a ^^^ b) c=gm a c ^^^ gm b c:=cr (iD (iD (iD avr ha) hb) hc)
theorem avw{a:Nat}(ha:a<16):gm a 1=a:=by
 have h:=iD agZ ha;rw[bx]at h;exact cr h.1
theorem QL{a:Nat}(ha:a<16):gm 0 a=0:=by
 have h:=iD agZ ha;rw[bx]at h;exact cr h.2
abbrev bf (w:af Nat):af Int:=w.map λ(n:Nat)=>(n:Int)
def ek(w:af Nat):Prop:=∀x∈w,x<16
theorem gT(w:af Nat):(bf w).length=w.length:=by simp[bf]
theorem vc{w:af Nat}{k:Nat}(h:k<(bf w).length):(bf w)[k]=((w.getD k 0:Nat):Int):=by
 have h':k<w.length:=by rw[gT]at h;exact h
 simp[bf,fX,cu h']
theorem ek.get{w:af Nat}(h:ek w)(k:Nat):w.getD k 0<16:=by
 by_cases hk:k<w.length
 ·simp only[fX,cu hk,Option.getD_some];exact h _ (fW hk)
 ·simp[fX,List.getElem?_eq_none (Nat.le_of_not_lt hk)]
theorem WU{w:af Nat}(hw:ek w)(hl:w.length<1000)(n:Int):wA (bf w) n=some ((w.length:Int)==n):=by
 unfold wA bR;have e:=wC (step:=ym) (λi=>((bf w,n,bf w,((bf w).length:Int),(i:Int),()),())) (z:=.inr (.inl ((bf w,n,()),()))) w.length 0 bA (λk _ hk=>?_) ?_ (by unfold bA;omega)
 ·have e:iter ym bA ((bf w,n,bf w,((bf w).length:Int),(0:Int),()),())=_:=e;rw[e];show some (((bf w).length:Int)==n)=_;rw[gT]
 ·have hk:k<(bf w).length:=by rw[gT];omega
  unfold ym ax bu xG xI;dsimp only;have c1:decide ((k:Int)<((bf w).length:Int))=true:=bF (by omega);have c2:0<=(k:Int)/\(k:Int).toNat<(bf w).length:=⟨by omega,by simpa using hk⟩
  rw[c1,aq,aG c2];have c3:(bf w)[(k:Int).toNat]'c2.2=((w.getD k 0:Nat):Int):=vc hk;rw[c3];have:=hw.get k;unfold CM;rw[agU (by omega) (by omega),av,av,AS (by omega)];rfl
 ·unfold ym ax bu xG xI;dsimp only;have c1:decide (((0+w.length:Nat):Int)<((bf w).length:Int))=false:=bD (by rw[gT];omega);rw[c1,au]
def bX(w:af Nat)(j:Nat):Nat->Nat
 |0=>0
 |i+1=>bX w j i ^^^ gm (w.getD i 0) (pw (i*j))
theorem sS(w:af Nat)(j:Nat):∀ i,bX w j i<16
 |0=>Nat.zero_lt_succ _
 |i+1=>nM (sS w j i) (iw _ _)
theorem avx{w:af Nat}(hw:ek w)(hl:w.length=11)(j:Nat)(hj:j<3)(a b:Int)(o:af Int)(ho:j<o.length)(h0:o.set j 0=o):
  iter CY bA ((bf w,(),(j:Int),a,b,bf w,((bf w).length:Int),(0:Int),()),(o,()))=some (.inl ((bf w,(),a,b,()),(o.set j (bX w j 11:Int),()))):=by
 have e:=wC (step:=CY) (λi=>((bf w,(),(j:Int),a,b,bf w,((bf w).length:Int),(i:Int),()),(o.set j (bX w j i:Int),()))) (z:=.inl ((bf w,(),a,b,()),(o.set j (bX w j 11:Int),()))) 11 0 bA (λk _ hk=>?_) ?_ (by unfold bA;omega)
 ·have e:iter CY bA ((bf w,(),(j:Int),a,b,bf w,((bf w).length:Int),(0:Int),()),(o.set j 0,()))=_:=e;rw[h0]at e;exact e
 ·have hk:k<(bf w).length:=by rw[gT];omega
  unfold CY xC ax xG xI;dsimp only;have c1:decide ((k:Int)<((bf w).length:Int))=true:=bF (by omega);have c2:0<=(k:Int)/\(k:Int).toNat<(bf w).length:=⟨by omega,by simpa using hk⟩
  have c4:0<=(j:Int)/\(j:Int).toNat<(o.set j (bX w j k:Int)).length:=⟨by omega,by simpa using ho⟩
  have c3:(bf w)[(k:Int).toNat]'c2.2=((w.getD k 0:Nat):Int):=vc hk;have c5:(o.set j (bX w j k:Int))[(j:Int).toNat]'c4.2=(bX w j k:Int):=qM _;rw[c1,aq,aG c2,aG c4,aG c4.2,c3,c5];have hkj:k*j<=20:=Nat.le_trans (Nat.mul_le_mul (show k<=10 by omega) (show j<=2 by omega)) (by decide);have c6:W6 ((k:Int)*(j:Int))=((k*j:Nat):Int):=by
   rw[<-Int.natCast_mul,aY (by omega) (by omega)]
  rw[c6,avu (by omega),av,C9 (hw.get k) (vb _),av,aG c4,aG c4.2,sR (sS _ _ _) (iw _ _),AS (by omega)];have c7:(o.set j (bX w j k:Int)).set (j:Int).toNat ((bX w j k ^^^ gm (w.getD k 0) (pw (k*j)):Nat):Int)=o.set j (bX w j (k+1):Int):=List.set_set ..;rw[c7]
 ·unfold CY xC ax xG xI;dsimp only;have c1:decide (((0+11:Nat):Int)<((bf w).length:Int))=false:=bD (by rw[gT];omega);rw[c1,au]
def tU(w:af Nat):Nat->af Int
 |0=>[0,0,0]
 |1=>[(bX w 0 11:Int),0,0]
 |2=>[(bX w 0 11:Int),(bX w 1 11:Int),0]
 |_=>[(bX w 0 11:Int),(bX w 1 11:Int),(bX w 2 11:Int)]
theorem WV{w:af Nat}(hw:ek w)(hl:w.length=11):AN (bf w)=some [(bX w 0 11:Int),(bX w 1 11:Int),(bX w 2 11:Int)]:=by
 unfold AN bQ;have c0:((w.length:Int)==(11:Int))=true:=by rw[hl];rfl
 rw[WU hw (by omega),c0,av];have e:=wC (step:=Fz) (λj=>((bf w,(),(3:Int),(j:Int),()),(tU w j,()))) (z:=.inl (((),()),(tU w 3,()))) 3 0 bA (λk _ hk=>?_) ?_ (by unfold bA;omega)
 ·have e:iter Fz bA ((bf w,(),((List.replicate (3:Int).toNat (0:Int)).length:Int),(0:Int),()),(List.replicate (3:Int).toNat (0:Int),()))=_:=e;rw[show (!true)=false from rfl,au,bB (by decide),e];rfl
 ·unfold Fz ax xG bQ;dsimp only;have c1:decide ((k:Int)<(3:Int))=true:=bF (by omega);have e2:tU w k=(tU w k).set k 0/\k<(tU w k).length/\(tU w k).set k (bX w k 11:Int)=tU w (k+1):=by
   have:k=0\/k=1\/k=2:=by omega
   rcases this with rfl|rfl|rfl
   ·exact⟨rfl,by simp[tU],rfl⟩
   ·exact⟨rfl,by simp[tU],rfl⟩
   ·exact⟨rfl,by simp[tU],rfl⟩
  rw[c1,aq,avx hw hl k (by omega) (3:Int) (k:Int) (tU w k) e2.2.1 e2.1.symm,e2.2.2];show some (Sum.inl ((bf w,(),(3:Int),W6 ((k:Int)+1),()),(tU w (k+1),())))=_;rw[AS (by omega)]
 ·unfold Fz ax xG bQ;dsimp only;rfl
theorem avy{w:af Nat}(hw:ek w)(hl:w.length=11):P5 (bf w)=some (Nat.beq (bX w 0 11) 0&&(Nat.beq (bX w 1 11) 0&&Nat.beq (bX w 2 11) 0)):=by
 unfold P5 xC;rw[WV hw hl,av];generalize bX w 0 11=a;generalize bX w 1 11=b;generalize bX w 2 11=c;have q:∀ n:Nat,((n:Int)==(0:Int))=Nat.beq n 0:=by
  intro n;cases n with
  |zero=>rfl
  |succ n=>rfl
 show (bif ((a:Int)==(0:Int))then (bif ((b:Int)==(0:Int))then some ((c:Int)==(0:Int))else some false)else some false)=_;rw[q,q,q];cases Nat.beq a 0<;>cases Nat.beq b 0<;>rfl
theorem avz(a0 a1 a2:Nat)(h0:a0<16)(h1:a1<16)(h2:a2<16):
  (λy z=>(λx=>(gm x 1 ^^^ (gm y 1 ^^^ (gm z 1 ^^^ a0)))=0/\(gm x 1 ^^^ (gm y 2 ^^^ (gm z 4 ^^^ a1)))=0/\(gm x 1 ^^^ (gm y 4 ^^^ (gm z 3 ^^^ a2)))=0) (a0 ^^^ y ^^^ z))
   (gm (gm 2 (a0 ^^^ a1) ^^^ gm 5 (a0 ^^^ a2)) 13) (gm (gm 3 (a0 ^^^ a2) ^^^ gm 5 (a0 ^^^ a1)) 13):=by
 have h:=iD (iD (iD avs h0) h1) h2;dsimp only at h ⊢;rw[bx,bx]at h;exact⟨cr h.1.1,cr h.1.2,cr h.2⟩
theorem avA{d:af Nat}(hd:ek d)(hl:d.length=8):∃ w,Kr (bf d)=some (bf w)/\w.length=11/\ek w/\w.drop 3=d/\bX w 0 11=0/\bX w 1 11=0/\bX w 2 11=0:=by
 have hz:ek (0 :: 0 :: 0 :: d):=by
  intro x hx;simp only[jq]at hx;rcases hx with rfl|rfl|rfl|hx
  ·decide
  ·decide
  ·decide
  ·exact hd x hx
 have key:∀ j x y z,j<3->x<16->y<16->z<16->bX (x :: y :: z :: d) j 11=gm x (pw (0*j)) ^^^ (gm y (pw (1*j)) ^^^ (gm z (pw (2*j)) ^^^ bX (0 :: 0 :: 0 :: d) j 11)):=by
  intro j x y z hj hx hy hz;simp only[bX,List.getD_cons_zero,List.getD_cons_succ,Nat.xor_assoc,Nat.zero_xor,QL (vb _)]
 have e0:∀ a0 a1 a2:Nat,a0<16->a1<16->a2<16->AN (bf (0 :: 0 :: 0 :: d))=some [(a0:Int),(a1:Int),(a2:Int)]->
   Kr (bf d)=some (bf ((a0 ^^^ gm (gm 2 (a0 ^^^ a1) ^^^ gm 5 (a0 ^^^ a2)) 13 ^^^ gm (gm 3 (a0 ^^^ a2) ^^^ gm 5 (a0 ^^^ a1)) 13)::gm (gm 2 (a0 ^^^ a1) ^^^ gm 5 (a0 ^^^ a2)) 13::gm (gm 3 (a0 ^^^ a2) ^^^ gm 5 (a0 ^^^ a1)) 13::d)):=by
  intro a0 a1 a2 h0 h1 h2 hs;unfold Kr xC;have c0:((d.length:Int)==(8:Int))=true:=by rw[hl];rfl
  have c1:bH ((List.replicate (3:Int).toNat (0:Int)).length+(bf d).length)=true:=by
   rw[gT,hl];rfl
  rw[WU hd (by omega),av,c0,show (!true)=false from rfl,au,bB (by decide),c1,aq];have e1:AN (List.replicate (3:Int).toNat (0:Int)++bf d)=some [(a0:Int),(a1:Int),(a2:Int)]:=hs;rw[e1,av];show (CZ (4:Int)).bind (λgH=>(kW (2:Int) (bits .xor .i64 (a0:Int) (a1:Int))).bind λcE=>(kW (5:Int) (bits .xor .i64 (a0:Int) (a2:Int))).bind λfG=>(kW (bits .xor .i64 cE fG) gH).bind λgI=>(kW (3:Int) (bits .xor .i64 (a0:Int) (a2:Int))).bind λpO=>(kW (5:Int) (bits .xor .i64 (a0:Int) (a1:Int))).bind λuY=>(kW (bits .xor .i64 pO uY) gH).bind λmF=>some (bits .xor .i64 (bits .xor .i64 (a0:Int) gI) mF::gI::mF::bf d))=_;have m2:∀b:Nat,b<16->kW (2:Int) (b:Int)=some (gm 2 b:Int):=λb hb=>C9 (a:=2) (by decide) hb
  have m3:∀b:Nat,b<16->kW (3:Int) (b:Int)=some (gm 3 b:Int):=λb hb=>C9 (a:=3) (by decide) hb
  have m5:∀b:Nat,b<16->kW (5:Int) (b:Int)=some (gm 5 b:Int):=λb hb=>C9 (a:=5) (by decide) hb
  have FG:∀b:Nat,b<16->kW (b:Int) (13:Int)=some (gm b 13:Int):=λb hb=>C9 (b:=13) hb (by decide)
  rw[avt,av,sR h0 h1,sR h0 h2,m2 _ (nM h0 h1),av,m5 _ (nM h0 h2),av,sR (iw _ _) (iw _ _),FG _ (nM (iw _ _) (iw _ _)),av,m3 _ (nM h0 h2),av,m5 _ (nM h0 h1),av,sR (iw _ _) (iw _ _),FG _ (nM (iw _ _) (iw _ _)),av,sR h0 (iw _ _),sR (nM h0 (iw _ _)) (iw _ _)];rfl
 have h0:=sS (0::0::0::d) 0 11;have h1:=sS (0::0::0::d) 1 11;have h2:=sS (0::0::0::d) 2 11;have e1:=e0 _ _ _ h0 h1 h2 (WV hz (by simp[hl]));have f:=avz _ _ _ h0 h1 h2;dsimp only at f;refine⟨_,e1,by simp[hl],?_,rfl,?_,?_,?_⟩
 ·intro x hx;simp only[jq]at hx;rcases hx with rfl | rfl | rfl | hx
  ·exact nM (nM h0 (iw _ _)) (iw _ _)
  ·exact iw _ _
  ·exact iw _ _
  ·exact hd x hx
 ·rw[key 0 _ _ _ (by decide) (nM (nM h0 (iw _ _)) (iw _ _)) (iw _ _) (iw _ _)];exact f.1
 ·rw[key 1 _ _ _ (by decide) (nM (nM h0 (iw _ _)) (iw _ _)) (iw _ _) (iw _ _)];exact f.2.1
 ·rw[key 2 _ _ _ (by decide) (nM (nM h0 (iw _ _)) (iw _ _)) (iw _ _) (iw _ _)];exact f.2.2
theorem ag0{w:af Nat}(hw:ek w){k e:Nat}(he:e<16)(hk:k<w.length)(j:Nat):∀ i,bX (w.set k (w.getD k 0 ^^^ e)) j i=if i<=k then bX w j i else bX w j i ^^^ gm e (pw (k*j))
 |0=>by rw[bB (Nat.zero_le _)];rfl
 | i+1=>by
  have ih:=ag0 hw he hk j i;have hg:(w.set k (w.getD k 0 ^^^ e)).getD i 0=if i=k then w.getD k 0 ^^^ e else w.getD i 0:=by
   simp only[fX,List.getElem?_set];by_cases h:i=k
   ·subst h;simp[hk]
   ·simp[h,Ne.symm h]
  show bX (w.set k (w.getD k 0 ^^^ e)) j i ^^^ gm ((w.set k (w.getD k 0 ^^^ e)).getD i 0) (pw (i*j))=_;rw[ih,hg];by_cases h1:i<k
  ·rw[bB (by omega),cm (by omega),bB (by omega)];rfl
  ·by_cases h2:i=k
   ·subst h2;rw[bB (gj _),bB rfl,cm (by omega),avv (hw.get _) he (vb _),<-Nat.xor_assoc];rfl
   ·rw[cm (by omega),cm h2,cm (by omega)];show _=bX w j i ^^^ gm (w.getD i 0) (pw (i*j)) ^^^ gm e (pw (k*j));rw[Nat.xor_assoc,Nat.xor_comm (gm e _),<-Nat.xor_assoc]
theorem ek.set{w:af Nat}(h:ek w){k v:Nat}(hv:v<16):ek (w.set k v):=by
 intro x hx;rcases List.mem_or_eq_of_mem_set hx with hx|rfl
 ·exact h x hx
 ·exact hv
def ivT:Nat:=9460475325918865680
def iv(a:Nat):Nat:=(ivT / 2 ^ (4*a)) % 16
theorem avB(a:Nat):iv a<16:=Nat.mod_lt _ (by decide)
theorem avC:(kE λa=>Nat.beq a 0 ||CZ (Int.ofNat a)==some (Int.ofNat (iv a)))=true:=by kernel_rfl
def pR:af Nat:=[8,14,7,1]
theorem avD:((List.range 8).all λm=>kE λf=>(List.range 3).all λj=>
  Nat.beq (gm (gm 8 f) (pw (m*j)) ^^^ (gm (gm 14 f) (pw ((m+1)*j)) ^^^ (gm (gm 7 f) (pw ((m+2)*j)) ^^^ gm f (pw ((m+3)*j))))) 0)=true:=by kernel_rfl
theorem avE:(kE λa=>kE λb=>u7 (Int.ofNat a) (Int.ofNat b)==some (Int.ofNat (gm a b)))=true:=by kernel_rfl
theorem Lq{a b:Nat}(ha:a<16)(hb:b<16):u7 (a:Int) (b:Int)=some (gm a b:Int):=by
 have h:=iD (iD avE ha) hb;exact eq_of_beq h
theorem ag1(W:af Int):iter VX bA (((),(),(1:Int),()),(W,([(1:Int),(1:Int)]:af Int),()))=some (.inl (((),(),()),(W,bf pR,()))):=by kernel_rfl
theorem ag2{w:af Nat}(hw:ek w)(hl:w.length<1000)(n:Int):uX (bf w) n=some ((w.length:Int)==n):=by
 unfold uX bR;have e:=wC (step:=yd) (λi=>((bf w,n,(i:Int),()),())) (z:=.inr (.inl ((bf w,n,()),()))) w.length 0 bA (λk _ hk=>?_) ?_ (by unfold bA;omega)
 ·have e:iter yd bA ((bf w,n,(0:Int),()),())=_:=e;rw[e];show some (((bf w).length:Int)==n)=_;rw[gT]
 ·have hk:k<(bf w).length:=by rw[gT];omega
  unfold yd ax bu xG xI;dsimp only;have c1:decide ((k:Int)<((bf w).length:Int))=true:=bF (by omega);have c2:0<=(k:Int)/\(k:Int).toNat<(bf w).length:=⟨by omega,by simpa using hk⟩
  rw[c1,aq,aG c2];have c3:(bf w)[(k:Int).toNat]'c2.2=((w.getD k 0:Nat):Int):=vc hk;rw[c3];have:=hw.get k;unfold Cw;rw[avo (by omega) (by omega),av,av,AS (by omega)];rfl
 ·unfold yd ax bu xG xI;dsimp only;have c1:decide (((0+w.length:Nat):Int)<((bf w).length:Int))=false:=bD (by rw[gT];omega);rw[c1,au]
def tV(k:Nat):Nat:=pR.getD k 0
theorem avF(k:Nat):tV k<16:=by
 have:ek pR:=by
  intro x hx;simp only[pR,jq,List.not_mem_nil,or_false]at hx;omega
 exact this.get k
def lX(r:af Nat)(m f:Nat):Nat->af Nat
 |0=>r
 |k+1=>(lX r m f k).set (m+k) ((lX r m f k).getD (m+k) 0 ^^^ gm (tV k) f)
theorem Lr(r:af Nat)(m f:Nat):∀ k,(lX r m f k).length=r.length
 |0=>rfl
 |k+1=>by show (List.set _ _ _).length=_;rw[ni,Lr r m f k]
theorem Ls{r:af Nat}(hr:ek r)(m f:Nat):∀ k,ek (lX r m f k)
 |0=>hr
 |k+1=>(Ls hr m f k).set (nM ((Ls hr m f k).get _) (iw _ _))
theorem QM(w:af Nat)(k v:Nat):(bf w).set k (v:Int)=bf (w.set k v):=(List.map_set ..).symm
theorem avG{r:af Nat}(hr:ek r)(hl:r.length=11){m f:Nat}(hm:m<8)(hf:f<16)(W:af Int):
  iter E4 bA (((),(),(),((m+3:Nat):Int),(f:Int),(0:Int),()),(W,bf pR,bf r,()))=some (.inl (((),(),(),((m+3:Nat):Int),()),(W,bf pR,bf (lX r m f 4),()))):=by
 have e:=wC (step:=E4) (λk=>(((),(),(),((m+3:Nat):Int),(f:Int),(k:Int),()),(W,bf pR,bf (lX r m f k),()))) (z:=.inl (((),(),(),((m+3:Nat):Int),()),(W,bf pR,bf (lX r m f 4),()))) 4 0 bA (λk _ hk=>?_) ?_ (by unfold bA;omega)
 ·exact e
 ·unfold E4 xC ax xG;dsimp only;have c1:decide ((k:Int)<((bf pR).length:Int))=true:=bF (by show (k:Int)<4;omega);have c2:W6 (W6 (((m+3:Nat):Int)-3)+(k:Int))=((m+k:Nat):Int):=by
   rw[aY (n:=((m+3:Nat):Int)-3) (by omega) (by omega),aY (by omega) (by omega)];omega
  have kT:m+k<(bf (lX r m f k)).length:=by rw[gT,Lr,hl];omega
  have c3:0<=((m+k:Nat):Int)/\((m+k:Nat):Int).toNat<(bf (lX r m f k)).length:=⟨by omega,kT⟩
  have lV:k<(bf pR).length:=by show k<4;omega
  have c4:0<=(k:Int)/\(k:Int).toNat<(bf pR).length:=⟨by omega,lV⟩
  have c5:(bf (lX r m f k))[((m+k:Nat):Int).toNat]'c3.2=(((lX r m f k).getD (m+k) 0:Nat):Int):=vc kT;have c6:(bf pR)[(k:Int).toNat]'c4.2=((tV k:Nat):Int):=vc lV;rw[c1,aq];simp only[c2];rw[aG c3,aG c3.2];rw[aG c4,aG c4.2,c6,Lq (avF k) hf,av,aG c3,aG c3.2,c5,sR ((Ls hr m f k).get _) (iw _ _),AS (by omega)];have c7:(bf (lX r m f k)).set ((m+k:Nat):Int).toNat (((lX r m f k).getD (m+k) 0 ^^^ gm (tV k) f:Nat):Int)=bf (lX r m f (k+1)):=QM _ _ _;rw[c7]
 ·unfold E4 xC ax xG;dsimp only;have c1:decide (((0+4:Nat):Int)<((bf pR).length:Int))=false:=rfl;rw[c1,au]
def out(r:af Nat):Nat->af Nat
 |0=>r
 |t+1=>lX (out r t) (7-t) ((out r t).getD (10-t) 0) 4
theorem Da(r:af Nat):∀ t,(out r t).length=r.length
 |0=>rfl
 |t+1=>by show (lX _ _ _ _).length=_;rw[Lr,Da r t]
theorem Db{r:af Nat}(hr:ek r):∀ t,ek (out r t)
 |0=>hr
 |t+1=>Ls (Db hr t) _ _ _
theorem ag3{r:af Nat}(hr:ek r)(hl:r.length=11)(W:af Int):
  iter E5 bA (((),(),(),(10:Int),()),(W,bf pR,bf r,()))=some (.inl (((),(),()),(W,bf (out r 8),()))):=by
 have e:=wC (step:=E5) (λt=>(((),(),(),(10:Int)-(t:Int),()),(W,bf pR,bf (out r t),()))) (z:=.inl (((),(),()),(W,bf (out r 8),()))) 8 0 bA (λt _ ht=>?_) ?_ (by unfold bA;omega)
 ·exact e
 ·unfold E5 xC ax xG bQ;dsimp only;have hi:(10:Int)-(t:Int)=((7-t+3:Nat):Int):=by omega
  have c1:decide ((10:Int)-(t:Int) >= 3)=true:=bF (by omega);have kT:7-t+3<(bf (out r t)).length:=by rw[gT,Da,hl];omega
  have c3:0<=((7-t+3:Nat):Int)/\((7-t+3:Nat):Int).toNat<(bf (out r t)).length:=⟨by omega,kT⟩
  have c5:(bf (out r t))[((7-t+3:Nat):Int).toNat]'c3.2=(((out r t).getD (10-t) 0:Nat):Int):=(vc kT).trans (by rw[show 7-t+3=10-t by omega]);rw[c1,aq];simp only[hi];rw[aG c3,aG c3.2,c5,avG (Db hr t) (by rw[Da,hl]) (by omega) ((Db hr t).get _)];show some (Sum.inl (((),(),(),W6 (((7-t+3:Nat):Int)-1),()),(W,bf pR,bf (out r (t+1)),())))=_;rw[aY (by omega) (by omega),show ((7-t+3:Nat):Int)-1=10-((t+1:Nat):Int) by omega]
 ·unfold E5 xC ax xG bQ;dsimp only;rfl
theorem avH:(kE λa=>Nat.beq (gm 1 a) a)=true:=by kernel_rfl
theorem ag4{a:Nat}(ha:a<16):gm 1 a=a:=cr (iD avH ha)
theorem ag5{r:af Nat}(hr:ek r)(hl:r.length=11){k e:Nat}(he:e<16)(hk:k<11)(j:Nat):bX (r.set k (r.getD k 0 ^^^ e)) j 11=bX r j 11 ^^^ gm e (pw (k*j)):=by
 rw[ag0 hr he (by omega) j 11,cm (by omega)]
theorem avI{r:af Nat}(hr:ek r)(hl:r.length=11){m f j:Nat}(hm:m<8)(hf:f<16)(hj:j<3):bX (lX r m f 4) j 11=bX r j 11:=by
 have st:∀ k,k<4->bX (lX r m f (k+1)) j 11=bX (lX r m f k) j 11 ^^^ gm (gm (tV k) f) (pw ((m+k)*j)):=λk hk=>
  ag5 (Ls hr m f k) (by rw[Lr,hl]) (iw _ _) (by omega) j
 have h:=dQ.1 (iD (dQ.1 avD m (jY.2 hm)) hf) j (jY.2 hj);have h:gm (gm (tV 0) f) (pw ((m+0)*j)) ^^^ (gm (gm (tV 1) f) (pw ((m+1)*j)) ^^^ (gm (gm (tV 2) f) (pw ((m+2)*j)) ^^^ gm (gm (tV 3) f) (pw ((m+3)*j))))=0:=by
  have e3:gm (tV 3) f=f:=ag4 hf;rw[e3];exact cr h
 rw[st 3 (by decide),st 2 (by decide),st 1 (by decide),st 0 (by decide),Nat.xor_assoc,Nat.xor_assoc,Nat.xor_assoc,h,Nat.xor_zero];rfl
theorem ag6{r:af Nat}(hr:ek r)(hl:r.length=11){j:Nat}(hj:j<3):∀ t,t<=8->bX (out r t) j 11=bX r j 11
 |0,_=>rfl
 |t+1,ht=>(avI (Db hr t) (by rw[Da,hl]) (by omega) ((Db hr t).get _) hj).trans (ag6 hr hl hj t (by omega))
theorem ag7(r:af Nat)(k v n:Nat):(r.set k v).getD n 0=if n=k/\k<r.length then v else r.getD n 0:=by
 simp only[fX,List.getElem?_set];by_cases h:n=k
 ·subst h;by_cases h':n<r.length
  ·simp[h']
  ·simp[h']
 ·simp[h,Ne.symm h]
theorem WW(r:af Nat)(m f:Nat):∀ k n,m+k<=n->(lX r m f k).getD n 0=r.getD n 0
 |0,n,_=>rfl
 | k+1,n,h=>by
  show (List.set _ _ _).getD n 0=_;rw[ag7,cm (by omega),WW r m f k n (by omega)]
theorem avJ{r:af Nat}{m f:Nat}(h:m+3<r.length):(lX r m f 4).getD (m+3) 0=r.getD (m+3) 0 ^^^ gm (tV 3) f:=by
 show (List.set _ _ _).getD (m+3) 0=_;rw[ag7,bB ⟨rfl,by rw[Lr];exact h⟩,WW r m f 3 (m+3) (gj _)]
theorem ag8{r:af Nat}(hr:ek r)(hl:r.length=11):∀ t,t<=8->∀ n,10-t<n->n<11->(out r t).getD n 0=0
 |0,_,n,h,h'=>by omega
 | t+1,ht,n,h,h'=>by
  show (lX (out r t) (7-t) ((out r t).getD (10-t) 0) 4).getD n 0=0;by_cases hn:n=10-t
  ·have e:n=7-t+3:=by omega
   subst e;rw[avJ (by rw[Da,hl];omega),<-hn];have:gm (tV 3) ((out r t).getD (7-t+3) 0)=(out r t).getD (7-t+3) 0:=ag4 ((Db hr t).get _);rw[this,Nat.xor_self]
  ·rw[WW _ _ _ 4 n (by omega)];exact ag8 hr hl t (by omega) n (by omega) h'
def rQ(w r:af Nat):Nat->af Nat
 |0=>w
 |k+1=>(rQ w r k).set k (r.getD k 0)
theorem WX(w r:af Nat):∀ k,(rQ w r k).length=w.length
 |0=>rfl
 |k+1=>by show (List.set _ _ _).length=_;rw[ni,WX w r k]
theorem ag9{w r:af Nat}(hw:w.length=11)(hr:r.length=11):
  iter E6 bA (((),(),(0:Int),()),(bf w,bf r,()))=some (.inl (((),()),(bf (rQ w r 3),()))):=by
 have e:=wC (step:=E6) (λi=>(((),(),(i:Int),()),(bf (rQ w r i),bf r,()))) (z:=.inl (((),()),(bf (rQ w r 3),()))) 3 0 bA (λk _ hk=>?_) ?_ (by unfold bA;omega)
 ·exact e
 ·unfold E6 xC ax xG;dsimp only;have c1:decide ((k:Int)<(3:Int))=true:=bF (by omega);have kT:k<(bf r).length:=by rw[gT];omega
  have lV:k<(bf (rQ w r k)).length:=by rw[gT,WX];omega
  have c2:0<=(k:Int)/\(k:Int).toNat<(bf r).length:=⟨by omega,kT⟩
  have c3:0<=(k:Int)/\(k:Int).toNat<(bf (rQ w r k)).length:=⟨by omega,lV⟩
  have c4:(bf r)[(k:Int).toNat]'c2.2=((r.getD k 0:Nat):Int):=vc kT;rw[c1,aq,aG c2,aG c2.2,c4,aG c3,aG c3.2,AS (by omega)];have c5:(bf (rQ w r k)).set (k:Int).toNat ((r.getD k 0:Nat):Int)=bf (rQ w r (k+1)):=QM _ _ _;rw[c5]
 ·unfold E6 xC ax xG;dsimp only;rfl
theorem avK{d:af Nat}(hd:ek d)(hl:d.length=8):∃ w,AI (bf d)=some (bf w)/\w.length=11/\ek w/\bX w 0 11=0/\bX w 1 11=0/\bX w 2 11=0:=by
 have hz:ek (0 :: 0 :: 0 :: d):=by
  intro x hx;simp only[jq]at hx;rcases hx with rfl|rfl|rfl|hx
  ·decide
  ·decide
  ·decide
  ·exact hd x hx
 have rR:(0::0::0::d).length=11:=by simp[hl]
 have e1:AI (bf d)=some (bf (rQ (0 :: 0 :: 0 :: d) (out (0 :: 0 :: 0 :: d) 8) 3)):=by
  unfold AI bQ;have c0:((d.length:Int)==(8:Int))=true:=by rw[hl];rfl
  have c1:bH ((List.replicate (3:Int).toNat (0:Int)).length+(bf d).length)=true:=by
   rw[gT,hl];rfl
  have c2:bH (([]:af Int).length+(bf (0 :: 0 :: 0 :: d)).length)=true:=by
   rw[gT,rR];rfl
  have c3:W6 (((bf (0 :: 0 :: 0 :: d)).length:Int)-(1:Int))=10:=by
   rw[gT,rR];rfl
  have eW:List.replicate (3:Int).toNat (0:Int)++bf d=bf (0::0::0::d):=rfl;rw[ag2 hd (by omega),av,c0,show (!true)=false from rfl,au,bB (by decide),c1,aq,eW,ag1,av,iy];dsimp only;rw[List.nil_append,c2,aq,c3,ag3 hz rR,av,iy];dsimp only;rw[ag9 rR (by rw[Da,rR]),av,iy]
 have ho:=Db hz 8;have WY:∀ j,j<3->bX (rQ (0 :: 0 :: 0 :: d) (out (0 :: 0 :: 0 :: d) 8) 3) j 11=0:=by
  intro j hj;have h1:=ag6 hz rR hj 8 (gj _);have z:=ag8 hz rR 8 (gj _);revert h1 z;generalize out (0 :: 0 :: 0 :: d) 8=r;intro h1 z;have h2:bX (rQ (0 :: 0 :: 0 :: d) r 3) j 11=gm (r.getD 0 0) (pw (0*j)) ^^^ (gm (r.getD 1 0) (pw (1*j)) ^^^ (gm (r.getD 2 0) (pw (2*j)) ^^^ bX (0 :: 0 :: 0 :: d) j 11)):=by
   show bX (r.getD 0 0::r.getD 1 0::r.getD 2 0::d) j 11=_;simp only[bX,List.getD_cons_zero,List.getD_cons_succ,Nat.xor_assoc,Nat.zero_xor,QL (vb _)]
  have h3:bX r j 11=gm (r.getD 0 0) (pw (0*j)) ^^^ (gm (r.getD 1 0) (pw (1*j)) ^^^ gm (r.getD 2 0) (pw (2*j))):=by
   simp only[bX,z 3 (by decide) (by decide),z 4 (by decide) (by decide),z 5 (by decide) (by decide),z 6 (by decide) (by decide),z 7 (by decide) (by decide),z 8 (by decide) (by decide),z 9 (by decide) (by decide),z 10 (by decide) (by decide),Nat.xor_assoc,Nat.zero_xor,Nat.xor_zero,QL (vb _)]
  rw[h2,<-h1,h3,<-Nat.xor_assoc (gm (r.getD 1 0) _) (gm (r.getD 2 0) _),<-Nat.xor_assoc (gm (r.getD 0 0) _),Nat.xor_self]
 refine⟨_,e1,by rw[WX,rR],?_,WY 0 (by decide),WY 1 (by decide),WY 2 (by decide)⟩;exact((hz.set (ho.get _)).set (ho.get _)).set (ho.get _)
def wD(s:Int):Bool:=aM s 0 15
def sU(l:af Int)(n:Int):Bool:=l.all wD&&decide ((l.length:Int)=n)
theorem aha(l:af Int)(n:Int)(hl:l.length<1073741824):wA l n=some (sU l n):=by
 unfold wA sU bR;have e:=gZ (step:=ym) l wD (λi=>((l,n,l,(l.length:Int),(i:Int),()),())) (.inl ((false,()),())) (.inr (.inl ((l,n,()),()))) bA (λk h=>by
  unfold ym CM ax bu xG xI;simp (disch:=omega) [h,bZ,fC,wD];cases aM l[k] 0 15<;>rfl) (by unfold ym ax bu xG xI;simp) (cP hl)
 rw[di]at e;rw[e];cases l.all wD<;>simp;rfl
theorem Lt(l:af Int)(n:Int)(hl:l.length<1073741824):uX l n=some (sU l n):=by
 unfold uX sU bR;have e:=gZ (step:=yd) l wD (λi=>((l,n,(i:Int),()),())) (.inl ((false,()),())) (.inr (.inl ((l,n,()),()))) bA (λk h=>by
  unfold yd Cw ax bu xG xI;simp (disch:=omega) [h,bZ,fP,wD];cases aM l[k] 0 15<;>rfl) (by unfold yd ax bu xG xI;simp) (cP hl)
 rw[di]at e;rw[e];cases l.all wD<;>simp;rfl
def Sy(l:af Int):Prop:=l.length=11/\∀s∈l,0<=s/\s<=15
theorem Sy.ok{l:af Int}(h:Sy l):sU l 11=true:=by
 simp only[sU,bx,dQ,decide_eq_true_eq,wD,de];exact⟨λx hx=>h.2 x hx,by rw[h.1];rfl⟩
theorem Sy.of{l:af Int}(h:sU l 11=true):Sy l:=by
 simp only[sU,bx,dQ,decide_eq_true_eq,wD,de]at h;exact⟨by omega,h.1⟩
theorem ahb{a b:Int}(ha:0<=a/\a<=15)(hb:0<=b/\b<=15):0<=bits .xor .i64 a b/\bits .xor .i64 a b<=15/\bits .xor .i64 (bits .xor .i64 a b) b=a:=by
 obtain⟨x,rfl⟩:=kH ha.1;obtain⟨y,rfl⟩:=kH hb.1;have hx:x<16:=by omega
 have hy:y<16:=by omega
 have:=nM hx hy;rw[sR hx hy];rw[sR this hy];refine⟨by omega,by omega,?_⟩;rw[Nat.xor_assoc,Nat.xor_self,Nat.xor_zero]
theorem Sy.set{l:af Int}(h:Sy l){k:Nat}{v:Int}(hv:0<=v/\v<=15):Sy (l.set k v):=by
 refine⟨by simp[h.1],λs hs=>?_⟩
 rcases List.mem_or_eq_of_mem_set hs with hs|rfl
 ·exact h.2 s hs
 ·exact hv
theorem Sy.get{l:af Int}(h:Sy l){k:Nat}(hk:k<l.length):0<=l[k]/\l[k]<=15:=h.2 _ (fW hk)
structure lH (g:aX) (B:Int) (a:eZ):Prop where
 cells:(a.cells.length:Int)=jJ g
 syms:∀c∈a.cells,Sy c.symbols
 bI:(a.bI.length:Int)=iU g
 bk:(a.bk.length:Int)=iU g
 ahc:∀x∈a.bI,0<=x/\x<=B
 Lu:∀x∈a.bk,0<=x/\x<=100000
theorem avL(c:bG)(h:c.symbols.length<1073741824):Po c=some c:=by
 unfold Po;simp[bH,h]
theorem avM(c:bG)(h:c.symbols.length<1073741824):N3 c=some c:=by
 unfold N3;simp[bH,h]
theorem avN(a:eZ)(h1:a.cells.length<1073741823)(h2:a.bI.length<1073741824)(h3:a.bk.length<1073741824)(h4:∀ c∈a.cells,c.symbols.length<1073741824):Pp a=some a:=by
 unfold Pp bQ;have e:=gJ (step:=JE) a.cells.length (λi=>(((),(),a.cells,(a.cells.length:Int),(i:Int),()),(((),(),(),()),((),(),(),()),([]:af bG),([]:af Int),([]:af Int),a.cells.take i,(([]:af Int)++a.bI),(([]:af Int)++a.bk),())))
  (.inl (((),(),()),(((),(),(),()),((),(),(),()),([]:af bG),([]:af Int),([]:af Int),a.cells,(([]:af Int)++a.bI),(([]:af Int)++a.bk),()))) bA (λk h=>by
  unfold JE ax xG xI;have hk:min k a.cells.length=k:=by omega
  have ho:bH (k+1)=true:=fl (by omega);simp (disch:=omega) [h,bZ,avL _ (h4 _ (fW h)),hk,ho]) (by unfold JE ax xG xI;simp) (cP (by omega))
 rw[di,List.take_zero]at e;rw[e];simp[bH,h2,h3]
theorem avO(a:eZ)(h1:a.cells.length<1073741823)(h2:a.bI.length<1073741824)(h3:a.bk.length<1073741824)(h4:∀ c∈a.cells,c.symbols.length<1073741824):N4 a=some a:=by
 unfold N4 bQ;have e:=gJ (step:=Ix) a.cells.length (λi=>(((),(),(),(i:Int),()),((a.cells,a.bI,a.bk,()),((),(),(),()),((),(),(),()),([]:af bG),([]:af Int),([]:af Int),a.cells.take i,(([]:af Int)++a.bI),(([]:af Int)++a.bk),())))
  (.inl (((),(),()),(((),(),(),()),((),(),(),()),([]:af bG),([]:af Int),([]:af Int),a.cells,(([]:af Int)++a.bI),(([]:af Int)++a.bk),()))) bA (λk h=>by
  unfold Ix ax xG xI;have hk:min k a.cells.length=k:=by omega
  have ho:bH (k+1)=true:=fl (by omega);simp (disch:=omega) [h,bZ,avM _ (h4 _ (fW h)),hk,ho]) (by unfold Ix ax xG xI;simp) (cP (by omega))
 rw[di,List.take_zero]at e;rw[e];simp[bH,h2,h3]
def Dc(c:bG):Bool:=sU c.symbols 11
def yB(p:Int×Int):Bool:=aM p.1 0 100000&&aM p.2 0 100000
def Dd(g:aX)(a:eZ):Bool:=dw g&&(decide ((a.cells.length:Int)=jJ g)&&(decide ((a.bI.length:Int)=iU g)&&(decide ((a.bk.length:Int)=iU g)&&(a.cells.all Dc&&(a.bI.zip a.bk).all yB))))
theorem avP(g:aX)(a:eZ)(h4:∀ c∈a.cells,c.symbols.length<1073741824):Pz g a=some (Dd g a):=by
 unfold Pz Dd bR;rw[pQ,av,yz,av,WN];cases hg:dw g with
 |false=>rfl
 | true=>
  have b1:=tT g;have b2:=va g;have er:bq g*g.rows=iU g:=by simp[iU,hg]
  simp only[bS,au,av,cM,er];rw[aY (by omega) (by omega)];by_cases e1:(a.cells.length:Int)=jJ g
  ·by_cases e2:(a.bI.length:Int)=iU g
   ·by_cases e3:(a.bk.length:Int)=iU g
    ·have hl:a.bI.length=a.bk.length:=by omega
     have l1:=gZ (step:=JS) a.cells Dc (λi=>(((),a.cells,(a.cells.length:Int),(i:Int),()),((a.cells,a.bI,a.bk,()),()))) (.inl ((false,()),())) (.inr (.inl (((),()),((a.cells,a.bI,a.bk,()),())))) bA (λk h=>by
      unfold JS ax bu xG xI;simp (disch:=omega) [h,bZ,aha _ 11 (h4 _ (fW h)),Dc];cases sU a.cells[k].symbols 11<;>rfl) (by unfold JS ax bu xG xI;simp) (cP (by omega))
     have l2:=gZ (step:=JT) (a.bI.zip a.bk) yB (λi=>(((),(a.bI.length:Int),(i:Int),()),((a.cells,a.bI,a.bk,()),()))) (.inl ((false,()),())) (.inr (.inl ((),()))) bA (λk h=>by
      have h':k<a.bI.length:=by simp at h;omega
      have WZ:k<a.bk.length:=by omega
      unfold JT ax bu xG xI;simp (disch:=omega) [h',WZ,bZ,fC,yB];cases aM a.bI[k] 0 100000<;>cases aM a.bk[k] 0 100000<;>rfl) (by unfold JT ax bu xG xI;simp[hl]) (cP (by simp;omega))
     rw[di]at l1 l2;simp only[e1,e2,e3,eV,au,decide_true,cM];rw[<-e1,l1];cases h1:a.cells.all Dc with
     |false=>simp
     | true=>
      simp only[aq,Option.bind_some,Sum.elim_inr,iy];rw[l2];cases (a.bI.zip a.bk).all yB<;>simp
    ·simp[e1,e2,iZ e3,e3]
   ·simp[e1,iZ e2,e2]
  ·simp[iZ e1,e1]
theorem tW(g:aX):(⟨g.cQ,g.aI,g.rows,g.aL⟩:aX)=g:=rfl
def De(n x:Int):Int:=if 100000<x+n then 100000 else x+n
theorem ahd(l:af Int)(h:∀ s∈l,0<=s/\s<=15):bf (l.map Int.toNat)=l/\ek (l.map Int.toNat):=by
 constructor
 ·induction l with
  |nil=>rfl
  | cons x l ih=>
   have hx:=h x (.head _);have:=ih λs hs=>h s (.tail _ hs)
   simp only[bf,lK]at this ⊢;rw[this];congr 1;omega
 ·intro x hx;obtain⟨s,hs,rfl⟩:=List.mem_map.1 hx;have:=h s hs;omega
theorem Lv{w:af Nat}(hw:ek w)(hl:w.length=11):Sy (bf w):=by
 refine⟨by rw[gT,hl],λs hs=>?_⟩
 simp only[bf,List.mem_map]at hs;obtain⟨x,hx,rfl⟩:=hs;have:=hw x hx;omega
theorem Sy.mem{l:af bG}(h:∀c∈l,Sy c.symbols){k:Nat}(hk:k<l.length):Sy l[k].symbols:=h _ (fW hk)
theorem Sy.cB{l:af bG}(h:∀ c∈l,Sy c.symbols){k:Nat}{d:bG}(hd:Sy d.symbols):∀ c∈l.set k d,Sy c.symbols:=by
 intro c hc;rcases List.mem_or_eq_of_mem_set hc with hc|rfl
 ·exact h c hc
 ·exact hd
theorem Lw{l:af Int}{B C:Int}(h:∀ x∈l,B<=x/\x<=C){k:Nat}{v:Int}(hv:B<=v/\v<=C):∀ x∈l.set k v,B<=x/\x<=C:=by
 intro x hx;rcases List.mem_or_eq_of_mem_set hx with hx|rfl
 ·exact h x hx
 ·exact hv
def AT(l:jz)(a:eZ)(i:Nat):Bool:=decide (a.bI.getD i 0 > l.bI) ||decide (a.bk.getD i 0 > l.bk)
theorem ahe(g:aX)(l:jz)(a:eZ)(i:Nat)(h1:i<a.bI.length)(h2:i<a.bk.length):EY g l a (i:Int)=some (AT l a i):=by
 unfold EY AT xI;simp only[fX,cu h1,cu h2,Option.getD_some];by_cases h:a.bI[i] > l.bI<;>simp[h1,h2,h]
theorem avQ{l:af Int}{B C:Int}(h:∀ x∈l,B<=x/\x<=C)(k:Nat)(h0:B<=0/\0<=C):B<=l.getD k 0/\l.getD k 0<=C:=by
 rw[fX];cases hk:l[k]? with
 |none=>exact h0
 |some x=>exact h x (hJ hk)
theorem avR{x:Int}(h:0<=x/\x<=100000){n:Int}(hn:0<=n):0<=De n x/\De n x<=100000:=by
 unfold De;split<;>omega
def qB(k:Nat)(h:af Int):af Int:=h.set k (De 1 (h.getD k 0))
theorem Lx(k:Nat)(h:af Int):(qB k h).length=h.length:=by simp[qB]
theorem QN{k:Nat}{h:af Int}(hb:∀ x∈h,0<=x/\x<=100000):∀ x∈qB k h,0<=x/\x<=100000:=
 Lw hb (avR (avQ hb k ⟨by omega,by omega⟩) (by omega))
theorem W0{k:Nat}{h:af Int}(hk:k<h.length):qB k h=h.set k (De 1 h[k]):=by
 unfold qB;rw[fX,cu hk];rfl
def AU(row:Int)(i:Nat)(h:af Int):af Int:=bif decide (0<row)then qB (i-1) (h.set i 0)else h.set i 0
def wE(R row:Int)(i:Nat)(h:af Int):af Int:=bif decide (row<R-1)then qB (i+1) (AU row i h)else AU row i h
theorem avS(row:Int)(i:Nat)(h:af Int):(AU row i h).length=h.length:=by
 unfold AU;cases decide (0<row)<;>simp[Lx]
theorem avT(R row:Int)(i:Nat)(h:af Int):(wE R row i h).length=h.length:=by
 unfold wE;cases decide (row<R-1)<;>simp[Lx,avS]
theorem avU{row:Int}{i:Nat}{h:af Int}(hb:∀ x∈h,0<=x/\x<=100000):∀ x∈AU row i h,0<=x/\x<=100000:=by
 have b1:=Lw hb (k:=i) (v:=0) ⟨by omega,by omega⟩;unfold AU;cases decide (0<row)
 ·exact b1
 ·exact QN b1
theorem avV{R row:Int}{i:Nat}{h:af Int}(hb:∀ x∈h,0<=x/\x<=100000):∀ x∈wE R row i h,0<=x/\x<=100000:=by
 have b1:=avU (row:=row) (i:=i) hb;unfold wE;cases decide (row<R-1)
 ·exact b1
 ·exact QN b1
def Gv{γ:Type}(P:γ->Prop)(o:ak γ):Prop:=∃y,o=some y/\P y
theorem Gv.pure{γ:Type}{P:γ->Prop}{y:γ}(h:P y):Gv P (some y):=⟨y,rfl,h⟩
theorem Gv.bind{α γ:Type}{Q:α->Prop}{P:γ->Prop}{f:ak α}{g:α->ak γ}(h:Gv Q f)(hg:∀ y,Q y->Gv P (g y)):Gv P (f.bind g):=by
 obtain⟨y,rfl,hy⟩:=h;exact hg y hy
theorem avW(x a b:Int):Gv (λy=>y=aM x a b) (ct x a b):=⟨_,fP x a b,rfl⟩
theorem avX(k:Int):Gv (λy=>y=(aM k 1 5,k==1,(k==2 || k==3))) (I3 k):=by
 unfold I3
 refine Gv.bind (avW _ _ _) (λ_ h=>?_)
 subst h;cases h:k==2<;>exact Gv.pure (by simp)
theorem pZ(y:Int):0<=bits .and .i64 y 15/\bits .and .i64 y 15<=15:=by
 have e:bits .and .i64 y 15=IntKind.wrap .i64 ((BitVec.ofInt 64 y &&& BitVec.ofInt 64 15).toNat:Int):=rfl;have h:(BitVec.ofInt 64 y &&& BitVec.ofInt 64 15).toNat<=15:=by
  rw[BitVec.toNat_and];exact Nat.le_trans Nat.and_le_right (by decide)
 rw[e,IntKind.wrap_i64];omega
def rS(t:dx):af Int:=[t.jZ,t.rp,t.gC,t.mM,t.ke,t.jy,t.mN,t.mO,t.jO,t.wr,t.nQ,t.nR,t.pW,t.nS,t.om,t.xp,t.xs]
def AV(x:Int):Bool:=aM x 1 64
def kY(t:dx):Bool:=(rS t).all AV&&(decide (t.jZ<=t.gC)&&(decide (t.mM<=t.ke)&&(decide (t.mN<=t.mO)&&decide (t.nQ<=t.nR))))
theorem QO(t:dx):Ff t=some (kY t):=by
 unfold Ff kY bR;change (iter Fe bA (((),(),((rS t).length:Int),(0:Int),()),(t,rS t,()))).bind _=_;have ou:(rS t).length=17:=rfl;generalize rS t=l at *
 have e:=gZ (step:=Fe) l AV (λi=>(((),(),(l.length:Int),(i:Int),()),(t,l,()))) (.inl ((false,()),())) (.inr (.inl (((),()),(t,())))) bA (λk h=>by
  unfold Fe xC ax bu xG;simp (disch:=omega) [h,bZ,fC,AV];cases aM l[k] 1 64<;>rfl) (by unfold Fe xC ax bu xG;simp) (cP (by omega))
 rw[di]at e;rw[e];cases l.all AV<;>simp;cases decide (t.jZ<=t.gC)<;>cases decide (t.mM<=t.ke)<;>cases decide (t.mN<=t.mO)<;>rfl
theorem QS(t:dx):Ct t=some (kY t):=by
 unfold Ct kY VE bR;rw[av];change (iter EK bA (((),(),(0:Int),()),(t,rS t,()))).bind _=_;have ou:(rS t).length=17:=rfl;generalize rS t=l at *
 have e:=gZ (step:=EK) l AV (λi=>(((),(),(i:Int),()),(t,l,()))) (.inl ((false,()),())) (.inr (.inl (((),()),(t,())))) bA (λk h=>by
  unfold EK xC ax bu xG;simp (disch:=omega) [h,bZ,fP,AV];cases aM l[k] 1 64<;>rfl) (by unfold EK xC ax bu xG;simp) (cP (by omega))
 rw[di]at e;rw[e];cases l.all AV<;>simp;cases decide (t.jZ<=t.gC)<;>cases decide (t.mM<=t.ke)<;>cases decide (t.mN<=t.mO)<;>rfl
theorem avY(t:dx):IC t=AK t:=by
 unfold IC AK;rw[QO,QS]
theorem avZ(t:dx):∃ y,AK t=some y:=by
 unfold AK;rw[QO,av];cases kY t<;>exact⟨_,rfl⟩
def Ly(R i:Nat):Int:=((i % R:Nat):Int)
def nN(n R:Nat):af Int:=(List.range n).map (Ly R)
theorem W2(n R:Nat):(nN n R).length=n:=by simp[nN]
theorem av0(n R:Nat):nN (n+1) R=nN n R++[Ly R n]:=by simp[nN,List.range_succ]
def lY(g:aX)(n:Int):Bool:=dw g&&(aM n 0 2&&decide (2<=g.rows-n))
def AX(g:aX)(n:Int):fe×Bool:=bif lY g n then (⟨n,nN ((bq g).toNat*(g.rows-n).toNat) (g.rows-n).toNat⟩,true)else (⟨0,[]⟩,false)
theorem QT{g:aX}{n:Int}(h:lY g n=true):dw g=true/\0<=n/\n<=2/\2<=g.rows-n/\g.rows<=16:=by
 simp only[lY,bx,de,decide_eq_true_eq]at h;obtain⟨h1,⟨h2,h3⟩,h4⟩:=h;have:=iC h1;exact⟨h1,h2,h3,h4,by omega⟩
theorem ahf(g:aX)(n:Int):IB g n=some (AX g n):=by
 unfold IB AX bQ;rw[FD,av];cases hg:dw g with
 |false=>simp[lY,hg]
 | true=>
  simp only[bS,au,fP,av];cases hn:aM n 0 2 with
  |false=>simp[lY,hn]
  | true=>
   have p6:=de.1 hn;have gb:=iC hg;simp only[bS,au];rw[aY (by omega) (by omega)];by_cases hr:g.rows-n<2
   ·have:decide (2<=g.rows-n)=false:=bD (by omega);rw[bF hr,aq];simp[lY,this]
   ·have hs:lY g n=true:=by simp[lY,hg,hn];omega
    rw[bD hr,au,hs,aq];have b1:=g9 g;obtain⟨bn,hb⟩:=kH b1.1;obtain⟨R,hR⟩:=kH (show 0<=g.rows-n by omega);have hm:bn*R<=8*16:=Nat.mul_le_mul (by omega) (by omega);have hmul:W6 ((bn:Int)*(R:Int))=((bn*R:Nat):Int):=by
     rw[<-Int.natCast_mul];exact aY (by omega) (by omega)
    have hw:W6 (g.rows-n)=(R:Int):=by rw[hR];exact aY (by omega) (by omega)
    have e:=gJ (step:=IA) (bn*R) (λi=>((n,(),(),(),(i:Int),()),((g.cQ,g.aI,g.rows,g.aL,()),((0:Int),(),()),(n,(),()),([]:af Int),nN i R,())))
     (.inl (((),(),()),(((0:Int),(),()),(n,(),()),([]:af Int),nN (bn*R) R,()))) bA (λk h=>by
     unfold IA ax xG;have ho:bH ((nN k R).length+1)=true:=fl (by rw[W2];omega);have ht:(k:Int).tmod (R:Int)=Ly R k:=by unfold Ly;exact(Int.ofNat_tmod k R).symm
     dsimp only;rw[tW,tS,av,hw,hb,hmul,bF (by omega),aq,cm (by omega),ht];simp only[nj,List.length_nil,fV];rw[ho,aq,bZ (by omega),av0]) (by
     unfold IA ax xG;dsimp only;rw[tW,tS,av,hw,hb,hmul,bD (by omega),au]) (cP (by omega))
    rw[di]at e
    refine(bJ (λo=>Option.bind o _) e).trans ?_
    rw[hb,hR];rfl
theorem av1(b R:Nat)(hR:0<R)(j:Nat)(hj:j<=R):nN (b*R+j) R=nN (b*R) R++(List.range j).map (λi:Nat=>(i:Int)):=by
 unfold nN;rw[List.range_add,List.map_append,List.map_map];congr 1
 refine mK λi hi=>?_
 have hi:i<j:=jY.1 hi;simp only[Function.comp,Ly];rw[Nat.mul_comm,Nat.mul_add_mod,Nat.mod_eq_of_lt (by omega)]
theorem ahg(g:aX)(n:Int):JI g n=some (AX g n):=by
 unfold JI AX bQ;rw[yz,av];cases hg:dw g with
 |false=>simp[lY,hg]
 | true=>
  simp only[bS,au,fC,av];cases hn:aM n 0 2 with
  |false=>simp[lY,hn]
  | true=>
   have p6:=de.1 hn;have gb:=iC hg;simp only[bS,au];rw[aY (by omega) (by omega)];by_cases hr:g.rows-n<2
   ·have:decide (2<=g.rows-n)=false:=bD (by omega);rw[bF hr,aq];simp[lY,this]
   ·have hs:lY g n=true:=by simp[lY,hg,hn];omega
    rw[bD hr,au,hs,aq];have b1:=g9 g;obtain⟨bn,hb⟩:=kH b1.1;obtain⟨R,hR⟩:=kH (show 0<=g.rows-n by omega);have hw:W6 (g.rows-n)=(R:Int):=by rw[hR];exact aY (by omega) (by omega)
    have inner:∀ b:Nat,b<bn->iter Fc bA ((n,(),(),(),(b:Int),(0:Int),()),((g.cQ,g.aI,g.rows,g.aL,()),((0:Int),(),()),(n,(),()),([]:af Int),nN (b*R) R,()))=some (.inl ((n,(),(),(),(b:Int),()),((g.cQ,g.aI,g.rows,g.aL,()),((0:Int),(),()),(n,(),()),([]:af Int),nN ((b+1)*R) R,()))):=by
     intro b hbn;have hm:b*R<=8*16:=Nat.mul_le_mul (by omega) (by omega);have e:=gJ (step:=Fc) R (λj=>((n,(),(),(),(b:Int),(j:Int),()),((g.cQ,g.aI,g.rows,g.aL,()),((0:Int),(),()),(n,(),()),([]:af Int),nN (b*R) R++(List.range j).map (λi:Nat=>(i:Int)),())))
      (.inl ((n,(),(),(),(b:Int),()),((g.cQ,g.aI,g.rows,g.aL,()),((0:Int),(),()),(n,(),()),([]:af Int),nN (b*R) R++(List.range R).map (λi:Nat=>(i:Int)),()))) bA (λk h=>by
      unfold Fc ax xG;have ho:bH ((nN (b*R) R++(List.range k).map (λi:Nat=>(i:Int))).length+1)=true:=fl (by simp[W2];omega);dsimp only;rw[hw,bF (by omega),aq];simp only[nj,List.length_nil,fV];rw[ho,aq,bZ (by omega),List.range_succ,List.map_append,List.append_assoc];rfl) (by
      unfold Fc ax xG;dsimp only;rw[hw,bD (by omega),au]) (cP (by omega))
     rw[di,List.range_zero,List.map_nil,List.append_nil]at e;rw[e,<-av1 b R (by omega) R (gj _),jo]
    have e:=gJ (step:=JH) bn (λi=>((n,(),(),(),(i:Int),()),((g.cQ,g.aI,g.rows,g.aL,()),((0:Int),(),()),(n,(),()),([]:af Int),nN (i*R) R,())))
     (.inl (((),(),()),(((0:Int),(),()),(n,(),()),([]:af Int),nN (bn*R) R,()))) bA (λk h=>by
     unfold JH ax xG bQ;dsimp only;rw[tW,pQ,av,hb,bF (by omega),aq]
     refine(bJ (λo=>Option.bind o _) (inner k h)).trans ?_
     rw[av];simp only[iy];rw[bZ (by omega)]) (by
     unfold JH ax xG bQ;dsimp only;rw[tW,pQ,av,hb,bD (by omega),au]) (cP (by omega))
    rw[di,Nat.zero_mul]at e
    refine(bJ (λo=>Option.bind o _) e).trans ?_
    rw[hb,hR];rfl
def FH(t:dx):Int:=(AK t).getD 0
theorem ahh(t:dx):AK t=some (FH t):=by
 obtain⟨y,e⟩:=avZ t;unfold FH;rw[e];rfl
theorem av2(t:dx):IC t=some (FH t):=by rw[avY,ahh]
theorem W3(m:lu):JJ m=some (aM m.order 0 2):=by
 unfold JJ;rw[fC];rfl
theorem av3(m:lu):EL m=some (aM m.order 0 2):=by
 unfold EL;rw[fP];rfl
def rT(c:jr):Bool:=dw c.aJ&&(kY c.cx&&(aM c.mapping.order 0 2&&(lY c.aJ c.cF&&(aM c.interval (FH c.cx) 10000&&(aM c.kI 1 16&&(aM c.dZ.bI (W6 ((6:Int)*c.interval)) 100000&&aM c.dZ.bk 0 100000))))))
theorem QU(g:aX)(n:Int):(AX g n).2=lY g n:=by
 unfold AX;cases lY g n<;>rfl
theorem W4(c:jr):Pv c=some (rT c):=by
 unfold Pv rT;simp only[ahg,yz,QO,W3,ahh,fC,av,QU];cases dw c.aJ<;>cases kY c.cx<;>cases aM c.mapping.order 0 2<;>cases lY c.aJ c.cF<;>cases aM c.interval (FH c.cx) 10000<;>cases aM c.kI 1 16<;>cases aM c.dZ.bI (W6 ((6:Int)*c.interval)) 100000<;>rfl
theorem av4(c:jr):N6 c=some (rT c):=by
 unfold N6 rT;simp only[ahf,QS,av3,av2,fP,av,QU];cases h:lY c.aJ c.cF with
 |false=>cases dw c.aJ<;>cases kY c.cx<;>cases aM c.mapping.order 0 2<;>rfl
 | true=>
  rw[(QT h).1];cases kY c.cx<;>cases aM c.mapping.order 0 2<;>cases aM c.interval (FH c.cx) 10000<;>cases aM c.kI 1 16<;>cases aM c.dZ.bI (W6 ((6:Int)*c.interval)) 100000<;>rfl
theorem ahi{c:jr}(h:rT c=true):dw c.aJ=true/\kY c.cx=true/\lY c.aJ c.cF=true/\aM c.kI 1 16=true:=by
 simp only[rT,bx]at h;exact⟨h.1,h.2.1,h.2.2.2.1,h.2.2.2.2.2.1⟩
theorem ahj{t:dx}(h:kY t=true):(1<=t.gC/\t.gC<=64)/\1<=t.rp/\t.rp<=64:=by
 simp only[kY,bx,dQ]at h;have h1:=h.1 t.gC (by simp[rS]);have h2:=h.1 t.rp (by simp[rS]);simp only[AV,de]at h1 h2;exact⟨h1,h2⟩
def Df(s:bC):Bool:=aM s.weight 1 9&&aM s.gN 0 s.weight
def mZ(l:af bC):Bool:=l.all Df&&aM (l.length:Int) 1 4
theorem QV(l:af bC)(hl:l.length<1073741824):Fh l=some (mZ l):=by
 unfold Fh mZ bR;have e:=gZ (step:=JK) l Df (λi=>((l,l,(l.length:Int),(i:Int),()),())) (.inl ((false,()),())) (.inr (.inl ((l,()),()))) bA (λk h=>by
  unfold JK ax bu xG xI;simp (disch:=omega) [h,bZ,fC,Df];cases aM l[k].weight 1 9<;>cases aM l[k].gN 0 l[k].weight<;>rfl) (by unfold JK ax bu xG xI;simp) (cP hl)
 rw[di]at e;rw[e];cases l.all Df<;>simp[fC]
theorem W5(l:af bC)(hl:l.length<1073741824):EM l=some (mZ l):=by
 unfold EM mZ bR;have e:=gZ (step:=IE) l Df (λi=>((l,(i:Int),()),())) (.inl ((false,()),())) (.inr (.inl ((l,()),()))) bA (λk h=>by
  unfold IE ax bu xG xI;simp (disch:=omega) [h,bZ,fP,Df];cases aM l[k].weight 1 9<;>cases aM l[k].gN 0 l[k].weight<;>rfl) (by unfold IE ax bu xG xI;simp) (cP hl)
 rw[di]at e;rw[e];cases l.all Df<;>simp[fP]
def mG(w:Int):bC:=⟨w,w⟩
def FI(l:af Int):af bC×Bool:=bif mZ (l.map mG)then (l.map mG,true)else ([],false)
theorem ahk{l:af Int}{k:Nat}(h:k<l.length):(l.take (k+1)).map mG=(l.take k).map mG++[⟨l[k],l[k]⟩]:=by
 rw[List.take_succ_eq_append_getElem h,List.map_append];rfl
theorem av5(l:af Int)(hl:l.length<1073741823):Pw l=some (FI l):=by
 unfold Pw FI bQ;have e:=gJ (step:=JL) l.length (λi=>(((),l,(l.length:Int),(i:Int),()),((l.take i).map mG,()))) (.inl (((),()),(l.map mG,()))) bA (λk h=>by
  unfold JL ax xG xI;have ho:bH (((l.take k).map mG).length+1)=true:=fl (by simp;omega);dsimp only;rw[bF (by omega),aq,aG ⟨by omega,by omega⟩];simp only[nj,List.length_nil,fV,cc];rw[ho,aq,bZ (by omega),ahk h]) (by
  unfold JL ax xG xI;dsimp only;rw[bD (by omega),au,mL]) (cP (by omega))
 rw[di,List.take_zero,List.map_nil]at e
 refine(bJ (λo=>Option.bind o _) e).trans ?_
 rw[av];simp only[iy];rw[QV _ (by simp;omega),av];cases mZ (l.map mG)<;>rfl
theorem av6(l:af Int)(hl:l.length<1073741823):N7 l=some (FI l):=by
 unfold N7 FI bQ;have e:=gJ (step:=IF) (min l.length 5) (λi=>((l,(),(i:Int),()),((l.take i).map mG,()))) (.inl (((),()),((l.take 5).map mG,()))) bA (λk h=>by
  have hk:k<l.length:=by omega
  unfold IF ax xG xI;have ho:bH (((l.take k).map mG).length+1)=true:=fl (by simp;omega);dsimp only;rw[bF (by omega),aq,bF (by omega),aq,aG ⟨by omega,by omega⟩,aG ⟨by omega,by omega⟩];simp only[nj,List.length_nil,fV,cc];rw[ho,aq,bZ (by omega),ahk hk]) (by
  unfold IF ax xG xI;dsimp only;by_cases c:l.length<=5
  ·rw[Nat.min_eq_left c,mL,List.take_of_length_le c];by_cases c2:l.length=5
   ·rw[bD (by omega),au]
   ·rw[bD (by omega),au]
  ·rw[Nat.min_eq_right (by omega),bF (by omega),aq,bD (by omega),au]) (cP (by omega))
 rw[di,List.take_zero,List.map_nil]at e
 refine(bJ (λo=>Option.bind o _) e).trans ?_
 rw[av];simp only[iy];rw[W5 _ (by simp;omega),av];by_cases c:l.length<=5
 ·rw[List.take_of_length_le c];cases mZ (l.map mG)<;>rfl
 ·have h1:mZ (l.map mG)=false:=by
   unfold mZ;have:aM ((l.map mG).length:Int) 1 4=false:=by
    rw[Bool.eq_false_iff];intro h;have:=(de.1 h).2;rw[gB]at this;omega
   rw[this,Bool.and_false]
  have h2:mZ ((l.take 5).map mG)=false:=by
   unfold mZ;have:aM (((l.take 5).map mG).length:Int) 1 4=false:=by
    rw[Bool.eq_false_iff];intro h;have:=(de.1 h).2;rw[gB,jN]at this;omega
   rw[this,Bool.and_false]
  rw[h1,h2];rfl
theorem ahl(l:af Int):(FI l).2=mZ (l.map mG):=by
 unfold FI;cases mZ (l.map mG)<;>rfl
def yC(d:mP):Bool:=decide (d.low >= 0)&&(decide (d.low<d.high)&&decide (d.high<=12))
theorem ahm(d:mP):Fg d=some (yC d):=by
 unfold Fg yC;cases decide (d.low >= 0)<;>cases decide (d.low<d.high)<;>rfl
theorem ahn(d:mP):ID d=some (yC d):=by
 unfold ID yC;cases decide (d.low >= 0)<;>cases decide (d.low<d.high)<;>cases decide (d.high<=12)<;>rfl
def FJ(r:oq):Bool:=aM r.down 1 10000&&(decide (r.sleep > r.down)&&decide (r.sleep<=20000))
theorem av7(r:oq):JM r=some (FJ r):=by
 unfold JM FJ;rw[fC,av];cases aM r.down 1 10000<;>cases decide (r.sleep > r.down)<;>rfl
theorem av8(r:oq):N8 r=some (FJ r):=by
 unfold N8 FJ;rw[fP,av];cases aM r.down 1 10000<;>cases decide (r.sleep > r.down)<;>rfl
def yD(p:gn):Bool:=aM p.jb 0 1&&(aM p.cap 0 100000&&(aM p.fY 3 1000&&(yC ⟨false,p.low,p.high⟩&&((p.weights.length:Int)==4&&(mZ (p.weights.map mG)&&FJ p.fZ)))))
theorem av9(p:gn)(hl:p.weights.length<1073741823):N9 p=some (yD p):=by
 unfold N9 yD;simp only[av6 _ hl,av,fP,ahn,av8,ahl];cases aM p.jb 0 1<;>cases aM p.cap 0 100000<;>cases aM p.fY 3 1000<;>cases yC ⟨false,p.low,p.high⟩<;>cases mZ (p.weights.map mG)<;>cases ((p.weights.length:Int)==4)<;>rfl
theorem awa(x:Int):aM x 0 1=(x==0 || x==1):=by
 rw[Bool.eq_iff_iff];simp[aM];omega
theorem W7(p:gn)(hl:p.weights.length<1073741823):Px p=some (yD p):=by
 unfold Px yD;simp only[av5 _ hl,av,fC,ahm,av7,ahl,awa];cases (p.jb==0)<;>cases (p.jb==1)<;>cases aM p.cap 0 100000<;>cases aM p.fY 3 1000<;>cases yC ⟨false,p.low,p.high⟩<;>cases ((p.weights.length:Int)==4)<;>cases mZ (p.weights.map mG)<;>rfl
theorem awb(x:Int):Oa x=Fi x:=by
 unfold Oa Fi;rw[fP,fC]
theorem W8(x:Int):∃ y,Fi x=some y:=by
 unfold Fi;rw[fC,av];cases aM x 3 1000<;>exact⟨_,rfl⟩
theorem W9(c:jr)(p:gn)(hl:p.weights.length<1073741823):∃ b,wu c p=some b/\(b=true->rT c=true):=by
 unfold wu;obtain⟨y,e⟩:=W8 p.fY;simp only[W4,W7 _ hl,e,av];cases hc:rT c with
 |false=>exact⟨false,rfl,λh=>by cases h⟩
 | true=>
  have ht:=ahj (ahi hc).2.1;have hn:¬ W6 (c.cx.gC+c.cx.rp)=0:=by
   rw[aY (by omega) (by omega)];omega
  cases yD p with
  |false=>exact⟨false,rfl,λ_=>rfl⟩
  | true=>
   simp only[cm hn,bS,au,aq];cases decide (W6 (y+2)<=c.dZ.bk)<;>exact⟨_,rfl,λ_=>by first|rfl|trivial⟩
theorem awc(c:jr)(p:gn)(hl:p.weights.length<1073741823):∃ b,wu c p=some b/\EN c p=some b/\(b=true->rT c=true):=by
 unfold wu EN;obtain⟨y,e⟩:=W8 p.fY;simp only[W4,av4,W7 _ hl,av9 _ hl,awb,e,av];cases hc:rT c with
 |false=>exact⟨false,rfl,rfl,λh=>by cases h⟩
 | true=>
  have ht:=ahj (ahi hc).2.1;have hn:¬ W6 (c.cx.gC+c.cx.rp)=0:=by
   rw[aY (by omega) (by omega)];omega
  cases yD p with
  |false=>exact⟨false,rfl,rfl,λ_=>rfl⟩
  | true=>
   simp only[cm hn,bS,au,aq];cases decide (W6 (y+2)<=c.dZ.bk)<;>exact⟨_,rfl,rfl,λ_=>by first|rfl|trivial⟩
theorem aho(i:Nat)(l:af c8):((opens i l).length==0)=l.all λb=>!b.open_:=by
 induction l generalizing i with
 |nil=>rfl
 | cons x a ih=>
  simp only[opens,List.all_cons];cases x.open_ with
  |true=>simp
  |false=>simpa using ih (i+1)
def yE(g:aX)(b:c8):Bool:=aM b.row 0 (g.rows-1)&&(b.open_ ||b.row==0)
def tX(g:aX)(r:dy):Bool:=dw g&&(((r.aI.length:Int)==bq g)&&(aM r.aN 0 2&&(r.aI.all (yE g)&&(r.aN != 2 ||r.aI.all λb=>!b.open_))))
theorem ahp(g:aX)(r:dy):JO g r=some (tX g r):=by
 unfold JO tX bR;rw[yz,av,pQ];cases hg:dw g with
 |false=>rfl
 | true=>
  simp only[bS,au,av,cM];by_cases e1:(r.aI.length:Int)=bq g
  ·have b1:=g9 g;have gb:=iC hg;simp only[e1,eV,au,eJ,cM,fC,av];cases hp:aM r.aN 0 2 with
   |false=>rfl
   | true=>
    have e:=gZ (step:=JN) r.aI (yE g) (λi=>(((),(),r.aI,(r.aI.length:Int),(i:Int),()),((g.cQ,g.aI,g.rows,g.aL,()),(r.aI,r.aN,()),()))) (.inl ((false,()),())) (.inr (.inl (((),()),((r.aI,r.aN,()),())))) bA (λk h=>by
     unfold JN ax bu xG xI;dsimp only;rw[bF (by omega),aq,aG ⟨by omega,by omega⟩];simp only[cc,fC,av];rw[aY (n:=g.rows-1) (by omega) (by omega),bZ (by omega)];unfold yE;cases aM r.aI[k].row 0 (g.rows-1)with
     |false=>rfl
     | true=>
      cases r.aI[k].open_ with
      |true=>rfl
      | false=>
       simp only[bne];cases r.aI[k].row==0<;>rfl) (by
     unfold JN ax bu xG xI;dsimp only;rw[bD (by omega),au]) (cP (by omega))
    rw[di,e1]at e;simp only[bS,au,cM]
    refine(bJ (λo=>Option.bind o _) e).trans ?_
    rw[av];cases r.aI.all (yE g)with
    |false=>rfl
    | true=>
     simp only[aq,Sum.elim_inr,iy,cM];cases hq:r.aN != 2 with
     |true=>rfl
     | false=>
      simp only[au,Bool.false_or];have:(⟨r.aI,r.aN⟩:dy)=r:=rfl;rw[agX ⟨r.aI,r.aN⟩ (by show r.aI.length<_;omega),av,<-aho 0 r.aI];congr 1;simp only;rw[Bool.eq_iff_iff];simp
  ·have e2:((r.aI.length:Int)==bq g)=false:=by simp[e1]
   rw[iZ e1,e2];rfl
theorem awd(g:aX)(r:dy):Ob g r=some (tX g r):=by
 unfold Ob tX bR;rw[FD,av,tS];cases hg:dw g with
 |false=>rfl
 | true=>
  simp only[bS,au,av,cM];by_cases e1:(r.aI.length:Int)=bq g
  ·have b1:=g9 g;have gb:=iC hg;simp only[e1,eV,au,eJ,cM,fP,av];cases hp:aM r.aN 0 2 with
   |false=>rfl
   | true=>
    have e:=gZ (step:=IG) r.aI (λb=>yE g b&&(r.aN != 2 || !b.open_)) (λi=>(((),(),(i:Int),()),((g.cQ,g.aI,g.rows,g.aL,()),(r.aI,r.aN,()),()))) (.inl ((false,()),())) (.inr (.inl ((),()))) bA (λk h=>by
     unfold IG ax bu xG xI;dsimp only;rw[bF (by omega),aq,aG ⟨by omega,by omega⟩];simp only[cc,fP,av];rw[aY (n:=g.rows-1) (by omega) (by omega),bZ (by omega)];unfold yE;simp only[bne];cases aM r.aI[k].row 0 (g.rows-1)with
     |false=>rfl
     |true=>cases r.aI[k].open_<;>cases r.aI[k].row==0<;>cases r.aN==2<;>rfl) (by
     unfold IG ax bu xG xI;dsimp only;rw[bD (by omega),au]) (cP (by omega))
    rw[di]at e;simp only[bS,au,cM]
    refine(bJ (λo=>Option.bind o _) e).trans ?_
    rw[av];have ha:(r.aI.all λb=>yE g b&&(r.aN != 2 || !b.open_))=(r.aI.all (yE g)&&(r.aN != 2 || r.aI.all λb=>!b.open_)):=by
     cases r.aN != 2 with
     |true=>simp
     | false=>
      simp only[Bool.false_or];rw[Bool.eq_iff_iff];simp only[dQ,bx];exact⟨λh=>⟨λx hx=>(h x hx).1,λx hx=>(h x hx).2⟩,λh x hx=>⟨h.1 x hx,h.2 x hx⟩⟩
    rw[ha];cases (r.aI.all (yE g)&&(r.aN != 2 ||r.aI.all λb=>!b.open_))<;>rfl
  ·have e2:((r.aI.length:Int)==bq g)=false:=by simp[e1]
   rw[iZ e1,e2];rfl
def AY(d:Int):Bool:=aM d (-2) 5
def qC(r:fI):Bool:=r.cg.all AY&&(aM (r.cg.length:Int) 1 8&&aM r.wait 1 10000)
theorem ahq(r:fI)(hl:r.cg.length<1073741824):JY r=some (qC r):=by
 unfold JY qC bR;have e:=gZ (step:=JX) r.cg AY (λi=>(((),r.cg,(r.cg.length:Int),(i:Int),()),((r.cg,r.wait,r.ja,()),()))) (.inl ((false,()),())) (.inr (.inl (((),()),((r.cg,r.wait,r.ja,()),())))) bA (λk h=>by
  unfold JX ax bu xG xI;simp (disch:=omega) [h,bZ,fC,AY];cases aM r.cg[k] (-2) 5<;>rfl) (by unfold JX ax bu xG xI;simp) (cP hl)
 rw[di]at e;rw[e];cases r.cg.all AY<;>simp[fC];cases aM (r.cg.length:Int) 1 8<;>rfl
theorem ahr(r:fI)(hl:r.cg.length<1073741824):IT r=some (qC r):=by
 unfold IT qC bR;have e:=gZ (step:=IS) r.cg AY (λi=>(((),(i:Int),()),((r.cg,r.wait,r.ja,()),()))) (.inl ((false,()),())) (.inr (.inl (((),()),((r.cg,r.wait,r.ja,()),())))) bA (λk h=>by
  unfold IS ax bu xG xI;simp (disch:=omega) [h,bZ,fP,AY];cases aM r.cg[k] (-2) 5<;>rfl) (by unfold IS ax bu xG xI;simp) (cP hl)
 rw[di]at e;rw[e];cases r.cg.all AY<;>simp[fP];cases aM (r.cg.length:Int) 1 8<;>rfl
def iK{T:Type}(p:T->Bool)(l:af T):Int:=match l.findIdx? p with
 |some i=>(i:Int)
 |none=>-1
theorem wF{α β T:Type}{step:α->ak (α⊕β)}(l:af T)(p:T->Bool)(S:Nat->α)(zf:Nat->β)(z:β)(fuel:Nat)(hs:∀ k (h:k<l.length),step (S k)=some (bif p l[k]then .inr (zf k)else .inl (S (k+1))))(hz:step (S l.length)=some (.inr z))(hf:l.length<fuel):
  iter step fuel (S 0)=some (match l.findIdx? p with|some i=>zf i|none=>z):=by
 have key:∀ (n i fuel:Nat),i+n=l.length->n<fuel->(∀ j (h:j<l.length),j<i->p l[j]=false)->iter step fuel (S i)=some (match l.findIdx? p with | some i=>zf i | none=>z):=by
  intro n
  induction n with
  | zero=>
   intro i fuel hi hf hn
   match fuel,hf with
   | f+1,_=>
    have:i=l.length:=by omega
    subst this;have e:l.findIdx? p=none:=by
     rw[List.findIdx?_eq_none_iff];intro x hx;obtain⟨j,hj,rfl⟩:=o3.1 hx;exact hn j hj hj
    unfold iter;rw[hz,e]
  | succ n ih=>
   intro i fuel hi hf hn
   match fuel,hf with
   | f+1,hf=>
    have bW:i<l.length:=by omega
    unfold iter;rw[hs i bW];cases hp:p l[i]with
    | true=>
     have e:l.findIdx? p=some i:=by
      rw[s7]
      refine⟨bW,hp,λj hj=>?_⟩
      rw[hn j (by omega) hj];simp
     rw[e];rfl
    | false=>
     simp only[au]
     refine ih (i+1) f (by omega) (by omega) λj hj fq=>?_
     by_cases e:j=i
     ·subst e;exact hp
     ·exact hn j hj (by omega)
 exact key l.length 0 fuel (by omega) hf λj _ h=>by omega
theorem FK{T:Type}{p:T->Bool}{l:af T}{i:Nat}(h:i<l.length)(hp:p l[i]=true):(iK p l != (i:Int))=(l.take i).any p:=by
 unfold iK;cases ha:(l.take i).any p with
 | false=>
  have e:l.findIdx? p=some i:=by
   rw[s7]
   refine⟨h,hp,λj hj=>?_⟩
   have:=List.any_eq_false.1 ha l[j] (o3.2 ⟨j,by simp;omega,by simp⟩);exact this
  rw[e];simp
 | true=>
  obtain⟨x,hx,Hr⟩:=List.any_eq_true.1 ha;obtain⟨j,hj,rfl⟩:=o3.1 hx;rw[jN]at hj;cases hf:l.findIdx? p with
  |none=>simp
  | some k=>
   obtain⟨k1,k2,k3⟩:=s7.1 hf;have:k≠i:=by
    rintro rfl;have:=k3 j (by omega);rw[List.getElem_take]at Hr;exact this Hr
   simp only;simp;omega
def QW(x:Int):Bool:=aM x 0 4294967295
def sV(n:Int)(r:bN):Bool:=aM r.id 1 100000&&(aM r.dX 0 3&&(decide (r.line >= 0)&&(decide (r.line<n)&&(QW r.data&&((r.write ||r.data==0)&&aM r.at_ 0 1000000)))))
theorem awe(n:Int)(r:bN):PF n r=some (sV n r):=by
 unfold PF sV CP QW;simp only[fC,av];cases aM r.id 1 100000<;>cases aM r.dX 0 3<;>cases decide (r.line >= 0)<;>cases decide (r.line<n)<;>cases aM r.data 0 4294967295<;>cases r.write<;>cases r.data==0<;>rfl
theorem awf(n:Int)(r:bN):Oi n r=some (sV n r):=by
 unfold Oi sV IW QW;simp only[fP,av];cases aM r.id 1 100000<;>cases aM r.dX 0 3<;>cases decide (r.line >= 0)<;>cases decide (r.line<n)<;>cases aM r.data 0 4294967295<;>cases r.write<;>cases r.data==0<;>rfl
def Dg(x y:bN):Bool:=decide (x.at_<y.at_) ||(x.at_==y.at_&&decide (x.id<y.id))
theorem ahs(x y:bN):PG x y=some (Dg x y):=by
 unfold PG Dg;cases decide (x.at_<y.at_)<;>cases x.at_==y.at_<;>rfl
theorem awg(x y:bN):VL x y=some (Dg x y):=ahs x y
theorem Xa(l:af bN)(id:Int)(hl:l.length<1073741824):EP l id=some (iK (λr=>r.id==id) l):=by
 unfold EP iK bR;have e:=wF (step:=IX) l (λr=>r.id==id) (λi=>((l,id,(i:Int),()),())) (λi=>.inl (((i:Int),()),())) (.inr (.inl ((),()))) bA (λk h=>by
  unfold IX ax bu xG xI;simp (disch:=omega) [h,bZ];cases l[k].id==id<;>rfl) (by unfold IX ax bu xG xI;simp) (cP hl)
 rw[di]at e;rw[e];cases l.findIdx? (λr=>r.id==id)<;>rfl
def ve(n:Int)(q:af bN)(i:Nat):Bool:=match q[i]? with
 |some r=>sV n r&&((i==0 ||(match q[i-1]? with|some x=>Dg x r|none=>false)) && !((q.take i).any λx=>x.id==r.id))
 |none=>false
theorem aht{n:Int}{q:af bN}(h:0<q.length):ve n q 0=sV n q[0]:=by
 unfold ve;rw[cu h];simp
theorem Xb{n:Int}{q:af bN}{i:Nat}(h:i+1<q.length):ve n q (i+1)=(sV n q[i+1]&&(Dg q[i] q[i+1] && !((q.take (i+1)).any λx=>x.id==q[i+1].id))):=by
 unfold ve;rw[cu h];simp only[Nat.add_sub_cancel];rw[cu (by omega)];simp
def Dh(n:Int)(q:af bN):Bool:=(List.range q.length).all (ve n q)&&decide ((q.length:Int)<=12)
theorem awh(n:Int)(q:af bN):Oj n q=some (Dh n q):=by
 unfold Oj Dh bR;by_cases c:(q.length:Int)<=12
 ·rw[bD (show ¬ (q.length:Int) > 12 by omega),au,bF c,Bool.and_true];have e:=gZ (step:=IY) (List.range q.length) (ve n q) (λi=>((n,q,(i:Int),()),())) (.inl ((false,()),())) (.inr (.inl ((),()))) bA (λk h=>by
   rw[eX]at h;rw[nP];unfold IY ax bu xG xI;dsimp only;rw[bF (by omega),aq,aG ⟨by omega,by omega⟩];simp only[cc,awf,av];cases k with
   | zero=>
    rw[aht h];cases sV n q[0]with
    |false=>rfl
    | true=>
     simp only[bS,au,aq];rw[bD (by omega),au,aG ⟨by omega,h⟩,Xa _ _ (by omega),av,FK h (by simp)];simp;rfl
   | succ k=>
    rw[Xb h];cases sV n q[k+1]with
    |false=>rfl
    | true=>
     simp only[bS,au,cM];have hw:W6 (((k+1:Nat):Int)-1)=(k:Int):=by rw[aY (by omega) (by omega)];omega
     simp only[hw,cc];rw[bF (by omega),aq,aG ⟨by omega,by omega⟩,aG ⟨by omega,h⟩,awg,av];cases Dg q[k] q[k+1]with
     |false=>rfl
     | true=>
      simp only[bS,au,cM];rw[aG ⟨by omega,h⟩,Xa _ _ (by omega),av,FK h (by simp),bZ (by omega)];cases (q.take (k+1)).any λx=>x.id==q[k+1].id<;>rfl) (by
   rw[eX];unfold IY ax bu xG xI;dsimp only;rw[bD (by omega),au]) (by rw[eX];exact cP (by omega))
  rw[di]at e
  refine(bJ (λo=>Option.bind o _) e).trans ?_
  rw[av];cases (List.range q.length).all (ve n q)<;>rfl
 ·rw[bF (show (q.length:Int) > 12 by omega),aq,bD c,Bool.and_false]
theorem awi(n:Int)(q:af bN){i:Nat}(h:i<q.length)(hl:q.length<1073741824):
  iter CQ bA ((n,q,(),q,(q.length:Int),(i:Int),((q.take i).drop 0),(((q.take i).drop 0).length:Int),(0:Int),()),((q[i].id,q[i].dX,q[i].line,q[i].write,q[i].data,q[i].at_,()),()))=some (bif (q.take i).any (λx=>x.id==q[i].id)then .inl ((false,()),())else .inr (.inl ((n,q,q,(q.length:Int),(i:Int),()),()))):=by
 rw[List.drop_zero];have hlen:(q.take i).length=i:=by rw[jN];omega
 generalize hr:q[i]=r;generalize ht:q.take i=t at *
 have e:=gZ (step:=CQ) t (λx=>!(x.id==r.id)) (λj=>((n,q,(),q,(q.length:Int),(i:Int),t,(t.length:Int),(j:Int),()),((r.id,r.dX,r.line,r.write,r.data,r.at_,()),()))) (.inl ((false,()),())) (.inr (.inl ((n,q,q,(q.length:Int),(i:Int),()),()))) bA (λk h=>by
  unfold CQ ax bu xG xI;dsimp only;rw[bF (by omega),aq,aG ⟨by omega,by omega⟩];simp only[cc];rw[bZ (by omega)];cases t[k].id==r.id<;>rfl) (by
  unfold CQ ax bu xG xI;dsimp only;rw[bD (by omega),au]) (cP (by omega))
 rw[di]at e;rw[e];have:t.all (λx=>!(x.id==r.id)) = !t.any λx=>x.id==r.id:=by rw[List.any_eq_not_all_not,Bool.not_not]
 rw[this];cases t.any λx=>x.id==r.id<;>rfl
theorem awj(n:Int)(q:af bN)(hl:q.length<1073741824):PI n q=some (Dh n q):=by
 unfold PI Dh bR;have e:=gZ (step:=J2) (List.range q.length) (ve n q) (λi=>((n,q,q,(q.length:Int),(i:Int),()),())) (.inl ((false,()),())) (.inr (.inl ((q,()),()))) bA (λk h=>by
   rw[eX]at h;rw[nP];unfold J2 ax bu xG xI bR;dsimp only;rw[bF (by omega),aq,aG ⟨by omega,by omega⟩];simp only[cc,awe,av];have hq:=awi n q h hl;cases k with
   | zero=>
    rw[aht h];cases sV n q[0]with
    |false=>rfl
    | true=>
     simp only[bS,au,aq];rw[bD (by omega),au,bB ⟨by omega,by omega,by omega⟩]
     refine(bJ (λo=>Option.bind o _) hq).trans ?_
     simp;rfl
   | succ k=>
    rw[Xb h];cases sV n q[k+1]with
    |false=>rfl
    | true=>
     simp only[bS,au,cM];have hw:W6 (((k+1:Nat):Int)-1)=(k:Int):=by rw[aY (by omega) (by omega)];omega
     simp only[hw,cc];rw[bF (by omega),aq,aG ⟨by omega,by omega⟩,ahs,av];cases Dg q[k] q[k+1]with
     |false=>rfl
     | true=>
      simp only[bS,au,cM];rw[bB ⟨by omega,by omega,by omega⟩]
      refine(bJ (λo=>Option.bind o _) hq).trans ?_
      rw[av];cases (q.take (k+1)).any λx=>x.id==q[k+1].id with
      |true=>rfl
      | false=>
       simp only[au,Sum.elim_inr,iy];rw[bZ (by omega)];rfl) (by
   rw[eX];unfold J2 ax bu xG xI bR;dsimp only;rw[bD (by omega),au]) (by rw[eX];exact cP (by omega))
 rw[di]at e
 refine(bJ (λo=>Option.bind o _) e).trans ?_
 rw[av];cases (List.range q.length).all (ve n q)<;>rfl
def tY(p:gO):Bool:=aM p.state 0 2&&(aM p.since 0 1000000&&aM p.idle 0 1000000)
theorem ahu(p:gO):J3 p=some (tY p):=by
 unfold J3 tY;simp only[fC,av];cases aM p.state 0 2<;>cases aM p.since 0 1000000<;>rfl
theorem ahv(p:gO):Av p=some (tY p):=by
 unfold Av tY;simp only[fP,av];cases aM p.state 0 2<;>cases aM p.since 0 1000000<;>rfl
def QX(e:bw):Bool:=aM e.line 0 1023&&((e.code==1 ||e.code==2)&&aM e.times 1 999)
def lZ(e x:bw):Bool:=x.line==e.line&&x.code==e.code
def Di(l:af bw)(i:Nat):Bool:=match l[i]? with
 |some e=>QX e && !((l.take i).any (lZ e))
 |none=>false
theorem ahw{l:af bw}{i:Nat}(h:i<l.length):Di l i=(QX l[i] && !((l.take i).any (lZ l[i]))):=by
 unfold Di;rw[cu h]
def tZ(l:af bw):Bool:=(List.range l.length).all (Di l)&&decide ((l.length:Int)<=6)
theorem ahx(l:af bw)(e:bw)(hl:l.length<1073741824):I0 l e.line e.code=some (iK (lZ e) l):=by
 unfold I0 iK bR;have e:=wF (step:=IZ) l (lZ e) (λi=>((l,e.line,e.code,(i:Int),()),())) (λi=>.inl (((i:Int),()),())) (.inr (.inl ((),()))) bA (λk h=>by
  unfold IZ lZ ax bu xG xI;dsimp only;rw[bF (by omega),aq,aG ⟨by omega,by omega⟩,aG ⟨by omega,by omega⟩];simp only[cc];rw[bZ (by omega)];cases l[k].line==e.line<;>cases l[k].code==e.code<;>rfl) (by
  unfold IZ ax bu xG xI;dsimp only;rw[bD (by omega),au]) (cP hl)
 rw[di]at e;rw[e];cases l.findIdx? (lZ _)<;>rfl
theorem ahy(l:af bw):I2 l=some (tZ l):=by
 unfold I2 tZ bR;by_cases c:(l.length:Int)<=6
 ·rw[bD (show ¬ (l.length:Int) > 6 by omega),au,bF c,Bool.and_true];have e:=gZ (step:=I1) (List.range l.length) (Di l) (λi=>((l,(i:Int),()),())) (.inl ((false,()),())) (.inr (.inl ((),()))) bA (λk h=>by
   rw[eX]at h;rw[nP,ahw h];unfold I1 ER QX ax bu xG xI;dsimp only;rw[bF (by omega),aq,aG ⟨by omega,by omega⟩,aG ⟨by omega,by omega⟩,aG ⟨by omega,by omega⟩];simp only[cc,fP,av];rw[ahx _ _ (by omega),av,FK h (by simp[lZ]),bZ (by omega)];cases aM l[k].line 0 1023<;>cases l[k].code==1<;>cases l[k].code==2<;>cases aM l[k].times 1 999<;>cases (l.take k).any (lZ l[k])<;>rfl) (by
   rw[eX];unfold I1 ax bu xG xI;dsimp only;rw[bD (by omega),au]) (by rw[eX];exact cP (by omega))
  rw[di]at e
  refine(bJ (λo=>Option.bind o _) e).trans ?_
  rw[av];cases (List.range l.length).all (Di l)<;>rfl
 ·rw[bF (show (l.length:Int) > 6 by omega),aq,bD c,Bool.and_false]
theorem awk(l:af bw){i:Nat}(h:i<l.length)(hl:l.length<1073741824):
  iter CR bA ((l,(),l,(l.length:Int),(i:Int),((l.take i).drop 0),(((l.take i).drop 0).length:Int),(0:Int),()),((l[i].line,l[i].code,l[i].times,()),()))=some (bif (l.take i).any (lZ l[i])then .inl ((false,()),())else .inr (.inl ((l,l,(l.length:Int),(i:Int),()),()))):=by
 rw[List.drop_zero];have hlen:(l.take i).length=i:=by rw[jN];omega
 generalize hr:l[i]=r;generalize ht:l.take i=t at *
 have e:=gZ (step:=CR) t (λx=>!(lZ r x)) (λj=>((l,(),l,(l.length:Int),(i:Int),t,(t.length:Int),(j:Int),()),((r.line,r.code,r.times,()),()))) (.inl ((false,()),())) (.inr (.inl ((l,l,(l.length:Int),(i:Int),()),()))) bA (λk h=>by
  unfold CR lZ ax bu xG xI;dsimp only;rw[bF (by omega),aq,aG ⟨by omega,by omega⟩];simp only[cc];rw[bZ (by omega),BEq.comm (a:=r.line),BEq.comm (a:=r.code)];cases t[k].line==r.line<;>cases t[k].code==r.code<;>rfl) (by
  unfold CR ax bu xG xI;dsimp only;rw[bD (by omega),au]) (cP (by omega))
 rw[di]at e;rw[e];have:t.all (λx=>!(lZ r x)) = !t.any (lZ r):=by rw[List.any_eq_not_all_not,Bool.not_not]
 rw[this];cases t.any (lZ r)<;>rfl
theorem ahz(l:af bw)(hl:l.length<1073741824):J5 l=some (tZ l):=by
 unfold J5 tZ bR;have e:=gZ (step:=J4) (List.range l.length) (Di l) (λi=>((l,l,(l.length:Int),(i:Int),()),())) (.inl ((false,()),())) (.inr (.inl ((l,()),()))) bA (λk h=>by
   rw[eX]at h;rw[nP,ahw h];have hq:=awk l h hl;unfold J4 QX ax bu xG xI bR;dsimp only;rw[bF (by omega),aq,aG ⟨by omega,by omega⟩];simp only[cc,fC,av,bne];rw[bB ⟨by omega,by omega,by omega⟩];rw[show (0:Int).toNat=0 from rfl,hq];cases aM l[k].line 0 1023<;>cases l[k].code==1<;>cases l[k].code==2<;>cases aM l[k].times 1 999<;>cases (l.take k).any (lZ l[k])<;>first|rfl|(simp only[aq,au,bS,Bool.not_false,av,Sum.elim_inr,iy];rw[bZ (by omega)];rfl)) (by
   rw[eX];unfold J4 ax bu xG xI bR;dsimp only;rw[bD (by omega),au]) (by rw[eX];exact cP (by omega))
 rw[di]at e
 refine(bJ (λo=>Option.bind o _) e).trans ?_
 rw[av];cases (List.range l.length).all (Di l)<;>rfl
theorem Xc(l:af Int)(x:Int)(hl:l.length<1073741824):CN l x=some (iK (λe=>x==e) l):=by
 unfold CN iK;have e:=wF (step:=JZ) l (λe=>x==e) (λi=>((l,x,(l.length:Int),(i:Int),()),())) (λi=>.inl (((i:Int),()),())) (.inr (.inl ((),()))) bA (λk h=>by
  unfold JZ ax bu xG xI;dsimp only;rw[bF (by omega),aq,aG ⟨by omega,by omega⟩];simp only[cc];rw[bZ (by omega)];cases x==l[k]<;>rfl) (by
  unfold JZ ax bu xG xI;dsimp only;rw[bD (by omega),au]) (cP hl)
 rw[di]at e;rw[e];cases l.findIdx? (λe=>x==e)<;>rfl
def Dj(t:bO)(i:Nat):Bool:=match t.rows[i]?,t.counts[i]? with
 |some r,some c=>aM r (-1) 15&&(aM c t.cN 100000&&((r != -1 ||c==0)&&(r == -1 ||!((t.rows.take i).any λx=>r==x))))
 |_,_=>false
theorem Xd{t:bO}{i:Nat}(h:i<t.rows.length)(h':i<t.counts.length):Dj t i=(aM t.rows[i] (-1) 15&&(aM t.counts[i] t.cN 100000&&((t.rows[i] != -1 || t.counts[i]==0)&&(t.rows[i] == -1 || !((t.rows.take i).any λx=>t.rows[i]==x))))):=by
 unfold Dj;rw[cu h,cu h']
def oe(t:bO):Bool:=aM (t.rows.length:Int) 1 16&&((t.rows.length:Int)==(t.counts.length:Int)&&(aM t.cN 0 100000&&(List.range t.rows.length).all (Dj t)))
theorem Xe(t:bO):AL t=some (oe t):=by
 unfold AL oe bR;simp only[fC,av];cases h1:aM (t.rows.length:Int) 1 16 with
 |false=>rfl
 | true=>
  have h1:=de.1 h1;by_cases h2:(t.rows.length:Int)=(t.counts.length:Int)
  ·simp only[h2,eV,eJ,bS,au,cM];cases h3:aM t.cN 0 100000 with
   |false=>rfl
   | true=>
    have e:=gZ (step:=J0) (List.range t.rows.length) (Dj t) (λi=>(((),t.rows,(t.rows.length:Int),(i:Int),()),((t.rows,t.counts,t.cN,()),()))) (.inl ((false,()),())) (.inr (.inl ((),()))) bA (λk h=>by
     rw[eX]at h;have h':k<t.counts.length:=by omega
     rw[nP,Xd h h'];unfold J0 ax bu xG xI;dsimp only;rw[bF (by omega),aq,aG ⟨by omega,by omega⟩,aG ⟨by omega,by omega⟩,aG ⟨by omega,by omega⟩];simp only[cc,fC,av,Xc _ _ (show t.rows.length<1073741824 by omega)];rw[FK (p:=λe=>t.rows[k]==e) h (by simp),bZ (by omega)];simp only[bne];cases aM t.rows[k] (-1) 15<;>cases aM t.counts[k] t.cN 100000<;>cases t.rows[k] == -1<;>cases t.counts[k]==0<;>cases (t.rows.take k).any (λe=>t.rows[k]==e)<;>rfl) (by
     rw[eX];unfold J0 ax bu xG xI;dsimp only;rw[bD (by omega),au]) (by rw[eX];exact cP (by omega))
    rw[di,h2]at e;simp only[bS,au,cM]
    refine(bJ (λo=>Option.bind o _) e).trans ?_
    rw[av];cases (List.range t.rows.length).all (Dj t)<;>rfl
  ·have e2:((t.rows.length:Int)==(t.counts.length:Int))=false:=by simp[h2]
   have e3:((t.counts.length:Int) != (t.rows.length:Int))=true:=iZ λh=>h2 h.symm
   rw[e2,e3];rfl
theorem awl(t:bO){i:Nat}(h:i<t.rows.length)(hl:t.rows.length<1073741824):
  iter Cx bA (((),(i:Int),(0:Int),()),((t.rows,t.counts,t.cN,()),()))=some (bif decide (t.rows[i] >= 0)&&(t.rows.take i).any (λx=>t.rows[i]==x)then .inl ((false,()),())else .inr (.inl (((),(i:Int),()),((t.rows,t.counts,t.cN,()),())))):=by
 have hlen:(t.rows.take i).length=i:=by rw[jN];omega
 have e:=gZ (step:=Cx) (t.rows.take i) (λx=>!(decide (t.rows[i] >= 0)&&t.rows[i]==x)) (λj=>(((),(i:Int),(j:Int),()),((t.rows,t.counts,t.cN,()),()))) (.inl ((false,()),())) (.inr (.inl (((),(i:Int),()),((t.rows,t.counts,t.cN,()),())))) bA (λk hk=>by
  rw[hlen]at hk;unfold Cx ax bu xG xI;dsimp only;rw[bF (by omega),aq,aG ⟨by omega,by omega⟩,aG ⟨by omega,by omega⟩,aG ⟨by omega,by omega⟩];simp only[cc,List.getElem_take];rw[bZ (by omega),BEq.comm (a:=t.rows[k])];cases decide (t.rows[i] >= 0)<;>cases t.rows[i]==t.rows[k]<;>rfl) (by
  rw[hlen];unfold Cx ax bu xG xI;dsimp only;rw[bD (by omega),au]) (cP (by omega))
 rw[di]at e;rw[e];have:(t.rows.take i).all (λx=>!(decide (t.rows[i] >= 0)&&t.rows[i]==x)) = !(decide (t.rows[i] >= 0)&&(t.rows.take i).any (λx=>t.rows[i]==x)):=by
  cases decide (t.rows[i] >= 0)with
  |false=>simp
  | true=>
   simp only[cM];rw[List.any_eq_not_all_not,Bool.not_not]
 rw[this];cases (decide (t.rows[i] >= 0)&&(t.rows.take i).any (λx=>t.rows[i]==x))<;>rfl
theorem Xf(t:bO):CA t=some (oe t):=by
 unfold CA oe bR;simp only[fP,av];cases h1:aM (t.rows.length:Int) 1 16 with
 |false=>rfl
 | true=>
  have h1:=de.1 h1;by_cases h2:(t.rows.length:Int)=(t.counts.length:Int)
  ·simp only[h2,eV,eJ,bS,au,cM];cases h3:aM t.cN 0 100000 with
   |false=>rfl
   | true=>
    have e:=gZ (step:=IU) (List.range t.rows.length) (Dj t) (λi=>(((),(i:Int),()),((t.rows,t.counts,t.cN,()),()))) (.inl ((false,()),())) (.inr (.inl ((),()))) bA (λk h=>by
     rw[eX]at h;have h':k<t.counts.length:=by omega
     have hq:=awl t h (by omega);rw[nP,Xd h h'];unfold IU ax bu xG xI bR;dsimp only;rw[bF (by omega),aq,aG ⟨by omega,by omega⟩,aG ⟨by omega,by omega⟩,aG ⟨by omega,by omega⟩,aG ⟨by omega,by omega⟩];simp only[cc,fP,av];rw[hq,av];cases hr:aM t.rows[k] (-1) 15 with
     |false=>rfl
     | true=>
      have hr:=de.1 hr;cases aM t.counts[k] t.cN 100000 with
      |false=>rfl
      | true=>
       simp only[bS,au,cM,bne];by_cases hm:t.rows[k] = -1
       ·rw[bF (show t.rows[k]<0 by omega),bD (show ¬ t.rows[k] >= 0 by omega),show (t.rows[k] == -1)=true by simp[hm]];simp only[aq,au,Bool.false_and,Sum.elim_inr,iy];rw[bZ (by omega)];cases t.counts[k]==0<;>rfl
       ·rw[bD (show ¬ t.rows[k]<0 by omega),bF (show t.rows[k] >= 0 by omega),show (t.rows[k] == -1)=false by simp[hm]];simp only[aq,au,cM];cases (t.rows.take k).any λx=>t.rows[k]==x with
        |true=>rfl
        | false=>
         simp only[au,Sum.elim_inr,iy];rw[bZ (by omega)];rfl) (by
     rw[eX];unfold IU ax bu xG xI bR;dsimp only;rw[bD (by omega),au]) (by rw[eX];exact cP (by omega))
    rw[di]at e;simp only[bS,au,cM]
    refine(bJ (λo=>Option.bind o _) e).trans ?_
    rw[av];cases (List.range t.rows.length).all (Dj t)<;>rfl
  ·have e2:((t.rows.length:Int)==(t.counts.length:Int))=false:=by simp[h2]
   rw[e2,iZ h2];rfl
theorem w9(g:aX):W6 ((9:Int)*(W6 (bq g+(1:Int))))=9*(bq g+1):=by
 have:=g9 g;rw[aY (n:=bq g+1) (by omega) (by omega),aY (by omega) (by omega)]
theorem Lz(k:Int):yl k=some (aM k 1 5):=by
 unfold yl;rw[fC];rfl
theorem awm(n:Int)(u:Bool)(k:Int):CS n u k=some (bif u then aM n 0 (W6 (k-1))else n==0):=by
 unfold CS;rw[fC];cases u<;>rfl
def rU(g:aX)(i:Nat):Bool:=decide ((i:Int) / 9<bq g)==decide ((i:Int) % 9+1<=5)
theorem awn(g:aX){i:Nat}(hi:i<1000):Oc g (i:Int)=some (rU g i):=by
 unfold Oc rU;rw[tS,av,Int.tdiv_eq_ediv_of_nonneg (by omega),uf (by omega),aY (by omega) (by omega),aY (by omega) (by omega),BEq.comm]
theorem awo(g:aX){i:Nat}(hi:i<1000):∃ c,CK g (i:Int)=some (c,rU g i):=by
 unfold CK rU;rw[pQ,av,Int.tdiv_eq_ediv_of_nonneg (by omega),uf (by omega),aY (by omega) (by omega),aY (by omega) (by omega),Lz,av];have:aM ((i:Int) % 9+1) 1 5=decide ((i:Int) % 9+1<=5):=by
  rw[Bool.eq_iff_iff];simp[aM];omega
 rw[this];cases decide ((i:Int) / 9<bq g)<;>exact⟨_,rfl⟩
def Dk(g:aX)(l:af Int)(i:Nat):Bool:=match l[i]? with
 |some e=>aM e (-1) 1000000&&(rU g i ||e == -1)
 |none=>false
theorem Xg{g:aX}{l:af Int}{i:Nat}(h:i<l.length):Dk g l i=(aM l[i] (-1) 1000000&&(rU g i || l[i] == -1)):=by
 unfold Dk;rw[cu h]
def yF(l:af Int)(i:Nat):Bool:=match l[i]? with
 |some e=>aM e 0 1000000&&(i==0 ||(match l[i-1]? with|some x=>!(decide (x >= e))|none=>false))
 |none=>false
theorem Xh{l:af Int}(h:0<l.length):yF l 0=aM l[0] 0 1000000:=by
 unfold yF;rw[cu h];simp
theorem Xi{l:af Int}{i:Nat}(h:i+1<l.length):yF l (i+1)=(aM l[i+1] 0 1000000 && !(decide (l[i] >= l[i+1]))):=by
 unfold yF;rw[cu h];simp only[Nat.add_sub_cancel];rw[cu (by omega)];simp
def qD(g:aX)(r:dA):Bool:=dw g&&((r.last.length:Int)==9*(bq g+1)&&(!(decide ((r.aZ.length:Int) > 4))&&((List.range r.last.length).all (Dk g r.last)&&(List.range r.aZ.length).all (yF r.aZ))))
theorem Xj(g:aX)(r:dA):Fk g r=some (qD g r):=by
 unfold Fk qD bR;rw[yz,av,pQ];cases hg:dw g with
 |false=>rfl
 | true=>
  simp only[bS,au,av,cM,w9];by_cases e1:(r.last.length:Int)=9*(bq g+1)
  ·have b1:=g9 g;rw[e1,eV,au,eJ,cM,<-e1];cases h2:decide ((r.aZ.length:Int) > 4)with
   |true=>rfl
   | false=>
    have h2:=of_decide_eq_false h2;have l1:=gZ (step:=JP) (List.range r.last.length) (Dk g r.last) (λi=>(((),(),r.last,(r.last.length:Int),(i:Int),()),((g.cQ,g.aI,g.rows,g.aL,()),(r.last,r.aZ,()),()))) (.inl ((false,()),())) (.inr (.inl (((),()),((r.last,r.aZ,()),())))) bA (λk h=>by
     rw[eX]at h;obtain⟨c,hc⟩:=awo g (i:=k) (by omega);rw[nP,Xg h];unfold JP ax bu xG xI;dsimp only;rw[bF (by omega),aq,aG ⟨by omega,by omega⟩];simp only[cc,fC,av,tW,hc,bne];rw[bZ (by omega)];cases aM r.last[k] (-1) 1000000<;>cases rU g k<;>cases r.last[k] == -1<;>rfl) (by
     rw[eX];unfold JP ax bu xG xI;dsimp only;rw[bD (by omega),au]) (by rw[eX];exact cP (by omega))
    have l2:=gZ (step:=JQ) (List.range r.aZ.length) (yF r.aZ) (λi=>(((),r.aZ,(r.aZ.length:Int),(i:Int),()),((r.last,r.aZ,()),()))) (.inl ((false,()),())) (.inr (.inl ((),()))) bA (λk h=>by
     rw[eX]at h;rw[nP];unfold JQ ax bu xG xI;dsimp only;rw[bF (by omega),aq,aG ⟨by omega,by omega⟩];simp only[cc,fC,av];cases k with
     | zero=>
      rw[Xh h];cases aM r.aZ[0] 0 1000000 with
      |false=>rfl
      | true=>
       rw[bD (by omega)];rfl
     | succ k=>
      rw[Xi h];have hw:W6 (((k+1:Nat):Int)-1)=(k:Int):=by rw[aY (by omega) (by omega)];omega
      simp only[hw,cc];rw[bF (show ((k+1:Nat):Int) > 0 by omega),aG ⟨by omega,by omega⟩,bZ (by omega)];cases aM r.aZ[k+1] 0 1000000<;>cases decide (r.aZ[k] >= r.aZ[k+1])<;>rfl) (by
     rw[eX];unfold JQ ax bu xG xI;dsimp only;rw[bD (by omega),au]) (by rw[eX];exact cP (by omega))
    rw[di]at l1 l2;simp only[Bool.not_false,au,cM]
    refine(bJ (λo=>Option.bind o _) l1).trans ?_
    rw[av];cases (List.range r.last.length).all (Dk g r.last)with
    |false=>rfl
    | true=>
     simp only[aq,Sum.elim_inr,iy,cM]
     refine(bJ (λo=>Option.bind o _) l2).trans ?_
     rw[av];cases (List.range r.aZ.length).all (yF r.aZ)<;>rfl
  ·have e2:((r.last.length:Int)==9*(bq g+1))=false:=by simp[e1]
   rw[iZ e1,e2];rfl
theorem ahA(g:aX)(r:dA):IK g r=some (qD g r):=by
 unfold IK qD bR;rw[FD,av,tS];cases hg:dw g with
 |false=>rfl
 | true=>
  simp only[bS,au,av,cM,w9];by_cases e1:(r.last.length:Int)=9*(bq g+1)
  ·have b1:=g9 g;rw[e1,eV,au,eJ,cM];cases h2:decide ((r.aZ.length:Int) > 4)with
   |true=>rfl
   | false=>
    have h2:=of_decide_eq_false h2;have l1:=gZ (step:=II) (List.range r.last.length) (Dk g r.last) (λi=>(((),(),(i:Int),()),((g.cQ,g.aI,g.rows,g.aL,()),(r.last,r.aZ,()),()))) (.inl ((false,()),())) (.inr (.inl (((),()),((r.last,r.aZ,()),())))) bA (λk h=>by
     rw[eX]at h;rw[nP,Xg h];unfold II ax bu xG xI;dsimp only;rw[bF (by omega),aq,aG ⟨by omega,by omega⟩,aG ⟨by omega,by omega⟩];simp only[cc,fP,av,tW,awn g (show k<1000 by omega),bne];rw[bZ (by omega)];cases aM r.last[k] (-1) 1000000<;>cases rU g k<;>cases r.last[k] == -1<;>rfl) (by
     rw[eX];unfold II ax bu xG xI;dsimp only;rw[bD (by omega),au]) (by rw[eX];exact cP (by omega))
    have l2:=gZ (step:=IJ) (List.range r.aZ.length) (yF r.aZ) (λi=>(((),(i:Int),()),((r.last,r.aZ,()),()))) (.inl ((false,()),())) (.inr (.inl ((),()))) bA (λk h=>by
     rw[eX]at h;rw[nP];unfold IJ ax bu xG xI;dsimp only;rw[bF (by omega),aq,aG ⟨by omega,by omega⟩];simp only[cc,fP,av];cases k with
     | zero=>
      rw[Xh h];cases aM r.aZ[0] 0 1000000 with
      |false=>rfl
      | true=>
       rw[bD (by omega)];rfl
     | succ k=>
      rw[Xi h];have hw:W6 (((k+1:Nat):Int)-1)=(k:Int):=by rw[aY (by omega) (by omega)];omega
      simp only[hw,cc];rw[bF (show ((k+1:Nat):Int) > 0 by omega),aG ⟨by omega,by omega⟩,aG ⟨by omega,by omega⟩,bZ (by omega)];cases aM r.aZ[k+1] 0 1000000<;>cases decide (r.aZ[k] >= r.aZ[k+1])<;>rfl) (by
     rw[eX];unfold IJ ax bu xG xI;dsimp only;rw[bD (by omega),au]) (by rw[eX];exact cP (by omega))
    rw[di]at l1 l2;simp only[Bool.not_false,au,cM]
    refine(bJ (λo=>Option.bind o _) l1).trans ?_
    rw[av];cases (List.range r.last.length).all (Dk g r.last)with
    |false=>rfl
    | true=>
     simp only[aq,Sum.elim_inr,iy,cM]
     refine(bJ (λo=>Option.bind o _) l2).trans ?_
     rw[av];cases (List.range r.aZ.length).all (yF r.aZ)<;>rfl
  ·have e2:((r.last.length:Int)==9*(bq g+1))=false:=by simp[e1]
   rw[iZ e1,e2];rfl
theorem awp(l:af Int)(x:Int)(hl:l.length<1073741824):Oe l x=some (l.any λe=>e==x):=by
 unfold Oe bR;have e:=gZ (step:=IN) l (λe=>!(e==x)) (λi=>((l,x,(i:Int),()),())) (.inl ((true,()),())) (.inr (.inl ((),()))) bA (λk h=>by
  unfold IN ax bu xG xI;dsimp only;rw[bF (by omega),aq,aG ⟨by omega,by omega⟩];simp only[cc];rw[bZ (by omega)];cases l[k]==x<;>rfl) (by
  unfold IN ax bu xG xI;dsimp only;rw[bD (by omega),au]) (cP hl)
 rw[di]at e;rw[e];have:l.all (λe=>!(e==x)) = !l.any λe=>e==x:=by rw[List.any_eq_not_all_not,Bool.not_not]
 rw[this];cases l.any λe=>e==x<;>rfl
theorem awq(l:af Int)(x:Int)(hl:l.length<1073741824):PB l x=some (l.count x:Int):=by
 unfold PB bQ;have e:=gJ (step:=JU) l.length (λi=>((x,((l.take i).count x:Int),l,(l.length:Int),(i:Int),()),())) (.inl (((l.count x:Int),()),())) bA (λk h=>by
  unfold JU ax xG xI;have hc:(l.take k).count x<=k:=Nat.le_trans List.count_le_length (by rw[jN];omega);dsimp only;rw[bF (by omega),aq,aG ⟨by omega,by omega⟩];simp only[cc];rw[List.take_succ_eq_append_getElem h,List.count_append,List.count_singleton,bZ (by omega),bZ (by omega)];cases l[k]==x<;>rfl) (by
  unfold JU ax xG xI;dsimp only;rw[bD (by omega),au,mL]) (cP hl)
 rw[di,List.take_zero,List.count_nil]at e;rw[di]at e;rw[e];rfl
theorem ahB{x:Int}:∀ (l:af Int),(∀ j (h:j<l.length),l[j]=x->x ∉ l.take j)->l.count x<=1
 |[],_=>by simp
 | y :: ys,h=>by
  rw[List.count_cons];by_cases e:y=x
  ·have:x ∉ ys:=by
    intro hx;obtain⟨j,hj,e2⟩:=o3.1 hx;refine h (j+1) (by simp;omega) (by simpa using e2) ?_;rw[List.take_succ_cons,e];exact List.mem_cons_self
   rw[List.count_eq_zero.2 this];split<;>omega
  ·have:=ahB ys λj hj e2 hx=>h (j+1) (by simp;omega) (by simpa using e2) (by rw[List.take_succ_cons];exact List.mem_cons_of_mem _ hx)
   have hb:(y==x)=false:=by simp[e]
   rw[hb]
   simpa using this
theorem awr{x:Int}:∀ (l:af Int) (j:Nat) (h:j<l.length),l[j]=x->x∈l.take j->2<=l.count x:=by
 intro l j h e hx;have h1:1<=(l.take j).count x:=List.count_pos_iff.2 hx;have h2:1<=(l.drop j).count x:=List.count_pos_iff.2 (by rw[<-e];exact o3.2 ⟨0,by simp;omega,by simp⟩);have:l.count x=(l.take j).count x+(l.drop j).count x:=by rw[<-List.count_append,List.take_append_drop]
 omega
def sW(R M:Int)(L:af Int)(j:Nat):Bool:=match L[j]? with
 |some e=>e==(j:Int) ||(aM e R M && !(decide ((L.count e:Int) > 1)))
 |none=>false
def AZ(R M:Int)(L:af Int)(j:Nat):Bool:=match L[j]? with
 |some e=>e==(j:Int) ||(aM e R M && !((L.take j).any λx=>x==e))
 |none=>false
theorem aws(R M:Int)(L:af Int)(hR:(L.length:Int)=R):(List.range L.length).all (sW R M L)=(List.range L.length).all (AZ R M L):=by
 rw[Bool.eq_iff_iff,dQ,dQ];simp only[jY];constructor
 ·intro h j hj;have:=h j hj;unfold sW at this;unfold AZ;rw[cu hj]at *
  simp only[fE,bx,nq,decide_eq_false_iff_not]at *
  rcases this with h1|⟨h1,h2⟩
  ·exact .inl h1
  ·refine .inr ⟨h1,?_⟩;rw[List.any_eq_false];intro x hx Xk;have Xk:x=L[j]:=by simpa using Xk
   have:=awr L j hj rfl (Xk ▸ hx);omega
 ·intro h j hj;have:=h j hj;unfold AZ at this;unfold sW;rw[cu hj]at *
  simp only[fE,bx,nq,decide_eq_false_iff_not]at *
  rcases this with h1|⟨h1,h2⟩
  ·exact .inl h1
  ·refine .inr ⟨h1,?_⟩;have hle:=(de.1 h1).1;have:=ahB (x:=L[j]) L λk hk e hx=>by
    have lV:=h k hk;unfold AZ at lV;rw[cu hk]at lV;simp only[fE,bx,nq]at lV;rcases lV with h3|⟨_,h4⟩
    ·have h3:L[k]=(k:Int):=by simpa using h3
     omega
    ·have:=List.any_eq_false.1 h4 L[j] hx;rw[e]at this;simp at this
   omega
def kZ(m:af Int)(R b:Nat):af Int:=(m.take ((b+1)*R)).drop (b*R)
theorem LA(m:af Int)(R b:Nat):kZ m R b=(m.drop (b*R)).take R:=by
 unfold kZ;rw[List.drop_take,jo,Nat.add_sub_cancel_left]
theorem Xl{m:af Int}{R b:Nat}(h:(b+1)*R<=m.length):(kZ m R b).length=R:=by
 rw[LA,jN,List.length_drop];rw[jo]at h;omega
theorem Dl{bn R b j:Nat}(hb:b<bn)(hj:j<=R):b*R+j<=bn*R:=by
 have:(b+1)*R<=bn*R:=kG R hb;rw[jo]at this;omega
def LB(R:Nat)(M:Int)(m:af Int)(i:Nat):Bool:=match m[i]? with
 |some e=>e==((i % R:Nat):Int) ||(aM e (R:Int) M && !(((m.take i).drop (i / R*R)).any λx=>x==e))
 |none=>false
theorem ahC{R:Nat}{M:Int}{m:af Int}{b j:Nat}(hj:j<R):LB R M m (b*R+j)=AZ (R:Int) M (kZ m R b) j:=by
 unfold LB AZ;have h1:(b*R+j) % R=j:=by rw[Nat.mul_comm,Nat.mul_add_mod,Nat.mod_eq_of_lt hj]
 have h2:(b*R+j) / R=b:=by rw[Nat.mul_comm,Nat.mul_add_div (by omega),Nat.div_eq_of_lt hj,Nat.add_zero]
 have h3:(kZ m R b)[j]?=m[b*R+j]?:=by rw[LA,List.getElem?_take_of_lt hj,List.getElem?_drop]
 have h4:(kZ m R b).take j=(m.take (b*R+j)).drop (b*R):=by rw[LA,List.take_take,List.drop_take,Nat.add_sub_cancel_left,Nat.min_eq_left (Nat.le_of_lt hj)]
 (rw[h1,h2,h3,h4])<;>rfl
theorem ahD{n:Nat}(h:n<4611686018427387904):W6 (n:Int)=(n:Int):=aY (by omega) (by omega)
theorem awt(R bn:Nat)(hR:0<R)(M:Int)(m:af Int):(List.range (bn*R)).all (LB R M m)=(List.range bn).all λb=>(List.range R).all (AZ (R:Int) M (kZ m R b)):=by
 rw[Bool.eq_iff_iff,dQ,dQ];simp only[jY,dQ];constructor
 ·intro h b hb j hj;rw[<-ahC hj];refine h _ ?_;have:=Dl (R:=R) hb (show j+1<=R from hj);omega
 ·intro h i hi;have hb:i / R<bn:=Nat.div_lt_of_lt_mul (by rw[Nat.mul_comm];exact hi);have hj:i % R<R:=Nat.mod_lt _ hR;have e:i / R*R+i % R=i:=by rw[Nat.mul_comm];exact Nat.div_add_mod i R
  have:=h _ hb _ hj;rw[<-ahC hj,e]at this;exact this
def qE(g:aX)(s:fe):Bool:=lY g s.cF&&((s.map.length:Int)==((bq g).toNat*(g.rows-s.cF).toNat:Nat)&&(List.range (bq g).toNat).all λb=>(List.range (g.rows-s.cF).toNat).all (sW (g.rows-s.cF) (g.rows-1) (kZ s.map (g.rows-s.cF).toNat b)))
theorem ahE{g:aX}{s:fe}{R bn b:Nat}(hR:g.rows-s.cF=(R:Int))(jd:R<=16)(h8:bn<=8)(hb:b<bn)(hl:s.map.length=bn*R):Fl g s (b:Int)=some (b*R,(b+1)*R):=by
 have hm:bn*R<=8*16:=Nat.mul_le_mul h8 jd;have h1:b*R+R<=bn*R:=Dl hb (gj R);have hw:W6 (g.rows-s.cF)=(R:Int):=by rw[hR];exact aY (by omega) (by omega)
 have m1:W6 ((b:Int)*(R:Int))=((b*R:Nat):Int):=by rw[<-Int.natCast_mul];exact aY (by omega) (by omega)
 have m2:W6 (((b+1:Nat):Int)*(R:Int))=(((b+1)*R:Nat):Int):=by
  rw[<-Int.natCast_mul];exact aY (by omega) (by rw[jo];omega)
 unfold Fl;rw[hw,bZ (by omega),m1,m2,jo,bB ⟨by omega,by omega,by omega⟩];simp only[cc]
theorem awu{g:aX}{s:fe}(R b:Int)(L:af Int)(hg:dw g=true)(hL:L.length<1073741824):
  iter Fm bA (((),(),R,b,L,L,(L.length:Int),(0:Int),()),((g.cQ,g.aI,g.rows,g.aL,()),(s.cF,s.map,()),()))=some (bif (List.range L.length).all (sW R (g.rows-1) L)then .inr (.inl (((),(),R,b,()),((g.cQ,g.aI,g.rows,g.aL,()),(s.cF,s.map,()),())))else .inl ((false,()),())):=by
 have gb:=iC hg;have e:=gZ (step:=Fm) (List.range L.length) (sW R (g.rows-1) L) (λi=>(((),(),R,b,L,L,(L.length:Int),(i:Int),()),((g.cQ,g.aI,g.rows,g.aL,()),(s.cF,s.map,()),()))) (.inl ((false,()),())) (.inr (.inl (((),(),R,b,()),((g.cQ,g.aI,g.rows,g.aL,()),(s.cF,s.map,()),())))) bA (λk h=>by
  rw[eX]at h;rw[nP];unfold Fm sW ax bu xG xI;dsimp only;rw[bF (by omega),aq,aG ⟨by omega,by omega⟩,cu h];simp only[cc,fC,av,awq _ _ hL,bne];rw[bZ (by omega),aY (n:=g.rows-1) (by omega) (by omega)];cases L[k]==(k:Int)<;>cases aM L[k] R (g.rows-1)<;>cases decide ((L.count L[k]:Int) > 1)<;>rfl) (by
  rw[eX];unfold Fm ax bu xG xI;dsimp only;rw[bD (by omega),au]) (by rw[eX];exact cP (by omega))
 rw[di]at e;exact e
theorem ahF(g:aX)(s:fe):JW g s=some (qE g s):=by
 unfold JW qE bR;rw[ahg,av,QU];cases hs:lY g s.cF with
 |false=>rfl
 | true=>
  obtain⟨hg,s0,s2,D6,awv⟩:=QT hs;have b1:=g9 g;have sj:((AX g s.cF).1.map.length:Int)=(((bq g).toNat*(g.rows-s.cF).toNat:Nat):Int):=by
   unfold AX;rw[hs,aq,W2]
  rw[sj];obtain⟨bn,hb⟩:=kH b1.1;obtain⟨R,hR⟩:=kH (show 0<=g.rows-s.cF by omega);rw[hb,hR];simp only[cc,bS,au,cM];by_cases hl:(s.map.length:Int)=((bn*R:Nat):Int)
  ·have fU:s.map.length=bn*R:=by omega
   rw[hl,eV,au,eJ,cM];have hw:W6 (R:Int)=(R:Int):=aY (by omega) (by omega);have e:=gZ (step:=JV) (List.range bn) (λb=>(List.range R).all (sW (R:Int) (g.rows-1) (kZ s.map R b))) (λi=>(((),(),(R:Int),(i:Int),()),((g.cQ,g.aI,g.rows,g.aL,()),(s.cF,s.map,()),()))) (.inl ((false,()),())) (.inr (.inl ((),()))) bA (λk h=>by
    rw[eX]at h;rw[nP];have hk:=Dl (R:=R) h (gj R);have hlen:(kZ s.map R k).length=R:=Xl (by rw[jo,fU];exact hk);have rZ:=awu (g:=g) (s:=s) (R:Int) (k:Int) (kZ s.map R k) hg (by omega);unfold JV ax bu xG bR;dsimp only;rw[tW,pQ,av,hb,bF (by omega),aq];have hbr:Fl g (⟨s.cF,s.map⟩:fe) (k:Int)=some (k*R,(k+1)*R):=ahE (s:=⟨s.cF,s.map⟩) hR (by omega) (by omega) h fU;rw[hbr,av];have hc:(Nat.ble (k*R) ((k+1)*R)&&Nat.ble ((k+1)*R) s.map.length)=true:=by
     rw[bx];exact⟨mJ (by rw[jo];omega),mJ (by rw[jo];omega)⟩
    rw[hc,aq]
    refine(bJ (λo=>Option.bind o _) rZ).trans ?_
    rw[av,hlen];cases (List.range R).all (sW (R:Int) (g.rows-1) (kZ s.map R k))with
    |false=>rfl
    | true=>
     simp only[aq,Sum.elim_inr,iy];rw[bZ (by omega)]) (by
    rw[eX];unfold JV ax bu xG bR;dsimp only;rw[tW,pQ,av,hb,bD (by omega),au]) (by rw[eX];exact cP (by omega))
   rw[di]at e;rw[hw]
   refine(bJ (λo=>Option.bind o _) e).trans ?_
   rw[av];cases (List.range bn).all λb=>(List.range R).all (sW (R:Int) (g.rows-1) (kZ s.map R b))<;>rfl
  ·have e2:((s.map.length:Int)==((bn*R:Nat):Int))=false:=by simp only[beq_eq_false_iff_ne];exact hl
   rw[iZ hl,e2];rfl
theorem ahG(g:aX)(s:fe):IQ g s=some (qE g s):=by
 unfold IQ qE bR;rw[ahf,av,QU];cases hs:lY g s.cF with
 |false=>rfl
 | true=>
  obtain⟨hg,s0,s2,D6,awv⟩:=QT hs;have b1:=g9 g;have gb:=iC hg;obtain⟨bn,hb⟩:=kH b1.1;obtain⟨R,hR⟩:=kH (show 0<=g.rows-s.cF by omega);have hm:bn*R<=8*16:=Nat.mul_le_mul (by omega) (by omega);have hw:W6 (R:Int)=(R:Int):=aY (by omega) (by omega);have hmul:W6 ((bn:Int)*(R:Int))=((bn*R:Nat):Int):=by rw[<-Int.natCast_mul];exact aY (by omega) (by omega)
  rw[tS,av,hb,hR,hw,hmul];simp only[cc,bS,au,cM];by_cases hl:(s.map.length:Int)=((bn*R:Nat):Int)
  ·have fU:s.map.length=bn*R:=by omega
   rw[hl,eV,au,eJ,cM];have e:=gZ (step:=IP) (List.range (bn*R)) (LB R (g.rows-1) s.map) (λi=>(((),(),(R:Int),(i:Int),()),((g.cQ,g.aI,g.rows,g.aL,()),(s.cF,s.map,()),()))) (.inl ((false,()),())) (.inr (.inl ((),()))) bA (λk h=>by
    rw[eX]at h;rw[nP];have h':k<s.map.length:=by omega
    have ht:(k:Int).tmod (R:Int)=((k % R:Nat):Int):=(Int.ofNat_tmod k R).symm;have hd:(k:Int).tdiv (R:Int)=((k / R:Nat):Int):=(Int.ofNat_tdiv k R).symm;have QY:k / R<=k:=Nat.div_le_self k R;have hdm:k / R*R<=k:=Nat.div_mul_le_self k R;have w1:W6 (((k / R:Nat):Int))=((k / R:Nat):Int):=ahD (Nat.lt_of_le_of_lt QY (by omega));have w2:W6 (((k / R:Nat):Int)*(R:Int))=((k / R*R:Nat):Int):=by rw[<-Int.natCast_mul];exact ahD (Nat.lt_of_le_of_lt hdm (by omega))
    unfold IP LB ax bu xG xI;rw[cu h'];dsimp only;rw[bF (by omega),aq,aG ⟨by omega,by omega⟩,cm (by omega),aG ⟨by omega,by omega⟩,cm (by omega),ht,hd,w1,w2,bB ⟨Int.natCast_nonneg _,Int.ofNat_le.2 hdm,by omega⟩,aG ⟨by omega,by omega⟩];simp only[cc,fP,av];rw[awp _ _ (by rw[List.length_drop,jN];omega),av,bZ (by omega),aY (n:=g.rows-1) (by omega) (by omega)];cases s.map[k]==((k % R:Nat):Int)<;>cases aM s.map[k] (R:Int) (g.rows-1)<;>cases ((s.map.take k).drop (k / R*R)).any (λx=>x==s.map[k])<;>rfl) (by
    rw[eX];unfold IP ax bu xG xI;dsimp only;rw[bD (by omega),au]) (by rw[eX];exact cP (by omega))
   rw[di]at e
   refine(bJ (λo=>Option.bind o _) e).trans ?_
   rw[av,awt R bn (by omega)];have hAB:((List.range bn).all λb=>(List.range R).all (AZ (R:Int) (g.rows-1) (kZ s.map R b)))=(List.range bn).all λb=>(List.range R).all (sW (R:Int) (g.rows-1) (kZ s.map R b)):=by
    rw[Bool.eq_iff_iff,dQ,dQ]
    refine forall_congr' λb=>?_
    refine imp_congr_right λmR=>?_
    have mR:=jY.1 mR;have hk:=Dl (R:=R) mR (gj R);have hlen:(kZ s.map R b).length=R:=Xl (by rw[jo,fU];exact hk);have:=aws (R:Int) (g.rows-1) (kZ s.map R b) (by rw[hlen]);rw[hlen]at this;rw[this]
   rw[hAB];cases (List.range bn).all λb=>(List.range R).all (sW (R:Int) (g.rows-1) (kZ s.map R b))<;>rfl
  ·have e2:((s.map.length:Int)==((bn*R:Nat):Int))=false:=by simp only[beq_eq_false_iff_ne];exact hl
   rw[iZ hl,e2];rfl
def og(g:aX)(s:fe):aX:=bif qE g s then ⟨g.cQ,g.aI,W6 (g.rows-s.cF),g.aL⟩else ⟨0,0,0,0⟩
theorem Xm(g:aX)(s:fe):Fp g s=some (og g s):=by
 unfold Fp og;rw[ahF,av];cases qE g s<;>rfl
theorem aww(g:aX)(s:fe):Ok g s=some (og g s):=by
 unfold Ok og;rw[ahG,av];cases qE g s<;>rfl
def pS(c:aF):aF:=c
def gK(a x:aP):Bool:=x.ay==a.ay&&(x.row==a.row&&(x.bL==a.bL&&true))
theorem Xn(l:af aP)(a:aP)(hl:l.length<1073741824):CC l a=some (iK (gK a) l):=by
 unfold CC iK bR;have e:=wF (step:=IV) l (gK a) (λi=>((l,(),(i:Int),()),((a.ay,a.row,a.bL,()),()))) (λi=>.inl (((i:Int),()),())) (.inr (.inl ((),()))) bA (λk h=>by
  unfold IV gK ax bu xG xI;dsimp only;rw[bF (by omega),aq,aG ⟨by omega,by omega⟩];simp only[cc];rw[bZ (by omega)];cases (l[k].ay==a.ay&&(l[k].row==a.row&&(l[k].bL==a.bL&&true)))<;>rfl) (by
  unfold IV ax bu xG xI;dsimp only;rw[bD (by omega),au]) (cP hl)
 rw[di]at e;rw[e];cases l.findIdx? (gK a)<;>rfl
theorem ahH(l:af aP)(a:aP)(hl:l.length<1073741824):Fo l a=some (iK (gK a) l):=by
 unfold Fo iK;have e:=wF (step:=J1) l (gK a) (λi=>((l,(),(l.length:Int),(i:Int),()),((a.ay,a.row,a.bL,()),()))) (λi=>.inl (((i:Int),()),())) (.inr (.inl ((),()))) bA (λk h=>by
  unfold J1 gK ax bu xG xI;dsimp only;rw[bF (by omega),aq,aG ⟨by omega,by omega⟩];simp only[cc];rw[bZ (by omega),BEq.comm (a:=a.ay),BEq.comm (a:=a.row),BEq.comm (a:=a.bL)];cases (l[k].ay==a.ay&&(l[k].row==a.row&&(l[k].bL==a.bL&&true)))<;>rfl) (by
  unfold J1 ax bu xG xI;dsimp only;rw[bD (by omega),au]) (cP hl)
 rw[di]at e;rw[e];cases l.findIdx? (gK a)<;>rfl
def partAt(c:aF)(i:Nat):Bool:=match c.aW[i]?,c.guard[i]? with
 |some t,some x=>oe t&&aM x 3 1000
 |_,_=>false
def yG(c:aF)(i:Nat):Bool:=match c.pending[i]? with
 |some a=>jX c.config.aJ a&&(a.bL==0 && !((c.pending.take i).any (gK a)))
 |none=>false
def Dm(c:aF):Bool:=(c.bT.cg.length:Int)==bq c.config.aJ&&((c.aW.length:Int)==bq c.config.aJ&&((c.guard.length:Int)==bq c.config.aJ&&(!(decide ((c.pending.length:Int) > 128))&&((List.range c.aW.length).all (partAt c)&&(List.range c.pending.length).all (yG c)))))
theorem ahI(c:aF)(n i:Int):Of (((),n,i,()),(pS c,()))=(bif (decide (i<n))then if h2:0<=i/\i.toNat<c.aW.length then (CA (c.aW[i.toNat]'h2.2)).bind λy4=>bif (!y4)then some (.inr (.inl ((false,()),())))else if h5:0<=i/\i.toNat<c.guard.length then (ct (c.guard[i.toNat]'h5.2) (3:Int) (1000:Int)).bind λy7=>bif (!y7)then some (.inr (.inl ((false,()),())))else some (.inl (((),n,(W6 (i+(1:Int))),()),(pS c,())))else none else none else some (.inr (.inr (.inl (((),()),(pS c,())))))):=rfl
theorem ahJ(c:aF)(i:Int):Og (((),i,()),(pS c,()))=(bif (decide (i<(c.pending.length:Int)))then if eP:0<=i/\i.toNat<c.pending.length then (CB c.config.aJ (c.pending[i.toNat]'eP.2)).bind λfF=>bif (!fF)then some (.inr (.inl ((false,()),())))else bif ((c.pending[i.toNat]'eP.2).bL != (0:Int))then some (.inr (.inl ((false,()),())))else (CC c.pending (c.pending[i.toNat]'eP.2)).bind λcH=>bif (cH != i)then some (.inr (.inl ((false,()),())))else some (.inl (((),(W6 (i+(1:Int))),()),(pS c,())))else none else some (.inr (.inr (.inl ((),()))))):=rfl
theorem ahK(c:aF)(G:(Int×Int×Int×Int×ah))(n i:Int):PC (((),(),n,i,()),(pS c,G,()))=(bif (decide (i<n))then if h2:0<=i/\i.toNat<c.aW.length then (AL (c.aW[i.toNat]'h2.2)).bind λy4=>bif (!y4)then some (.inr (.inl ((false,()),())))else if h5:0<=i/\i.toNat<c.guard.length then (cS (c.guard[i.toNat]'h5.2) (3:Int) (1000:Int)).bind λy7=>bif (!y7)then some (.inr (.inl ((false,()),())))else some (.inl (((),(),n,(W6 (i+(1:Int))),()),(pS c,G,())))else none else none else some (.inr (.inr (.inl (((),(),()),(pS c,G,())))))):=rfl
theorem ahL(c:aF)(g:aX)(l:af aP)(n i:Int):PD (((),(),l,n,i,()),(pS c,(g.cQ,g.aI,g.rows,g.aL,()),()))=(bif (decide (i<n))then if eP:0<=i/\i.toNat<l.length then (CO g (l[i.toNat]'eP.2)).bind λfF=>bif (!fF)then some (.inr (.inl ((false,()),())))else bif ((l[i.toNat]'eP.2).bL != (0:Int))then some (.inr (.inl ((false,()),())))else (Fo c.pending (l[i.toNat]'eP.2)).bind λcH=>bif (cH != i)then some (.inr (.inl ((false,()),())))else some (.inl (((),(),l,n,(W6 (i+(1:Int))),()),(pS c,(g.cQ,g.aI,g.rows,g.aL,()),())))else none else some (.inr (.inr (.inl ((),()))))):=rfl
theorem awx(c:aF):Oh c=some (Dm c):=by
 unfold Oh Dm bR;rw[tS,av];have b1:=g9 c.config.aJ;by_cases e1:(c.bT.cg.length:Int)=bq c.config.aJ
 ·by_cases e2:(c.aW.length:Int)=bq c.config.aJ
  ·by_cases e3:(c.guard.length:Int)=bq c.config.aJ
   ·rw[e1,e2,e3,eV,eJ,au,cM,cM,cM,au,au];cases h4:decide ((c.pending.length:Int) > 128)with
    |true=>rfl
    | false=>
     have h4:=of_decide_eq_false h4;have l1:=gZ (step:=Of) (List.range c.aW.length) (partAt c) (λi=>(((),bq c.config.aJ,(i:Int),()),(pS c,()))) (.inl ((false,()),())) (.inr (.inl (((),()),(pS c,())))) bA (λk h=>by
      rw[eX]at h;rw[nP,ahI,bF (by omega),aq,aG ⟨by omega,by omega⟩,aG ⟨by omega,by omega⟩];simp only[cc,Xf,fP,av];unfold partAt;rw[cu h,cu (show k<c.guard.length by omega),bZ (by omega)];simp only;cases oe c.aW[k]<;>cases aM (c.guard[k]'(by omega)) 3 1000<;>rfl) (by
      rw[eX,ahI,bD (by omega),au]) (by rw[eX];exact cP (by omega))
     have l2:=gZ (step:=Og) (List.range c.pending.length) (yG c) (λi=>(((),(i:Int),()),(pS c,()))) (.inl ((false,()),())) (.inr (.inl ((),()))) bA (λk h=>by
      rw[eX]at h;rw[nP,ahJ,bF (by omega),aq,aG ⟨by omega,by omega⟩];simp only[cc,WR,av,Xn _ _ (show c.pending.length<1073741824 by omega),bne];have hs:=FK (p:=gK c.pending[k]) h (by simp[gK]);rw[bne]at hs;rw[hs];unfold yG;rw[cu h,bZ (by omega)];simp only;cases jX c.config.aJ c.pending[k]<;>cases c.pending[k].bL==0<;>cases (c.pending.take k).any (gK c.pending[k])<;>rfl) (by
      rw[eX,ahJ,bD (by omega),au]) (by rw[eX];exact cP (by omega))
     rw[di]at l1 l2;simp only[Bool.not_false,au,cM]
     refine(bJ (λo=>Option.bind o _) l1).trans ?_
     rw[av];cases (List.range c.aW.length).all (partAt c)with
     |false=>rfl
     | true=>
      simp only[aq,Sum.elim_inr,iy,cM]
      refine(bJ (λo=>Option.bind o _) l2).trans ?_
      rw[av];cases (List.range c.pending.length).all (yG c)<;>rfl
   ·simp[e1,e2,iZ e3,e3]
  ·simp[e1,iZ e2,e2]
 ·simp[iZ e1,e1]
theorem awy(c:aF)(hd:c.bT.cg.length<1073741824):PE c=some (qC c.bT&&Dm c):=by
 unfold PE Dm bR;rw[pQ,av,ahq _ hd,av];cases qC c.bT with
 |false=>rfl
 |true=>
 simp only[bS,au,cM];have b1:=g9 c.config.aJ;by_cases e1:(c.bT.cg.length:Int)=bq c.config.aJ
 ·by_cases e2:(c.aW.length:Int)=bq c.config.aJ
  ·by_cases e3:(c.guard.length:Int)=bq c.config.aJ
   ·have n1:((c.bT.cg.length:Int) != bq c.config.aJ)=false:=by simp[e1]
    have n2:((c.aW.length:Int) != bq c.config.aJ)=false:=by simp[e2]
    have n3:((c.guard.length:Int) != bq c.config.aJ)=false:=by simp[e3]
    have q1:((c.bT.cg.length:Int)==bq c.config.aJ)=true:=by simp[e1]
    have q2:((c.aW.length:Int)==bq c.config.aJ)=true:=by simp[e2]
    have q3:((c.guard.length:Int)==bq c.config.aJ)=true:=by simp[e3]
    rw[n1,n2,n3,q1,q2,q3];simp only[au,cM];cases h4:decide ((c.pending.length:Int) > 128)with
    |true=>rfl
    | false=>
     have h4:=of_decide_eq_false h4;have l1:=gZ (step:=PC) (List.range c.aW.length) (partAt c) (λi=>(((),(),(c.aW.length:Int),(i:Int),()),(pS c,(c.config.aJ.cQ,c.config.aJ.aI,c.config.aJ.rows,c.config.aJ.aL,()),()))) (.inl ((false,()),())) (.inr (.inl (((),(),()),(pS c,(c.config.aJ.cQ,c.config.aJ.aI,c.config.aJ.rows,c.config.aJ.aL,()),())))) bA (λk h=>by
      rw[eX]at h;rw[nP,ahK,bF (by omega),aq,aG ⟨by omega,by omega⟩,aG ⟨by omega,by omega⟩];simp only[cc,Xe,fC,av];unfold partAt;rw[cu h,cu (show k<c.guard.length by omega),bZ (by omega)];simp only;cases oe c.aW[k]<;>cases aM (c.guard[k]'(by omega)) 3 1000<;>rfl) (by
      rw[eX,ahK,bD (by omega),au]) (by rw[eX];exact cP (by omega))
     have l2:=gZ (step:=PD) (List.range c.pending.length) (yG c) (λi=>(((),(),c.pending,(c.pending.length:Int),(i:Int),()),(pS c,(c.config.aJ.cQ,c.config.aJ.aI,c.config.aJ.rows,c.config.aJ.aL,()),()))) (.inl ((false,()),())) (.inr (.inl ((),()))) bA (λk h=>by
      rw[eX]at h;rw[nP,ahL,bF (by omega),aq,aG ⟨by omega,by omega⟩];simp only[cc,WQ,av,ahH _ _ (show c.pending.length<1073741824 by omega),bne];have hs:=FK (p:=gK c.pending[k]) h (by simp[gK]);rw[bne]at hs;rw[hs];unfold yG;rw[cu h,bZ (by omega)];simp only;cases jX c.config.aJ c.pending[k]<;>cases c.pending[k].bL==0<;>cases (c.pending.take k).any (gK c.pending[k])<;>rfl) (by
      rw[eX,ahL,bD (by omega),au]) (by rw[eX];exact cP (by omega))
     rw[di]at l1 l2;simp only[Bool.not_false,au,cM]
     refine(bJ (λo=>Option.bind o _) l1).trans ?_
     rw[av];cases (List.range c.aW.length).all (partAt c)with
     |false=>rfl
     | true=>
      simp only[aq,Sum.elim_inr,iy,cM]
      refine(bJ (λo=>Option.bind o _) l2).trans ?_
      rw[av];cases (List.range c.pending.length).all (yG c)<;>rfl
   ·simp[e1,e2,iZ e3,e3]
  ·simp[e1,iZ e2,e2]
 ·simp[iZ e1,e1]
def wG(n:Int)(u:Bool)(k:Int):Bool:=bif u then aM n 0 (k-1)else n==0
def iL(g:aX)(c:bV):Bool:=dw g&&(aM c.kind 1 9&&(wG c.ay (aM c.kind 1 5) (bq g)&&(wG c.row (c.kind==1) g.rows&&wG c.bL (c.kind==2 ||c.kind==3) g.aL)))
theorem awz(k:Int):PL k=some (k==1):=by
 unfold PL;rfl
theorem awA(k:Int):PN k=some (k==2 || k==3):=by
 unfold PN;cases k==2<;>rfl
theorem Xo{n k:Int}(u:Bool)(h:-1000<k/\k<1000):CS n u k=some (wG n u k):=by
 rw[awm,aY (by omega) (by omega)];rfl
theorem Xp(g:aX)(c:bV):Fq g c=some (iL g c):=by
 unfold Fq iL;rw[yz,av];cases hg:dw g with
 |false=>rfl
 | true=>
  have b1:=g9 g;have gb:=iC hg;unfold Wj;simp only[aq,pQ,av,fC,Lz,awz,awA,Xo _ (show -1000<bq g/\bq g<1000 by omega),Xo _ (show -1000<g.rows/\g.rows<1000 by omega),Xo _ (show -1000<g.aL/\g.aL<1000 by omega),cM];cases aM c.kind 1 9<;>cases wG c.ay (aM c.kind 1 5) (bq g)<;>cases wG c.row (c.kind==1) g.rows<;>rfl
theorem awB(k:Int):I3 k=some (aM k 1 5,k==1,(k==2 || k==3)):=by
 obtain⟨y,e,h⟩:=avX k;rw[e,h]
def LC(c:bV):Bool:=(aM c.kind 1 5 ||c.ay==0)&&((c.kind==1 ||c.row==0)&&(((c.kind==2 ||c.kind==3) ||c.bL==0)&&(aM c.kind 1 9&&(aM c.ay 0 7&&(aM c.row 0 15&&aM c.bL 0 7)))))
theorem awC(c:bV):Om c=some (LC c):=by
 unfold Om LC;simp only[awB,av,fP,bne];cases aM c.kind 1 5<;>cases c.ay==0<;>cases c.kind==1<;>cases c.row==0<;>cases (c.kind==2 ||c.kind==3)<;>cases c.bL==0<;>cases aM c.kind 1 9<;>cases aM c.ay 0 7<;>cases aM c.row 0 15<;>rfl
theorem ahM(g:aX)(c:bV):I8 g c=some (iL g c):=by
 unfold I8;rw[awC,av,WR,av];have key:(LC c&&jX g ⟨c.ay,c.row,c.bL⟩)=iL g c:=by
  unfold iL jX;cases hg:dw g with
  |false=>simp
  | true=>
   have b1:=g9 g;have gb:=iC hg;rw[Bool.eq_iff_iff];simp only[LC,wG,bx,fE,beq_iff_eq,de,cM];constructor
   ·rintro⟨⟨h1,h2,h3,h4,h5,h6,h7⟩,⟨h8,h9⟩,eP⟩;refine⟨h4,?_,?_,?_⟩
    ·cases hu:aM c.kind 1 5 with
     |true=>simp only[aq,de];omega
     | false=>simp only[au,beq_iff_eq];rcases h1 with h1 | h1
              ·exact absurd (de.2 h1) (by rw[hu];simp)
              ·exact h1
    ·cases hu:c.kind==1 with
     |true=>simp only[aq,de];omega
     | false=>simp only[au,beq_iff_eq];rcases h2 with h2 | h2
              ·rw[h2]at hu;cases hu
              ·exact h2
    ·cases hu:(c.kind==2 || c.kind==3)with
     |true=>simp only[aq,de];omega
     | false=>simp only[au,beq_iff_eq];rcases h3 with (h3 | h3) | h3
              ·rw[h3]at hu;cases hu
              ·rw[h3]at hu;cases hu
              ·exact h3
   ·rintro⟨h1,h2,h3,h4⟩;have f1:(1<=c.kind/\c.kind<=5\/c.ay=0)/\0<=c.ay/\c.ay<=bq g-1:=by
     cases hu:aM c.kind 1 5 with
     |true=>rw[hu,aq,de]at h2;exact⟨.inl (de.1 hu),h2⟩
     |false=>rw[hu,au,beq_iff_eq]at h2;have:=agT hg;exact⟨.inr h2,by omega⟩
    have f2:(c.kind=1\/c.row=0)/\0<=c.row/\c.row<=g.rows-1:=by
     cases hu:c.kind==1 with
     |true=>rw[hu,aq,de]at h3;exact⟨.inl (by simpa using hu),h3⟩
     |false=>rw[hu,au,beq_iff_eq]at h3;exact⟨.inr h3,by omega⟩
    have f3:((c.kind=2\/c.kind=3)\/c.bL=0)/\0<=c.bL/\c.bL<=g.aL-1:=by
     cases hu:(c.kind==2 ||c.kind==3)with
     |true=>rw[hu,aq,de]at h4;exact⟨.inl (by simpa using hu),h4⟩
     |false=>rw[hu,au,beq_iff_eq]at h4;exact⟨.inr h4,by omega⟩
    exact⟨⟨f1.1,f2.1,f3.1,h1,by omega,by omega,by omega⟩,⟨by omega,by omega⟩,by omega⟩
 rw[<-key];cases LC c<;>rfl
theorem LD{g:aX}{c:bV}(h:iL g c=true):dw g=true/\(1<=c.kind/\c.kind<=9)/\(c.kind<=5->0<=c.ay/\c.ay<bq g)/\(5<c.kind->c.ay=0):=by
 simp only[iL,bx,de]at h
 refine⟨h.1,h.2.1,λhk=>?_,λhk=>?_⟩
 ·have:=h.2.2.1;rw[wG,show aM c.kind 1 5=true from de.2 ⟨h.2.1.1,hk⟩,aq,de]at this;omega
 ·have:=h.2.2.1;have hu:aM c.kind 1 5=false:=by
   cases hu:aM c.kind 1 5 with
   |false=>rfl
   |true=>have:=de.1 hu;omega
  rw[wG,hu,au,beq_iff_eq]at this;exact this
theorem kinds{k:Int}(h:1<=k/\k<=9):k=1\/k=2\/k=3\/k=4\/k=5\/k=6\/k=7\/k=8\/k=9:=by omega
def A0(r:dy)(b:Int):c8:=r.aI.getD b.toNat ⟨false,0⟩
def A1(r:dy)(c:bV):Bool:=
 bif c.kind==1 ||c.kind==5 then r.aN==0 && !(A0 r c.ay).open_ else
 bif c.kind==2 ||c.kind==3 ||c.kind==4 then r.aN==0&&(A0 r c.ay).open_ else
 bif c.kind==6 then r.aN==0 else
 bif c.kind==8 then r.aN==0&&r.aI.all (λb=>!b.open_)else
 bif c.kind==7 then r.aN==1 else r.aN==2
def wH(r:dy)(c:bV):dy:=
 bif c.kind==1 then ⟨r.aI.set c.ay.toNat ⟨true,c.row⟩,r.aN⟩else
 bif c.kind==4 then ⟨r.aI.set c.ay.toNat ⟨false,0⟩,r.aN⟩else
 bif c.kind==6 then ⟨r.aI,1⟩else
 bif c.kind==8 then ⟨r.aI,2⟩else
 bif c.kind==7 ||c.kind==9 then ⟨r.aI,0⟩else r
theorem ahN{r:dy}{b:Int}(h:b.toNat<r.aI.length):r.aI[b.toNat]=A0 r b:=by
 simp[A0,h]
theorem ahO(r:dy):(((opens 0 r.aI).length:Int)==0)=r.aI.all λb=>!b.open_:=by
 rw[<-aho 0 r.aI,Bool.eq_iff_iff];simp only[beq_iff_eq];omega
theorem awD(r:dy)(h:r.aI.length<1073741823):yf r=some (opens 0 r.aI):=by
 unfold yf bQ;have e:=wC (step:=ES) (λi=>(((),(),(i:Int),()),((r.aI,r.aN,()),opens 0 (r.aI.take i),()))) (z:=.inl (((),()),(opens 0 r.aI,()))) r.aI.length 0 bA (λk _ hk=>?_) ?_ (by unfold bA;omega)
 ·have e:iter ES bA (((),(),(0:Int),()),((r.aI,r.aN,()),([]:af Int),()))=_:=e;rw[e];rfl
 ·have hk:k<r.aI.length:=by omega
  unfold ES ax xG xI;dsimp only;have c1:decide ((k:Int)<(r.aI.length:Int))=true:=bF (by omega);have c2:0<=(k:Int)/\(k:Int).toNat<r.aI.length:=⟨by omega,by simpa using hk⟩
  have hl:=agW 0 (r.aI.take k);rw[jN]at hl;have c3:bH ((opens 0 (r.aI.take k)).length+([(k:Int)]:af Int).length)=true:=by
   unfold bH;refine bF ?_;simp;omega
  rw[c1,aq,aG c2,AS (by omega),Lp hk,agV];simp only[cc,opens,jN,fV,Nat.min_eq_left (Nat.le_of_lt hk)];cases r.aI[k].open_ with
  |true=>rw[aq,c3];rfl
  |false=>rw[au,au,List.append_nil]
 ·rw[fV];unfold ES ax xG xI;dsimp only;have c1:decide ((r.aI.length:Int)<(r.aI.length:Int))=false:=bD (by omega);rw[c1,au,mL]
theorem awE{r:dy}{c:bV}(hk:1<=c.kind/\c.kind<=9)(hb:c.kind<=5->0<=c.ay/\c.ay.toNat<r.aI.length)(hl:r.aI.length<1073741823):On r c=some (A1 r c):=by
 unfold On A1 xI;rcases kinds hk with h|h|h|h|h|h|h|h|h
 case inr.inr.inr.inr.inr.inr.inr.inl=>simp[h,awD r hl,ahO];cases r.aN==0<;>rfl
 all_goals (try (have hb:=hb (by omega)))<;>simp[h,hb,ahN]<;>(cases r.aN==0<;>rfl)
theorem Xq(g:aX)(r:dy)(c:bV):J6 g r c=some (tX g r&&(iL g c&&A1 r c)):=by
 unfold J6 xI;rw[ahp,av];cases hr:tX g r with
 |false=>rfl
 | true=>
  rw[Xp,av];cases hc:iL g c with
  |false=>rfl
  | true=>
   obtain⟨hg,hk,hb,_⟩:=LD hc;have hlen:(r.aI.length:Int)=bq g:=by
    simp only[tX,bx,beq_iff_eq]at hr;exact hr.2.1
   have b1:=g9 g;have hb:c.kind<=5->0<=c.ay/\c.ay.toNat<r.aI.length:=λh=>by have:=hb h;omega
   have hl:r.aI.length<1073741823:=by omega
   simp only[bS,au,cM];unfold A1;rcases kinds hk with h|h|h|h|h|h|h|h|h
   case inr.inr.inr.inr.inr.inr.inr.inl=>simp[h,agX r hl,ahO];cases r.aN==0<;>rfl
   all_goals (try (have hb:=hb (by omega)))<;>simp[h,hb,ahN]<;>(cases r.aN==0<;>rfl)
def sX(g:aX)(r:dy)(c:bV):Bool:=tX g r&&(iL g c&&A1 r c)
def Xr(g:aX)(r:dy)(c:bV):dy×Bool:=bif sX g r c then (wH r c,true)else (r,false)
theorem QZ{g:aX}{r:dy}{c:bV}(h:sX g r c=true):dw g=true/\(r.aI.length:Int)=bq g/\(1<=c.kind/\c.kind<=9)/\(c.kind<=5->0<=c.ay/\c.ay.toNat<r.aI.length):=by
 simp only[sX,bx]at h;obtain⟨hg,hk,hb,_⟩:=LD h.2.1;have hr:=h.1;simp only[tX,bx,beq_iff_eq]at hr;exact⟨hg,hr.2.1,hk,λh=>by have:=hb h;omega⟩
theorem awF(r:dy)(h:r.aI.length<1073741824):E9 r=some r:=by
 unfold E9;rw[show ([]:af c8).length+r.aI.length=r.aI.length by simp,fl h];rfl
theorem awG(g:aX)(r:dy)(c:bV)(h:r.aI.length<1073741824):Kg g r c=some (Xr g r c):=by
 unfold Kg Xr xC;rw[awF r h,av,Xq,av];change (bif !(sX g r c)then _ else _)=_;cases ha:sX g r c with
 |false=>rfl
 | true=>
  obtain⟨hg,hlen,hk,hb⟩:=QZ ha;simp only[bS,au,aq];unfold wH;rcases kinds hk with h|h|h|h|h|h|h|h|h<;>(try (have hb:=hb (by omega)))<;>simp[h,hb]
theorem ahP(r:dy)(c:bV):(wH r c).aI.length=r.aI.length:=by
 unfold wH;cases c.kind==1<;>cases c.kind==4<;>cases c.kind==6<;>cases c.kind==8<;>cases (c.kind==7 ||c.kind==9)<;>simp
def yH(t:dx)(a b:Int):Int:=
 bif a==1 then (bif b==2 ||b==3 then t.jZ else bif b==4 then t.gC else bif b==1 ||b==5 then W6 (t.gC+t.rp)else 0)else
 bif a==2 then (bif b==4 then t.jO else bif b==1 ||b==5 then W6 (t.jO+t.rp)else 0)else
 bif a==3 then (bif b==4 then t.wr else bif b==1 ||b==5 then W6 (t.wr+t.rp)else 0)else
 bif a==4 then (bif b==1 ||b==5 then t.rp else 0)else
 bif a==5 then (bif b==1 ||b==5 then t.nS else 0)else 0
def yI(t:dx)(a b:Int)(vf:Bool):Int:=
 bif a==7 then t.xp else bif a==9 then t.xs else
 bif (a==6&&b==7) ||(a==8&&b==9)then t.om else
 bif a==1&&b==1 then (bif vf then t.ke else t.mM)else
 bif (a==2&&b==2) ||(a==3&&b==3)then (bif vf then t.mO else t.mN)else
 bif a==3&&b==2 then (bif vf then t.nR else t.nQ)else
 bif a==2&&b==3 then t.pW else
 bif a==5&&b==5 then t.ke else
 bif a==2&&b==6 then t.jO else bif a==3&&b==6 then t.wr else
 bif b==8 then yH t a 1 else 0
theorem awH(t:dx){a b:Int}(ha:1<=a/\a<=9)(hb:1<=b/\b<=9):J7 t a b=some (yH t a b):=by
 rcases kinds ha with rfl|rfl|rfl|rfl|rfl|rfl|rfl|rfl|rfl<;>rcases kinds hb with rfl|rfl|rfl|rfl|rfl|rfl|rfl|rfl|rfl<;>kernel_rfl
theorem Xs(t:dx){a b:Int}(vf:Bool)(ha:1<=a/\a<=9)(hb:1<=b/\b<=9):Kb t a b vf=some (yI t a b vf):=by
 cases vf<;>rcases kinds ha with rfl|rfl|rfl|rfl|rfl|rfl|rfl|rfl|rfl<;>rcases kinds hb with rfl|rfl|rfl|rfl|rfl|rfl|rfl|rfl|rfl<;>kernel_rfl
theorem ahQ{t:dx}(ht:kY t=true){a b:Int}(ha:1<=a/\a<=9)(hb:1<=b/\b<=9):ET t a b=some (yH t a b):=by
 unfold ET;rw[QS,av,ht,bS,au];rcases kinds ha with rfl|rfl|rfl|rfl|rfl|rfl|rfl|rfl|rfl<;>rcases kinds hb with rfl|rfl|rfl|rfl|rfl|rfl|rfl|rfl|rfl<;>kernel_rfl
theorem Xt{t:dx}(ht:kY t=true){a b:Int}(vf:Bool)(ha:1<=a/\a<=9)(hb:1<=b/\b<=9):EU t a b vf=some (yI t a b vf):=by
 unfold EU;dsimp only;rw[QS,av,ht,bS,au,fP,av,de.2 ha,bS,au,fP,av,de.2 hb,bS];by_cases h8:b=8/\a≠7/\a≠9
 ·obtain⟨rfl,h7,h9⟩:=h8;have e:=ahQ ht ha (b:=1) (by omega);rcases kinds ha with rfl|rfl|rfl|rfl|rfl|rfl|rfl|rfl|rfl<;>first|exact absurd rfl h7|exact absurd rfl h9|simp[e,yI]
 ·cases vf<;>rcases kinds ha with rfl|rfl|rfl|rfl|rfl|rfl|rfl|rfl|rfl<;>rcases kinds hb with rfl|rfl|rfl|rfl|rfl|rfl|rfl|rfl|rfl<;>first|exact absurd ⟨rfl,by omega,by omega⟩ h8|kernel_rfl
def LF(a b:bV):Bool:=aM a.kind 1 5&&aM b.kind 1 5
def LG(g:aX)(a b:bV):Bool:=LF a b&&(W6 (a.ay.tdiv g.aI)==W6 (b.ay.tdiv g.aI))
def wI(g:aX)(t:dx)(a b:bV):Int:=
 bif LF a b&&a.ay==b.ay then max (max 1 (yI t a.kind b.kind (LG g a b))) (yH t a.kind b.kind)else max 1 (yI t a.kind b.kind (LG g a b))
theorem A3(x y:Int):(if x > y then x else y)=max x y:=by
 rw[Int.max_def];split<;>split<;>omega
theorem ahR{g:aX}{b:Int}(h:0<=b/\b<bq g)(hg:dw g=true):Kc g b=some (W6 (b.tdiv g.aI)):=by
 have b1:=g9 g;have gb:=iC hg;unfold Kc;rw[pQ,av,fC,av,aY (by omega) (by omega),de.2 ⟨h.1,by omega⟩,bS,au,cm (by omega)]
theorem LH{k:Int}(h:1<=k/\k<=9):aM k 1 5=decide (k<=5):=by
 unfold aM;rw[bF h.1,cM]
theorem awI{g:aX}(t:dx){a b:bV}(hg:dw g=true)(ka:1<=a.kind/\a.kind<=9)(kb:1<=b.kind/\b.kind<=9)(ba:a.kind<=5->0<=a.ay/\a.ay<bq g)(bb:b.kind<=5->0<=b.ay/\b.ay<bq g):Kd g t a b=some (wI g t a b):=by
 unfold Kd wI LG LF;simp only[Lz,av];cases ua:aM a.kind 1 5 with
 | false=>
  simp only[au,Bool.false_and];rw[Xs t false ka kb,av,A3,Int.max_comm]
 | true=>
  cases ub:aM b.kind 1 5 with
  | false=>
   simp only[aq,au,Bool.and_false,Bool.false_and];rw[Xs t false ka kb,av,A3,Int.max_comm]
  | true=>
   have ua':=de.1 ua;have ub':=de.1 ub;simp only[aq,cM,Bool.and_self];rw[ahR (ba ua'.2) hg,av,ahR (bb ub'.2) hg,av,Xs t _ ka kb,av,awH t ka kb];cases a.ay==b.ay with
   |false=>simp only[au,A3,Int.max_comm]
   | true=>
    simp only[aq,av,A3];rw[Int.max_comm (yH _ _ _),Int.max_comm (yI _ _ _ _)]
theorem awJ{g:aX}{t:dx}{a b:bV}(hg:dw g=true)(ht:kY t=true)(ka:1<=a.kind/\a.kind<=9)(kb:1<=b.kind/\b.kind<=9):AB g t a b=some (wI g t a b):=by
 have gb:=iC hg;unfold AB wI LG LF;rw[LH ka,LH kb];cases decide (a.kind<=5)with
 | false=>
  simp only[au,Bool.false_and];rw[Xt ht false ka kb,av,A3]
 | true=>
  cases decide (b.kind<=5)with
  | false=>
   simp only[aq,au,Bool.and_false,Bool.false_and];rw[Xt ht false ka kb,av,A3]
  | true=>
   simp only[aq,cM,Bool.and_self];rw[cm (by omega),cm (by omega),Xt ht _ ka kb,av,ahQ ht ka kb];cases a.ay==b.ay with
   |false=>simp only[au,A3]
   | true=>
    simp only[aq,av,A3];rw[Int.max_comm (yH _ _ _),<-Int.max_assoc]
theorem Xu{t:dx}(h:kY t=true):∀ x∈rS t,1<=x/\x<=64:=by
 simp only[kY,bx,dQ]at h;exact λx hx=>de.1 (h.1 x hx)
theorem ahS{t:dx}(h:kY t=true)(a b:Int):0<=yH t a b/\yH t a b<=128:=by
 have hb:=Xu h;simp only[rS,jq,List.not_mem_nil,or_false,forall_eq_or_imp,forall_eq]at hb;obtain⟨h1,h2,h3,h4,h5,h6,h7,h8,h9,eP,iF,jP,iN,jQ,gP,jd,ou⟩:=hb;unfold yH;rw[aY (n:=t.gC+t.rp) (by omega) (by omega),aY (n:=t.jO+t.rp) (by omega) (by omega),aY (n:=t.wr+t.rp) (by omega) (by omega)];cases a==1<;>cases a==2<;>cases a==3<;>cases a==4<;>cases a==5<;>cases b==4<;>cases (b==2 ||b==3)<;>cases (b==1 ||b==5)<;>simp only[aq,au]<;>omega
theorem awK{c:Bool}{x y a b:Int}(hx:a<=x/\x<=b)(hy:a<=y/\y<=b):a<=(bif c then x else y)/\(bif c then x else y)<=b:=by
 cases c
 ·exact hy
 ·exact hx
theorem awL{t:dx}(h:kY t=true)(a b:Int)(n:Bool):0<=yI t a b n/\yI t a b n<=128:=by
 have hb:=Xu h;simp only[rS,jq,List.not_mem_nil,or_false,forall_eq_or_imp,forall_eq]at hb;obtain⟨h1,h2,h3,h4,h5,h6,h7,h8,h9,eP,iF,jP,iN,jQ,gP,jd,ou⟩:=hb;have h0:=ahS h a 1;unfold yI
 repeat' (first|exact h0|refine awK ?_ ?_|omega)
def mb(g:aX)(c:bV):Int:=9*(bif aM c.kind 1 5 then c.ay else bq g)+c.kind-1
theorem ahT{g:aX}{c:bV}(h:iL g c=true):0<=mb g c/\mb g c<9*(bq g+1):=by
 obtain⟨hg,hk,hb,_⟩:=LD h;have b1:=g9 g;unfold mb;cases hu:aM c.kind 1 5 with
 |true=>have:=de.1 hu;have:=hb this.2;simp only[aq];omega
 |false=>simp only[au];omega
theorem awM{g:aX}{c:bV}(h:iL g c=true):PS g c=some (mb g c):=by
 obtain⟨hg,hk,hb,_⟩:=LD h;have b1:=g9 g;unfold PS mb;simp only[pQ,av,Lz];cases hu:aM c.kind 1 5 with
 | true=>
  have:=de.1 hu;have:=hb this.2;simp only[aq];rw[aY (n:=9*c.ay) (by omega) (by omega),aY (n:=9*c.ay+c.kind) (by omega) (by omega),aY (by omega) (by omega)]
 | false=>
  simp only[au];rw[aY (n:=9*bq g) (by omega) (by omega),aY (n:=9*bq g+c.kind) (by omega) (by omega),aY (by omega) (by omega)]
theorem ahU(r:dA)(h1:r.last.length<1073741824)(h2:r.aZ.length<1073741824):Fa r=some r:=by
 unfold Fa;rw[show ([]:af Int).length+r.last.length=r.last.length by simp,fl h1,show ([]:af Int).length+r.aZ.length=r.aZ.length by simp,fl h2];rfl
theorem ahV(r:dA)(h1:r.last.length<1073741824)(h2:r.aZ.length<1073741824):uW r=some r:=ahU r h1 h2
def Q0(r:dA)(x:Int):Bool:=match r.aZ.getLast? with
 |some y=>decide (x<=y)
 |none=>false
def FL(l:af Int)(x:Int):af Int:=(l++[x]).drop (l.length+1-4)
def yJ(g:aX)(r:dA)(e:cw):dA:=
 bif qD g r&&(iL g e.cmd&&(aM e.at_ 0 1000000 && !(e.cmd.kind==1&&Q0 r e.at_)))then ⟨r.last.set (mb g e.cmd).toNat e.at_,bif e.cmd.kind==1 then FL r.aZ e.at_ else r.aZ⟩else r
theorem Q1{g:aX}{r:dA}(h:qD g r=true):dw g=true/\(r.last.length:Int)=9*(bq g+1)/\r.aZ.length<=4:=by
 simp only[qD,bx,beq_iff_eq,nq,decide_eq_false_iff_not]at h;exact⟨h.1,h.2.1,by omega⟩
theorem ahW{l:af Int}(h:0<l.length)(h':(W6 ((l.length:Int)-1)).toNat<l.length)(hl:l.length<1073741824):l.getLast?=some (l[(W6 ((l.length:Int)-1)).toNat]'h'):=by
 have e:(W6 ((l.length:Int)-1)).toNat=l.length-1:=by rw[aY (by omega) (by omega)];omega
 simp only[e];rw[List.getLast?_eq_getElem?,cu (by omega)]
theorem awN(g:aX)(r:dA)(e:cw)(h1:r.last.length<1073741824)(h2:r.aZ.length<1073741824):PT g r e=some (yJ g r e):=by
 unfold PT yJ xC xI;rw[ahU r h1 h2,av,Xj,av];cases hr:qD g r with
 |false=>rfl
 | true=>
  simp only[bS,au,cM];rw[Xp,av];cases hc:iL g e.cmd with
  |false=>rfl
  | true=>
   simp only[bS,au,cM];rw[fC,av];cases ha:aM e.at_ 0 1000000 with
   |false=>rfl
   | true=>
    obtain⟨hg,hl,h4⟩:=Q1 hr;have hp:=ahT hc;have b1:=g9 g;simp only[bS,au,cM,awM hc,av];cases hk:(e.cmd.kind==1)with
    | false=>
     simp only[au,Bool.false_and,Bool.not_false,aq];rw[aG ⟨hp.1,by omega⟩,aG (by omega)]
    | true=>
     have tl:∀ (A B:ak dA),(if jP:0<=mb g e.cmd/\(mb g e.cmd).toNat<r.last.length then if iN:(mb g e.cmd).toNat<r.last.length then (bif bH (r.aZ.length+([e.at_]:af Int).length)then if 0<=(if W6 (((r.aZ++[e.at_]).length:Int)-4) > 0 then W6 (((r.aZ++[e.at_]).length:Int)-4)else 0)/\(if W6 (((r.aZ++[e.at_]).length:Int)-4) > 0 then W6 (((r.aZ++[e.at_]).length:Int)-4)else 0)<=((r.aZ++[e.at_]).length:Int)/\((r.aZ++[e.at_]).length:Int)<=((r.aZ++[e.at_]).length:Int)then bif bH (([]:af Int).length+(((r.aZ++[e.at_]).take (((r.aZ++[e.at_]).length:Int).toNat)).drop ((if W6 (((r.aZ++[e.at_]).length:Int)-4) > 0 then W6 (((r.aZ++[e.at_]).length:Int)-4)else 0).toNat)).length)then some (⟨(r.last.set (mb g e.cmd).toNat e.at_),(([]:af Int)++(((r.aZ++[e.at_]).take (((r.aZ++[e.at_]).length:Int).toNat)).drop ((if W6 (((r.aZ++[e.at_]).length:Int)-4) > 0 then W6 (((r.aZ++[e.at_]).length:Int)-4)else 0).toNat)))⟩:dA)else none else none else none)else A else B)=some ⟨r.last.set (mb g e.cmd).toNat e.at_,FL r.aZ e.at_⟩:=by
      intro A B;have eL:(r.aZ++[e.at_]).length=r.aZ.length+1:=by simp
      have ew:(if W6 (((r.aZ.length+1:Nat):Int)-4) > 0 then W6 (((r.aZ.length+1:Nat):Int)-4)else 0)=((r.aZ.length+1-4:Nat):Int):=by
       rw[aY (by omega) (by omega)];split<;>omega
      rw[aG ⟨hp.1,by omega⟩,aG (by omega),fl (by simp;omega),aq,eL,ew,bB ⟨by omega,by omega,by omega⟩,fl (by simp;omega),aq];unfold FL;simp only[cc,List.nil_append];rw[<-eL,mL]
     simp only[aq,cM];unfold Q0;by_cases h0:0<r.aZ.length
     ·have hw:(W6 ((r.aZ.length:Int)-1))=((r.aZ.length-1:Nat):Int):=by rw[aY (by omega) (by omega)];omega
      have hi:(W6 ((r.aZ.length:Int)-1)).toNat<r.aZ.length:=by rw[hw];omega
      rw[bF (show (r.aZ.length:Int) > 0 by omega),aq,aG ⟨by rw[hw];omega,hi⟩,ahW h0 hi (by omega)];dsimp only;cases decide (e.at_<=r.aZ[(W6 ((r.aZ.length:Int)-1)).toNat])with
      |true=>rfl
      | false=>
       simp only[au,Bool.not_false,aq];exact tl _ _
     ·have h0:r.aZ=[]:=List.eq_nil_of_length_eq_zero (by omega);rw[bD (by rw[h0];simp),au];rw[show r.aZ.getLast?=none by rw[h0];rfl];simp only[Bool.not_false,aq];exact tl _ _
theorem awO(g:aX)(r:dA)(e:cw)(h1:r.last.length<1073741824)(h2:r.aZ.length<1073741824):Ow g r e=some (yJ g r e):=by
 unfold Ow yJ xC xI;rw[ahV r h1 h2,av,ahA,av];cases hr:qD g r with
 |false=>rfl
 | true=>
  simp only[bS,au,cM];rw[ahM,av];cases hc:iL g e.cmd with
  |false=>rfl
  | true=>
   simp only[bS,au,cM];rw[fP,av];cases ha:aM e.at_ 0 1000000 with
   |false=>rfl
   | true=>
    obtain⟨hg,hl,h4⟩:=Q1 hr;obtain⟨_,hk9,hb,_⟩:=LD hc;have hp:=ahT hc;have b1:=g9 g;have pl:mb g e.cmd=bif decide (e.cmd.kind<=5)then 9*e.cmd.ay+e.cmd.kind-1 else 9*bq g+e.cmd.kind-1:=by
     unfold mb;rw[LH hk9];cases decide (e.cmd.kind<=5)<;>rfl
    have hW1:decide (e.cmd.kind<=5)=true->W6 (W6 (W6 (9*e.cmd.ay)+e.cmd.kind)-1)=mb g e.cmd:=by
     intro hu;have:=hb (of_decide_eq_true hu);rw[aY (n:=9*e.cmd.ay) (by omega) (by omega),aY (n:=9*e.cmd.ay+e.cmd.kind) (by omega) (by omega),aY (by omega) (by omega),pl,hu];rfl
    have hW2:decide (e.cmd.kind<=5)=false->W6 (W6 (W6 (9*bq g)+e.cmd.kind)-1)=mb g e.cmd:=by
     intro hu;rw[aY (n:=9*bq g) (by omega) (by omega),aY (n:=9*bq g+e.cmd.kind) (by omega) (by omega),aY (by omega) (by omega),pl,hu];rfl
    have Q2:∀l:af Int,l.length<1073741824->uW ⟨r.last.set (mb g e.cmd).toNat e.at_,l⟩=some ⟨r.last.set (mb g e.cmd).toNat e.at_,l⟩:=λl fU=>ahV _ (by simp;omega) fU
    have d1:0<=mb g e.cmd/\(mb g e.cmd).toNat<r.last.length:=⟨hp.1,by omega⟩
    have o1:bH (([]:af Int).length+r.aZ.length)=true:=fl (by simp;omega);have o2:bH ((([]:af Int)++r.aZ).length+([e.at_]:af Int).length)=true:=fl (by simp;omega);have eL:((([]:af Int)++r.aZ)++([e.at_]:af Int)).length=r.aZ.length+1:=by simp
    have e4:(bif decide ((((r.aZ.length+1:Nat):Int)) > 4)then if 0<=(1:Int)/\(1:Int)<=((r.aZ.length+1:Nat):Int)/\((r.aZ.length+1:Nat):Int)<=((r.aZ.length+1:Nat):Int)then (uW (⟨r.last.set (mb g e.cmd).toNat e.at_,(((([]:af Int)++r.aZ)++([e.at_]:af Int)).take (((r.aZ.length+1:Nat):Int).toNat)).drop ((1:Int).toNat)⟩:dA)).bind λfj=>some fj else none else (uW (⟨r.last.set (mb g e.cmd).toNat e.at_,((([]:af Int)++r.aZ)++([e.at_]:af Int))⟩:dA)).bind λfF=>some fF)=some ⟨r.last.set (mb g e.cmd).toNat e.at_,FL r.aZ e.at_⟩:=by
     have et:((([]:af Int)++r.aZ)++([e.at_]:af Int)).take (((r.aZ.length+1:Nat):Int).toNat)=r.aZ++[e.at_]:=by
      rw[cc,<-eL,mL,List.nil_append]
     rw[et];unfold FL;by_cases h5:4<=r.aZ.length
     ·rw[bF (by omega),aq,bB ⟨by omega,by omega,by omega⟩,Q2 _ (by simp;omega),av,show r.aZ.length+1-4=1 by omega];rfl
     ·rw[bD (by omega),au,Q2 _ (by simp;omega),av,show r.aZ.length+1-4=0 by omega];rfl
    simp only[bS,au,cM,tS,av];cases hk:(e.cmd.kind==1)with
    | false=>
     cases hu:decide (e.cmd.kind<=5)with
     | true=>
      simp only[au,Bool.false_and,Bool.not_false,aq,hW1 hu];rw[aG d1,aG d1.2,Q2 _ (by omega),av]
     | false=>
      simp only[au,Bool.false_and,Bool.not_false,aq,hW2 hu];rw[aG d1,aG d1.2,Q2 _ (by omega),av]
    | true=>
     have hu:decide (e.cmd.kind<=5)=true:=by
      have:e.cmd.kind=1:=by simpa using hk
      exact bF (by omega)
     simp only[aq,cM,hu,hW1 hu,o1,o2,eL];unfold Q0;by_cases h0:0<r.aZ.length
     ·have hw:(W6 ((r.aZ.length:Int)-1))=((r.aZ.length-1:Nat):Int):=by rw[aY (by omega) (by omega)];omega
      have hi:(W6 ((r.aZ.length:Int)-1)).toNat<r.aZ.length:=by rw[hw];omega
      rw[bF (show (r.aZ.length:Int) > 0 by omega),aq,aG ⟨by rw[hw];omega,hi⟩,ahW h0 hi (by omega)];dsimp only;rw[show decide (r.aZ[(W6 ((r.aZ.length:Int)-1)).toNat] >= e.at_)=decide (e.at_<=r.aZ[(W6 ((r.aZ.length:Int)-1)).toNat])from rfl];cases decide (e.at_<=r.aZ[(W6 ((r.aZ.length:Int)-1)).toNat])with
      |true=>rfl
      | false=>
       simp only[au,Bool.not_false,aq];rw[aG d1,aG d1.2];exact e4
     ·have h0:r.aZ=[]:=List.eq_nil_of_length_eq_zero (by omega);rw[bD (by rw[h0];simp),au];rw[show r.aZ.getLast?=none by rw[h0];rfl];simp only[Bool.not_false,aq];rw[aG d1,aG d1.2];exact e4
theorem Xv{t:dx}(ht:kY t=true)(g:aX)(a b:bV):1<=wI g t a b/\wI g t a b<=128:=by
 have h1:=awL ht a.kind b.kind (LG g a b);have h2:=ahS ht a.kind b.kind;unfold wI;cases LF a b&&a.ay==b.ay<;>simp only[aq,au]<;>omega
theorem ahX{t:dx}(ht:kY t=true):1<=t.jy/\t.jy<=64:=Xu ht _ (by simp[rS])
def vg(n k:Nat):af Int:=List.replicate k (-1)++List.replicate (n-k) 0
theorem awP{n k:Nat}(h:k<=n):(vg n k).length=n:=by
 unfold vg;simp;omega
theorem awQ{n k:Nat}(h:k<n):(vg n k).set k (-1)=vg n (k+1):=by
 obtain⟨m,rfl⟩:∃m,n=k+1+m:=⟨n-k-1,by omega⟩
 unfold vg;rw[show k+1+m-k=m+1 by omega,show k+1+m-(k+1)=m by omega,List.set_append_right _ _ (by simp),List.length_replicate,Nat.sub_self,List.replicate_succ,List.set_cons_zero,List.replicate_succ',List.append_assoc];rfl
theorem awR(n:Nat):vg n 0=List.replicate n 0:=by simp[vg]
theorem awS(n:Nat):vg n n=List.replicate n (-1):=by simp[vg]
theorem awT(n:Nat)(hn:n<1073741824):OB (n:Int)=some (List.replicate n (-1)):=by
 have e:=gJ (step:=Ji) n (λi=>(((n:Int),(),(i:Int),()),(vg n i,()))) (.inl (((),()),(vg n n,()))) bA (λk h=>by
  have hl:=awP (show k<=n by omega);unfold Ji xC ax xG;dsimp only;rw[bF (by omega),aq,aG ⟨by omega,by omega⟩,aG (by omega),bZ (by omega),cc,awQ h]) (by
  unfold Ji xC ax xG;dsimp only;rw[bD (by omega),au]) (cP (by omega))
 unfold OB bQ;rw[bB ⟨by omega,by omega,by omega⟩,cc];rw[awR,awS,di]at e;exact(bJ (λo=>Option.bind o _) e).trans rfl
theorem awU(g:aX)(r:dA)(e:cw):(yJ g r e).last.length=r.last.length/\(r.aZ.length<=4->(yJ g r e).aZ.length<=4):=by
 unfold yJ;cases (qD g r&&(iL g e.cmd&&(aM e.at_ 0 1000000 && !(e.cmd.kind==1&&Q0 r e.at_))))with
 |false=>exact⟨rfl,id⟩
 | true=>
  refine⟨by simp,λh=>?_⟩
  simp only[aq];cases e.cmd.kind==1 with
  |false=>exact h
  | true=>
   simp only[aq,FL,List.length_drop,List.length_append,List.length_singleton];omega
theorem awV{α:Type}{cs:af α}(o k:Nat):cs.drop o=(cs.drop o).take k++cs.drop (o+k):=by
 rw[<-List.drop_drop];exact(List.take_append_drop k _).symm
theorem jK{w:World}{B:Nat}{cs:af Value}{n:Nat}(h:cs.length=n):bU w B [] (cs.drop n):=by
 rw[List.drop_of_length_le (by omega)];exact .nil
theorem bU.cut{w:World}{B:Nat}{vs tv:af V}{cs:af Value}{o k:Nat}(h:bU w B vs ((cs.drop o).take k))(h':bU w B tv (cs.drop (o+k))):bU w B (vs++tv) (cs.drop o):=by
 rw[awV o k];exact bU.append h h'
theorem oI{H:Type}{dg:TypeId×Value->H}{w:World}:aT dg Tryz.prog w 3 .int cI:=aT.int Tryz.underlying3
def Xw(x:bN):Prop:=cI x.id/\cI x.dX/\cI x.line/\True/\cI x.data/\cI x.at_
theorem awW{H:Type}{dg:TypeId×Value->H}{w:World}:aT dg Tryz.prog w 238 .dR Xw:=λn cs x hx=>by
 have hs:=Tryz.underlying238;obtain⟨a0,i0,r0⟩:=aT.part hs hx (i:=0) rfl oI (off:=0) (k:=1) rfl (by kernel_rfl);obtain⟨a1,i1,r1⟩:=aT.part hs hx (i:=1) rfl oI (off:=1) (k:=1) rfl (by kernel_rfl);obtain⟨a2,i2,r2⟩:=aT.part hs hx (i:=2) rfl oI (off:=2) (k:=1) rfl (by kernel_rfl);obtain⟨a3,i3,r3⟩:=aT.part hs hx (i:=3) rfl (aT.bool Tryz.underlying4) (off:=3) (k:=1) rfl (by kernel_rfl);obtain⟨a4,i4,r4⟩:=aT.part hs hx (i:=4) rfl oI (off:=4) (k:=1) rfl (by kernel_rfl);obtain⟨a5,i5,r5⟩:=aT.part hs hx (i:=5) rfl oI (off:=5) (k:=1) rfl (by kernel_rfl);have hl:=aT.len hs hx;have hc:Tryz.prog.cellsOf 238=6:=by kernel_rfl
 rw[hc]at hl;exact⟨⟨a0,a1,a2,a3,a4,a5⟩,⟨i0,i1,i2,i3,i4,i5⟩,bU.cut r0 (bU.cut r1 (bU.cut r2 (bU.cut r3 (bU.cut r4 (bU.cut r5 ((jK hl)))))))⟩
def Xx(x:aP):Prop:=cI x.ay/\cI x.row/\cI x.bL
theorem awX{H:Type}{dg:TypeId×Value->H}{w:World}:aT dg Tryz.prog w 236 .Addr Xx:=λn cs x hx=>by
 have hs:=Tryz.underlying236;obtain⟨a0,i0,r0⟩:=aT.part hs hx (i:=0) rfl oI (off:=0) (k:=1) rfl (by kernel_rfl);obtain⟨a1,i1,r1⟩:=aT.part hs hx (i:=1) rfl oI (off:=1) (k:=1) rfl (by kernel_rfl);obtain⟨a2,i2,r2⟩:=aT.part hs hx (i:=2) rfl oI (off:=2) (k:=1) rfl (by kernel_rfl);have hl:=aT.len hs hx;have hc:Tryz.prog.cellsOf 236=3:=by kernel_rfl
 rw[hc]at hl;exact⟨⟨a0,a1,a2⟩,⟨i0,i1,i2⟩,bU.cut r0 (bU.cut r1 (bU.cut r2 ((jK hl))))⟩
def ahY(x:oq):Prop:=cI x.down/\cI x.sleep
theorem awY{H:Type}{dg:TypeId×Value->H}{w:World}:aT dg Tryz.prog w 34 .pY ahY:=λn cs x hx=>by
 have hs:=Tryz.underlying34;obtain⟨a0,i0,r0⟩:=aT.part hs hx (i:=0) rfl oI (off:=0) (k:=1) rfl (by kernel_rfl);obtain⟨a1,i1,r1⟩:=aT.part hs hx (i:=1) rfl oI (off:=1) (k:=1) rfl (by kernel_rfl);have hl:=aT.len hs hx;have hc:Tryz.prog.cellsOf 34=2:=by kernel_rfl
 rw[hc]at hl;exact⟨⟨a0,a1⟩,⟨i0,i1⟩,bU.cut r0 (bU.cut r1 ((jK hl)))⟩
def Q3(x:gn):Prop:=cI x.jb/\cI x.cap/\cI x.fY/\cI x.low/\cI x.high/\(x.weights.length<=maxLen/\∀y∈x.weights,cI y)/\ahY x.fZ
theorem ahZ{H:Type}{dg:TypeId×Value->H}{w:World}:aT dg Tryz.prog w 36 .lz Q3:=λn cs x hx=>by
 have hs:=Tryz.underlying36;obtain⟨a0,i0,r0⟩:=aT.part hs hx (i:=0) rfl oI (off:=0) (k:=1) rfl (by kernel_rfl);obtain⟨a1,i1,r1⟩:=aT.part hs hx (i:=1) rfl oI (off:=1) (k:=1) rfl (by kernel_rfl);obtain⟨a2,i2,r2⟩:=aT.part hs hx (i:=2) rfl oI (off:=2) (k:=1) rfl (by kernel_rfl);obtain⟨a3,i3,r3⟩:=aT.part hs hx (i:=3) rfl oI (off:=3) (k:=1) rfl (by kernel_rfl);obtain⟨a4,i4,r4⟩:=aT.part hs hx (i:=4) rfl oI (off:=4) (k:=1) rfl (by kernel_rfl);obtain⟨a5,i5,r5⟩:=aT.part hs hx (i:=5) rfl (aT.sl Tryz.underlying32 (by kernel_rfl) oI) (off:=5) (k:=1) rfl (by kernel_rfl);obtain⟨a6,i6,r6⟩:=aT.part hs hx (i:=6) rfl awY (off:=6) (k:=2) rfl (by kernel_rfl);have hl:=aT.len hs hx;have hc:Tryz.prog.cellsOf 36=8:=by kernel_rfl
 rw[hc]at hl;exact⟨⟨a0,a1,a2,a3,a4,a5,a6⟩,⟨i0,i1,i2,i3,i4,i5,i6⟩,bU.cut r0 (bU.cut r1 (bU.cut r2 (bU.cut r3 (bU.cut r4 (bU.cut r5 (bU.cut r6 ((jK hl))))))))⟩
theorem wJ{T:Type}(z0:T)(f:T->ak T)(l:af T)(hf:∀ x∈l,f x=some x)(hl:l.length<1073741824):
  iter (α:=((af T×ah×Int×ah)×(af T×ah))) (β:=(((ah×ah)×(af T×ah))⊕Empty)) (λx=>bif (decide (x.1.2.2.1<(x.1.1.length:Int)))then if h1:0<=x.1.2.2.1/\x.1.2.2.1.toNat<x.1.1.length then (let e2:=x.1.1[x.1.2.2.1.toNat]'h1.2;(f e2).bind λy3=>if h4:0<=x.1.2.2.1/\x.1.2.2.1.toNat<x.2.1.length then if h5:x.1.2.2.1.toNat<x.2.1.length then (let e6:=x.2.1[x.1.2.2.1.toNat]'h5;some (.inl ((x.1.1,(),(W6 (x.1.2.2.1+(1:Int))),()),((x.2.1.set x.1.2.2.1.toNat y3),()))))else none else none)else none else some (.inr (.inl (((),()),(x.2.1,())))))
   bA ((l,(),(0:Int),()),((List.replicate (l.length:Int).toNat z0),()))=some (.inl (((),()),(l,()))):=by
 obtain⟨z,h1,h2⟩:=WK (step:=(λx:((af T×ah×Int×ah)×(af T×ah))=>(bif (decide (x.1.2.2.1<(x.1.1.length:Int)))then if h1:0<=x.1.2.2.1/\x.1.2.2.1.toNat<x.1.1.length then (let e2:=x.1.1[x.1.2.2.1.toNat]'h1.2;(f e2).bind λy3=>if h4:0<=x.1.2.2.1/\x.1.2.2.1.toNat<x.2.1.length then if h5:x.1.2.2.1.toNat<x.2.1.length then (let e6:=x.2.1[x.1.2.2.1.toNat]'h5;some (.inl ((x.1.1,(),(W6 (x.1.2.2.1+(1:Int))),()),((x.2.1.set x.1.2.2.1.toNat y3),()))))else none else none)else none else some (.inr (.inl (((),()),(x.2.1,())))):ak (((af T×ah×Int×ah)×(af T×ah))⊕(((ah×ah)×(af T×ah))⊕Empty)))))
  (λx=>∃(i:Nat) (a:af T),x=((l,(),(i:Int),()),(a,()))/\i<=l.length/\a.length=l.length/\∀j,j<i->a[j]?=l[j]?)
  (λx=>l.length-x.1.2.2.1.toNat) (λz=>z = .inl (((),()),(l,()))) (by
   rintro x ⟨i,a,rfl,hi,ha,hj⟩;dsimp only;by_cases h:i<l.length
   ·left;have c1:decide ((i:Int)<(l.length:Int))=true:=by simpa using h
    have c2:0<=(i:Int)/\(i:Int).toNat<l.length:=⟨by omega,by simpa using h⟩
    have c3:0<=(i:Int)/\(i:Int).toNat<a.length:=⟨by omega,by rw[ha];simpa using h⟩
    rw[c1,aq,aG c2,hf _ (fW _),av,aG c3,aG c3.2]
    refine⟨_,rfl,⟨i+1,a.set i (l[i]'h),?_,by omega,by simpa using ha,λj pg=>?_⟩,?_⟩
    ·rw[aY (by omega) (by omega)];simp
    ·rw[List.getElem?_set];by_cases e:i=j
     ·subst e;rw[bB rfl,bB (by omega),cu h]
     ·rw[cm e];exact hj j (by omega)
    ·dsimp only;rw[aY (by omega) (by omega)];omega
   ·right;have c1:decide ((i:Int)<(l.length:Int))=false:=by simpa using h
    rw[c1,au];refine⟨_,rfl,?_⟩;have:a=l:=List.ext_getElem? λj=>by
     by_cases Bn:j<l.length
     ·exact hj j (by omega)
     ·rw[List.getElem?_eq_none (by omega),List.getElem?_eq_none (by omega)]
    rw[this])
  bA ((l,(),(0:Int),()),((List.replicate (l.length:Int).toNat z0),())) ⟨0,_,rfl,by omega,by simp,λj h=>by omega⟩ (by dsimp only;unfold bA;omega)
 rw[h1,h2]
theorem wK{T:Type}(f:T->T->ak Bool)(l:af T)(hf:∀ x∈l,f x x=some true)(hl:l.length<1073741824):
  iter (α:=((af T×af T×Int×ah)×ah)) (β:=(((Bool×ah)×ah)⊕((ah×ah)⊕Empty))) (λx=>bif (decide (x.1.2.2.1<(x.1.1.length:Int)))then if h1:0<=x.1.2.2.1/\x.1.2.2.1.toNat<x.1.1.length then (let e2:=x.1.1[x.1.2.2.1.toNat]'h1.2;if h3:0<=x.1.2.2.1/\x.1.2.2.1.toNat<x.1.2.1.length then (let e4:=x.1.2.1[x.1.2.2.1.toNat]'h3.2;(f e2 e4).bind λy5=>bif (!y5)then some (.inr (.inl ((false,()),())))else some (.inl ((x.1.1,x.1.2.1,(W6 (x.1.2.2.1+(1:Int))),()),())))else none)else none else some (.inr (.inr (.inl ((),())))))
   bA ((l,l,(0:Int),()),())=some (.inr (.inl ((),()))):=by
 obtain⟨z,h1,h2⟩:=WK (step:=(λx:((af T×af T×Int×ah)×ah)=>(bif (decide (x.1.2.2.1<(x.1.1.length:Int)))then if h1:0<=x.1.2.2.1/\x.1.2.2.1.toNat<x.1.1.length then (let e2:=x.1.1[x.1.2.2.1.toNat]'h1.2;if h3:0<=x.1.2.2.1/\x.1.2.2.1.toNat<x.1.2.1.length then (let e4:=x.1.2.1[x.1.2.2.1.toNat]'h3.2;(f e2 e4).bind λy5=>bif (!y5)then some (.inr (.inl ((false,()),())))else some (.inl ((x.1.1,x.1.2.1,(W6 (x.1.2.2.1+(1:Int))),()),())))else none)else none else some (.inr (.inr (.inl ((),())))):ak (((af T×af T×Int×ah)×ah)⊕(((Bool×ah)×ah)⊕((ah×ah)⊕Empty))))))
  (λx=>∃(i:Nat),x=((l,l,(i:Int),()),())/\i<=l.length)
  (λx=>l.length-x.1.2.2.1.toNat) (λz=>z = .inr (.inl ((),()))) (by
   rintro x ⟨i,rfl,hi⟩;dsimp only;by_cases h:i<l.length
   ·left;have c1:decide ((i:Int)<(l.length:Int))=true:=by simpa using h
    have c2:0<=(i:Int)/\(i:Int).toNat<l.length:=⟨by omega,by simpa using h⟩
    rw[c1,aq,aG c2,aG c2,hf _ (fW _),av];refine⟨_,rfl,⟨i+1,?_,by omega⟩,?_⟩
    ·rw[aY (by omega) (by omega)];simp
    ·dsimp only;rw[aY (by omega) (by omega)];omega
   ·right;have c1:decide ((i:Int)<(l.length:Int))=false:=by simpa using h
    rw[c1,au];exact⟨_,rfl,rfl⟩)
  bA ((l,l,(0:Int),()),()) ⟨0,rfl,by omega⟩ (by dsimp only;unfold bA;omega)
 rw[h1,h2]
def Sz(n:Int)(Q:Prop)(o:ak Int):Prop:=∃y,o=some y/\(y<0\/0<=y/\y<=n/\Q)
theorem Sz.bind{n:Int}{Q R:Prop}{o:ak Int}{g:Int->ak Int}(h:Sz n Q o)(hg:∀ y,0<=y->y<=n->Q->Sz n R (g y)):Sz n R (o.bind λy=>bif (decide (y<(0:Int)))then some (-1:Int)else g y):=by
 obtain⟨y,rfl,h|⟨h1,h2,h3⟩⟩:=h
 ·rw[av,bF h];exact⟨-1,rfl,.inl (by omega)⟩
 ·rw[av,bD (by omega)];exact hg y h1 h2 h3
theorem Sz.done{n:Int}{Q:Prop}{y:Int}(h1:0<=y)(h2:y<=n)(h3:Q):Sz n Q (some y):=⟨y,rfl,.inr ⟨h1,h2,h3⟩⟩
theorem Sz.le{n m:Int}{Q:Prop}{o:ak Int}(h:Sz n Q o)(hn:n<=m):Sz m Q o:=by
 obtain⟨y,e,h|⟨h1,h2,h3⟩⟩:=h
 ·exact⟨y,e,.inl h⟩
 ·exact⟨y,e,.inr ⟨h1,by omega,h3⟩⟩
theorem Sz.imp{n:Int}{Q R:Prop}{o:ak Int}(h:Sz n Q o)(hq:Q->R):Sz n R o:=by
 obtain⟨y,e,h|⟨h1,h2,h3⟩⟩:=h
 ·exact⟨y,e,.inl h⟩
 ·exact⟨y,e,.inr ⟨h1,h2,hq h3⟩⟩
theorem A4{α:Type}{l:af α}{n:Int}(hl:l.length<=maxLen)(h0:0<=n)(h1:n<=1048576):Sz n (l.length<=1048576) (bif (decide ((W6 (n-(l.length:Int)))<(0:Int)))then some (-1:Int)else some (W6 (n-(l.length:Int)))):=by
 unfold maxLen at hl;rw[aY (by omega) (by omega)];by_cases c:n-(l.length:Int)<0
 ·rw[bF c];exact⟨-1,rfl,.inl (by omega)⟩
 ·rw[bD c];exact⟨_,rfl,.inr ⟨by omega,by omega,by omega⟩⟩
theorem ah0{T:Type}(f:T->Int->ak Int)(l:af T){Q:T->Prop}(hl:l.length<=1048576)(hf:∀ x∈l,∀ n:Int,0<=n->n<=1048576->Sz n (Q x) (f x n)){n:Int}(h0:0<=n)(h1:n<=1048576):
  Sz n (∀x∈l,Q x) ((iter (α:=((af T×Int×Int×ah)×ah)) (β:=(((Int×ah)×ah)⊕(((Int×ah)×ah)⊕Empty))) (λx=>bif (decide (x.1.2.2.1<(x.1.1.length:Int)))then if h1:0<=x.1.2.2.1/\x.1.2.2.1.toNat<x.1.1.length then (let e2:=x.1.1[x.1.2.2.1.toNat]'h1.2;(f e2 x.1.2.1).bind λy3=>bif (decide (y3<(0:Int)))then some (.inr (.inl (((-1:Int),()),())))else some (.inl ((x.1.1,y3,(W6 (x.1.2.2.1+(1:Int))),()),())))else none else some (.inr (.inr (.inl ((x.1.2.1,()),()))))) bA ((l,n,(0:Int),()),())).bind (Sum.elim (λz4=>some z4.1.1) (Sum.elim (λz5=>some z5.1.1) (λz=>nomatch z)))):=by
 obtain⟨z,e,hz⟩:=avl (step:=(λx:((af T×Int×Int×ah)×ah)=>(bif (decide (x.1.2.2.1<(x.1.1.length:Int)))then if h1:0<=x.1.2.2.1/\x.1.2.2.1.toNat<x.1.1.length then (let e2:=x.1.1[x.1.2.2.1.toNat]'h1.2;(f e2 x.1.2.1).bind λy3=>bif (decide (y3<(0:Int)))then some (.inr (.inl (((-1:Int),()),())))else some (.inl ((x.1.1,y3,(W6 (x.1.2.2.1+(1:Int))),()),())))else none else some (.inr (.inr (.inl ((x.1.2.1,()),())))):ak (((af T×Int×Int×ah)×ah)⊕(((Int×ah)×ah)⊕(((Int×ah)×ah)⊕Empty))))))
  l.length (λi x=>i<=l.length/\∃m:Int,x=((l,m,(i:Int),()),())/\0<=m/\m<=n/\∀j (hj:j<l.length),j<i->Q l[j]) (λz=>(∃y:Int,y<0/\z = .inl ((y,()),()))\/∃y:Int,0<=y/\y<=n/\z = .inr (.inl ((y,()),()))/\∀x∈l,Q x) (x:=((l,n,(0:Int),()),())) bA ⟨by omega,n,rfl,h0,by omega,λj _ h=>by omega⟩ (by
  rintro k hk x ⟨_,m,rfl,m0,m1,hq⟩;dsimp only;rw[bF (by omega),aq,aG ⟨by omega,by omega⟩];simp only[cc];obtain⟨y,e,h⟩:=hf l[k] (fW hk) m m0 (by omega);rw[e,av];rcases h with h|⟨h1,h2,h3⟩
  ·right;rw[bF h,aq];exact⟨_,rfl,.inl ⟨-1,by omega,rfl⟩⟩
  ·left;rw[bD (by omega),au,bZ (by omega)]
   refine⟨_,rfl,by omega,y,rfl,h1,by omega,λj hj hjk=>?_⟩
   by_cases e:j=k
   ·subst e;exact h3
   ·exact hq j hj (by omega)) (by
  rintro x ⟨_,m,rfl,m0,m1,hq⟩;dsimp only;rw[bD (by omega),au]
  refine⟨_,rfl,.inr ⟨m,m0,m1,rfl,λx hx=>?_⟩⟩
  obtain⟨j,hj,rfl⟩:=o3.1 hx;exact hq j hj hj) (cP (by omega))
 rw[e,av];rcases hz with ⟨y,h,rfl⟩|⟨y,h2,h3,rfl,h4⟩
 ·exact⟨y,rfl,.inl h⟩
 ·exact⟨y,rfl,.inr ⟨h2,h3,h4⟩⟩
def Dn(x:gn):Prop:=(x.weights.length<=1048576)
theorem awZ(x:bN):Jz x=some x:=by
 unfold Jz;rfl
theorem aw0(x:bN):KF x x=some true:=by
 unfold KF;simp only[av,eV,eJ,bS,au]
theorem aw1(x:aP):Jy x=some x:=by
 unfold Jy;rfl
theorem aw2(x:aP):KE x x=some true:=by
 unfold KE;simp only[av,eV,eJ,bS,au]
theorem vh(x:af Int)(h:(x.length<=maxLen/\∀ y∈x,cI y)){n:Int}(h0:0<=n)(h1:n<=1048576):Sz n (x.length<=1048576) (sN x n):=by
 exact A4 h.1 h0 h1
theorem vi(x:af Int)(hz:(x.length<=1048576)):rM x=some x:=by
 have hl:=hz;have hh:=wJ ((0:Int):Int) some x (λy hy=>rfl) (by omega);unfold rM bQ;rw[bB ⟨by omega,by omega,by omega⟩]
 refine(bJ (λo=>Option.bind o _) hh).trans ?_
 rfl
theorem vj(x:af Int)(hz:(x.length<=1048576)):rN x x=some true:=by
 have hl:=hz;have hh:=wK (λa b:Int=>some (a==b)) x (λy hy=>by simp) (by omega);unfold rN bR;rw[show ((x.length:Int) != (x.length:Int))=false by simp,au]
 refine(bJ (λo=>Option.bind o _) hh).trans ?_
 rfl
theorem aw3(x:oq):O2 x=some x:=by
 unfold O2;rfl
theorem aw4(x:oq):Qm x x=some true:=by
 unfold Qm;simp only[av,eV,eJ,bS,au]
theorem ah1(x:gn)(h:Q3 x){n:Int}(h0:0<=n)(h1:n<=1048576):Sz n (Dn x) (Iu x n):=by
 obtain⟨i0,i1,i2,i3,i4,i5,i6⟩:=h;unfold Iu
 refine Sz.bind (vh x.weights i5 h0 h1) λy5 a5 b5 z5=>?_
 exact Sz.done a5 b5 z5
theorem ah2(x:gn)(hz:Dn x):Ju x=some x:=by
 have Xy:=hz;unfold Ju;rw[vi x.weights Xy,av,aw3 x.fZ,av]
theorem ah3(x:gn)(hz:Dn x):Kz x x=some true:=by
 have Xy:=hz;unfold Kz;simp only[vj x.weights Xy,aw4 x.fZ,av,eV,eJ,bS,au]
def place(l:af bN)(id:Int):Int:=match l.findIdx? (λr=>r.id==id)with
 |some i=>(i:Int)
 |none=>-1
theorem aw5(g:aX)(a:eZ)(h4:∀ c∈a.cells,c.symbols.length<1073741824):Od g a=some (Dd g a):=by
 unfold Od Dd bR;rw[FD,av,WO,tS];cases hg:dw g with
 |false=>rfl
 | true=>
  have b1:=tT g;have b2:=va g;have er:bq g*g.rows=iU g:=by simp[iU,hg]
  simp only[bS,au,av,cM,er];rw[aY (by omega) (by omega)];by_cases e1:(a.cells.length:Int)=jJ g
  ·by_cases e2:(a.bI.length:Int)=iU g
   ·by_cases e3:(a.bk.length:Int)=iU g
    ·have hl:a.bI.length=a.bk.length:=by omega
     have l1:=gZ (step:=IL) a.cells Dc (λi=>(((),(i:Int),()),((a.cells,a.bI,a.bk,()),()))) (.inl ((false,()),())) (.inr (.inl (((),()),((a.cells,a.bI,a.bk,()),())))) bA (λk h=>by
      unfold IL ax bu xG xI;simp (disch:=omega) [h,bZ,Lt _ 11 (h4 _ (fW h)),Dc];cases sU a.cells[k].symbols 11<;>rfl) (by unfold IL ax bu xG xI;simp) (cP (by omega))
     have l2:=gZ (step:=IM) (a.bI.zip a.bk) yB (λi=>(((),(i:Int),()),((a.cells,a.bI,a.bk,()),()))) (.inl ((false,()),())) (.inr (.inl ((),()))) bA (λk h=>by
      have h':k<a.bI.length:=by simp at h;omega
      have WZ:k<a.bk.length:=by omega
      unfold IM ax bu xG xI;simp (disch:=omega) [h',WZ,bZ,fP,yB];cases aM a.bI[k] 0 100000<;>cases aM a.bk[k] 0 100000<;>rfl) (by unfold IM ax bu xG xI;simp[hl]) (cP (by simp;omega))
     rw[di]at l1 l2;simp only[e1,e2,e3,eV,au,decide_true,cM];rw[l1];cases h1:a.cells.all Dc with
     |false=>simp
     | true=>
      simp only[aq,Option.bind_some,Sum.elim_inr,iy];rw[l2];cases (a.bI.zip a.bk).all yB<;>simp
    ·simp[e1,e2,iZ e3,e3]
   ·have e4:¬ (a.bk.length:Int)=(a.bI.length:Int)\/True:=.inr trivial;simp[e1,iZ e2,e2]
  ·simp[iZ e1,e1]
def uc(g:aX)(a:aP):Nat:=(rP g a).toNat
theorem aw6{g:aX}{a:aP}(h:jX g a=true):rP g a=(uc g a:Int)/\(uc g a:Int)<jJ g:=by
 have:=WS h;unfold uc;omega
theorem lH.ah4{g:aX}{B:Int}{a:eZ}(ha:lH g B a)(k:Nat){c:bG}(hc:Sy c.symbols):lH g B ⟨a.cells.set k c,a.bI,a.bk⟩:=
 ⟨by simp[ha.cells],Sy.cB ha.syms hc,ha.bI,ha.bk,ha.ahc,ha.Lu⟩
def oh(R row:Int):af Int:=(bif decide (0<row)then [row-1]else [])++(bif decide (row<R-1)then [row+1]else [])
theorem Xz{R row:Int}(h1:2<=R)(h2:R<=16)(h3:0<=row)(h4:row<R):Ft R row=some (oh R row):=by
 unfold Ft oh;have c1:aM R 2 16=true:=by rw[de];omega
 have c2:aM row 0 (R-1)=true:=by rw[de];omega
 rw[fC,av,c1,aY (n:=R-1) (by omega) (by omega),fC,aY (n:=row-1) (by omega) (by omega),aY (n:=row+1) (by omega) (by omega)];by_cases p1:0<row<;>by_cases p2:row<R-1<;>simp[c2,p1,p2,bH]
theorem aw7{R row:Int}(h3:0<=row)(h4:row<R):∀ n∈oh R row,0<=n/\n<R:=by
 intro n hn;unfold oh at hn;by_cases p1:0<row<;>by_cases p2:row<R-1<;>simp[p1,p2]at hn<;>omega
theorem aw8(R row:Int):(oh R row).length<=2:=by
 unfold oh;by_cases p1:0<row<;>by_cases p2:row<R-1<;>simp[p1,p2]
theorem aw9{R row k:Int}{i:Nat}(hi:k+row=(i:Int))(h0:0<=k)(h3:0<=row)(H:af Int):(oh R row).foldl (λh n=>qB (k+n).toNat h) (H.set i 0)=wE R row i H:=by
 unfold oh wE AU;have e1:(k+(row-1)).toNat=i-1:=by omega
 have e2:(k+(row+1)).toNat=i+1:=by omega
 by_cases p1:0<row<;>by_cases p2:row<R-1<;>simp[p1,p2,e1,e2]
theorem ah5(k:Int):∀ (l:af Int) (H:af Int),(l.foldl (λh n=>qB (k+n).toNat h) H).length=H.length
 |[],H=>rfl
 |x::l,H=>by rw[List.foldl_cons,ah5 k l,Lx]
theorem ah6(k:Int):∀ (l:af Int) (H:af Int),(∀ x∈H,0<=x/\x<=100000)->∀ x∈l.foldl (λh n=>qB (k+n).toNat h) H,0<=x/\x<=100000
 |[],H,h=>h
 |x::l,H,h=>by rw[List.foldl_cons];exact ah6 k l _ (QN h)
theorem axa(y:Int):0<=bits .and .i64 y 15/\bits .and .i64 y 15<=15:=by
 have e:bits .and .i64 y 15=IntKind.wrap .i64 ((BitVec.ofInt 64 y &&& BitVec.ofInt 64 15).toNat:Int):=rfl;have h:(BitVec.ofInt 64 y &&& BitVec.ofInt 64 15).toNat<=15:=by
  rw[BitVec.toNat_and];exact Nat.le_trans Nat.and_le_right (by decide)
 rw[e,IntKind.wrap_i64];omega
theorem ah7{n:Int}(h1:0<=n)(h2:n<18446744073709551616):IntKind.u64.wrap n=n:=by
 have:IntKind.u64.wrap n=n % 18446744073709551616:=rfl;rw[this];omega
def r9(x:Int):Prop:=0<=x/\x<=1000000000
theorem i0:cI 0:=⟨by decide,by decide⟩
def lg(a:Nat):Nat:=(14688061253356765440 / 2 ^ (4*a)) % 16
def okB(s0 s1 s2 i:Nat):Bool:=!Nat.beq s0 0&&(Nat.beq (gm s0 (pw i)) s1&&Nat.beq (gm s1 (pw i)) s2)
def loc(s0 s1 s2:Nat):ak Nat:=(List.range 11).find? (okB s0 s1 s2)
def FM:ak Nat->Nat
 |some n=>n
 |none=>99
theorem axb:(kE λa=>Nat.beq a 0 ||P6 (Int.ofNat a)==some (Int.ofNat (lg a)))=true:=by kernel_rfl
theorem ah8:(kE λs0=>kE λs1=>kE λs2=>bif Nat.beq s0 0 || Nat.beq s1 0 then Nat.beq (FM (loc s0 s1 s2)) 99 else
  (λx=>!Nat.beq x 0&&Nat.beq (FM (loc s0 s1 s2)) (bif Nat.blt (lg x) 11&&Nat.beq (gm s1 x) s2 then lg x else 99)) (gm s1 (iv s0)))=true:=by kernel_rfl
theorem axc:((List.range 11).all λn=>E3 2 (Int.ofNat n)==some (Int.ofNat (pw n)))=true:=by kernel_rfl
theorem LI{n:Nat}(h:n<11):E3 2 (n:Int)=some (pw n:Int):=eq_of_beq (dQ.1 axc n (jY.2 h))
theorem axd:((List.range 11).all λi=>(List.range 3).all λj=>Nat.beq (gm (pw (i*j)) (pw i)) (pw (i*(j+1))))=true:=by kernel_rfl
theorem axe{i j:Nat}(hi:i<11)(hj:j<3):gm (pw (i*j)) (pw i)=pw (i*(j+1)):=cr (dQ.1 (dQ.1 axd i (jY.2 hi)) j (jY.2 hj))
def vk(w:af Nat)(i:Nat):af Int:=[(bX w 0 i:Int),(bX w 1 i:Int),(bX w 2 i:Int)]
def XA(w:af Nat)(i:Nat):Nat->af Int
 |0=>[(bX w 0 i:Int),(bX w 1 i:Int),(bX w 2 i:Int)]
 |1=>[(bX w 0 (i+1):Int),(bX w 1 i:Int),(bX w 2 i:Int)]
 |2=>[(bX w 0 (i+1):Int),(bX w 1 (i+1):Int),(bX w 2 i:Int)]
 |_=>[(bX w 0 (i+1):Int),(bX w 1 (i+1):Int),(bX w 2 (i+1):Int)]
theorem axf{w:af Nat}(hw:ek w)(hl:w.length=11){i:Nat}(hi:i<11):iter E7 bA ((bf w,(),(i:Int),(1:Int),(pw i:Int),(0:Int),()),(vk w i,()))=some (.inl ((bf w,(),(i:Int),()),(vk w (i+1),()))):=by
 have bW:i<(bf w).length:=by rw[gT];omega
 have hg:(bf w)[i]=((w.getD i 0:Nat):Int):=vc bW;have hwi:=hw.get i;have hx:∀ j,bits .xor .i64 ((bX w j i:Nat):Int) ((gm (w.getD i 0) (pw (i*j)):Nat):Int)=((bX w j (i+1):Nat):Int):=λj=>by
  rw[sR (sS w j i) (iw _ _)];rfl
 have m1:=λj=>Lq hwi (vb (i*j))
 have m2:∀ j,j<3->u7 ((pw (i*j):Nat):Int) ((pw i:Nat):Int)=some ((pw (i*(j+1)):Nat):Int):=λj hj=>by
  rw[Lq (vb (i*j)) (vb i),axe hi hj]
 generalize bf w=W at *
 generalize w.getD i 0=c at *
 have e:=gJ (step:=E7) 3 (λj=>((W,(),(i:Int),(pw (i*j):Int),(pw i:Int),(j:Int),()),(XA w i j,()))) (.inl ((W,(),(i:Int),()),(vk w (i+1),()))) bA (λj hj=>by
  have m1:=m1 j;have m2:=m2 j hj;have hx:=hx j;generalize pw (i*(j+1))=a at m2 ⊢;generalize pw (i*j)=d at m1 m2 hx ⊢;unfold E7 xC ax xG xI;rcases(by omega:j=0\/j=1\/j=2)with rfl|rfl|rfl<;>simp[XA,bW,hg,m1,m2,hx]<;>rfl) (by unfold E7 xC ax xG xI;simp[XA,vk]) (cP (by omega))
 have e0:pw (i*0)=1:=by rw[Nat.mul_zero];rfl
 rw[di,e0]at e;exact e
theorem axg{w:af Nat}(hw:ek w)(hl:w.length=11):OL (bf w)=some (vk w 11):=by
 have hs:=(Lv hw hl).ok;unfold OL bQ;rw[Lt _ _ (by rw[gT];omega),hs,av];have e:=gJ (step:=Jq) 11 (λi=>((bf w,(),(i:Int),()),(vk w i,()))) (.inl (((),()),(vk w 11,()))) bA (λi hi=>by
  have bW:i<w.length:=by omega
  unfold Jq ax xG bQ;simp (disch:=omega) [gT,bW,LI hi,axf hw hl hi,bZ]) (by unfold Jq ax xG bQ;simp[gT,hl]) (cP (by omega))
 rw[di]at e;have e2:(List.replicate (3:Int).toNat (0:Int))=vk w 0:=rfl;simp only[bS,au];rw[e2,e];rfl
def oY(w:af Nat):Bool:=Nat.beq (bX w 0 11) 0&&(Nat.beq (bX w 1 11) 0&&Nat.beq (bX w 2 11) 0)
def gU(w:af Nat):af Nat×Int×Int:=bif oY w then (w,0,-1)else match loc (bX w 0 11) (bX w 1 11) (bX w 2 11)with
 |some k=>(w.set k (w.getD k 0 ^^^ bX w 0 11),1,(k:Int))
 |none=>(w,2,-1)
theorem Dp(n m:Nat):((n:Int)==(m:Int))=Nat.beq n m:=by
 cases h:Nat.beq n m with
 |true=>obtain rfl:=cr h;simp
 | false=>
  have:n≠m:=by rintro rfl;simp at h
  simp;omega
theorem axh{s0 s1 s2:Nat}(h:loc s0 s1 s2=none):∀ i,i<11->okB s0 s1 s2 i=false:=by
 intro i hi;have:=List.find?_eq_none.1 h i (jY.2 hi)
 simpa using this
theorem Q4{s0 s1 s2 k:Nat}(h:loc s0 s1 s2=some k):k<11/\okB s0 s1 s2 k=true/\∀ i,i<k->okB s0 s1 s2 i=false:=by
 refine⟨jY.1 (List.mem_of_find?_eq_some h),List.find?_some h,λi hi=>?_⟩
 obtain⟨h1,l1,l2,h2,h3⟩:=List.find?_eq_some_iff_append.1 h;have hk:l1.length=k/\l1=List.range k:=by
  have e1:(List.range 11)[l1.length]?=some k:=by rw[h2];simp
  have bW:l1.length<11:=by have:=bJ List.length h2;simp at this;omega
  rw[List.getElem?_range bW]at e1;injection e1 with e1;refine⟨e1,?_⟩;have e2:(List.range 11).take l1.length=l1:=by rw[h2];simp
  rw[List.take_range,Nat.min_eq_left (by omega),e1]at e2;exact e2.symm
 have:=h3 i (by rw[hk.2];exact jY.2 hi)
 simpa using this
theorem axi{w:af Nat}(hw:ek w)(hl:w.length=11):OM (bf w)=some (bf (gU w).1,(gU w).2.1,(gU w).2.2):=by
 have hs:=(Lv hw hl).ok;have ho:bH w.length=true:=fl (by omega);have h0:∀n:Nat,((n:Int)==(0:Int))=Nat.beq n 0:=λn=>Dp n 0
 have iW:=sS w 0 11;have nY:=sS w 1 11;unfold OM E8 bR xI;rw[Lt _ _ (by rw[gT];omega),hs,av,axg hw hl];have e0:E8 (vk w 11)=some (oY w):=by
  unfold E8 oY xI;cases h1:Nat.beq (bX w 0 11) 0<;>cases h2:Nat.beq (bX w 1 11) 0<;>simp[vk,h0,h1,h2]
 have mw:∀i (h:i<(bf w).length),(bf w)[i]=((w.getD i 0:Nat):Int):=λi h=>vc h
 have sY:∀ k,(bf w).set k (bits .xor .i64 ((w.getD k 0:Nat):Int) ((bX w 0 11:Nat):Int))=bf (w.set k (w.getD k 0 ^^^ bX w 0 11)):=λk=>by
  rw[sR (hw.get k) iW,QM]
 have hlen:(bf w).length=11:=by rw[gT,hl]
 unfold E8 xI at e0;unfold gU oY at *
 simp only[bS,au,av];rw[e0,av,fl (by simp[hlen])];cases hz:(Nat.beq (bX w 0 11) 0&&(Nat.beq (bX w 1 11) 0&&Nat.beq (bX w 2 11) 0))with
 |true=>simp
 | false=>
  simp only[au,aq,List.nil_append];unfold vk;generalize hW:bf w=W at mw sY hlen ⊢;generalize hg0:bX w 0 11=s0 at *
  generalize Vt:bX w 1 11=s1 at *
  generalize vN:bX w 2 11=s2 at *
  have step:∀ i:Nat,i<11->CG (((),(),(i:Int),()),(W,[(s0:Int),(s1:Int),(s2:Int)],()))=some (bif okB s0 s1 s2 i then .inr (.inl (((),1,(i:Int),()),(bf (w.set i (w.getD i 0 ^^^ s0)),())))else .inl (((),(),((i+1:Nat):Int),()),(W,[(s0:Int),(s1:Int),(s2:Int)],()))):=by
   intro i hi;have bW:i<W.length:=by omega
   have c1:(i:Int)<11:=by omega
   have m1:=Lq iW (vb i);have m2:=Lq nY (vb i);have mw:=mw i bW;have sY:=sY i;generalize w.getD i 0=c at mw sY ⊢;generalize bf (w.set i (c ^^^ s0))=R at sY ⊢;unfold CG okB xC ax bu xG;have br:((s0:Int) != (0:Int)) = !Nat.beq s0 0:=by rw[bne,h0]
   cases q0:Nat.beq s0 0 with
   |true=>simp (disch:=omega) [c1,LI hi,br,q0,bZ]
   | false=>
    cases q1:Nat.beq (gm s0 (pw i)) s1 with
    |false=>simp (disch:=omega) [c1,LI hi,br,q0,m1,Dp,q1,bZ]
    | true=>
     cases q2:Nat.beq (gm s1 (pw i)) s2 with
     |false=>simp (disch:=omega) [c1,LI hi,br,q0,m1,m2,Dp,q1,q2,bZ]
     |true=>simp (disch:=omega) [c1,LI hi,br,q0,m1,m2,Dp,q1,q2,bW,mw,sY]
  cases kA:loc s0 s1 s2 with
  | none=>
   have hn:=axh kA;have e:=gJ (step:=CG) 11 (λi=>(((),(),(i:Int),()),(W,[(s0:Int),(s1:Int),(s2:Int)],()))) (.inr (.inl (((),()),(W,())))) bA (λi hi=>by rw[step i hi,hn i hi];rfl) (by unfold CG xC ax bu xG;simp) (cP (by omega));rw[di]at e;rw[e];simp only[Option.bind_some,Sum.elim_inr,iy];rw[hW]
  | some k=>
   obtain⟨hk,eH,Dq⟩:=Q4 kA;have e:=gJ (step:=CG) k (λi=>(((),(),(i:Int),()),(W,[(s0:Int),(s1:Int),(s2:Int)],()))) (.inl (((),1,(k:Int),()),(bf (w.set k (w.getD k 0 ^^^ s0)),()))) bA (λi hi=>by rw[step i (by omega),Dq i hi];rfl) (by rw[step k hk,eH];rfl) (cP (by omega));rw[di]at e;rw[e];rfl
theorem ah9{s0 s1 s2:Nat}(h0:s0<16)(h1:s1<16)(h2:s2<16)(h:s0=0\/s1=0):loc s0 s1 s2=none:=by
 have t:=iD (iD (iD ah8 h0) h1) h2;have hc:(Nat.beq s0 0 ||Nat.beq s1 0)=true:=by rcases h with rfl|rfl<;>simp
 dsimp only at t;rw[hc,aq]at t;have t:=cr t;cases hl:loc s0 s1 s2 with
 |none=>rfl
 | some k=>
  rw[hl]at t;have:=(Q4 hl).1;simp only[FM]at t;omega
theorem axj{s0 s1 s2:Nat}(h0:s0<16)(h1:s1<16)(h2:s2<16)(n0:s0≠0)(n1:s1≠0):gm s1 (iv s0)≠0/\loc s0 s1 s2=bif Nat.blt (lg (gm s1 (iv s0))) 11&&Nat.beq (gm s1 (gm s1 (iv s0))) s2 then some (lg (gm s1 (iv s0)))else none:=by
 have t:=iD (iD (iD ah8 h0) h1) h2;have c0:Nat.beq s0 0=false:=by cases h:Nat.beq s0 0 with|false=>rfl|true=>exact absurd (cr h) n0
 have c1:Nat.beq s1 0=false:=by cases h:Nat.beq s1 0 with|false=>rfl|true=>exact absurd (cr h) n1
 dsimp only at t;rw[c0,c1,Bool.or_false,au,bx]at t;obtain⟨t1,t2⟩:=t;have t2:=cr t2;refine⟨(by rintro e;rw[e]at t1;cases t1),?_⟩;cases hb:(Nat.blt (lg (gm s1 (iv s0))) 11&&Nat.beq (gm s1 (gm s1 (iv s0))) s2)with
 | true=>
  rw[hb,aq]at t2;rw[bx]at hb;have bW:lg (gm s1 (iv s0))<11:=cT hb.1;cases hl:loc s0 s1 s2 with
  |none=>rw[hl]at t2;simp only[FM]at t2;omega
  |some k=>rw[hl]at t2;simp only[FM]at t2;rw[t2];rfl
 | false=>
  rw[hb,au]at t2;cases hl:loc s0 s1 s2 with
  |none=>rfl
  | some k=>
   have:=(Q4 hl).1;rw[hl]at t2;simp only[FM]at t2;omega
theorem axk{a:Nat}(h:a<16)(h0:a≠0):CZ (a:Int)=some (iv a:Int):=by
 have t:=iD avC h;rw[fE]at t;rcases t with t|t
 ·exact absurd (cr t) h0
 ·exact eq_of_beq t
theorem axl{a:Nat}(h:a<16)(h0:a≠0):P6 (a:Int)=some (lg a:Int):=by
 have t:=iD axb h;rw[fE]at t;rcases t with t|t
 ·exact absurd (cr t) h0
 ·exact eq_of_beq t
theorem aia{w:af Nat}(hw:ek w)(hl:w.length=11):Kt (bf w)=some (bf (gU w).1,(gU w).2.1,(gU w).2.2):=by
 have ho:bH (([]:af Int).length+(bf w).length)=true:=fl (by simp[gT,hl]);have h0:∀n:Nat,((n:Int)==(0:Int))=Nat.beq n 0:=λn=>Dp n 0
 have iW:=sS w 0 11;have nY:=sS w 1 11;have ga:=sS w 2 11;have mw:∀i (h:i<(bf w).length),(bf w)[i]=((w.getD i 0:Nat):Int):=λi h=>vc h
 have sY:∀ k,(bf w).set k (bits .xor .i64 ((w.getD k 0:Nat):Int) ((bX w 0 11:Nat):Int))=bf (w.set k (w.getD k 0 ^^^ bX w 0 11)):=λk=>by
  rw[sR (hw.get k) iW,QM]
 have hlen:(bf w).length=11:=by rw[gT,hl]
 unfold Kt xC;rw[WV hw hl,av,avy hw hl,ho];have axm:ku [((bX w 0 11:Nat):Int),((bX w 1 11:Nat):Int),((bX w 2 11:Nat):Int)]=false:=rfl;rw[axm,au,aq,av];unfold gU oY;cases hz:(Nat.beq (bX w 0 11) 0&&(Nat.beq (bX w 1 11) 0&&Nat.beq (bX w 2 11) 0))with
 |true=>simp
 | false=>
  simp only[au,List.nil_append];generalize hW:bf w=W at mw sY hlen ⊢;generalize hg0:bX w 0 11=s0 at *
  generalize Vt:bX w 1 11=s1 at *
  generalize vN:bX w 2 11=s2 at *
  have br:∀n:Nat,((n:Int) != (0:Int)) = !Nat.beq n 0:=λn=>by rw[bne,h0]
  by_cases n0:s0=0
  ·rw[ah9 iW nY ga (.inl n0)];subst n0;simp[hW]
  ·have c0:Nat.beq s0 0=false:=by cases h:Nat.beq s0 0 with | false=>rfl | true=>exact absurd (cr h) n0
   by_cases n1:s1=0
   ·rw[ah9 iW nY ga (.inr n1)];subst n1;simp[br,c0,hW]
   ·have c1:Nat.beq s1 0=false:=by cases h:Nat.beq s1 0 with | false=>rfl | true=>exact absurd (cr h) n1
    obtain⟨nx,kA⟩:=axj iW nY ga n0 n1;have e1:=axk iW n0;have e2:=C9 nY (avB s0);rw[kA];generalize hx:gm s1 (iv s0)=x at *
    have aib:x<16:=by rw[<-hx];exact iw _ _
    have e3:=axl aib nx;have e4:=C9 nY aib;generalize hn:lg x=n at *
    by_cases q1:n<11
    ·have d1:Nat.blt n 11=true:=mJ q1;have d2:(n:Int)<11:=by omega
     have bW:n<W.length:=by omega
     have mw:=mw n bW;have sY:=sY n;cases q2:Nat.beq (gm s1 x) s2 with
     | true=>
      simp only[d1,cM,aq];generalize w.getD n 0=c at mw sY ⊢;generalize bf (w.set n (c ^^^ s0))=R at sY ⊢;simp[br,c0,c1,e1,e2,e3,e4,d2,Dp,q2,bW,mw,sY]
     | false=>
      simp only[d1,cM,au];simp[br,c0,c1,e1,e2,e3,e4,d2,Dp,q2,hW]
    ·have d1:Nat.blt n 11=false:=by
      cases h:Nat.blt n 11 with
      |false=>rfl
      |true=>exact absurd (cT h) (by omega)
     have d2:¬ (n:Int)<11:=by omega
     simp only[d1,Bool.false_and,au];simp[br,c0,c1,e1,e2,e3,d2,hW]
theorem Dr{w:af Nat}(hw:ek w)(hl:w.length=11):(gU w).1.length=11/\ek (gU w).1/\((gU w).2.1=0\/(gU w).2.1=1\/(gU w).2.1=2):=by
 have iW:=sS w 0 11;unfold gU;cases oY w with
 |true=>exact⟨hl,hw,.inl rfl⟩
 | false=>
  simp only[au];cases loc (bX w 0 11) (bX w 1 11) (bX w 2 11)with
  |none=>exact⟨hl,hw,.inr (.inr rfl)⟩
  |some k=>exact⟨by simp[hl],hw.set (nM (hw.get k) iW),.inr (.inl rfl)⟩
theorem axn:(kE λa=>(List.range 11).all λk=>Nat.beq (gm (gm a (pw k)) (pw k)) (gm a (pw (k*2))))=true:=by kernel_rfl
theorem axo{w:af Nat}(hw:ek w)(hl:w.length=11)(h:(gU w).2.1≠2):oY (gU w).1=true:=by
 unfold gU at h ⊢;cases hz:oY w with
 |true=>rw[aq];exact hz
 | false=>
  rw[hz,au]at h;simp only[au];cases kA:loc (bX w 0 11) (bX w 1 11) (bX w 2 11)with
  |none=>rw[kA]at h;exact absurd rfl h
  | some k=>
   obtain⟨hk,eH,_⟩:=Q4 kA;have iW:=sS w 0 11;simp only[okB,bx]at eH;have k1:=cr eH.2.1;have k2:=cr eH.2.2;have u:=λj=>ag5 hw hl iW hk j
   have p0:gm (bX w 0 11) (pw (k*0))=bX w 0 11:=by rw[Nat.mul_zero];exact avw iW
   have p2:gm (bX w 0 11) (pw (k*2))=bX w 2 11:=by
    rw[<-cr (dQ.1 (iD axn iW) k (jY.2 hk)),k1,k2]
   simp only[oY,bx];rw[u 0,u 1,u 2,p0,Nat.mul_one,k1,p2,Nat.xor_self,Nat.xor_self,Nat.xor_self];exact⟨rfl,rfl,rfl⟩
theorem axp{w:af Nat}(hw:ek w)(hl:w.length=11):P8 (bf w)=some (bf (w.drop 3)):=by
 unfold P8;have c0:((w.length:Int)==(11:Int))=true:=by rw[hl];rfl
 have fU:(bf w).length=11:=by rw[gT,hl]
 rw[WU hw (by omega),av,c0,show (!true)=false from rfl,au,fU,bB (by decide)];have e:((bf w).take ((11:Nat):Int).toNat).drop (3:Int).toNat=bf (w.drop 3):=by
  show ((bf w).take 11).drop 3=_;rw[List.take_of_length_le (by omega)];exact(List.map_drop ..).symm
 have c1:bH (([]:af Int).length+(bf (w.drop 3)).length)=true:=by
  rw[gT,List.length_drop,hl];rfl
 rw[e,c1,aq];rfl
def aic(x:aX):Prop:=cI x.cQ/\cI x.aI/\cI x.rows/\cI x.aL
theorem axq{H:Type}{dg:TypeId×Value->H}{w:World}:aT dg Tryz.prog w 23 .dM aic:=λn cs x hx=>by
 have hs:=Tryz.underlying23;obtain⟨a0,i0,r0⟩:=aT.part hs hx (i:=0) rfl oI (off:=0) (k:=1) rfl (by kernel_rfl);obtain⟨a1,i1,r1⟩:=aT.part hs hx (i:=1) rfl oI (off:=1) (k:=1) rfl (by kernel_rfl);obtain⟨a2,i2,r2⟩:=aT.part hs hx (i:=2) rfl oI (off:=2) (k:=1) rfl (by kernel_rfl);obtain⟨a3,i3,r3⟩:=aT.part hs hx (i:=3) rfl oI (off:=3) (k:=1) rfl (by kernel_rfl);have hl:=aT.len hs hx;have hc:Tryz.prog.cellsOf 23=4:=by kernel_rfl
 rw[hc]at hl;exact⟨⟨a0,a1,a2,a3⟩,⟨i0,i1,i2,i3⟩,bU.cut r0 (bU.cut r1 (bU.cut r2 (bU.cut r3 ((jK hl)))))⟩
def aid(x:dx):Prop:=cI x.jZ/\cI x.rp/\cI x.gC/\cI x.mM/\cI x.ke/\cI x.jy/\cI x.mN/\cI x.mO/\cI x.jO/\cI x.wr/\cI x.nQ/\cI x.nR/\cI x.pW/\cI x.nS/\cI x.om/\cI x.xp/\cI x.xs
theorem axr{H:Type}{dg:TypeId×Value->H}{w:World}:aT dg Tryz.prog w 25 .ic aid:=λn cs x hx=>by
 have hs:=Tryz.underlying25;obtain⟨a0,i0,r0⟩:=aT.part hs hx (i:=0) rfl oI (off:=0) (k:=1) rfl (by kernel_rfl);obtain⟨a1,i1,r1⟩:=aT.part hs hx (i:=1) rfl oI (off:=1) (k:=1) rfl (by kernel_rfl);obtain⟨a2,i2,r2⟩:=aT.part hs hx (i:=2) rfl oI (off:=2) (k:=1) rfl (by kernel_rfl);obtain⟨a3,i3,r3⟩:=aT.part hs hx (i:=3) rfl oI (off:=3) (k:=1) rfl (by kernel_rfl);obtain⟨a4,i4,r4⟩:=aT.part hs hx (i:=4) rfl oI (off:=4) (k:=1) rfl (by kernel_rfl);obtain⟨a5,i5,r5⟩:=aT.part hs hx (i:=5) rfl oI (off:=5) (k:=1) rfl (by kernel_rfl);obtain⟨a6,i6,r6⟩:=aT.part hs hx (i:=6) rfl oI (off:=6) (k:=1) rfl (by kernel_rfl);obtain⟨a7,i7,r7⟩:=aT.part hs hx (i:=7) rfl oI (off:=7) (k:=1) rfl (by kernel_rfl);obtain⟨a8,i8,r8⟩:=aT.part hs hx (i:=8) rfl oI (off:=8) (k:=1) rfl (by kernel_rfl);obtain⟨a9,i9,r9⟩:=aT.part hs hx (i:=9) rfl oI (off:=9) (k:=1) rfl (by kernel_rfl);obtain⟨o5,i10,vm⟩:=aT.part hs hx (i:=10) rfl oI (off:=10) (k:=1) rfl (by kernel_rfl);obtain⟨o6,i11,vn⟩:=aT.part hs hx (i:=11) rfl oI (off:=11) (k:=1) rfl (by kernel_rfl);obtain⟨o7,i12,vo⟩:=aT.part hs hx (i:=12) rfl oI (off:=12) (k:=1) rfl (by kernel_rfl);obtain⟨qN,i13,vp⟩:=aT.part hs hx (i:=13) rfl oI (off:=13) (k:=1) rfl (by kernel_rfl);obtain⟨qO,i14,vr⟩:=aT.part hs hx (i:=14) rfl oI (off:=14) (k:=1) rfl (by kernel_rfl);obtain⟨pZ,i15,vt⟩:=aT.part hs hx (i:=15) rfl oI (off:=15) (k:=1) rfl (by kernel_rfl);obtain⟨o8,i16,vu⟩:=aT.part hs hx (i:=16) rfl oI (off:=16) (k:=1) rfl (by kernel_rfl);have hl:=aT.len hs hx;have hc:Tryz.prog.cellsOf 25=17:=by kernel_rfl
 rw[hc]at hl;exact⟨⟨a0,a1,a2,a3,a4,a5,a6,a7,a8,a9,o5,o6,o7,qN,qO,pZ,o8⟩,⟨i0,i1,i2,i3,i4,i5,i6,i7,i8,i9,i10,i11,i12,i13,i14,i15,i16⟩,bU.cut r0 (bU.cut r1 (bU.cut r2 (bU.cut r3 (bU.cut r4 (bU.cut r5 (bU.cut r6 (bU.cut r7 (bU.cut r8 (bU.cut r9 (bU.cut vm (bU.cut vn (bU.cut vo (bU.cut vp (bU.cut vr (bU.cut vt (bU.cut vu ((jK hl))))))))))))))))))⟩
def aie(x:lu):Prop:=cI x.order/\True
theorem axt{H:Type}{dg:TypeId×Value->H}{w:World}:aT dg Tryz.prog w 27 .ot aie:=λn cs x hx=>by
 have hs:=Tryz.underlying27;obtain⟨a0,i0,r0⟩:=aT.part hs hx (i:=0) rfl oI (off:=0) (k:=1) rfl (by kernel_rfl);obtain⟨a1,i1,r1⟩:=aT.part hs hx (i:=1) rfl (aT.bool Tryz.underlying4) (off:=1) (k:=1) rfl (by kernel_rfl);have hl:=aT.len hs hx;have hc:Tryz.prog.cellsOf 27=2:=by kernel_rfl
 rw[hc]at hl;exact⟨⟨a0,a1⟩,⟨i0,i1⟩,bU.cut r0 (bU.cut r1 ((jK hl)))⟩
def aif(x:jz):Prop:=cI x.bI/\cI x.bk
theorem axu{H:Type}{dg:TypeId×Value->H}{w:World}:aT dg Tryz.prog w 29 .nT aif:=λn cs x hx=>by
 have hs:=Tryz.underlying29;obtain⟨a0,i0,r0⟩:=aT.part hs hx (i:=0) rfl oI (off:=0) (k:=1) rfl (by kernel_rfl);obtain⟨a1,i1,r1⟩:=aT.part hs hx (i:=1) rfl oI (off:=1) (k:=1) rfl (by kernel_rfl);have hl:=aT.len hs hx;have hc:Tryz.prog.cellsOf 29=2:=by kernel_rfl
 rw[hc]at hl;exact⟨⟨a0,a1⟩,⟨i0,i1⟩,bU.cut r0 (bU.cut r1 ((jK hl)))⟩
def aih(x:jr):Prop:=aic x.aJ/\aid x.cx/\aie x.mapping/\cI x.cF/\cI x.interval/\cI x.kI/\aif x.dZ
theorem axv{H:Type}{dg:TypeId×Value->H}{w:World}:aT dg Tryz.prog w 31 .Config aih:=λn cs x hx=>by
 have hs:=Tryz.underlying31;obtain⟨a0,i0,r0⟩:=aT.part hs hx (i:=0) rfl axq (off:=0) (k:=4) rfl (by kernel_rfl);obtain⟨a1,i1,r1⟩:=aT.part hs hx (i:=1) rfl axr (off:=4) (k:=17) rfl (by kernel_rfl);obtain⟨a2,i2,r2⟩:=aT.part hs hx (i:=2) rfl axt (off:=21) (k:=2) rfl (by kernel_rfl);obtain⟨a3,i3,r3⟩:=aT.part hs hx (i:=3) rfl oI (off:=23) (k:=1) rfl (by kernel_rfl);obtain⟨a4,i4,r4⟩:=aT.part hs hx (i:=4) rfl oI (off:=24) (k:=1) rfl (by kernel_rfl);obtain⟨a5,i5,r5⟩:=aT.part hs hx (i:=5) rfl oI (off:=25) (k:=1) rfl (by kernel_rfl);obtain⟨a6,i6,r6⟩:=aT.part hs hx (i:=6) rfl axu (off:=26) (k:=2) rfl (by kernel_rfl);have hl:=aT.len hs hx;have hc:Tryz.prog.cellsOf 31=28:=by kernel_rfl
 rw[hc]at hl;exact⟨⟨a0,a1,a2,a3,a4,a5,a6⟩,⟨i0,i1,i2,i3,i4,i5,i6⟩,bU.cut r0 (bU.cut r1 (bU.cut r2 (bU.cut r3 (bU.cut r4 (bU.cut r5 (bU.cut r6 ((jK hl))))))))⟩
def XB(x:kf):Prop:=Q3 x.cO/\Q3 x.next/\True
theorem axw{H:Type}{dg:TypeId×Value->H}{w:World}:aT dg Tryz.prog w 38 .nt XB:=λn cs x hx=>by
 have hs:=Tryz.underlying38;obtain⟨a0,i0,r0⟩:=aT.part hs hx (i:=0) rfl ahZ (off:=0) (k:=8) rfl (by kernel_rfl);obtain⟨a1,i1,r1⟩:=aT.part hs hx (i:=1) rfl ahZ (off:=8) (k:=8) rfl (by kernel_rfl);obtain⟨a2,i2,r2⟩:=aT.part hs hx (i:=2) rfl (aT.bool Tryz.underlying4) (off:=16) (k:=1) rfl (by kernel_rfl);have hl:=aT.len hs hx;have hc:Tryz.prog.cellsOf 38=17:=by kernel_rfl
 rw[hc]at hl;exact⟨⟨a0,a1,a2⟩,⟨i0,i1,i2⟩,bU.cut r0 (bU.cut r1 (bU.cut r2 ((jK hl))))⟩
def XC(x:c8):Prop:=True/\cI x.row
theorem axx{H:Type}{dg:TypeId×Value->H}{w:World}:aT dg Tryz.prog w 330 .fL XC:=λn cs x hx=>by
 have hs:=Tryz.underlying330;obtain⟨a0,i0,r0⟩:=aT.part hs hx (i:=0) rfl (aT.bool Tryz.underlying4) (off:=0) (k:=1) rfl (by kernel_rfl);obtain⟨a1,i1,r1⟩:=aT.part hs hx (i:=1) rfl oI (off:=1) (k:=1) rfl (by kernel_rfl);have hl:=aT.len hs hx;have hc:Tryz.prog.cellsOf 330=2:=by kernel_rfl
 rw[hc]at hl;exact⟨⟨a0,a1⟩,⟨i0,i1⟩,bU.cut r0 (bU.cut r1 ((jK hl)))⟩
def XD(x:dy):Prop:=(x.aI.length<=maxLen/\∀y∈x.aI,XC y)/\cI x.aN
theorem axy{H:Type}{dg:TypeId×Value->H}{w:World}:aT dg Tryz.prog w 41 .jc XD:=λn cs x hx=>by
 have hs:=Tryz.underlying41;obtain⟨a0,i0,r0⟩:=aT.part hs hx (i:=0) rfl (aT.sl Tryz.underlying39 (by kernel_rfl) axx) (off:=0) (k:=1) rfl (by kernel_rfl);obtain⟨a1,i1,r1⟩:=aT.part hs hx (i:=1) rfl oI (off:=1) (k:=1) rfl (by kernel_rfl);have hl:=aT.len hs hx;have hc:Tryz.prog.cellsOf 41=2:=by kernel_rfl
 rw[hc]at hl;exact⟨⟨a0,a1⟩,⟨i0,i1⟩,bU.cut r0 (bU.cut r1 ((jK hl)))⟩
def XE(x:dA):Prop:=(x.last.length<=maxLen/\∀y∈x.last,cI y)/\(x.aZ.length<=maxLen/\∀y∈x.aZ,cI y)
theorem axz{H:Type}{dg:TypeId×Value->H}{w:World}:aT dg Tryz.prog w 43 .jA XE:=λn cs x hx=>by
 have hs:=Tryz.underlying43;obtain⟨a0,i0,r0⟩:=aT.part hs hx (i:=0) rfl (aT.sl Tryz.underlying32 (by kernel_rfl) oI) (off:=0) (k:=1) rfl (by kernel_rfl);obtain⟨a1,i1,r1⟩:=aT.part hs hx (i:=1) rfl (aT.sl Tryz.underlying32 (by kernel_rfl) oI) (off:=1) (k:=1) rfl (by kernel_rfl);have hl:=aT.len hs hx;have hc:Tryz.prog.cellsOf 43=2:=by kernel_rfl
 rw[hc]at hl;exact⟨⟨a0,a1⟩,⟨i0,i1⟩,bU.cut r0 (bU.cut r1 ((jK hl)))⟩
def Q5(x:bG):Prop:=(x.symbols.length<=maxLen/\∀y∈x.symbols,cI y)/\True
theorem axA{H:Type}{dg:TypeId×Value->H}{w:World}:aT dg Tryz.prog w 289 .Cell Q5:=λn cs x hx=>by
 have hs:=Tryz.underlying289;obtain⟨a0,i0,r0⟩:=aT.part hs hx (i:=0) rfl (aT.sl Tryz.underlying32 (by kernel_rfl) oI) (off:=0) (k:=1) rfl (by kernel_rfl);obtain⟨a1,i1,r1⟩:=aT.part hs hx (i:=1) rfl (aT.bool Tryz.underlying4) (off:=1) (k:=1) rfl (by kernel_rfl);have hl:=aT.len hs hx;have hc:Tryz.prog.cellsOf 289=2:=by kernel_rfl
 rw[hc]at hl;exact⟨⟨a0,a1⟩,⟨i0,i1⟩,bU.cut r0 (bU.cut r1 ((jK hl)))⟩
def XF(x:eZ):Prop:=(x.cells.length<=maxLen/\∀y∈x.cells,Q5 y)/\(x.bI.length<=maxLen/\∀y∈x.bI,cI y)/\(x.bk.length<=maxLen/\∀y∈x.bk,cI y)
theorem axB{H:Type}{dg:TypeId×Value->H}{w:World}:aT dg Tryz.prog w 46 .Array XF:=λn cs x hx=>by
 have hs:=Tryz.underlying46;obtain⟨a0,i0,r0⟩:=aT.part hs hx (i:=0) rfl (aT.sl Tryz.underlying44 (by kernel_rfl) axA) (off:=0) (k:=1) rfl (by kernel_rfl);obtain⟨a1,i1,r1⟩:=aT.part hs hx (i:=1) rfl (aT.sl Tryz.underlying32 (by kernel_rfl) oI) (off:=1) (k:=1) rfl (by kernel_rfl);obtain⟨a2,i2,r2⟩:=aT.part hs hx (i:=2) rfl (aT.sl Tryz.underlying32 (by kernel_rfl) oI) (off:=2) (k:=1) rfl (by kernel_rfl);have hl:=aT.len hs hx;have hc:Tryz.prog.cellsOf 46=3:=by kernel_rfl
 rw[hc]at hl;exact⟨⟨a0,a1,a2⟩,⟨i0,i1,i2⟩,bU.cut r0 (bU.cut r1 (bU.cut r2 ((jK hl))))⟩
def XG(x:fe):Prop:=cI x.cF/\(x.map.length<=maxLen/\∀y∈x.map,cI y)
theorem axC{H:Type}{dg:TypeId×Value->H}{w:World}:aT dg Tryz.prog w 48 .kg XG:=λn cs x hx=>by
 have hs:=Tryz.underlying48;obtain⟨a0,i0,r0⟩:=aT.part hs hx (i:=0) rfl oI (off:=0) (k:=1) rfl (by kernel_rfl);obtain⟨a1,i1,r1⟩:=aT.part hs hx (i:=1) rfl (aT.sl Tryz.underlying32 (by kernel_rfl) oI) (off:=1) (k:=1) rfl (by kernel_rfl);have hl:=aT.len hs hx;have hc:Tryz.prog.cellsOf 48=2:=by kernel_rfl
 rw[hc]at hl;exact⟨⟨a0,a1⟩,⟨i0,i1⟩,bU.cut r0 (bU.cut r1 ((jK hl)))⟩
def XH(x:fI):Prop:=(x.cg.length<=maxLen/\∀y∈x.cg,cI y)/\cI x.wait/\True
theorem axD{H:Type}{dg:TypeId×Value->H}{w:World}:aT dg Tryz.prog w 50 .ki XH:=λn cs x hx=>by
 have hs:=Tryz.underlying50;obtain⟨a0,i0,r0⟩:=aT.part hs hx (i:=0) rfl (aT.sl Tryz.underlying32 (by kernel_rfl) oI) (off:=0) (k:=1) rfl (by kernel_rfl);obtain⟨a1,i1,r1⟩:=aT.part hs hx (i:=1) rfl oI (off:=1) (k:=1) rfl (by kernel_rfl);obtain⟨a2,i2,r2⟩:=aT.part hs hx (i:=2) rfl (aT.bool Tryz.underlying4) (off:=2) (k:=1) rfl (by kernel_rfl);have hl:=aT.len hs hx;have hc:Tryz.prog.cellsOf 50=3:=by kernel_rfl
 rw[hc]at hl;exact⟨⟨a0,a1,a2⟩,⟨i0,i1,i2⟩,bU.cut r0 (bU.cut r1 (bU.cut r2 ((jK hl))))⟩
def Q6(x:bO):Prop:=(x.rows.length<=maxLen/\∀y∈x.rows,cI y)/\(x.counts.length<=maxLen/\∀y∈x.counts,cI y)/\cI x.cN
theorem axE{H:Type}{dg:TypeId×Value->H}{w:World}:aT dg Tryz.prog w 191 .eN Q6:=λn cs x hx=>by
 have hs:=Tryz.underlying191;obtain⟨a0,i0,r0⟩:=aT.part hs hx (i:=0) rfl (aT.sl Tryz.underlying32 (by kernel_rfl) oI) (off:=0) (k:=1) rfl (by kernel_rfl);obtain⟨a1,i1,r1⟩:=aT.part hs hx (i:=1) rfl (aT.sl Tryz.underlying32 (by kernel_rfl) oI) (off:=1) (k:=1) rfl (by kernel_rfl);obtain⟨a2,i2,r2⟩:=aT.part hs hx (i:=2) rfl oI (off:=2) (k:=1) rfl (by kernel_rfl);have hl:=aT.len hs hx;have hc:Tryz.prog.cellsOf 191=3:=by kernel_rfl
 rw[hc]at hl;exact⟨⟨a0,a1,a2⟩,⟨i0,i1,i2⟩,bU.cut r0 (bU.cut r1 (bU.cut r2 ((jK hl))))⟩
def XI(x:bC):Prop:=cI x.weight/\cI x.gN
theorem axF{H:Type}{dg:TypeId×Value->H}{w:World}:aT dg Tryz.prog w 242 .dK XI:=λn cs x hx=>by
 have hs:=Tryz.underlying242;obtain⟨a0,i0,r0⟩:=aT.part hs hx (i:=0) rfl oI (off:=0) (k:=1) rfl (by kernel_rfl);obtain⟨a1,i1,r1⟩:=aT.part hs hx (i:=1) rfl oI (off:=1) (k:=1) rfl (by kernel_rfl);have hl:=aT.len hs hx;have hc:Tryz.prog.cellsOf 242=2:=by kernel_rfl
 rw[hc]at hl;exact⟨⟨a0,a1⟩,⟨i0,i1⟩,bU.cut r0 (bU.cut r1 ((jK hl)))⟩
def aii(x:mP):Prop:=True/\cI x.low/\cI x.high
theorem axG{H:Type}{dg:TypeId×Value->H}{w:World}:aT dg Tryz.prog w 56 .pX aii:=λn cs x hx=>by
 have hs:=Tryz.underlying56;obtain⟨a0,i0,r0⟩:=aT.part hs hx (i:=0) rfl (aT.bool Tryz.underlying4) (off:=0) (k:=1) rfl (by kernel_rfl);obtain⟨a1,i1,r1⟩:=aT.part hs hx (i:=1) rfl oI (off:=1) (k:=1) rfl (by kernel_rfl);obtain⟨a2,i2,r2⟩:=aT.part hs hx (i:=2) rfl oI (off:=2) (k:=1) rfl (by kernel_rfl);have hl:=aT.len hs hx;have hc:Tryz.prog.cellsOf 56=3:=by kernel_rfl
 rw[hc]at hl;exact⟨⟨a0,a1,a2⟩,⟨i0,i1,i2⟩,bU.cut r0 (bU.cut r1 (bU.cut r2 ((jK hl))))⟩
def aij(x:gO):Prop:=cI x.state/\cI x.since/\cI x.idle
theorem axH{H:Type}{dg:TypeId×Value->H}{w:World}:aT dg Tryz.prog w 58 .Power aij:=λn cs x hx=>by
 have hs:=Tryz.underlying58;obtain⟨a0,i0,r0⟩:=aT.part hs hx (i:=0) rfl oI (off:=0) (k:=1) rfl (by kernel_rfl);obtain⟨a1,i1,r1⟩:=aT.part hs hx (i:=1) rfl oI (off:=1) (k:=1) rfl (by kernel_rfl);obtain⟨a2,i2,r2⟩:=aT.part hs hx (i:=2) rfl oI (off:=2) (k:=1) rfl (by kernel_rfl);have hl:=aT.len hs hx;have hc:Tryz.prog.cellsOf 58=3:=by kernel_rfl
 rw[hc]at hl;exact⟨⟨a0,a1,a2⟩,⟨i0,i1,i2⟩,bU.cut r0 (bU.cut r1 (bU.cut r2 ((jK hl))))⟩
def aik(x:s8):Prop:=cI x.next/\cI x.every/\cI x.wait
theorem axI{H:Type}{dg:TypeId×Value->H}{w:World}:aT dg Tryz.prog w 60 .rX aik:=λn cs x hx=>by
 have hs:=Tryz.underlying60;obtain⟨a0,i0,r0⟩:=aT.part hs hx (i:=0) rfl oI (off:=0) (k:=1) rfl (by kernel_rfl);obtain⟨a1,i1,r1⟩:=aT.part hs hx (i:=1) rfl oI (off:=1) (k:=1) rfl (by kernel_rfl);obtain⟨a2,i2,r2⟩:=aT.part hs hx (i:=2) rfl oI (off:=2) (k:=1) rfl (by kernel_rfl);have hl:=aT.len hs hx;have hc:Tryz.prog.cellsOf 60=3:=by kernel_rfl
 rw[hc]at hl;exact⟨⟨a0,a1,a2⟩,⟨i0,i1,i2⟩,bU.cut r0 (bU.cut r1 (bU.cut r2 ((jK hl))))⟩
def XJ(x:bw):Prop:=cI x.line/\cI x.code/\cI x.times
theorem axJ{H:Type}{dg:TypeId×Value->H}{w:World}:aT dg Tryz.prog w 246 .dB XJ:=λn cs x hx=>by
 have hs:=Tryz.underlying246;obtain⟨a0,i0,r0⟩:=aT.part hs hx (i:=0) rfl oI (off:=0) (k:=1) rfl (by kernel_rfl);obtain⟨a1,i1,r1⟩:=aT.part hs hx (i:=1) rfl oI (off:=1) (k:=1) rfl (by kernel_rfl);obtain⟨a2,i2,r2⟩:=aT.part hs hx (i:=2) rfl oI (off:=2) (k:=1) rfl (by kernel_rfl);have hl:=aT.len hs hx;have hc:Tryz.prog.cellsOf 246=3:=by kernel_rfl
 rw[hc]at hl;exact⟨⟨a0,a1,a2⟩,⟨i0,i1,i2⟩,bU.cut r0 (bU.cut r1 (bU.cut r2 ((jK hl))))⟩
def Q7(x:bV):Prop:=cI x.kind/\cI x.ay/\cI x.row/\cI x.bL
theorem ail{H:Type}{dg:TypeId×Value->H}{w:World}:aT dg Tryz.prog w 67 .Command Q7:=λn cs x hx=>by
 have hs:=Tryz.underlying67;obtain⟨a0,i0,r0⟩:=aT.part hs hx (i:=0) rfl oI (off:=0) (k:=1) rfl (by kernel_rfl);obtain⟨a1,i1,r1⟩:=aT.part hs hx (i:=1) rfl oI (off:=1) (k:=1) rfl (by kernel_rfl);obtain⟨a2,i2,r2⟩:=aT.part hs hx (i:=2) rfl oI (off:=2) (k:=1) rfl (by kernel_rfl);obtain⟨a3,i3,r3⟩:=aT.part hs hx (i:=3) rfl oI (off:=3) (k:=1) rfl (by kernel_rfl);have hl:=aT.len hs hx;have hc:Tryz.prog.cellsOf 67=4:=by kernel_rfl
 rw[hc]at hl;exact⟨⟨a0,a1,a2,a3⟩,⟨i0,i1,i2,i3⟩,bU.cut r0 (bU.cut r1 (bU.cut r2 (bU.cut r3 ((jK hl)))))⟩
def XK(x:cw):Prop:=cI x.at_/\Q7 x.cmd
theorem axK{H:Type}{dg:TypeId×Value->H}{w:World}:aT dg Tryz.prog w 249 .Event XK:=λn cs x hx=>by
 have hs:=Tryz.underlying249;obtain⟨a0,i0,r0⟩:=aT.part hs hx (i:=0) rfl oI (off:=0) (k:=1) rfl (by kernel_rfl);obtain⟨a1,i1,r1⟩:=aT.part hs hx (i:=1) rfl ail (off:=1) (k:=4) rfl (by kernel_rfl);have hl:=aT.len hs hx;have hc:Tryz.prog.cellsOf 249=5:=by kernel_rfl
 rw[hc]at hl;exact⟨⟨a0,a1⟩,⟨i0,i1⟩,bU.cut r0 (bU.cut r1 ((jK hl)))⟩
def XL(x:cD):Prop:=cI x.id/\cI x.at_/\cI x.data/\cI x.code
theorem axL{H:Type}{dg:TypeId×Value->H}{w:World}:aT dg Tryz.prog w 253 .gD XL:=λn cs x hx=>by
 have hs:=Tryz.underlying253;obtain⟨a0,i0,r0⟩:=aT.part hs hx (i:=0) rfl oI (off:=0) (k:=1) rfl (by kernel_rfl);obtain⟨a1,i1,r1⟩:=aT.part hs hx (i:=1) rfl oI (off:=1) (k:=1) rfl (by kernel_rfl);obtain⟨a2,i2,r2⟩:=aT.part hs hx (i:=2) rfl oI (off:=2) (k:=1) rfl (by kernel_rfl);obtain⟨a3,i3,r3⟩:=aT.part hs hx (i:=3) rfl oI (off:=3) (k:=1) rfl (by kernel_rfl);have hl:=aT.len hs hx;have hc:Tryz.prog.cellsOf 253=4:=by kernel_rfl
 rw[hc]at hl;exact⟨⟨a0,a1,a2,a3⟩,⟨i0,i1,i2,i3⟩,bU.cut r0 (bU.cut r1 (bU.cut r2 (bU.cut r3 ((jK hl)))))⟩
def LJ(x:aF):Prop:=aih x.config/\XB x.box/\cI x.now/\XD x.bK/\XE x.ready/\XF x.array/\XG x.spare/\XH x.bT/\(x.aW.length<=maxLen/\∀y∈x.aW,Q6 y)/\(x.guard.length<=maxLen/\∀y∈x.guard,cI y)/\(x.pending.length<=maxLen/\∀y∈x.pending,Xx y)/\(x.queue.length<=maxLen/\∀y∈x.queue,Xw y)/\(x.shares.length<=maxLen/\∀y∈x.shares,XI y)/\aii x.drain/\aij x.aN/\aik x.cC/\(x.errors.length<=maxLen/\∀y∈x.errors,XJ y)/\(x.trace.length<=maxLen/\∀y∈x.trace,XK y)/\(x.bY.length<=maxLen/\∀y∈x.bY,XL y)
theorem axM{H:Type}{dg:TypeId×Value->H}{w:World}:aT dg Tryz.prog w 65 .cK LJ:=λn cs x hx=>by
 have hs:=Tryz.underlying65;obtain⟨a0,i0,r0⟩:=aT.part hs hx (i:=0) rfl axv (off:=0) (k:=28) rfl (by kernel_rfl);obtain⟨a1,i1,r1⟩:=aT.part hs hx (i:=1) rfl axw (off:=28) (k:=17) rfl (by kernel_rfl);obtain⟨a2,i2,r2⟩:=aT.part hs hx (i:=2) rfl oI (off:=45) (k:=1) rfl (by kernel_rfl);obtain⟨a3,i3,r3⟩:=aT.part hs hx (i:=3) rfl axy (off:=46) (k:=2) rfl (by kernel_rfl);obtain⟨a4,i4,r4⟩:=aT.part hs hx (i:=4) rfl axz (off:=48) (k:=2) rfl (by kernel_rfl);obtain⟨a5,i5,r5⟩:=aT.part hs hx (i:=5) rfl axB (off:=50) (k:=3) rfl (by kernel_rfl);obtain⟨a6,i6,r6⟩:=aT.part hs hx (i:=6) rfl axC (off:=53) (k:=2) rfl (by kernel_rfl);obtain⟨a7,i7,r7⟩:=aT.part hs hx (i:=7) rfl axD (off:=55) (k:=3) rfl (by kernel_rfl);obtain⟨a8,i8,r8⟩:=aT.part hs hx (i:=8) rfl (aT.sl Tryz.underlying51 (by kernel_rfl) axE) (off:=58) (k:=1) rfl (by kernel_rfl);obtain⟨a9,i9,r9⟩:=aT.part hs hx (i:=9) rfl (aT.sl Tryz.underlying32 (by kernel_rfl) oI) (off:=59) (k:=1) rfl (by kernel_rfl);obtain⟨o5,i10,vm⟩:=aT.part hs hx (i:=10) rfl (aT.sl Tryz.underlying52 (by kernel_rfl) awX) (off:=60) (k:=1) rfl (by kernel_rfl);obtain⟨o6,i11,vn⟩:=aT.part hs hx (i:=11) rfl (aT.sl Tryz.underlying53 (by kernel_rfl) awW) (off:=61) (k:=1) rfl (by kernel_rfl);obtain⟨o7,i12,vo⟩:=aT.part hs hx (i:=12) rfl (aT.sl Tryz.underlying54 (by kernel_rfl) axF) (off:=62) (k:=1) rfl (by kernel_rfl);obtain⟨qN,i13,vp⟩:=aT.part hs hx (i:=13) rfl axG (off:=63) (k:=3) rfl (by kernel_rfl);obtain⟨qO,i14,vr⟩:=aT.part hs hx (i:=14) rfl axH (off:=66) (k:=3) rfl (by kernel_rfl);obtain⟨pZ,i15,vt⟩:=aT.part hs hx (i:=15) rfl axI (off:=69) (k:=3) rfl (by kernel_rfl);obtain⟨o8,i16,vu⟩:=aT.part hs hx (i:=16) rfl (aT.sl Tryz.underlying61 (by kernel_rfl) axJ) (off:=72) (k:=1) rfl (by kernel_rfl);obtain⟨vJ,i17,wL⟩:=aT.part hs hx (i:=17) rfl (aT.sl Tryz.underlying62 (by kernel_rfl) axK) (off:=73) (k:=1) rfl (by kernel_rfl);obtain⟨wX,i18,r18⟩:=aT.part hs hx (i:=18) rfl (aT.sl Tryz.underlying63 (by kernel_rfl) axL) (off:=74) (k:=1) rfl (by kernel_rfl);have hl:=aT.len hs hx;have hc:Tryz.prog.cellsOf 65=75:=by kernel_rfl
 rw[hc]at hl;exact⟨⟨a0,a1,a2,a3,a4,a5,a6,a7,a8,a9,o5,o6,o7,qN,qO,pZ,o8,vJ,wX⟩,⟨i0,i1,i2,i3,i4,i5,i6,i7,i8,i9,i10,i11,i12,i13,i14,i15,i16,i17,i18⟩,bU.cut r0 (bU.cut r1 (bU.cut r2 (bU.cut r3 (bU.cut r4 (bU.cut r5 (bU.cut r6 (bU.cut r7 (bU.cut r8 (bU.cut r9 (bU.cut vm (bU.cut vn (bU.cut vo (bU.cut vp (bU.cut vr (bU.cut vt (bU.cut vu (bU.cut wL (bU.cut r18 ((jK hl))))))))))))))))))))⟩
def FN(x:kf):Prop:=Dn x.cO/\Dn x.next
def LK(x:dy):Prop:=(x.aI.length<=1048576)
def Q8(x:dA):Prop:=(x.last.length<=1048576)/\(x.aZ.length<=1048576)
def vw(x:bG):Prop:=(x.symbols.length<=1048576)
def Ds(x:eZ):Prop:=(x.cells.length<=1048576/\∀y∈x.cells,vw y)/\(x.bI.length<=1048576)/\(x.bk.length<=1048576)
def Q9(x:fe):Prop:=(x.map.length<=1048576)
def yK(x:fI):Prop:=(x.cg.length<=1048576)
def jm(x:bO):Prop:=(x.rows.length<=1048576)/\(x.counts.length<=1048576)
def iE(x:aF):Prop:=FN x.box/\LK x.bK/\Q8 x.ready/\Ds x.array/\Q9 x.spare/\yK x.bT/\(x.aW.length<=1048576/\∀y∈x.aW,jm y)/\(x.guard.length<=1048576)/\(x.pending.length<=1048576)/\(x.queue.length<=1048576)/\(x.shares.length<=1048576)/\(x.errors.length<=1048576)/\(x.trace.length<=1048576)/\(x.bY.length<=1048576)
end Go.Proofs.YtecofnkoloihpaaGreat
