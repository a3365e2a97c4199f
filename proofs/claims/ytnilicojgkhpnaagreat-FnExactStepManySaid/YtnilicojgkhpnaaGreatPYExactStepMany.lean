/-
  Plain laws. Nothing here is a claim.
-/
import Derived.Test.YtnilicojgkhpnaaGreatVZ
import Derived.Test.YtnilicojgkhpnaaGreatOpenV
import Derived.Test.YtnilicojgkhpnaaGreatG1
import Derived.Test.YtnilicojgkhpnaaGreatG2
import Derived.Test.YtnilicojgkhpnaaGreatG3
import Derived.Test.YtnilicojgkhpnaaGreatG4
import Derived.Test.YtnilicojgkhpnaaGreatG5
import Derived.Test.YtnilicojgkhpnaaGreatG6
import Derived.Test.YtnilicojgkhpnaaGreatG7
import Derived.Test.YtnilicojgkhpnaaGreatG8
import Derived.Test.YtnilicojgkhpnaaGreatG9
import Derived.Test.YtnilicojgkhpnaaGreatG10
import Derived.Test.YtnilicojgkhpnaaGreatG11
import Derived.Test.YtnilicojgkhpnaaGreatGX
namespace Go.Proofs.YtnilicojgkhpnaaGreat
set_option linter.defProp false
open Go.RowKit
set_option linter.unusedVariables false
set_option linter.unusedSimpArgs false
set_option maxRecDepth 100000
def aO{n:Int}(C:-9223372036854775808<=n:=by omega)(D:n<9223372036854775808:=by omega):W6 n=n:=by
 exact(IntKind.wrap_i64 n).trans (by omega)
def Y9{α β:Type}{step:α -> ah (α⊕β)}(I:α -> Prop)(m:α -> Nat)(Q:β -> Prop)
  (h:∀x,I x -> (∃y,step x=some (.inl y)/\I y/\m y<m x) \/ ∃z,step x=some (.inr z)/\Q z):
  ∀(n:Nat) (x:α),I x -> m x<n -> ∃z,iter step n x=some z/\Q z
 |0,x,_,E=>by omega
 | n+1,x,L,E=>by
  unfold iter;rcases h x L with ⟨y,C,D,O⟩|⟨z,C,D⟩
  ·rw[C];exact Y9 I m Q h n y D (by omega)
  ·simp_all
def ak{α β:Type}(x:α)(f:α->ah β):(some x).bind f=f x:=rfl
def fT{α β T:Type}{step:α -> ah (α⊕β)}(l:aa T)(q:T -> Bool)(S:Nat -> α)(D z:β)(fuel:Nat)(L:∀ k (h:k<l.length),step (S k)=some (bif q l[k]then .inl (S (k+1))else .inr D))(O:step (S l.length)=some (.inr z))(C:l.length<fuel):
  iter step fuel (S 0)=some (bif l.all q then z else D):=by
 have key:∀ (n i fuel:Nat),i+n=l.length -> n<fuel -> iter step fuel (S i)=some (bif (l.drop i).all q then z else D):=by
  intro n
  induction n with
  | zero=>
   intro i fuel hi C
   match fuel,C with
   | f+1,_=>
    have:i=l.length:=by omega
    subst this;unfold iter;simp_all
  | succ n U=>
   intro i fuel hi C
   match fuel,C with
   | f+1,C=>
    have E:i<l.length:=by omega
    unfold iter;rw[L i E,List.drop_eq_getElem_cons E,List.all_cons];cases q l[i]with
    |true=>grind
    |false=>rfl
 exact key l.length 0 fuel (by omega) C
def cA{α β:Type}{step:α -> ah (α⊕β)}(n:Nat)(S:Nat -> α)(z:β)(fuel:Nat)(E:∀ k,k<n -> step (S k)=some (.inl (S (k+1))))(D:step (S n)=some (.inr z))(C:n<fuel):iter step fuel (S 0)=some z:=by
 have key:∀ (m i fuel),i+m=n -> m<fuel -> iter step fuel (S i)=some z:=by
  intro m
  induction m with
  | zero=>
   intro i fuel hi C
   match fuel,C with
   | f+1,_=>
    have:i=n:=by omega
    subst this;unfold iter;rw[D]
  | succ m L=>
   intro i fuel hi C
   match fuel,C with
   | f+1,C=>
    unfold iter
    grind
 simp_all
def aAq{α β:Type}{step:α -> ah (α⊕β)}(n:Nat)(I:Nat -> α -> Prop)(Q:β -> Prop){x:α}(fuel:Nat)(E:I 0 x)(O:∀ k,k<n -> ∀ x,I k x -> (∃ y,step x=some (.inl y)/\I (k+1) y) \/ ∃ z,step x=some (.inr z)/\Q z)(L:∀ x,I n x -> ∃ z,step x=some (.inr z)/\Q z)(C:n<fuel):∃ z,iter step fuel x=some z/\Q z:=by
 have key:∀ (m i fuel:Nat) (x:α),i+m=n -> m<fuel -> I i x -> ∃ z,iter step fuel x=some z/\Q z:=by
  intro m
  induction m with
  | zero=>
   intro i fuel x hi C D
   match fuel,C with
   | f+1,_=>
    have:i=n:=by omega
    subst this;have⟨z,T,U⟩:=L x D;unfold iter;simp_all
  | succ m Y=>
   intro i fuel x hi C D
   match fuel,C with
   | f+1,C=>
    unfold iter
    grind
 exact key n 0 fuel x (by omega) C E
def upto{α:Type}(f:α->α)(l:aa α)(i:Nat):aa α:=(l.take i).map f++l.drop i
def AD{α:Type}(f:α->α)(l:aa α)(i:Nat):(upto f l i).length=l.length:=by
 simp[upto];omega
def SH{α:Type}(f:α->α)(l:aa α):upto f l 0=l:=by simp[upto]
def F5{α:Type}(f:α->α)(l:aa α):upto f l l.length=l.map f:=by simp[upto]
def F6{α:Type}(f:α -> α)(l:aa α)(i:Nat)(h:i<l.length)(C:i<(upto f l i).length):(upto f l i)[i]=l[i]:=by
 simp[upto]
 grind
def F7{α:Type}(f:α -> α)(l:aa α)(i:Nat)(h:i<l.length):(upto f l i).set i (f l[i])=upto f l (i+1):=by
 have C:min i l.length=i:=by omega
 have e:=List.drop_eq_getElem_cons h;simp only[upto];rw[List.set_append_right _ _ (by simp;omega),e,List.take_succ_eq_append_getElem h];simp only[List.map_append,List.map_cons,List.map_nil,eI,fJ,C,Nat.sub_self,List.set_cons_zero,List.append_assoc,List.cons_append,List.nil_append]
def kU{x y:Int}(h:¬ x=y):(x==y)=false:=by simp[h]
def fO{x y:Int}(h:¬ x=y):(x != y)=true:=by simp[h]
def di{n:Nat}(h:n<1073741824:=by omega):bP n=true:=aW h
def bB{i:Nat}(h:i<4611686018427387904:=by omega):W6 ((i:Int)+1)=((i+1:Nat):Int):=by
 rw[aO];simp
def bO{n:Nat}(h:n<1073741824:=by omega):n<aR:=by unfold aR;omega
def aL(x a b:Int):Bool:=decide (a<=x)&&decide (x<=b)
def bJ{x a b:Int}:aL x a b=true ↔ a<=x/\x<=b:=by simp[aL]
def dB(x a b:Int):cz x a b=some (aL x a b):=by
 unfold cz aL;by_cases h:a<=x<;>simp[h]
def eA(x a b:Int):cG x a b=some (aL x a b):=dB x a b
def cI(g:aV):Bool:=aL g.cH 1 2&&aL g.aB 1 4&&aL g.rows 2 16&&aL g.aT 1 8
def yd(g:aV):sx g=some (cI g):=by
 unfold sx cI;simp[dB]
 grind
def F8(g:aV):xS g=some (cI g):=by
 unfold xS cI;simp[eA]
 grind
def fF{g:aV}(h:cI g=true):1<=g.cH/\g.cH<=2/\1<=g.aB/\g.aB<=4/\2<=g.rows/\g.rows<=16/\1<=g.aT/\g.aT<=8:=by
 simp only[cI,aL,aN,iU]at h;omega
def bf(g:aV):Int:=bif cI g then g.cH*g.aB else 0
def fG(g:aV):0 <= bf g/\bf g <= 8:=by
 unfold bf;cases h:cI g with
 |false=>simp
 | true=>
  have⟨C,D,E,L,_⟩:=fF h;simp;rcases(by omega:g.cH=1 \/ g.cH=2)with e|e<;>rw[e]<;>omega
def akg{g:aV}(h:cI g=true):1 <= bf g:=by
 have⟨C,D,E,L,_⟩:=fF h;simp[bf,h,au];rcases(by omega:g.cH=1 \/ g.cH=2)with e|e<;>rw[e]<;>omega
def n9(g:aV):n8 g=some (bf g):=by
 have C:=fG g;unfold n8;rw[yd,ak];unfold bf at C ⊢;cases h:cI g with
 |false=>rfl
 | true=>
  rw[h]at C;simp at C;simp;rw[aO]
def sA(g:aV):qb g=some (bf g):=by
 have C:=fG g;unfold qb;rw[F8,ak];unfold bf at C ⊢;cases h:cI g with
 |false=>rfl
 | true=>
  rw[h]at C;simp at C;simp;rw[aO]
def gu(g:aV):Int:=bif cI g then bf g*g.rows else 0
def fH(g:aV):Int:=bif cI g then bf g*g.rows*g.aT else 0
def SI{a b A B:Int}(D:0<=a)(E:a<=A)(C:0<=b)(L:b<=B):0<=a*b/\a*b<=A*B:=
 ⟨Int.mul_nonneg D C,Int.le_trans (Int.mul_le_mul_of_nonneg_right E C) (Int.mul_le_mul_of_nonneg_left L (by omega))⟩
def qe(g:aV):0 <= gu g/\gu g <= 128:=by
 unfold gu;cases h:cI g with
 |false=>simp
 | true=>
  have⟨_,_,_,_,D,C,_⟩:=fF h;have:=fG g;exact SI this.1 this.2 (by omega) C
def oa(g:aV):0 <= fH g/\fH g <= 1024:=by
 have C:=qe g;unfold fH gu at *
 cases h:cI g with
 |false=>simp
 | true=>
  rw[h]at C;have⟨_,_,_,_,E,L,O,D⟩:=fF h;exact SI C.1 C.2 (by omega) D
def Mk(g:aV):vO g=some (fH g):=by
 have C:=oa g;have D:=qe g;unfold vO;rw[n9,ak];unfold fH gu at *
 cases h:cI g with
 |false=>simp only[bf,h,aq,Int.zero_mul];rw[show W6 0=0 from rfl,Int.zero_mul];rfl
 | true=>
  rw[h]at C D;simp only[au]at C D;simp only[au];rw[aO (n:=bf g*g.rows),aO]
def Ml(g:aV):tQ g=some (fH g):=by
 have C:=oa g;have D:=qe g;unfold tQ;rw[F8,ak,sA,ak];unfold fH gu at *
 cases h:cI g with
 |false=>rfl
 | true=>
  rw[h]at C D;simp at C D;simp;rw[aO (n:=bf g*g.rows),aO]
def fj(g:aV)(a:aI):Bool:=cI g&&aL a.ay 0 (bf g-1)&&aL a.row 0 (g.rows-1)&&aL a.bR 0 (g.aT-1)
def sB{g:aV}{a:aI}(h:fj g a=true):cI g=true/\0 <= a.ay/\a.ay<bf g/\0 <= a.row/\a.row<g.rows/\0 <= a.bR/\a.bR<g.aT:=by
 simp[fj,aL,aN,iU]at h
 grind
def De{g:aV}{a:aI}(h:cI g=true)(C:0 <= a.ay)(D:a.ay<bf g)(E:0 <= a.row)(L:a.row<g.rows)(O:0 <= a.bR)(T:a.bR<g.aT):fj g a=true:=by
 simp[fj,aL,aN,iU]
 grind
def Za(g:aV)(a:aI):CY g a=some (fj g a):=by
 unfold CY fj;simp[yd,n9,dB,ak];have C:=fG g;cases h:cI g with
 |false=>rfl
 | true=>
  have⟨_,_,_,_,D,E,L,O⟩:=fF h;rw[aO,aO,aO]
  grind
def Zb(g:aV)(a:aI):CC g a=some (fj g a):=by
 unfold CC fj;simp only[sA,eA,ak];have C:=fG g;rw[aO];cases h:cI g with
 | false=>
  have:aL a.ay 0 (bf g-1)=false:=by
   simp[bf,h,aL]
   grind
  simp_all
 | true=>
  have⟨_,_,_,_,D,E,L,O⟩:=fF h;rw[aO,aO]
  grind
def vT{b n r R:Int}(C:0 <= b)(D:b<n)(E:0 <= r)(L:r<R):0 <= b*R/\0 <= b*R+r/\b*R+r<n*R:=by
 have O:0 <= b*R:=Int.mul_nonneg C (by omega);have T:(b+1)*R <= n*R:=Int.mul_le_mul_of_nonneg_right (by omega) (by omega)
 grind
def qf(g:aV)(a:aI):Int:=bif fj g a then (a.ay*g.rows+a.row)*g.aT+a.bR else -1
def Zc{g:aV}{a:aI}(h:fj g a=true):0 <= qf g a/\qf g a<fH g/\0 <= a.ay*g.rows/\0 <= a.ay*g.rows+a.row/\a.ay*g.rows+a.row<gu g/\0 <= (a.ay*g.rows+a.row)*g.aT:=by
 have⟨C,D,E,L,O,T,U⟩:=sB h;have⟨r0,Y,Z⟩:=vT D E L O;have⟨l0,l1,l2⟩:=vT Y Z T U;simp[qf,h,fH,gu,C,au];omega
def Zd(g:aV)(a:aI):L6 g a=some (qf g a):=by
 unfold L6;rw[Za,ak];cases h:fj g a with
 |false=>simp[qf,h]
 | true=>
  have C:=Zc h;have E:=oa g;have L:=qe g;have⟨D,O,T,U,Y,Z,b6⟩:=sB h;have⟨_,_,_,_,g5,g6,g7,g8⟩:=fF D;simp only[qf,h,au]at C ⊢;simp only[bC,aq];rw[aO (n:=a.ay*g.rows),aO (n:=a.ay*g.rows+a.row),aO (n:=(a.ay*g.rows+a.row)*g.aT),aO]
def aAr(g:aV)(a:aI):Rp g a=some (qf g a):=by
 unfold Rp;rw[Zb,ak];cases h:fj g a with
 |false=>simp[qf,h]
 | true=>
  have C:=Zc h;have E:=oa g;have L:=qe g;have⟨D,O,T,U,Y,Z,b6⟩:=sB h;have⟨_,_,_,_,g5,g6,g7,g8⟩:=fF D;simp only[qf,h,au]at C ⊢;simp only[bC,aq];rw[aO (n:=a.ay*g.rows),aO (n:=a.ay*g.rows+a.row),aO (n:=(a.ay*g.rows+a.row)*g.aT),aO]
def vU{α β:Type}{step:α -> ah (α⊕β)}(S:Nat -> α){z:β}:∀ (n i fuel:Nat),(∀ k,i <= k -> k<i+n -> step (S k)=some (.inl (S (k+1)))) -> step (S (i+n))=some (.inr z) -> n<fuel -> iter step fuel (S i)=some z
 | 0,i,fuel,_,C,D=>by
  match fuel,D with
  |f+1,_=>unfold iter;rw[Nat.add_zero]at C;rw[C]
 | n+1,i,fuel,E,C,D=>by
  match fuel,D with
  | f+1,D=>
   unfold iter;rw[E i (dM _) (by omega)];exact vU S n _ f (λk L O=>E k (by omega) (by omega)) (by rw[show i+1+n=i+(n+1) by omega];exact C) (by omega)
def AE{i:Nat}(h:i<4611686018427387904:=by omega):W6 ((i:Int)+1)=((i+1:Nat):Int):=by
 rw[aO];simp
def aAs(x a b:Int):cz x a b=some (decide (a <= x)&&decide (x <= b)):=by
 unfold cz
 grind
def akh{x a b:Int}(h:a<=x)(C:x<=b):cz x a b=some true:=by
 rw[aAs,aW h,aW C];rfl
def aAt{x a b:Int}(h:a<=x)(C:x<=b):cG x a b=some true:=akh h C
def opens:Nat->aa cQ->aa Int
 |_,[]=>[]
 |i,b::bs=>bif b.open_ then (i:Int)::opens (i+1) bs else opens (i+1) bs
def Ze(i:Nat)(a b:aa cQ):opens i (a++b)=opens i a++opens (i+a.length) b:=by
 induction a generalizing i with
 |nil=>simp[opens]
 | cons x a C=>
  simp[List.cons_append,opens]
  grind
def SJ(i:Nat)(l:aa cQ):(opens i l).length <= l.length:=by
 induction l generalizing i with
 |nil=>simp[opens]
 | cons x a C=>
  have:=C (i+1);simp[opens]
  grind
def qX{α:Type}{l:aa α}{i:Nat}(h:i<l.length):l.take (i+1)=l.take i++[l[i]]:=by
 rw[List.take_succ_eq_append_getElem h]
def SK(r:cy)(h:r.aB.length<1073741823):Ap r=some (opens 0 r.aB):=by
 unfold Ap bh;have e:=vU (step:=Fy) (λi=>(((),r.aB,(r.aB.length:Int),(i:Int),()),(opens 0 (r.aB.take i),()))) (z:=.inl (((),()),(opens 0 r.aB,()))) r.aB.length 0 aR (λk _ C=>?_) ?_ (by unfold aR;omega)
 ·have e:iter Fy aR (((),r.aB,r.aB.length,0,()),(([]),()))=_:=e;simp_all
 ·have C:k<r.aB.length:=by omega
  unfold Fy av xG xI;dsimp only;have D:decide ((k:Int)<(r.aB.length:Int))=true:=aW;have E:0 <= (k:Int)/\(k:Int).toNat<r.aB.length:=⟨by omega,by simpa using C⟩
  have L:=SJ 0 (r.aB.take k);rw[fJ]at L;have O:bP ((opens 0 (r.aB.take k)).length+([(k:Int)]:aa Int).length)=true:=by
   unfold bP;simp;omega
  rw[D,au,az E,AE,qX C,Ze];simp only[bD,opens,fJ,fk,Nat.min_eq_left (Nat.le_of_lt C)];cases r.aB[k].open_ with
  |true=>grind
  |false=>grind
 ·rw[fk];unfold Fy av xG xI;simp_all
def gmT:Nat:=116196760129267793630862849262464326346044543732748708940920453221664288556434379745879494961270582141731748813355742142288220638766218855867759359510984593843506004200114943278699875244065120512813025380665946106619127097398772031257643617143689515450995722003729973585221105779229319991106539050771048038400
def gm(a b:Nat):Nat:=(gmT / 2 ^ (4*(16*a+b))) % 16
def pwT:Nat:=44684875893970114885940500792407720993
def pw(n:Nat):Nat:=(pwT / 2 ^ (4*n)) % 16
def jd(f:Nat->Bool):Bool:=(List.range 16).all f
def gv{f:Nat->Bool}(h:jd f=true){a:Nat}(C:a<16):f a=true:=by
 have:=cw.1 h a (gk.2 C);exact this
def gj(a b:Nat):gm a b<16:=Nat.mod_lt _ (by decide)
def tZ(n:Nat):pw n<16:=Nat.mod_lt _ (by decide)
def aAu:(jd λa=>jd λb=>jn (Int.ofNat a) (Int.ofNat b)==some (Int.ofNat (gm a b)))=true:=by kernel_rfl
def aAv:((List.range 31).all λn=>LM 2 (Int.ofNat n)==some (Int.ofNat (pw n)))=true:=by kernel_rfl
def aki:(jd λa=>jd λb=>decide (bits .xor .i64 (Int.ofNat a) (Int.ofNat b)=Int.ofNat (a ^^^ b))&&Nat.blt (a ^^^ b) 16)=true:=by kernel_rfl
def aAw:(jd λa=>jd λb=>jd λc=>Nat.beq (gm (a ^^^ b) c) (gm a c ^^^ gm b c))=true:=by kernel_rfl
def akj:(jd λa=>Nat.beq (gm a 1) a&&Nat.beq (gm 0 a) 0)=true:=by kernel_rfl
def aAx:(jd λC=>jd λs1=>jd λs2=>
  (λy z=>(λx=>Nat.beq (gm x 1 ^^^ (gm y 1 ^^^ (gm z 1 ^^^ C))) 0&&Nat.beq (gm x 1 ^^^ (gm y 2 ^^^ (gm z 4 ^^^ s1))) 0&&Nat.beq (gm x 1 ^^^ (gm y 4 ^^^ (gm z 3 ^^^ s2))) 0) (C ^^^ y ^^^ z))
   (gm (gm 2 (C ^^^ s1) ^^^ gm 5 (C ^^^ s2)) 13) (gm (gm 3 (C ^^^ s2) ^^^ gm 5 (C ^^^ s1)) 13))=true:=by kernel_rfl
def aAy:C3 4=some 13:=by kernel_rfl
def Df{a b:Nat}(C:a<16)(D:b<16):jn (a:Int) (b:Int)=some (gm a b:Int):=by
 have h:=gv (gv aAu C) D;exact eq_of_beq h
def aAz{n:Nat}(h:n<31):LM 2 (n:Int)=some (pw n:Int):=eq_of_beq (cw.1 aAv n (gk.2 h))
def qY{a b:Nat}(C:a<16)(D:b<16):bits .xor .i64 (a:Int) (b:Int)=((a ^^^ b:Nat):Int):=by
 have h:=gv (gv aki C) D;simp_all
def lN{a b:Nat}(C:a<16)(D:b<16):a ^^^ b<16:=by
 have h:=gv (gv aki C) D;simp_all
def aAA{a b c:Nat}(C:a<16)(D:b<16)(E:c<16):gm (a ^^^ b) c=gm a c ^^^ gm b c:=cE (gv (gv (gv aAw C) D) E)
def aAB{a:Nat}(C:a<16):gm a 1=a:=by
 have h:=gv akj C;rw[aN]at h;exact cE h.1
def SL{a:Nat}(C:a<16):gm 0 a=0:=by
 have h:=gv akj C;rw[aN]at h;exact cE h.2
abbrev bw (w:aa Nat):aa Int:=w.map λ(n:Nat)=>(n:Int)
def dK(w:aa Nat):Prop:=∀x∈w,x<16
def gU(w:aa Nat):(bw w).length=w.length:=by simp[bw]
def ua{w:aa Nat}{k:Nat}(h:k<(bw w).length):(bw w)[k]=((w.getD k 0:Nat):Int):=by grind
def dK.get{w:aa Nat}(h:dK w)(k:Nat):w.getD k 0<16:=by
 by_cases C:k<w.length
 ·simp[eY,bZ C];exact h _ (cU C)
 ·simp_all
def Zf{w:aa Nat}(E:dK w)(T:w.length<1000)(n:Int):vQ (bw w) n=some ((w.length:Int)==n):=by
 unfold vQ bE;have e:=vU (step:=Aq) (λi=>((bw w,n,bw w,((bw w).length),i,()),())) (z:=.inr (.inl ((bw w,n,()),()))) w.length 0 aR (λk _ C=>?_) ?_ (by unfold aR;omega)
 ·simp_all
 ·have C:k<(bw w).length:=by rw[gU];omega
  unfold Aq av aQ xG xI;dsimp only;have L:decide ((k:Int)<((bw w).length:Int))=true:=aW;have D:0 <= (k:Int)/\(k:Int).toNat<(bw w).length:=⟨by omega,by simpa using C⟩
  rw[L,au,az D];have O:(bw w)[(k:Int).toNat]'D.2=((w.getD k 0:Nat):Int):=ua C;rw[O];have:=E.get k;unfold CX;rw[akh (by omega) (by omega),ak,ak,AE];rfl
 ·unfold Aq av aQ xG xI;simp_all
def bW(w:aa Nat)(j:Nat):Nat->Nat
 |0=>0
 |i+1=>bW w j i ^^^ gm (w.getD i 0) (pw (i*j))
def qZ(w:aa Nat)(j:Nat):∀ i,bW w j i<16
 |0=>Nat.zero_lt_succ _
 |i+1=>lN (qZ w j i) (gj _ _)
def aAC{w:aa Nat}(O:dK w)(hl:w.length=11)(j:Nat)(hj:j<3)(a b:Int)(o:aa Int)(T:j<o.length)(U:o.set j 0=o):
  iter C2 aR ((bw w,(),(j:Int),a,b,bw w,((bw w).length:Int),(0:Int),()),(o,()))=some (.inl ((bw w,(),a,b,()),(o.set j (bW w j 11:Int),()))):=by
 have e:=vU (step:=C2) (λi=>((bw w,(),(j:Int),a,b,bw w,((bw w).length:Int),(i:Int),()),(o.set j (bW w j i:Int),()))) (z:=.inl ((bw w,(),a,b,()),(o.set j (bW w j 11:Int),()))) 11 0 aR (λk _ D=>?_) ?_ (by unfold aR;omega)
 ·have e:iter C2 aR ((bw w,(),(j:Int),a,b,bw w,((bw w).length:Int),(0:Int),()),(o.set j 0,()))=_:=e;rw[U]at e;exact e
 ·have D:k<(bw w).length:=by rw[gU];omega
  unfold C2 av xG xI xL;dsimp only;have E:decide ((k:Int)<((bw w).length:Int))=true:=aW;have L:0<=(k:Int)/\(k:Int).toNat<(bw w).length:=⟨by omega,by simpa using D⟩
  have C:0<=(j:Int)/\(j:Int).toNat<(o.set j (bW w j k:Int)).length:=⟨by omega,by simpa using T⟩
  have Y:(bw w)[(k:Int).toNat]'L.2=((w.getD k 0:Nat):Int):=ua D;have Z:(o.set j (bW w j k:Int))[(j:Int).toNat]'C.2=(bW w j k:Int):=mH _;rw[E,au,az L,az C,az C.2,Y,Z];have hkj:k*j<=20:=Nat.le_trans (Nat.mul_le_mul (show k<=10 by omega) (show j<=2 by omega)) (by decide);have c6:W6 ((k:Int)*(j:Int))=((k*j:Nat):Int):=by
   rw[<-Int.natCast_mul,aO]
  rw[c6,aAz (by omega),ak,Df (O.get k) (tZ _),ak,az C,az C.2,qY (qZ _ _ _) (gj _ _),AE];have c7:(o.set j (bW w j k:Int)).set (j:Int).toNat ((bW w j k ^^^ gm (w.getD k 0) (pw (k*j)):Nat):Int)=o.set j (bW w j (k+1):Int):=List.set_set ..;rw[c7]
 ·unfold C2 av xG xI xL;dsimp only;have E:decide (((0+11:Nat):Int)<((bw w).length:Int))=false:=aU (by rw[gU];omega);rw[E,aq]
def sC(w:aa Nat):Nat->aa Int
 |0=>[0,0,0]
 |1=>[(bW w 0 11:Int),0,0]
 |2=>[(bW w 0 11:Int),(bW w 1 11:Int),0]
 |_=>[(bW w 0 11:Int),(bW w 1 11:Int),(bW w 2 11:Int)]
def Zg{w:aa Nat}(D:dK w)(E:w.length=11):Av (bw w)=some [(bW w 0 11:Int),(bW w 1 11:Int),(bW w 2 11:Int)]:=by
 unfold Av bh;have c0:((w.length:Int)==(11:Int))=true:=by rw[E];rfl
 rw[Zf D (by omega),c0,ak];have e:=vU (step:=FN) (λj=>((bw w,(),(3:Int),(j:Int),()),(sC w j,()))) (z:=.inl (((),()),(sC w 3,()))) 3 0 aR (λk _ O=>?_) ?_ (by unfold aR;omega)
 ·have e:iter FN aR ((bw w,(),((List.replicate (3:Int).toNat (0:Int)).length:Int),(0:Int),()),(List.replicate (3:Int).toNat (0:Int),()))=_:=e;rw[show (!true)=false from rfl,aq,bM (by decide),e];rfl
 ·unfold FN av xG bh;dsimp only;have L:decide ((k:Int)<(3:Int))=true:=aW;have C:sC w k=(sC w k).set k 0/\k<(sC w k).length/\(sC w k).set k (bW w k 11:Int)=sC w (k+1):=by
   have:k=0\/k=1\/k=2:=by omega
   rcases this with rfl|rfl|rfl
   ·exact⟨rfl,by simp[sC],rfl⟩
   ·exact⟨rfl,by simp[sC],rfl⟩
   ·exact⟨rfl,by simp[sC],rfl⟩
  rw[L,au,aAC D E k (by omega) (3:Int) (k:Int) (sC w k) C.2.1 C.1.symm,C.2.2];show some (Sum.inl ((bw w,(),(3:Int),W6 ((k:Int)+1),()),(sC w (k+1),())))=_;rw[AE]
 ·unfold FN av xG bh;dsimp only;rfl
def aAD{w:aa Nat}(C:dK w)(D:w.length=11):RQ (bw w)=some (Nat.beq (bW w 0 11) 0&&(Nat.beq (bW w 1 11) 0&&Nat.beq (bW w 2 11) 0)):=by
 unfold RQ xL;rw[Zg C D,ak];generalize bW w 0 11=a;generalize bW w 1 11=b;generalize bW w 2 11=c;have q:∀ n:Nat,((n:Int)==(0:Int))=Nat.beq n 0:=by
  intro n;cases n with
  |zero=>rfl
  |succ n=>rfl
 show (bif ((a:Int)==(0:Int))then (bif ((b:Int)==(0:Int))then some ((c:Int)==(0:Int))else some false)else some false)=_
 grind
def aAE(C D E:Nat)(L:C<16)(O:D<16)(T:E<16):
  (λy z=>(λx=>(gm x 1 ^^^ (gm y 1 ^^^ (gm z 1 ^^^ C)))=0/\(gm x 1 ^^^ (gm y 2 ^^^ (gm z 4 ^^^ D)))=0/\(gm x 1 ^^^ (gm y 4 ^^^ (gm z 3 ^^^ E)))=0) (C ^^^ y ^^^ z))
   (gm (gm 2 (C ^^^ D) ^^^ gm 5 (C ^^^ E)) 13) (gm (gm 3 (C ^^^ E) ^^^ gm 5 (C ^^^ D)) 13):=by
 have h:=gv (gv (gv aAx L) O) T;simp_all
def aAF{d:aa Nat}(Z:dK d)(Y:d.length=8):∃ w,Mc (bw d)=some (bw w)/\w.length=11/\dK w/\w.drop 3=d/\bW w 0 11=0/\bW w 1 11=0/\bW w 2 11=0:=by
 have hz:dK (0 :: 0 :: 0 :: d):=by
  intro x hx;simp only[gX]at hx;rcases hx with rfl|rfl|rfl|hx
  ·decide
  ·decide
  ·decide
  ·exact Z x hx
 have key:∀ j x y z,j<3->x<16->y<16->z<16->bW (x :: y :: z :: d) j 11=gm x (pw (0*j)) ^^^ (gm y (pw (1*j)) ^^^ (gm z (pw (2*j)) ^^^ bW (0 :: 0 :: 0 :: d) j 11)):=by
  intro j x y z hj hx hy hz;simp only[bW,List.getD_cons_zero,List.getD_cons_succ,Nat.xor_assoc,Nat.zero_xor,SL (tZ _)]
 have e0:∀ C E L:Nat,C<16->E<16->L<16->Av (bw (0 :: 0 :: 0 :: d))=some [(C:Int),(E:Int),(L:Int)]->
   Mc (bw d)=some (bw ((C ^^^ gm (gm 2 (C ^^^ E) ^^^ gm 5 (C ^^^ L)) 13 ^^^ gm (gm 3 (C ^^^ L) ^^^ gm 5 (C ^^^ E)) 13)::gm (gm 2 (C ^^^ E) ^^^ gm 5 (C ^^^ L)) 13::gm (gm 3 (C ^^^ L) ^^^ gm 5 (C ^^^ E)) 13::d)):=by
  intro C E L D T U hs;unfold Mc xL;have c0:((d.length:Int)==(8:Int))=true:=by rw[Y];rfl
  have c1:bP ((List.replicate (3:Int).toNat (0:Int)).length+(bw d).length)=true:=by
   rw[gU,Y];rfl
  rw[Zf Z (by omega),ak,c0,show (!true)=false from rfl,aq,bM (by decide),c1,au];have e1:Av (List.replicate (3:Int).toNat (0:Int)++bw d)=some [(C:Int),(E:Int),(L:Int)]:=hs;rw[e1,ak];show (C3 (4:Int)).bind (λiE=>(jn (2:Int) (bits .xor .i64 (C:Int) (E:Int))).bind λkF=>(jn (5:Int) (bits .xor .i64 (C:Int) (L:Int))).bind λgN=>(jn (bits .xor .i64 kF gN) iE).bind λjT=>(jn (3:Int) (bits .xor .i64 (C:Int) (L:Int))).bind λjV=>(jn (5:Int) (bits .xor .i64 (C:Int) (E:Int))).bind λqW=>(jn (bits .xor .i64 jV qW) iE).bind λqc=>some (bits .xor .i64 (bits .xor .i64 (C:Int) jT) qc::jT::qc::bw d))=_;have m2:∀b:Nat,b<16->jn (2:Int) (b:Int)=some (gm 2 b:Int):=λb O=>Df (a:=2) (by decide) O
  have m3:∀b:Nat,b<16->jn (3:Int) (b:Int)=some (gm 3 b:Int):=λb O=>Df (a:=3) (by decide) O
  have m5:∀b:Nat,b<16->jn (5:Int) (b:Int)=some (gm 5 b:Int):=λb O=>Df (a:=5) (by decide) O
  have F9:∀b:Nat,b<16->jn (b:Int) (13:Int)=some (gm b 13:Int):=λb O=>Df (b:=13) O (by decide)
  rw[aAy,ak,qY D T,qY D U,m2 _ (lN D T),ak,m5 _ (lN D U),ak,qY (gj _ _) (gj _ _),F9 _ (lN (gj _ _) (gj _ _)),ak,m3 _ (lN D U),ak,m5 _ (lN D T),ak,qY (gj _ _) (gj _ _),F9 _ (lN (gj _ _) (gj _ _)),ak,qY D (gj _ _),qY (lN D (gj _ _)) (gj _ _)];rfl
 have D:=qZ (0::0::0::d) 0 11;have T:=qZ (0::0::0::d) 1 11;have U:=qZ (0::0::0::d) 2 11;have e1:=e0 _ _ _ D T U (Zg hz (by simp[Y]));have f:=aAE _ _ _ D T U;dsimp only at f;refine⟨_,e1,by simp[Y],?_,rfl,?_,?_,?_⟩
 ·intro x hx;simp only[gX]at hx;rcases hx with rfl | rfl | rfl | hx
  ·exact lN (lN D (gj _ _)) (gj _ _)
  ·exact gj _ _
  ·exact gj _ _
  ·exact Z x hx
 ·rw[key 0 _ _ _ (by decide) (lN (lN D (gj _ _)) (gj _ _)) (gj _ _) (gj _ _)];exact f.1
 ·rw[key 1 _ _ _ (by decide) (lN (lN D (gj _ _)) (gj _ _)) (gj _ _) (gj _ _)];exact f.2.1
 ·rw[key 2 _ _ _ (by decide) (lN (lN D (gj _ _)) (gj _ _)) (gj _ _) (gj _ _)];exact f.2.2
def akk{w:aa Nat}(C:dK w){k e:Nat}(D:e<16)(L:k<w.length)(j:Nat):∀ i,bW (w.set k (w.getD k 0 ^^^ e)) j i=if i <= k then bW w j i else bW w j i ^^^ gm e (pw (k*j))
 |0=>by rw[bM (Nat.zero_le _)];rfl
 | i+1=>by
  have O:=akk C D L j i;have T:(w.set k (w.getD k 0 ^^^ e)).getD i 0=if i=k then w.getD k 0 ^^^ e else w.getD i 0:=by
   grind
  show bW _ j i ^^^ gm _ (pw (i*j))=_;rw[O,T];by_cases U:i<k
  ·rw[bM,bX,bM];rfl
  ·by_cases E:i=k
   ·subst E;rw[bM (dM _),bM rfl,bX,aAA (C.get _) D (tZ _),<- Nat.xor_assoc];rfl
   ·rw[bX,bX E,bX];show _=bW w j i ^^^ gm _ _ ^^^ gm e _
    grind
def dK.set{w:aa Nat}(h:dK w){k v:Nat}(D:v<16):dK (w.set k v):=by
 intro x C;rcases List.mem_or_eq_of_mem_set C with C|rfl
 ·exact h x C
 ·exact D
def ivT:Nat:=9460475325918865680
def iv(a:Nat):Nat:=(ivT / 2 ^ (4*a)) % 16
def aAG(a:Nat):iv a<16:=Nat.mod_lt _ (by decide)
def aAH:(jd λa=>Nat.beq a 0 ||C3 (Int.ofNat a)==some (Int.ofNat (iv a)))=true:=by kernel_rfl
def oc:aa Nat:=[8,14,7,1]
def aAI:((List.range 8).all λm=>jd λf=>(List.range 3).all λj=>
  Nat.beq (gm (gm 8 f) (pw (m*j)) ^^^ (gm (gm 14 f) (pw ((m+1)*j)) ^^^ (gm (gm 7 f) (pw ((m+2)*j)) ^^^ gm f (pw ((m+3)*j))))) 0)=true:=by kernel_rfl
def aAJ:(jd λa=>jd λb=>tT (Int.ofNat a) (Int.ofNat b)==some (Int.ofNat (gm a b)))=true:=by kernel_rfl
def Mm{a b:Nat}(C:a<16)(D:b<16):tT (a:Int) (b:Int)=some (gm a b:Int):=by
 have h:=gv (gv aAJ C) D;exact eq_of_beq h
def akl(W:aa Int):iter Yb aR (((),(),(1:Int),()),(W,([(1:Int),(1:Int)]:aa Int),()))=some (.inl (((),(),()),(W,bw oc,()))):=by kernel_rfl
def akm{w:aa Nat}(E:dK w)(T:w.length<1000)(n:Int):tR (bw w) n=some ((w.length:Int)==n):=by
 unfold tR bE;have e:=vU (step:=z0) (λi=>((bw w,n,i,()),())) (z:=.inr (.inl ((bw w,n,()),()))) w.length 0 aR (λk _ C=>?_) ?_ (by unfold aR;omega)
 ·simp_all
 ·have C:k<(bw w).length:=by rw[gU];omega
  unfold z0 av aQ xG xI;dsimp only;have L:decide ((k:Int)<((bw w).length:Int))=true:=aW;have D:0 <= (k:Int)/\(k:Int).toNat<(bw w).length:=⟨by omega,by simpa using C⟩
  rw[L,au,az D];have O:(bw w)[(k:Int).toNat]'D.2=((w.getD k 0:Nat):Int):=ua C;rw[O];have:=E.get k;unfold CA;rw[aAt (by omega) (by omega),ak,ak,AE];rfl
 ·unfold z0 av aQ xG xI;simp_all
def uc(k:Nat):Nat:=oc.getD k 0
def aAK(k:Nat):uc k<16:=by
 have:dK oc:=by
  intro x C;simp[oc,gX,List.not_mem_nil,or_false]at C;omega
 exact this.get k
def kG(r:aa Nat)(m f:Nat):Nat->aa Nat
 |0=>r
 |k+1=>(kG r m f k).set (m+k) ((kG r m f k).getD (m+k) 0 ^^^ gm (uc k) f)
def Mn(r:aa Nat)(m f:Nat):∀ k,(kG r m f k).length=r.length
 |0=>rfl
 |k+1=>by show (List.set _ _ _).length=_;rw[gz,Mn]
def Mo{r:aa Nat}(C:dK r)(m f:Nat):∀ k,dK (kG r m f k)
 |0=>C
 |k+1=>(Mo C m f k).set (lN ((Mo C m f k).get _) (gj _ _))
def SM(w:aa Nat)(k v:Nat):(bw w).set k (v:Int)=bw (w.set k v):=(List.map_set ..).symm
def aAL{r:aa Nat}(T:dK r)(U:r.length=11){m f:Nat}(hm:m<8)(Y:f<16)(W:aa Int):
  iter E2 aR (((),(),(),((m+3:Nat):Int),(f:Int),(0:Int),()),(W,bw oc,bw r,()))=some (.inl (((),(),(),((m+3:Nat):Int),()),(W,bw oc,bw (kG r m f 4),()))):=by
 have e:=vU (step:=E2) (λk=>(((),(),(),((m+3:Nat):Int),(f:Int),(k:Int),()),(W,bw oc,bw (kG r m f k),()))) (z:=.inl (((),(),(),((m+3:Nat):Int),()),(W,bw oc,bw (kG r m f 4),()))) 4 0 aR (λk _ hk=>?_) ?_ (by unfold aR;omega)
 ·exact e
 ·unfold E2 av xG xL;dsimp only;have D:decide ((k:Int)<((bw oc).length:Int))=true:=aW (by show (k:Int)<4;omega);have Z:W6 (W6 (((m+3:Nat):Int)-3)+(k:Int))=((m+k:Nat):Int):=by
   rw[aO (n:=((m+3:Nat):Int)-3),aO];omega
  have L:m+k<(bw (kG r m f k)).length:=by rw[gU,Mn,U];omega
  have C:0<=((m+k:Nat):Int)/\((m+k:Nat):Int).toNat<(bw (kG r m f k)).length:=⟨by omega,L⟩
  have O:k<(bw oc).length:=by show k<4;omega
  have E:0<=(k:Int)/\(k:Int).toNat<(bw oc).length:=⟨by omega,O⟩
  have c5:(bw (kG r m f k))[((m+k:Nat):Int).toNat]'C.2=(((kG r m f k).getD (m+k) 0:Nat):Int):=ua L;have c6:(bw oc)[(k:Int).toNat]'E.2=((uc k:Nat):Int):=ua O;rw[D,au];simp only[Z];rw[az C,az C.2];rw[az E,az E.2,c6,Mm (aAK k) Y,ak,az C,az C.2,c5,qY ((Mo T m f k).get _) (gj _ _),AE];have c7:(bw (kG r m f k)).set ((m+k:Nat):Int).toNat (((kG r m f k).getD (m+k) 0 ^^^ gm (uc k) f:Nat):Int)=bw (kG r m f (k+1)):=SM _ _ _;rw[c7]
 ·unfold E2 av xG xL;dsimp only;have D:decide (((0+4:Nat):Int)<((bw oc).length:Int))=false:=rfl;rw[D,aq]
def out(r:aa Nat):Nat->aa Nat
 |0=>r
 |t+1=>kG (out r t) (7-t) ((out r t).getD (10-t) 0) 4
def Dg(r:aa Nat):∀ t,(out r t).length=r.length
 |0=>rfl
 |t+1=>by show (kG _ _ _ _).length=_;rw[Mn,Dg]
def Dh{r:aa Nat}(C:dK r):∀ t,dK (out r t)
 |0=>C
 |t+1=>Mo (Dh C t) _ _ _
def akn{r:aa Nat}(D:dK r)(E:r.length=11)(W:aa Int):
  iter E3 aR (((),(),(),(10:Int),()),(W,bw oc,bw r,()))=some (.inl (((),(),()),(W,bw (out r 8),()))):=by
 have e:=vU (step:=E3) (λt=>(((),(),(),(10:Int)-(t:Int),()),(W,bw oc,bw (out r t),()))) (z:=.inl (((),(),()),(W,bw (out r 8),()))) 8 0 aR (λt _ U=>?_) ?_ (by unfold aR;omega)
 ·exact e
 ·unfold E3 av xG bh xL;dsimp only;have hi:(10:Int)-(t:Int)=((7-t+3:Nat):Int):=by omega
  have O:decide ((10:Int)-(t:Int) >= 3)=true:=aW;have L:7-t+3<(bw (out r t)).length:=by rw[gU,Dg,E];omega
  have C:0<=((7-t+3:Nat):Int)/\((7-t+3:Nat):Int).toNat<(bw (out r t)).length:=⟨by omega,L⟩
  have T:(bw (out r t))[((7-t+3:Nat):Int).toNat]'C.2=(((out r t).getD (10-t) 0:Nat):Int):=(ua L).trans (by rw[show 7-t+3=10-t by omega]);rw[O,au];simp only[hi];rw[az C,az C.2,T,aAL (Dh D t) (by rw[Dg,E]) (by omega) ((Dh D t).get _)];show some (Sum.inl (((),(),(),W6 (((7-t+3:Nat):Int)-1),()),(W,bw oc,bw (out r (t+1)),())))=_;rw[aO,show ((7-t+3:Nat):Int)-1=10-((t+1:Nat):Int) by omega]
 ·unfold E3 av xG bh xL;dsimp only;rfl
def aAM:(jd λa=>Nat.beq (gm 1 a) a)=true:=by kernel_rfl
def ako{a:Nat}(C:a<16):gm 1 a=a:=cE (gv aAM C)
def akp{r:aa Nat}(C:dK r)(E:r.length=11){k e:Nat}(D:e<16)(L:k<11)(j:Nat):bW (r.set k (r.getD k 0 ^^^ e)) j 11=bW r j 11 ^^^ gm e (pw (k*j)):=by
 rw[akk C D (by omega) j 11,bX]
def aAN{r:aa Nat}(D:dK r)(E:r.length=11){m f j:Nat}(L:m<8)(C:f<16)(O:j<3):bW (kG r m f 4) j 11=bW r j 11:=by
 have st:∀ k,k<4 -> bW (kG r m f (k+1)) j 11=bW _ j 11 ^^^ gm _ _:=λk U=>
  akp (Mo D m f k) (by rw[Mn,E]) (gj _ _) (by omega) j
 have h:=cw.1 (gv (cw.1 aAI m (gk.2 L)) C) j (gk.2 O);have h:gm (gm (uc 0) f) (pw ((m+0)*j)) ^^^ (gm (gm (uc 1) f) (pw ((m+1)*j)) ^^^ (gm (gm (uc 2) f) (pw ((m+2)*j)) ^^^ gm (gm (uc 3) f) (pw ((m+3)*j))))=0:=by
  have T:gm (uc 3) f=f:=ako C;rw[T];exact cE h
 rw[st 3 (by decide),st 2 (by decide),st 1 (by decide),st 0 (by decide),Nat.xor_assoc,Nat.xor_assoc,Nat.xor_assoc,h,Nat.xor_zero];rfl
def akq{r:aa Nat}(C:dK r)(D:r.length=11){j:Nat}(E:j<3):∀ t,t<=8->bW (out r t) j 11=bW r j 11
 |0,_=>rfl
 |t+1,L=>(aAN (Dh C t) (by rw[Dg,D]) (by omega) ((Dh C t).get _) E).trans (akq C D E t (by omega))
def akr(r:aa Nat)(k v n:Nat):(r.set k v).getD n 0=if n=k/\k<r.length then v else r.getD n 0:=by grind
def Zh(r:aa Nat)(m f:Nat):∀ k n,m+k<=n->(kG r m f k).getD n 0=r.getD n 0
 |0,n,_=>rfl
 | k+1,n,h=>by
  show (List.set _ _ _).getD n 0=_;rw[akr,bX,Zh r m f k n (by omega)]
def aAO{r:aa Nat}{m f:Nat}(h:m+3<r.length):(kG r m f 4).getD (m+3) 0=r.getD (m+3) 0 ^^^ gm (uc 3) f:=by
 show (List.set _ _ _).getD _ 0=_;rw[akr,bM ⟨rfl,by rw[Mn];exact h⟩,Zh r m f 3 _ (dM _)]
def aks{r:aa Nat}(C:dK r)(E:r.length=11):∀ t,t <= 8 -> ∀ n,10-t<n -> n<11 -> (out r t).getD n 0=0
 |0,_,n,h,D=>by omega
 | t+1,O,n,h,D=>by
  show (kG _ _ _ 4).getD n 0=0;by_cases L:n=10-t
  ·have e:n=7-t+3:=by omega
   subst e;rw[aAO (by rw[Dg];omega),<- L];have:gm (uc 3) _=(out r t).getD (7-t+3) 0:=ako ((Dh C t).get _);simp_all
  ·rw[Zh _ _ _ 4 n (by omega)];exact aks C E t (by omega) n (by omega) D
def qg(w r:aa Nat):Nat->aa Nat
 |0=>w
 |k+1=>(qg w r k).set k (r.getD k 0)
def Zi(w r:aa Nat):∀ k,(qg w r k).length=w.length
 |0=>rfl
 |k+1=>by show (List.set _ _ _).length=_;rw[gz,Zi]
def akt{w r:aa Nat}(Y:w.length=11)(Z:r.length=11):
  iter Ko aR (((),(),(0:Int),()),(bw w,bw r,()))=some (.inl (((),()),(bw (qg w r 3),()))):=by
 have e:=vU (step:=Ko) (λi=>(((),(),i,()),(bw (qg w r i),bw r,()))) (z:=.inl (((),()),(bw (qg w r 3),()))) 3 0 aR (λk _ hk=>?_) ?_ (by unfold aR;omega)
 ·exact e
 ·unfold Ko av xG xL;dsimp only;have L:decide ((k:Int)<(3:Int))=true:=aW;have D:k<(bw r).length:=by rw[gU];omega
  have O:k<(bw (qg w r k)).length:=by rw[gU,Zi];omega
  have C:0 <= (k:Int)/\(k:Int).toNat<(bw r).length:=⟨by omega,D⟩
  have E:0 <= (k:Int)/\(k:Int).toNat<(bw (qg w r k)).length:=⟨by omega,O⟩
  have T:(bw r)[(k:Int).toNat]'C.2=((r.getD k 0:Nat):Int):=ua D;rw[L,au,az C,az C.2,T,az E,az E.2,AE];have U:(bw (qg w r k)).set (k:Int).toNat ((r.getD k 0:Nat):Int)=bw (qg w r (k+1)):=SM _ _ _;rw[U]
 ·rfl
def aAP{d:aa Nat}(U:dK d)(E:d.length=8):∃ w,Ac (bw d)=some (bw w)/\w.length=11/\dK w/\bW w 0 11=0/\bW w 1 11=0/\bW w 2 11=0:=by
 have D:dK (0 :: 0 :: 0 :: d):=by
  intro x hx;simp only[gX]at hx;rcases hx with rfl|rfl|rfl|hx
  ·decide
  ·decide
  ·decide
  ·exact U x hx
 have C:(0::0::0::d).length=11:=by simp[E]
 have Y:Ac (bw d)=some (bw (qg (0 :: 0 :: 0 :: d) (out (0 :: 0 :: 0 :: d) 8) 3)):=by
  unfold Ac xA bh xZ;have c0:((d.length:Int)==(8:Int))=true:=by rw[E];rfl
  have Z:bP ((List.replicate (3:Int).toNat (0:Int)).length+(bw d).length)=true:=by
   rw[gU,E];rfl
  have c2:bP (([]:aa Int).length+(bw (0 :: 0 :: 0 :: d)).length)=true:=by
   rw[gU,C];rfl
  have c3:W6 (((bw (0 :: 0 :: 0 :: d)).length:Int)-(1:Int))=10:=by
   rw[gU,C];rfl
  have eW:List.replicate (3:Int).toNat (0:Int)++bw d=bw (0::0::0::d):=rfl;rw[akm U (by omega),ak,c0,show (!true)=false from rfl,aq,bM (by decide),Z,au,eW,akl,ak,eJ];dsimp only;rw[List.nil_append,c2,au,c3,akn D C,ak,eJ];dsimp only;rw[akt C (by rw[Dg,C]),ak,eJ]
 have L:=Dh D 8;have O:∀ j,j<3->bW (qg (0 :: 0 :: 0 :: d) (out (0 :: 0 :: 0 :: d) 8) 3) j 11=0:=by
  intro j hj;have T:=akq D C hj 8 (dM _);have z:=aks D C 8 (dM _);revert T z;generalize out (0 :: 0 :: 0 :: d) 8=r;intro T z;have h2:bW (qg (0 :: 0 :: 0 :: d) r 3) j 11=gm (r.getD 0 0) (pw (0*j)) ^^^ (gm (r.getD 1 0) (pw (1*j)) ^^^ (gm (r.getD 2 0) (pw (2*j)) ^^^ bW (0 :: 0 :: 0 :: d) j 11)):=by
   show bW (r.getD 0 0::r.getD 1 0::r.getD 2 0::d) j 11=_;simp only[bW,List.getD_cons_zero,List.getD_cons_succ,Nat.xor_assoc,Nat.zero_xor,SL (tZ _)]
  have h3:bW r j 11=gm (r.getD 0 0) (pw (0*j)) ^^^ (gm (r.getD 1 0) (pw (1*j)) ^^^ gm (r.getD 2 0) (pw (2*j))):=by
   simp only[bW,z 3 (by decide) (by decide),z 4 (by decide) (by decide),z 5 (by decide) (by decide),z 6 (by decide) (by decide),z 7 (by decide) (by decide),z 8 (by decide) (by decide),z 9 (by decide) (by decide),z 10 (by decide) (by decide),Nat.xor_assoc,Nat.zero_xor,Nat.xor_zero,SL (tZ _)]
  rw[h2,<-T,h3,<-Nat.xor_assoc (gm (r.getD 1 0) _) (gm (r.getD 2 0) _),<-Nat.xor_assoc (gm (r.getD 0 0) _),Nat.xor_self]
 refine⟨_,Y,by rw[Zi,C],?_,O 0 (by decide),O 1 (by decide),O 2 (by decide)⟩;exact((D.set (L.get _)).set (L.get _)).set (L.get _)
def vV(s:Int):Bool:=aL s 0 15
def q5(l:aa Int)(n:Int):Bool:=l.all vV&&decide ((l.length:Int)=n)
def aku(l:aa Int)(n:Int)(C:l.length<1073741824):vQ l n=some (q5 l n):=by
 unfold vQ q5 bE;have e:=fT (step:=Aq) l vV (λi=>((l,n,l,l.length,i,()),())) _ (.inr (.inl ((l,n,()),()))) aR (λk h=>by
  unfold Aq CX av aQ xG xI;simp (disch:=omega) [h,bB,dB,vV];cases aL l[k] 0 15<;>rfl) (by unfold Aq av aQ xG xI;simp) (bO C)
 rw[cu]at e;rw[e];cases l.all vV<;>simp;rfl
def Mp(l:aa Int)(n:Int)(C:l.length<1073741824):tR l n=some (q5 l n):=by
 unfold tR q5 bE;have e:=fT (step:=z0) l vV (λi=>((l,n,i,()),())) _ (.inr (.inl ((l,n,()),()))) aR (λk h=>by
  unfold z0 CA av aQ xG xI;simp (disch:=omega) [h,bB,eA,vV];cases aL l[k] 0 15<;>rfl) (by unfold z0 av aQ xG xI;simp) (bO C)
 rw[cu]at e;rw[e];cases l.all vV<;>simp;rfl
def Sy(l:aa Int):Prop:=l.length=11/\∀s∈l,0<=s/\s<=15
def Sy.ok{l:aa Int}(h:Sy l):q5 l 11=true:=by
 simp[q5,aN,cw,vV,bJ];exact⟨λx C=>h.2 x C,by rw[h.1];rfl⟩
def Sy.of{l:aa Int}(h:q5 l 11=true):Sy l:=by
 simp[q5,aN,cw,iU,vV,bJ]at h;exact⟨by omega,h.1⟩
def akv{a b:Int}(E:0 <= a/\a <= 15)(L:0 <= b/\b <= 15):0 <= bits .xor .i64 a b/\bits .xor .i64 a b <= 15/\bits .xor .i64 (bits .xor .i64 a b) b=a:=by
 obtain⟨x,rfl⟩:=gY E.1;obtain⟨y,rfl⟩:=gY L.1;have D:x<16:=by omega
 have C:y<16:=by omega
 have:=lN D C;rw[qY D C];rw[qY this C]
 grind
def Sy.set{l:aa Int}(h:Sy l){k:Nat}{v:Int}(D:0<=v/\v<=15):Sy (l.set k v):=by
 refine⟨by simp[h.1],λs C=>?_⟩
 rcases List.mem_or_eq_of_mem_set C with C|rfl
 ·exact h.2 s C
 ·exact D
def Sy.get{l:aa Int}(h:Sy l){k:Nat}(C:k<l.length):0<=l[k]/\l[k]<=15:=h.2 _ (cU C)
structure eX (g:aV) (B:Int) (a:cZ):Prop where
 cells:(a.cells.length:Int)=fH g
 syms:∀c∈a.cells,Sy c.symbols
 bz:(a.bz.length:Int)=gu g
 bu:(a.bu.length:Int)=gu g
 Di:∀x∈a.bz,0<=x/\x<=B
 iO:∀x∈a.bu,0<=x/\x<=100000
def aAQ(c:bK)(h:c.symbols.length<1073741824):Rx c=some c:=by
 unfold Rx xA xZ;simp[bP,h]
def aAR(c:bK)(h:c.symbols.length<1073741824):Ql c=some c:=by
 unfold Ql xA xZ;simp[bP,h]
def akw(a:cZ)(T:a.cells.length<1073741823)(C:a.bz.length<1073741824)(D:a.bu.length<1073741824)(E:∀ c∈a.cells,c.symbols.length<1073741824):Fo a=some a:=by
 unfold Fo xA bh xZ;have e:=cA (step:=Ld) a.cells.length (λi=>(((),(),a.cells,(a.cells.length:Int),(i:Int),()),(((),(),(),()),((),(),(),()),([]:aa bK),([]:aa Int),([]:aa Int),a.cells.take i,(([]:aa Int)++a.bz),(([]:aa Int)++a.bu),())))
  (.inl (((),(),()),(((),(),(),()),((),(),(),()),([]:aa bK),([]:aa Int),([]:aa Int),a.cells,(([]:aa Int)++a.bz),(([]:aa Int)++a.bu),()))) aR (λk h=>by
  unfold Ld av xG xI;have L:min k a.cells.length=k:=by omega
  have O:bP (k+1)=true:=di;simp (disch:=omega) [h,bB,aAQ _ (E _ (cU h)),L,O]) (by unfold Ld av xG xI;simp) (bO)
 rw[cu,List.take_zero]at e;rw[e];simp[bP,C,D]
def aAS(a:cZ)(T:a.cells.length<1073741823)(C:a.bz.length<1073741824)(D:a.bu.length<1073741824)(E:∀ c∈a.cells,c.symbols.length<1073741824):Qm a=some a:=by
 unfold Qm xA bh xZ;have e:=cA (step:=JK) a.cells.length (λi=>(((),(),(),(i:Int),()),((a.cells,a.bz,a.bu,()),((),(),(),()),((),(),(),()),([]:aa bK),([]:aa Int),([]:aa Int),a.cells.take i,(([]:aa Int)++a.bz),(([]:aa Int)++a.bu),())))
  (.inl (((),(),()),(((),(),(),()),((),(),(),()),([]:aa bK),([]:aa Int),([]:aa Int),a.cells,(([]:aa Int)++a.bz),(([]:aa Int)++a.bu),()))) aR (λk h=>by
  unfold JK av xG xI;have L:min k a.cells.length=k:=by omega
  have O:bP (k+1)=true:=di;simp (disch:=omega) [h,bB,aAR _ (E _ (cU h)),L,O]) (by unfold JK av xG xI;simp) (bO)
 rw[cu,List.take_zero]at e;rw[e];simp[bP,C,D]
def eX.lens{g:aV}{B:Int}{a:cZ}(h:eX g B a):a.cells.length<1073741823/\a.bz.length<1073741824/\a.bu.length<1073741824/\∀ c∈a.cells,c.symbols.length<1073741824:=by
 have D:=h.cells;have E:=h.bz;have L:=h.bu;have O:=oa g;have T:=qe g;exact⟨by omega,by omega,by omega,λc C=>by rw[(h.syms c C).1];omega⟩
def eX.copy{g:aV}{B:Int}{a:cZ}(h:eX g B a):Fo a=some a:=
 let ⟨C,D,E,L⟩:=h.lens;akw a C D E L
def AF(c:bK):Bool:=q5 c.symbols 11
def sD(p:Int×Int):Bool:=aL p.1 0 100000&&aL p.2 0 100000
def mz(g:aV)(a:cZ):Bool:=cI g&&(decide ((a.cells.length:Int)=fH g)&&(decide ((a.bz.length:Int)=gu g)&&(decide ((a.bu.length:Int)=gu g)&&(a.cells.all AF&&(a.bz.zip a.bu).all sD))))
def akx(g:aV)(a:cZ)(L:∀ c∈a.cells,c.symbols.length<1073741824):FA g a=some (mz g a):=by
 unfold FA mz bE;rw[n9,ak,yd,ak,Mk];cases O:cI g with
 |false=>rfl
 | true=>
  have Z:=oa g;have b2:=qe g;have er:bf g*g.rows=gu g:=by simp[gu,O]
  simp only[bC,aq,ak,cv,er];rw[aO];by_cases C:(a.cells.length:Int)=fH g
  ·by_cases D:(a.bz.length:Int)=gu g
   ·by_cases E:(a.bu.length:Int)=gu g
    ·have T:a.bz.length=a.bu.length:=by omega
     have l1:=fT (step:=Lr) a.cells AF (λi=>(((),a.cells,(a.cells.length:Int),(i:Int),()),((a.cells,a.bz,a.bu,()),()))) (.inl ((false,()),())) (.inr (.inl (((),()),((a.cells,a.bz,a.bu,()),())))) aR (λk h=>by
      unfold Lr av aQ xG xI;simp (disch:=omega) [h,bB,aku _ 11 (L _ (cU h)),AF];cases q5 a.cells[k].symbols 11<;>rfl) (by unfold Lr av aQ xG xI;simp) (bO)
     have l2:=fT (step:=Ls) (a.bz.zip a.bu) sD (λi=>(((),(a.bz.length:Int),(i:Int),()),((a.cells,a.bz,a.bu,()),()))) (.inl ((false,()),())) (.inr (.inl ((),()))) aR (λk h=>by
      have U:k<a.bz.length:=by simp at h;omega
      have Y:k<a.bu.length:=by omega
      unfold Ls av aQ xG xI;simp (disch:=omega) [U,Y,bB,dB,sD];cases aL a.bz[k] 0 100000<;>cases aL a.bu[k] 0 100000<;>rfl) (by unfold Ls av aQ xG xI;simp[T]) (bO (by simp;omega))
     rw[cu]at l1 l2;simp only[C,D,E,dV,aq,decide_true,cv];rw[<-C,l1];cases h1:a.cells.all AF with
     |false=>simp
     | true=>
      simp only[au,Option.bind_some,Sum.elim_inr,eJ];rw[l2];cases (a.bz.zip a.bu).all sD<;>simp
    ·simp[C,D,fO E,E]
   ·simp[C,fO D,D]
  ·simp[fO C,C]
def eX.ok{g:aV}{B:Int}{a:cZ}(h:eX g B a)(E:cI g=true)(hB:B <= 100000):FA g a=some true:=by
 rw[akx g a (λc C=>by rw[(h.syms c C).1];omega)];have L:=h.cells;have O:=h.bz;have T:=h.bu;have U:a.cells.all AF=true:=cw.2 λc C=>(h.syms c C).ok
 have Y:(a.bz.zip _).all sD=true:=cw.2 λp Z=>by
  obtain⟨x,y⟩:=p;have D:=List.of_mem_zip Z;have a1:=h.Di x D.1;have a2:=h.iO y D.2;simp[sD,aN,bJ];omega
 simp[mz,E,L,O,T,U,Y]
def sE(g:aV):(⟨g.cH,g.aB,g.rows,g.aT⟩:aV)=g:=rfl
def mA(n x:Int):Int:=if 100000<x+n then 100000 else x+n
def Zj(l:aa Int)(h:∀ s∈l,0 <= s/\s <= 15):bw (l.map Int.toNat)=l/\dK (l.map Int.toNat):=by
 constructor
 ·induction l with
  |nil=>rfl
  | cons x l C=>
   have D:=h x (.head _);have:=C λs E=>h s (.tail _ E)
   grind
 ·intro x D
  grind
def Mq{w:aa Nat}(D:dK w)(E:w.length=11):Sy (bw w):=by
 refine⟨by rw[gU,E],λs C=>?_⟩
 simp at C;obtain⟨x,L,rfl⟩:=C;have:=D x L;omega
def Sy.mem{l:aa bK}(h:∀c∈l,Sy c.symbols){k:Nat}(C:k<l.length):Sy l[k].symbols:=h _ (cU C)
def Sy.cc{l:aa bK}(h:∀c∈l,Sy c.symbols){k:Nat}{d:bK}(C:Sy d.symbols):∀c∈l.set k d,Sy c.symbols:=by grind
def Mr{l:aa Int}{B C:Int}(h:∀x∈l,B <= x/\x <= C){k:Nat}{v:Int}(D:B <= v/\v <= C):∀x∈l.set k v,B <= x/\x <= C:=by grind
def ye(l:iX)(a:cZ)(i:Nat):Bool:=decide (a.bz.getD i 0 > l.bz) ||decide (a.bu.getD i 0 > l.bu)
def aAT(g:aV)(l:iX)(a:cZ)(i:Nat)(C:i<a.bz.length)(D:i<a.bu.length):Ff g l a (i:Int)=some (ye l a i):=by
 unfold Ff ye xI
 grind
def aAU{l:aa Int}{B C:Int}(h:∀ x∈l,B<=x/\x<=C)(k:Nat)(D:B<=0/\0<=C):B<=l.getD k 0/\l.getD k 0<=C:=by
 rw[eY];cases E:l[k]? with
 |none=>exact D
 |some x=>exact h x (gO E)
def aky{x:Int}(h:0<=x/\x<=100000){n:Int}(C:0<=n):0<=mA n x/\mA n x<=100000:=by
 unfold mA;split<;>omega
def oY(k:Nat)(h:aa Int):aa Int:=h.set k (mA 1 (h.getD k 0))
def Ms(k:Nat)(h:aa Int):(oY k h).length=h.length:=by simp[oY]
def SN{k:Nat}{h:aa Int}(C:∀ x∈h,0<=x/\x<=100000):∀ x∈oY k h,0<=x/\x<=100000:=
 Mr C (aky (aAU C k ⟨by omega,by omega⟩) (by omega))
def Zk{k:Nat}{h:aa Int}(C:k<h.length):oY k h=h.set k (mA 1 h[k]):=by
 unfold oY;rw[eY,bZ C];rfl
def AG(row:Int)(i:Nat)(h:aa Int):aa Int:=bif decide (0<row)then oY (i-1) (h.set i 0)else h.set i 0
def vW(R row:Int)(i:Nat)(h:aa Int):aa Int:=bif decide (row<R-1)then oY (i+1) (AG row i h)else AG row i h
def aAV(row:Int)(i:Nat)(h:aa Int):(AG row i h).length=h.length:=by
 unfold AG;cases decide (0<row)<;>simp[Ms]
def aAW(R row:Int)(i:Nat)(h:aa Int):(vW R row i h).length=h.length:=by
 unfold vW;cases decide (row<R-1)<;>simp[Ms,aAV]
def aAX{row:Int}{i:Nat}{h:aa Int}(D:∀ x∈h,0<=x/\x<=100000):∀ x∈AG row i h,0<=x/\x<=100000:=by
 have C:=Mr D (k:=i) (v:=0) ⟨by omega,by omega⟩;unfold AG;cases decide (0<row)
 ·exact C
 ·exact SN C
def aAY{R row:Int}{i:Nat}{h:aa Int}(D:∀ x∈h,0<=x/\x<=100000):∀ x∈vW R row i h,0<=x/\x<=100000:=by
 have C:=aAX (row:=row) (i:=i) D;unfold vW;cases decide (row<R-1)
 ·exact C
 ·exact SN C
def Gv{C:Type}(P:C->Prop)(o:ah C):Prop:=∃y,o=some y/\P y
def Gv.pure{C:Type}{P:C->Prop}{y:C}(h:P y):Gv P (some y):=⟨y,rfl,h⟩
def Gv.bind{α C:Type}{Q:α->Prop}{P:C->Prop}{f:ah α}{g:α->ah C}(h:Gv Q f)(D:∀ y,Q y->Gv P (g y)):Gv P (f.bind g):=by
 obtain⟨y,rfl,E⟩:=h;exact D y E
def aAZ(x a b:Int):Gv (λy=>y=aL x a b) (cG x a b):=⟨_,eA x a b,rfl⟩
def aA0(k:Int):Gv (λy=>y=(aL k 1 5,k==1,(k==2 || k==3))) (Rc k):=by
 refine Gv.bind (aAZ _ _ _) (λ_ h=>?_)
 subst h;cases h:k==2<;>exact Gv.pure (by simp)
def Mt(y:Int):0<=bits .and .i64 y 15/\bits .and .i64 y 15<=15:=by
 have e:bits .and .i64 y 15=IntKind.wrap .i64 ((BitVec.ofInt 64 y &&& BitVec.ofInt 64 15).toNat:Int):=rfl;have h:(BitVec.ofInt 64 y &&& BitVec.ofInt 64 15).toNat<=15:=by
  rw[BitVec.toNat_and];exact Nat.le_trans Nat.and_le_right (by decide)
 rw[e,IntKind.wrap_i64];omega
def od(t:c9):aa Int:=[t.jF,t.rp,t.gI,t.mI,t.jG,t.jH,t.mJ,t.mK,t.jh,t.wr,t.mL,t.mM,t.pG,t.mN,t.nI,t.xp,t.xs]
def yf(x:Int):Bool:=aL x 1 64
def iP(t:c9):Bool:=(od t).all yf&&(decide (t.jF<=t.gI)&&(decide (t.mI<=t.jG)&&(decide (t.mJ<=t.mK)&&decide (t.mL<=t.mM))))
def Mv(t:c9):Fv t=some (iP t):=by
 unfold Fv iP bE;change (iter Fu aR (((),(),((od t).length:Int),(0:Int),()),(t,od t,()))).bind _=_;have C:(od t).length=17:=rfl;generalize od t=l at *
 have e:=fT (step:=Fu) l yf (λi=>(((),(),(l.length:Int),(i:Int),()),(t,l,()))) _ (.inr (.inl (((),()),(t,())))) aR (λk h=>by
  unfold Fu av aQ xG xL;simp (disch:=omega) [h,bB,dB,yf];cases aL l[k] 1 64<;>rfl) (by unfold Fu av aQ xG xL;simp) (bO)
 rw[cu]at e;rw[e];cases l.all yf<;>simp
 grind
def SO(t:c9):Cx t=some (iP t):=by
 unfold Cx iP XZ bE;rw[ak];change (iter ER aR (((),(),(0:Int),()),(t,od t,()))).bind _=_;have C:(od t).length=17:=rfl;generalize od t=l at *
 have e:=fT (step:=ER) l yf (λi=>(((),(),(i:Int),()),(t,l,()))) (.inl ((false,()),())) (.inr (.inl (((),()),(t,())))) aR (λk h=>by
  unfold ER av aQ xG xL;simp (disch:=omega) [h,bB,eA,yf];cases aL l[k] 1 64<;>rfl) (by unfold ER av aQ xG xL;simp) (bO)
 rw[cu]at e;rw[e];cases l.all yf<;>simp
 grind
def aA1(t:c9):JQ t=x4 t:=by
 unfold JQ x4;rw[Mv,SO]
def aA2(t:c9):∃ y,x4 t=some y:=by
 unfold x4;rw[Mv];cases iP t<;>exact⟨_,rfl⟩
def Mw(R i:Nat):Int:=((i % R:Nat):Int)
def lO(n R:Nat):aa Int:=(List.range n).map (Mw R)
def Zl(n R:Nat):(lO n R).length=n:=by simp[lO]
def aA3(n R:Nat):lO (n+1) R=lO n R++[Mw R n]:=by simp[lO,List.range_succ]
def jW(g:aV)(n:Int):Bool:=cI g&&(aL n 0 2&&decide (2<=g.rows-n))
def AH(g:aV)(n:Int):eZ×Bool:=bif jW g n then (⟨n,lO ((bf g).toNat*(g.rows-n).toNat) (g.rows-n).toNat⟩,true)else (⟨0,[]⟩,false)
def SP{g:aV}{n:Int}(h:jW g n=true):cI g=true/\0 <= n/\n <= 2/\2 <= g.rows-n/\g.rows <= 16:=by
 simp[jW,aN,bJ,iU]at h;have⟨C,⟨D,E⟩,L⟩:=h;have:=fF C;simp_all
def akz(g:aV)(n:Int):JP g n=some (AH g n):=by
 unfold JP AH bh;rw[F8,ak];cases D:cI g with
 |false=>simp[jW,D]
 | true=>
  simp only[bC,aq,eA,ak];cases E:aL n 0 2 with
  |false=>simp[jW,E]
  | true=>
   have pI:=bJ.1 E;have gb:=fF D;simp only[bC,aq];rw[aO];by_cases O:g.rows-n<2
   ·have:decide (2<=g.rows-n)=false:=aU;rw[aW O,au];simp[jW,this]
   ·have Y:jW g n=true:=by simp[jW,D,E];omega
    rw[aU O,aq,Y,au];have Z:=fG g;obtain⟨C,L⟩:=gY Z.1;obtain⟨R,T⟩:=gY (show 0<=g.rows-n by omega);have hm:C*R<=8*16:=Nat.mul_le_mul (by omega) (by omega);have hmul:W6 ((C:Int)*(R:Int))=((C*R:Nat):Int):=by
     rw[<-Int.natCast_mul];exact aO
    have U:W6 (g.rows-n)=(R:Int):=by rw[T];exact aO
    have e:=cA (step:=JO) (C*R) (λi=>((n,(),(),(),(i:Int),()),((g.cH,g.aB,g.rows,g.aT,()),((0:Int),(),()),(n,(),()),([]:aa Int),lO i R,())))
     (.inl (((),(),()),(((0:Int),(),()),(n,(),()),([]:aa Int),lO (C*R) R,()))) aR (λk h=>by
     unfold JO av xG;have ho:bP ((lO k R).length+1)=true:=di (by rw[Zl];omega);have ht:(k:Int).tmod (R:Int)=Mw R k:=by unfold Mw;exact(Int.ofNat_tmod k R).symm
     dsimp only;rw[sE,sA,ak,U,L,hmul,aW,au,bX,ht];simp only[List.length_cons,List.length_nil,fk];rw[ho,au,bB,aA3]) (by
     unfold JO av xG;dsimp only;rw[sE,sA,ak,U,L,hmul,aU,aq]) (bO)
    rw[cu]at e
    refine(aY (λo=>Option.bind o _) e).trans ?_
    rw[L,T];rfl
def aA4(b R:Nat)(C:0<R)(j:Nat)(D:j <= R):lO (b*R+j) R=lO (b*R) R++(List.range j).map (λi:Nat=>(i:Int)):=by
 unfold lO;rw[List.range_add,List.map_append,List.map_map];congr 1
 refine List.map_congr_left λi hi=>?_
 have hi:=gk.1 hi;simp only[Function.comp,Mw];rw[Nat.mul_comm,Nat.mul_add_mod,Nat.mod_eq_of_lt (by omega)]
def akA(g:aV)(n:Int):Lg g n=some (AH g n):=by
 unfold Lg AH bh;rw[yd,ak];cases C:cI g with
 |false=>simp[jW,C]
 | true=>
  simp only[bC,aq,dB,ak];cases D:aL n 0 2 with
  |false=>simp[jW,D]
  | true=>
   have pI:=bJ.1 D;have gb:=fF C;simp only[bC,aq];rw[aO];by_cases O:g.rows-n<2
   ·have:decide (2<=g.rows-n)=false:=aU;rw[aW O,au];simp[jW,this]
   ·have Y:jW g n=true:=by simp[jW,C,D];omega
    rw[aU O,aq,Y,au];have Z:=fG g;obtain⟨E,L⟩:=gY Z.1;obtain⟨R,T⟩:=gY (show 0<=g.rows-n by omega);have U:W6 (g.rows-n)=(R:Int):=by rw[T];exact aO
    have inner:∀ b:Nat,b<E->iter Ft aR ((n,(),(),(),(b:Int),(0:Int),()),((g.cH,g.aB,g.rows,g.aT,()),((0:Int),(),()),(n,(),()),([]:aa Int),lO (b*R) R,()))=some (.inl ((n,(),(),(),(b:Int),()),((g.cH,g.aB,g.rows,g.aT,()),((0:Int),(),()),(n,(),()),([]:aa Int),lO ((b+1)*R) R,()))):=by
     intro b Zm;have hm:b*R<=8*16:=Nat.mul_le_mul (by omega) (by omega);have e:=cA (step:=Ft) R (λj=>((n,(),(),(),(b:Int),(j:Int),()),((g.cH,g.aB,g.rows,g.aT,()),((0:Int),(),()),(n,(),()),([]:aa Int),lO (b*R) R++(List.range j).map (λi:Nat=>(i:Int)),())))
      (.inl ((n,(),(),(),(b:Int),()),((g.cH,g.aB,g.rows,g.aT,()),((0:Int),(),()),(n,(),()),([]:aa Int),lO (b*R) R++(List.range R).map (λi:Nat=>(i:Int)),()))) aR (λk h=>by
      unfold Ft av xG;have ho:bP ((lO (b*R) R++(List.range k).map (λi:Nat=>(i:Int))).length+1)=true:=di (by simp[Zl];omega);dsimp only;rw[U,aW,au];simp only[List.length_cons,List.length_nil,fk];rw[ho,au,bB,List.range_succ,List.map_append,List.append_assoc];rfl) (by
      unfold Ft av xG;dsimp only;rw[U,aU,aq]) (bO)
     rw[cu,List.range_zero,List.map_nil,List.append_nil]at e;rw[e,<-aA4 b R (by omega) R (dM _),Nat.succ_mul]
    have e:=cA (step:=Le) E (λi=>((n,(),(),(),(i:Int),()),((g.cH,g.aB,g.rows,g.aT,()),((0:Int),(),()),(n,(),()),([]:aa Int),lO (i*R) R,())))
     (.inl (((),(),()),(((0:Int),(),()),(n,(),()),([]:aa Int),lO (E*R) R,()))) aR (λk h=>by
     unfold Le av xG bh;dsimp only;rw[sE,n9,ak,L,aW,au]
     refine(aY (λo=>Option.bind o _) (inner k h)).trans ?_
     rw[ak];simp only[eJ];rw[bB]) (by
     unfold Le av xG bh;dsimp only;rw[sE,n9,ak,L,aU,aq]) (bO)
    rw[cu,Nat.zero_mul]at e
    refine(aY (λo=>Option.bind o _) e).trans ?_
    rw[L,T];rfl
def Dj(t:c9):Int:=(x4 t).getD 0
def Zn(t:c9):x4 t=some (Dj t):=by
 obtain⟨y,e⟩:=aA2 t;unfold Dj;rw[e];rfl
def aA5(t:c9):JQ t=some (Dj t):=by rw[aA1,Zn]
def Zo(m:jE):Lh m=some (aL m.order 0 2):=by
 unfold Lh;rw[dB];rfl
def aA6(m:jE):ES m=some (aL m.order 0 2):=by
 unfold ES;rw[eA];rfl
def oe(c:ig):Bool:=cI c.aE&&(iP c.ck&&(aL c.mapping.order 0 2&&(jW c.aE c.cr&&(aL c.interval (Dj c.ck) 10000&&(aL c.iz 1 16&&(aL c.dO.bz (W6 ((6:Int)*c.interval)) 100000&&aL c.dO.bu 0 100000))))))
def SQ(g:aV)(n:Int):(AH g n).2=jW g n:=by
 unfold AH;cases jW g n<;>rfl
def Zp(c:ig):RB c=some (oe c):=by
 unfold RB oe;simp only[akA,yd,Mv,Zo,Zn,dB,ak,SQ];cases cI c.aE<;>cases iP c.ck<;>cases aL c.mapping.order 0 2<;>cases jW c.aE c.cr<;>cases aL c.interval (Dj c.ck) 10000<;>cases aL c.iz 1 16<;>cases aL c.dO.bz (W6 ((6:Int)*c.interval)) 100000<;>rfl
def aA7(c:ig):Qp c=some (oe c):=by
 unfold Qp oe;simp only[akz,SO,aA6,aA5,eA,ak,SQ];cases h:jW c.aE c.cr with
 |false=>cases cI c.aE<;>cases iP c.ck<;>cases aL c.mapping.order 0 2<;>rfl
 | true=>
  rw[(SP h).1];cases iP c.ck<;>cases aL c.mapping.order 0 2<;>cases aL c.interval (Dj c.ck) 10000<;>cases aL c.iz 1 16<;>cases aL c.dO.bz (W6 ((6:Int)*c.interval)) 100000<;>rfl
def Zq{c:ig}(h:oe c=true):cI c.aE=true/\iP c.ck=true/\jW c.aE c.cr=true/\aL c.iz 1 16=true:=by
 simp[oe,aN]at h;simp_all
def akB{t:c9}(h:iP t=true):(1 <= t.gI/\t.gI <= 64)/\1 <= t.rp/\t.rp <= 64:=by
 simp[iP,aN,cw]at h;have C:=h.1 t.gI (by simp[od]);have D:=h.1 t.rp (by simp[od]);simp[yf,bJ]at C D;simp_all
def nq(s:bV):Bool:=aL s.weight 1 9&&aL s.eP 0 s.weight
def iQ(l:aa bV):Bool:=l.all nq&&aL (l.length:Int) 1 4
def Mx(l:aa bV)(C:l.length<1073741824):Fw l=some (iQ l):=by
 unfold Fw iQ bE;have e:=fT (step:=Li) l nq (λi=>((l,l,l.length,i,()),())) _ (.inr (.inl ((l,()),()))) aR (λk h=>by
  unfold Li av aQ xG xI;simp (disch:=omega) [h,bB,dB,nq];cases aL l[k].weight 1 9<;>cases aL l[k].eP 0 l[k].weight<;>rfl) (by unfold Li av aQ xG xI;simp) (bO C)
 rw[cu]at e;rw[e];cases l.all nq<;>simp[dB]
def Zr(l:aa bV)(C:l.length<1073741824):ET l=some (iQ l):=by
 unfold ET iQ bE;have e:=fT (step:=JR) l nq (λi=>((l,i,()),())) _ (.inr (.inl ((l,()),()))) aR (λk h=>by
  unfold JR av aQ xG xI;simp (disch:=omega) [h,bB,eA,nq];cases aL l[k].weight 1 9<;>cases aL l[k].eP 0 l[k].weight<;>rfl) (by unfold JR av aQ xG xI;simp) (bO C)
 rw[cu]at e;rw[e];cases l.all nq<;>simp[eA]
def og(w:Int):bV:=⟨w,w⟩
def Dk(l:aa Int):aa bV×Bool:=bif iQ (l.map og)then (l.map og,true)else ([],false)
def akC{l:aa Int}{k:Nat}(h:k<l.length):(l.take (k+1)).map og=(l.take k).map og++[⟨l[k],l[k]⟩]:=by
 rw[List.take_succ_eq_append_getElem h,List.map_append];rfl
def akD(l:aa Int)(D:l.length<1073741823):Ao l=some (Dk l):=by
 unfold Ao Dk bh;have e:=cA (step:=Lj) l.length (λi=>(((),l,(l.length:Int),(i:Int),()),((l.take i).map og,()))) _ aR (λk h=>by
  unfold Lj av xG xI;have C:bP (((l.take k).map og).length+1)=true:=di (by simp;omega);dsimp only;rw[aW,au,az ⟨by omega,by omega⟩];simp only[List.length_cons,List.length_nil,fk,bD];rw[C,au,bB,akC h]) (by
  unfold Lj av xG xI;dsimp only;rw[aU,aq,iV]) (bO)
 refine(aY (λo=>Option.bind o _) e).trans ?_
 rw[ak];simp only[eJ];rw[Mx _ (by simp;omega),ak]
 grind
def akE(l:aa Int)(O:l.length<1073741823):Cz l=some (Dk l):=by
 unfold Cz Dk bh;have e:=cA (step:=JS) (min l.length 5) (λi=>((l,(),(i:Int),()),((l.take i).map og,()))) (.inl (((),()),((l.take 5).map og,()))) aR (λk h=>by
  have C:k<l.length:=by omega
  unfold JS av xG xI;have D:bP (((l.take k).map og).length+1)=true:=di (by simp;omega);dsimp only;rw[aW,au,aW,au,az ⟨by omega,by omega⟩,az ⟨by omega,by omega⟩];simp only[List.length_cons,List.length_nil,fk,bD];rw[D,au,bB,akC C]) (by
  unfold JS av xG xI;dsimp only;by_cases c:l.length <= 5
  ·rw[Nat.min_eq_left c,iV,List.take_of_length_le c];by_cases T:l.length=5
   ·rw[aU,aq]
   ·rw[aU,aq]
  ·rw[Nat.min_eq_right (by omega),aW,au,aU,aq]) (bO)
 rw[cu,List.take_zero,List.map_nil]at e
 refine(aY (λo=>Option.bind o _) e).trans ?_
 rw[ak];simp only[eJ];rw[Zr _ (by simp;omega),ak];by_cases c:l.length <= 5
 ·rw[List.take_of_length_le c];cases iQ _<;>rfl
 ·have E:iQ (l.map og)=false:=by
   unfold iQ;have:aL ((l.map og).length:Int) 1 4=false:=by
    rw[Bool.eq_false_iff];intro h;have:=(bJ.1 h).2
    grind
   rw[this,Bool.and_false]
  have L:iQ ((l.take 5).map og)=false:=by
   unfold iQ;have:aL (((l.take 5).map og).length:Int) 1 4=false:=by
    rw[Bool.eq_false_iff];intro h;have:=(bJ.1 h).2
    grind
   rw[this,Bool.and_false]
  rw[E,L];rfl
def akF(l:aa Int):(Dk l).2=iQ (l.map og):=by
 unfold Dk;cases iQ (l.map og)<;>rfl
def oZ(d:gB):Bool:=decide (d.low >= 0)&&(decide (d.low<d.high)&&decide (d.high<=12))
def SR(d:gB):CV d=some (oZ d):=by
 unfold CV oZ
 grind
def SS(d:gB):Cy d=some (oZ d):=by
 unfold Cy oZ
 grind
def AI(r:kL):Bool:=aL r.down 1 10000&&(decide (r.sleep > r.down)&&decide (r.sleep<=20000))
def akG(r:kL):Lk r=some (AI r):=by
 unfold Lk AI;rw[dB]
 grind
def akH(r:kL):JT r=some (AI r):=by
 unfold JT AI;rw[eA]
 grind
def vX(p:fz):Bool:=aL p.eO 0 1&&(aL p.cap 0 100000&&(aL p.fD 3 1000&&(oZ ⟨false,p.low,p.high⟩&&((p.weights.length:Int)==4&&(iQ (p.weights.map og)&&AI p.eK)))))
def aA8(p:fz)(C:p.weights.length<1073741823):Qr p=some (vX p):=by
 unfold Qr vX;simp[akE _ C,ak,eA,SS,akH,akF]
 grind
def aA9(x:Int):aL x 0 1=(x==0 || x==1):=by
 rw[Bool.eq_iff_iff];simp[aL];omega
def Zs(p:fz)(C:p.weights.length<1073741823):RD p=some (vX p):=by
 unfold RD vX;simp[akD _ C,ak,dB,SR,akG,akF,aA9]
 grind
def aBa(x:Int):Qs x=Fx x:=by
 unfold Qs Fx;rw[eA,dB]
def Zt(x:Int):∃ y,Fx x=some y:=by
 unfold Fx;rw[dB];cases aL x 3 1000<;>exact⟨_,rfl⟩
def Zu(c:ig)(p:fz)(C:p.weights.length<1073741823):∃ b,vP c p=some b/\(b=true->oe c=true):=by
 unfold vP;obtain⟨y,e⟩:=Zt p.fD;simp only[Zp,Zs _ C,e,ak];cases D:oe c with
 |false=>exact⟨false,rfl,λh=>by cases h⟩
 | true=>
  have L:=akB (Zq D).2.1;have E:¬ W6 (c.ck.gI+c.ck.rp)=0:=by
   rw[aO];omega
  cases vX p with
  |false=>exact⟨false,rfl,λ_=>rfl⟩
  | true=>
   simp only[bX E,bC,aq,au];cases decide (W6 (y+2)<=c.dO.bu)<;>exact⟨_,rfl,λ_=>by first|rfl|trivial⟩
def aBb(c:ig)(p:fz)(C:p.weights.length<1073741823):∃ b,vP c p=some b/\EU c p=some b/\(b=true->oe c=true):=by
 unfold vP EU;obtain⟨y,e⟩:=Zt p.fD;simp only[Zp,aA7,Zs _ C,aA8 _ C,aBa,e,ak];cases D:oe c with
 |false=>exact⟨false,rfl,rfl,λh=>by cases h⟩
 | true=>
  have L:=akB (Zq D).2.1;have E:¬ W6 (c.ck.gI+c.ck.rp)=0:=by
   rw[aO];omega
  cases vX p with
  |false=>exact⟨false,rfl,rfl,λ_=>rfl⟩
  | true=>
   simp only[bX E,bC,aq,au];cases decide (W6 (y+2)<=c.dO.bu)<;>exact⟨_,rfl,rfl,λ_=>by first|rfl|trivial⟩
def akI(i:Nat)(l:aa cQ):((opens i l).length==0)=l.all λb=>!b.open_:=by
 induction l generalizing i with
 |nil=>rfl
 | cons x a C=>
  simp[opens,List.all_cons]
  grind
def q6(g:aV)(b:cQ):Bool:=aL b.row 0 (g.rows-1)&&(b.open_ ||b.row==0)
def lP(g:aV)(r:cy):Bool:=cI g&&(((r.aB.length:Int)==bf g)&&(aL r.aZ 0 2&&(r.aB.all (q6 g)&&(r.aZ != 2 ||r.aB.all λb=>!b.open_))))
def akJ(g:aV)(r:cy):Ln g r=some (lP g r):=by
 unfold Ln lP bE;rw[yd,ak,n9];cases D:cI g with
 |false=>rfl
 | true=>
  simp only[bC,aq,ak,cv];by_cases C:(r.aB.length:Int)=bf g
  ·have L:=fG g;have O:=fF D;simp only[C,dV,aq,dR,cv,dB,ak];cases T:aL r.aZ 0 2 with
   |false=>rfl
   | true=>
    have e:=fT (step:=Ll) r.aB (q6 g) (λi=>(((),(),r.aB,(r.aB.length:Int),(i:Int),()),((g.cH,g.aB,g.rows,g.aT,()),(r.aB,r.aZ,()),()))) (.inl ((false,()),())) (.inr (.inl (((),()),((r.aB,r.aZ,()),())))) aR (λk h=>by
     unfold Ll av aQ xG xI;dsimp only;rw[aW,au,az ⟨by omega,by omega⟩];simp only[bD,dB,ak];rw[aO (n:=g.rows-1),bB];unfold q6;cases aL r.aB[k].row 0 (g.rows-1)with
     |false=>rfl
     | true=>
      cases r.aB[k].open_ with
      |true=>rfl
      | false=>
       simp[bne];cases r.aB[k].row==0<;>rfl) (by
     unfold Ll av aQ xG xI;dsimp only;rw[aU,aq]) (bO)
    rw[cu,C]at e;simp only[bC,aq,cv]
    refine(aY (λo=>Option.bind o _) e).trans ?_
    rw[ak];cases r.aB.all (q6 g)with
    |false=>rfl
    | true=>
     simp only[au,Sum.elim_inr,eJ,cv];cases U:r.aZ != 2 with
     |true=>rfl
     | false=>
      simp;rw[SK ⟨r.aB,r.aZ⟩ (by show r.aB.length<_;omega),ak,<- akI 0 r.aB];congr 1
      grind
  ·have E:((r.aB.length:Int)==bf g)=false:=by simp[C]
   rw[fO C,E];rfl
def aBc(g:aV)(r:cy):Qt g r=some (lP g r):=by
 unfold Qt lP bE;rw[F8,ak,sA];cases E:cI g with
 |false=>rfl
 | true=>
  simp only[bC,aq,ak,cv];by_cases D:(r.aB.length:Int)=bf g
  ·have T:=fG g;have U:=fF E;simp only[D,dV,aq,dR,cv,eA,ak];cases Y:aL r.aZ 0 2 with
   |false=>rfl
   | true=>
    have e:=fT (step:=JU) r.aB (λb=>q6 g b&&(r.aZ != 2 || !b.open_)) (λi=>(((),(),(i:Int),()),((g.cH,g.aB,g.rows,g.aT,()),(r.aB,r.aZ,()),()))) (.inl ((false,()),())) (.inr (.inl ((),()))) aR (λk h=>by
     unfold JU av aQ xG xI;dsimp only;rw[aW,au,az ⟨by omega,by omega⟩];simp only[bD,eA,ak];rw[aO (n:=g.rows-1),bB];unfold q6;simp only[bne];cases aL r.aB[k].row 0 (g.rows-1)with
     |false=>rfl
     |true=>cases r.aB[k].open_<;>cases r.aB[k].row==0<;>cases r.aZ==2<;>rfl) (by
     unfold JU av aQ xG xI;dsimp only;rw[aU,aq]) (bO)
    rw[cu]at e;simp only[bC,aq,cv]
    refine(aY (λo=>Option.bind o _) e).trans ?_
    rw[ak];have L:(r.aB.all λb=>q6 g b&&(r.aZ != 2 || !b.open_))=(r.aB.all (q6 g)&&(r.aZ != 2 || r.aB.all λb=>!b.open_)):=by
     cases r.aZ != 2 with
     |true=>simp
     | false=>
      simp only[Bool.false_or];rw[Bool.eq_iff_iff];simp only[cw,aN];exact⟨λh=>⟨λx C=>(h x C).1,λx C=>(h x C).2⟩,λh x C=>⟨h.1 x C,h.2 x C⟩⟩
    rw[L];cases (r.aB.all (q6 g)&&(r.aZ != 2 ||r.aB.all λb=>!b.open_))<;>rfl
  ·have O:((r.aB.length:Int)==bf g)=false:=by simp[D]
   rw[fO D,O];rfl
def AJ(d:Int):Bool:=aL d (-2) 5
def fB(r:de):Bool:=r.aH.all AJ&&(aL (r.aH.length:Int) 1 8&&aL r.wait 1 10000)
def My(r:de)(C:r.aH.length<1073741824):As r=some (fB r):=by
 unfold As fB bE;have e:=fT (step:=Lw) _ AJ (λi=>(((),r.aH,r.aH.length,i,()),((r.aH,r.wait,r.dS,()),()))) _ (.inr (.inl (((),()),((r.aH,r.wait,r.dS,()),())))) aR (λk h=>by
  unfold Lw av aQ xG xI;simp (disch:=omega) [h,bB,dB,AJ];cases aL r.aH[k] _ 5<;>rfl) (by unfold Lw av aQ xG xI;simp) (bO C)
 rw[cu]at e;rw[e];cases r.aH.all AJ<;>simp[dB]
 grind
def SU(r:de)(C:r.aH.length<1073741824):CB r=some (fB r):=by
 unfold CB fB bE;have e:=fT (step:=J3) _ AJ (λi=>(((),i,()),((r.aH,r.wait,r.dS,()),()))) _ (.inr (.inl (((),()),((r.aH,r.wait,r.dS,()),())))) aR (λk h=>by
  unfold J3 av aQ xG xI;simp (disch:=omega) [h,bB,eA,AJ];cases aL r.aH[k] _ 5<;>rfl) (by unfold J3 av aQ xG xI;simp) (bO C)
 rw[cu]at e;rw[e];cases r.aH.all AJ<;>simp[eA]
 grind
def gw{T:Type}(p:T->Bool)(l:aa T):Int:=match l.findIdx? p with
 |some i=>(i:Int)
 |none=>-1
def vY{α β T:Type}{step:α -> ah (α⊕β)}(l:aa T)(p:T -> Bool)(S:Nat -> α)(D:Nat -> β)(z:β)(fuel:Nat)(E:∀ k (h:k<l.length),step (S k)=some (bif p l[k]then .inr (D k)else .inl (S (k+1))))(L:step (S l.length)=some (.inr z))(C:l.length<fuel):
  iter step fuel (S 0)=some (match l.findIdx? p with|some i=>D i|none=>z):=by
 have key:∀ (n i fuel:Nat),i+n=l.length -> n<fuel -> (∀ j (h:j<l.length),j<i -> p l[j]=false) -> iter step fuel (S i)=some (match l.findIdx? p with | some i=>D i | none=>z):=by
  intro n
  induction n with
  | zero=>
   intro i fuel hi C O
   match fuel,C with
   | f+1,_=>
    have:i=l.length:=by omega
    subst this;have e:l.findIdx? p=none:=by
     rw[List.findIdx?_eq_none_iff];intro x U;obtain⟨j,Y,rfl⟩:=jg.1 U
     grind
    unfold iter;rw[L,e]
  | succ n Z=>
   intro i fuel hi C O
   match fuel,C with
   | f+1,C=>
    have dA:i<l.length:=by omega
    unfold iter;rw[E i dA];cases hp:p l[i]with
    | true=>
     have e:l.findIdx? p=some i:=by
      rw[pF]
      grind
     rw[e];rfl
    | false=>
     simp only[aq]
     refine Z (i+1) f (by omega) (by omega) λj Y Ih=>?_
     by_cases e:j=i
     ·grind
     ·grind
 exact key l.length 0 fuel (by omega) C λj _ h=>by omega
def Ga{T:Type}{p:T -> Bool}{l:aa T}{i:Nat}(h:i<l.length)(E:p l[i]=true):(gw p l != (i:Int))=(l.take i).any p:=by
 unfold gw;cases C:(l.take i).any p with
 | false=>
  have e:l.findIdx? p=some i:=by
   rw[pF]
   refine⟨h,E,λj D=>?_⟩
   have:=List.any_eq_false.1 C l[j] (jg.2 ⟨j,by simp;omega,by simp⟩);exact this
  rw[e];simp
 | true=>
  have⟨x,L,U⟩:=List.any_eq_true.1 C;obtain⟨j,D,rfl⟩:=jg.1 L;rw[fJ]at D;cases O:l.findIdx? p with
  |none=>simp
  | some k=>
   have⟨Y,Z,k3⟩:=pF.1 O;have:k≠i:=by
    grind
   simp only;simp;omega
def SV(x:Int):Bool:=aL x 0 4294967295
def o6(n:Int)(r:bA):Bool:=aL r.id 1 100000&&(aL r.dN 0 3&&(decide (r.line >= 0)&&(decide (r.line<n)&&(SV r.data&&((r.write ||r.data==0)&&aL r.at_ 0 1000000)))))
def aBd(n:Int)(r:bA):RL n r=some (o6 n r):=by
 unfold RL o6 C0 SV;simp[dB]
 grind
def aBe(n:Int)(r:bA):QD n r=some (o6 n r):=by
 unfold QD o6 J6 SV;simp[eA]
 grind
def q7(x y:bA):Bool:=decide (x.at_<y.at_) ||(x.at_==y.at_&&decide (x.id<y.id))
def akK(x y:bA):RM x y=some (q7 x y):=by
 unfold RM q7
 grind
def aBf(x y:bA):X6 x y=some (q7 x y):=akK x y
def Zv(l:aa bA)(id:Int)(C:l.length<1073741824):J8 l id=some (gw (λr=>r.id==id) l):=by
 unfold J8 gw bE;have e:=vY (step:=J7) l (λr=>r.id==id) (λi=>((l,id,i,()),())) _ (.inr (.inl ((),()))) aR (λk h=>by
  unfold J7 av aQ xG xI;simp (disch:=omega) [h,bB];cases l[k].id==id<;>rfl) (by unfold J7 av aQ xG xI;simp) (bO C)
 rw[cu]at e;rw[e];cases l.findIdx? _<;>rfl
def q8(n:Int)(q:aa bA)(i:Nat):Bool:=match q[i]? with
 |some r=>o6 n r&&((i==0 ||(match q[i-1]? with|some x=>q7 x r|none=>false)) && !((q.take i).any λx=>x.id==r.id))
 |none=>false
def Zw{n:Int}{q:aa bA}(h:0<q.length):q8 n q 0=o6 n q[0]:=by
 unfold q8;rw[bZ h];simp
def Mz{n:Int}{q:aa bA}{i:Nat}(h:i+1<q.length):q8 n q (i+1)=(o6 n q[i+1]&&(q7 q[i] q[i+1] && !((q.take (i+1)).any λx=>x.id==q[i+1].id))):=by
 unfold q8
 grind
def o7(n:Int)(q:aa bA):Bool:=(List.range q.length).all (q8 n q)&&decide ((q.length:Int)<=12)
def aBg(n:Int)(q:aa bA):QE n q=some (o7 n q):=by
 unfold QE o7 bE;by_cases c:(q.length:Int)<=12
 ·rw[aU (show ¬ (q.length:Int) > 12 by omega),aq,aW c,Bool.and_true];have e:=fT (step:=J9) (List.range q.length) (q8 n q) (λi=>((n,q,(i:Int),()),())) (.inl ((false,()),())) (.inr (.inl ((),()))) aR (λk h=>by
   rw[cX]at h;rw[js];unfold J9 av aQ xG xI;dsimp only;rw[aW,au,az ⟨by omega,by omega⟩];simp only[bD,aBe,ak];cases k with
   | zero=>
    rw[Zw h];cases o6 n q[0]with
    |false=>rfl
    | true=>
     simp only[bC,aq,au];rw[aU,aq,az ⟨by omega,h⟩,Zv _ _ (by omega),ak,Ga h (by simp)];simp;rfl
   | succ k=>
    rw[Mz h];cases o6 n q[k+1]with
    |false=>rfl
    | true=>
     simp only[bC,aq,cv];have C:W6 (((k+1:Nat):Int)-1)=(k:Int):=by rw[aO];omega
     simp only[C,bD];rw[aW,au,az ⟨by omega,by omega⟩,az ⟨by omega,h⟩,aBf,ak];cases q7 q[k] q[k+1]with
     |false=>rfl
     | true=>
      simp only[bC,aq,cv];rw[az ⟨by omega,h⟩,Zv _ _ (by omega),ak,Ga h (by simp),bB];cases (q.take (k+1)).any λx=>x.id==q[k+1].id<;>rfl) (by
   rw[cX];unfold J9 av aQ xG xI;dsimp only;rw[aU,aq]) (by rw[cX];exact bO)
  rw[cu]at e
  refine(aY (λo=>Option.bind o _) e).trans ?_
  rw[ak];cases (List.range q.length).all (q8 n q)<;>rfl
 ·rw[aW (show (q.length:Int) > 12 by omega),au,aU c,Bool.and_false]
def aBh(n:Int)(q:aa bA){i:Nat}(h:i<q.length)(C:q.length<1073741824):
  iter FE aR ((n,q,(),q,(q.length:Int),(i:Int),((q.take i).drop 0),(((q.take i).drop 0).length:Int),(0:Int),()),((q[i].id,q[i].dN,q[i].line,q[i].write,q[i].data,q[i].at_,()),()))=some (bif (q.take i).any (λx=>x.id==q[i].id)then .inl ((false,()),())else .inr (.inl ((n,q,q,(q.length:Int),(i:Int),()),()))):=by
 rw[List.drop_zero];have hlen:(q.take i).length=i:=by rw[fJ];omega
 generalize D:q[i]=r;generalize E:q.take i=t at *
 have e:=fT (step:=FE) t (λx=>!(x.id==r.id)) (λj=>((n,q,(),q,(q.length:Int),(i:Int),t,(t.length:Int),(j:Int),()),((r.id,r.dN,r.line,r.write,r.data,r.at_,()),()))) (.inl ((false,()),())) _ aR (λk h=>by
  unfold FE av aQ xG xI;dsimp only;rw[aW,au,az ⟨by omega,by omega⟩];simp only[bD];rw[bB];cases t[k].id==r.id<;>rfl) (by
  unfold FE av aQ xG xI;dsimp only;rw[aU,aq]) (bO)
 grind
def aBi(n:Int)(q:aa bA)(D:q.length<1073741824):RN n q=some (o7 n q):=by
 unfold RN o7 bE;have e:=fT (step:=LB) (List.range q.length) (q8 n q) (λi=>((n,q,q,(q.length:Int),(i:Int),()),())) (.inl ((false,()),())) (.inr (.inl ((q,()),()))) aR (λk h=>by
   rw[cX]at h;rw[js];unfold LB av aQ xG xI bE;dsimp only;rw[aW,au,az ⟨by omega,by omega⟩];simp only[bD,aBd,ak];have C:=aBh n q h D;cases k with
   | zero=>
    rw[Zw h];cases o6 n q[0]with
    |false=>rfl
    | true=>
     simp only[bC,aq,au];rw[aU,aq,bM ⟨by omega,by omega,by omega⟩]
     refine(aY (λo=>Option.bind o _) C).trans ?_
     simp;rfl
   | succ k=>
    rw[Mz h];cases o6 n q[k+1]with
    |false=>rfl
    | true=>
     simp only[bC,aq,cv];have E:W6 (((k+1:Nat):Int)-1)=(k:Int):=by rw[aO];omega
     simp only[E,bD];rw[aW,au,az ⟨by omega,by omega⟩,akK,ak];cases q7 q[k] q[k+1]with
     |false=>rfl
     | true=>
      simp only[bC,aq,cv];rw[bM ⟨by omega,by omega,by omega⟩]
      refine(aY (λo=>Option.bind o _) C).trans ?_
      rw[ak];cases (q.take (k+1)).any λx=>x.id==q[k+1].id with
      |true=>rfl
      | false=>
       simp only[aq,Sum.elim_inr,eJ];rw[bB];rfl) (by
   rw[cX];unfold LB av aQ xG xI bE;dsimp only;rw[aU,aq]) (by rw[cX];exact bO)
 rw[cu]at e
 refine(aY (λo=>Option.bind o _) e).trans ?_
 rw[ak];cases (List.range q.length).all (q8 n q)<;>rfl
def jX(p:eE):Bool:=aL p.state 0 2&&(aL p.since 0 1000000&&aL p.idle 0 1000000)
def SW(p:eE):C1 p=some (jX p):=by
 unfold C1 jX;simp[dB]
 grind
def SX(p:eE):vH p=some (jX p):=by
 unfold vH jX;simp[eA]
 grind
def yg(e:bU):Bool:=aL e.line 0 1023&&((e.code==1 ||e.code==2)&&aL e.times 1 999)
def kV(e x:bU):Bool:=x.line==e.line&&x.code==e.code
def Gb(l:aa bU)(i:Nat):Bool:=match l[i]? with
 |some e=>yg e && !((l.take i).any (kV e))
 |none=>false
def SY{l:aa bU}{i:Nat}(h:i<l.length):Gb l i=(yg l[i] && !((l.take i).any (kV l[i]))):=by
 unfold Gb;rw[bZ h]
def kH(l:aa bU):Bool:=(List.range l.length).all (Gb l)&&decide ((l.length:Int)<=6)
def akL(l:aa bU)(e:bU)(C:l.length<1073741824):Kb l e.line e.code=some (gw (kV e) l):=by
 unfold Kb gw bE;have e:=vY (step:=Ka) l (kV e) (λi=>((l,e.line,e.code,i,()),())) _ _ aR (λk h=>by
  unfold Ka kV av aQ xG xI;dsimp only;rw[aW,au,az ⟨by omega,by omega⟩,az ⟨by omega,by omega⟩];simp only[bD];rw[bB];cases l[k].line==e.line<;>cases l[k].code==e.code<;>rfl) (by
  unfold Ka av aQ xG xI;dsimp only;rw[aU,aq]) (bO C)
 rw[cu]at e;rw[e];cases l.findIdx? _<;>rfl
def akM(l:aa bU):Kd l=some (kH l):=by
 unfold Kd kH bE;by_cases c:(l.length:Int) <= 6
 ·rw[aU (show ¬ (l.length:Int) > 6 by omega),aq,aW c,Bool.and_true];have e:=fT (step:=Kc) _ (Gb l) (λi=>((l,(i:Int),()),())) _ _ aR (λk h=>by
   rw[cX]at h;rw[js,SY h];unfold Kc EX yg av aQ xG xI;dsimp only;rw[aW,au,az ⟨by omega,by omega⟩,az ⟨by omega,by omega⟩,az ⟨by omega,by omega⟩];simp only[bD,eA,ak];rw[akL _ _ (by omega),ak,Ga h (by simp[kV]),bB];cases aL l[k].line 0 1023<;>cases l[k].code==1<;>cases l[k].code==2<;>cases aL l[k].times 1 999<;>cases (l.take k).any (kV l[k])<;>rfl) (by
   rw[cX];unfold Kc av aQ xG xI;dsimp only;rw[aU,aq]) (by rw[cX];exact bO)
  refine(aY (λo=>Option.bind o _) e).trans ?_
  rw[ak];cases (List.range l.length).all (Gb l)<;>rfl
 ·rw[aW (show (l.length:Int) > 6 by omega),au,aU c,Bool.and_false]
def aBj(l:aa bU){i:Nat}(h:i<l.length)(C:l.length<1073741824):
  iter FG aR ((l,(),l,(l.length:Int),(i:Int),((l.take i).drop 0),(((l.take i).drop 0).length:Int),(0:Int),()),((l[i].line,l[i].code,l[i].times,()),()))=some (bif (l.take i).any (kV l[i])then .inl ((false,()),())else .inr (.inl ((l,l,(l.length:Int),(i:Int),()),()))):=by
 rw[List.drop_zero];have hlen:(l.take i).length=i:=by rw[fJ];omega
 generalize D:l[i]=r;generalize E:l.take i=t at *
 have e:=fT (step:=FG) t (λx=>!(kV r x)) (λj=>((l,(),l,(l.length:Int),(i:Int),t,(t.length:Int),(j:Int),()),((r.line,r.code,r.times,()),()))) _ _ aR (λk h=>by
  unfold FG kV av aQ xG xI;dsimp only;rw[aW,au,az ⟨by omega,by omega⟩];simp only[bD];rw[bB,BEq.comm (a:=r.line),BEq.comm (a:=r.code)];cases t[k].line==r.line<;>cases t[k].code==r.code<;>rfl) (by
  unfold FG av aQ xG xI;dsimp only;rw[aU,aq]) (bO)
 grind
def akN(l:aa bU)(C:l.length<1073741824):LD l=some (kH l):=by
 unfold LD kH bE;have e:=fT (step:=LC) _ (Gb l) (λi=>((l,l,l.length,i,()),())) _ _ aR (λk h=>by
   rw[cX]at h;rw[js,SY h];have D:=aBj l h C;unfold LC yg av aQ xG xI bE;dsimp only;rw[aW,au,az ⟨by omega,by omega⟩];simp only[bD,dB,ak,bne];rw[bM ⟨by omega,by omega,by omega⟩];rw[show (0:Int).toNat=0 from rfl,D];cases aL l[k].line 0 1023<;>cases l[k].code==1<;>cases l[k].code==2<;>cases aL l[k].times 1 999<;>cases (l.take k).any (kV l[k])<;>first|rfl|(simp only[au,aq,bC,iW,ak,Sum.elim_inr,eJ];rw[bB];rfl)) (by
   rw[cX];unfold LC av aQ xG xI bE;dsimp only;rw[aU,aq]) (by rw[cX];exact bO)
 refine(aY (λo=>Option.bind o _) e).trans ?_
 cases (List.range _).all _<;>rfl
def SZ(l:aa Int)(x:Int)(C:l.length<1073741824):CZ l x=some (gw (λe=>x==e) l):=by
 unfold CZ gw;have e:=vY (step:=Ly) l (λe=>x==e) (λi=>((l,x,l.length,i,()),())) _ _ aR (λk h=>by
  unfold Ly av aQ xG xI;dsimp only;rw[aW,au,az ⟨by omega,by omega⟩];simp only[bD];rw[bB];cases x==l[k]<;>rfl) (by
  unfold Ly av aQ xG xI;dsimp only;rw[aU,aq]) (bO C)
 rw[cu]at e;rw[e];cases l.findIdx? _<;>rfl
def Dl(t:bQ)(i:Nat):Bool:=match t.rows[i]?,t.counts[i]? with
 |some r,some c=>aL r (-1) 15&&(aL c t.cY 100000&&((r != -1 ||c==0)&&(r == -1 ||!((t.rows.take i).any λx=>r==x))))
 |_,_=>false
def S0{t:bQ}{i:Nat}(h:i<t.rows.length)(C:i<t.counts.length):Dl t i=(aL t.rows[i] (-1) 15&&(aL t.counts[i] t.cY 100000&&((t.rows[i] != -1 || t.counts[i]==0)&&(t.rows[i] == -1 || !((t.rows.take i).any λx=>t.rows[i]==x))))):=by
 unfold Dl;rw[bZ h,bZ C]
def kI(t:bQ):Bool:=aL (t.rows.length:Int) 1 16&&((t.rows.length:Int)==(t.counts.length:Int)&&(aL t.cY 0 100000&&(List.range t.rows.length).all (Dl t)))
def Zx(t:bQ):At t=some (kI t):=by
 unfold At kI bE;simp only[dB,ak];cases D:aL (t.rows.length:Int) 1 16 with
 |false=>rfl
 | true=>
  have D:=bJ.1 D;by_cases C:(t.rows.length:Int)=(t.counts.length:Int)
  ·simp only[C,dV,dR,bC,aq,cv];cases T:aL t.cY 0 100000 with
   |false=>rfl
   | true=>
    have e:=fT (step:=Lz) (List.range t.rows.length) (Dl t) (λi=>(((),t.rows,(t.rows.length:Int),(i:Int),()),((t.rows,t.counts,t.cY,()),()))) (.inl ((false,()),())) (.inr (.inl ((),()))) aR (λk h=>by
     rw[cX]at h;have E:k<t.counts.length:=by omega
     rw[js,S0 h E];unfold Lz av aQ xG xI;dsimp only;rw[aW,au,az ⟨by omega,by omega⟩,az ⟨by omega,by omega⟩,az ⟨by omega,by omega⟩];simp only[bD,dB,ak,SZ _ _ (show t.rows.length<1073741824 by omega)];rw[Ga (p:=λe=>t.rows[k]==e) h (by simp),bB];simp only[bne];cases aL t.rows[k] (-1) 15<;>cases aL t.counts[k] t.cY 100000<;>cases t.rows[k] == -1<;>cases t.counts[k]==0<;>cases (t.rows.take k).any (λe=>t.rows[k]==e)<;>rfl) (by
     rw[cX];unfold Lz av aQ xG xI;dsimp only;rw[aU,aq]) (by rw[cX];exact bO)
    rw[cu,C]at e;simp only[bC,aq,cv]
    refine(aY (λo=>Option.bind o _) e).trans ?_
    rw[ak];cases (List.range t.rows.length).all (Dl t)<;>rfl
  ·have L:((t.rows.length:Int)==(t.counts.length:Int))=false:=by simp[C]
   have O:((t.counts.length:Int) != (t.rows.length:Int))=true:=fO λh=>C h.symm
   rw[L,O];rfl
def aBk(t:bQ){i:Nat}(h:i<t.rows.length)(C:t.rows.length<1073741824):
  iter EW aR (((),(i:Int),(0:Int),()),((t.rows,t.counts,t.cY,()),()))=some (bif decide (t.rows[i] >= 0)&&(t.rows.take i).any (λx=>t.rows[i]==x)then .inl ((false,()),())else .inr (.inl (((),(i:Int),()),((t.rows,t.counts,t.cY,()),())))):=by
 have hlen:(t.rows.take i).length=i:=by rw[fJ];omega
 have e:=fT (step:=EW) (t.rows.take i) (λx=>!(decide (t.rows[i] >= 0)&&t.rows[i]==x)) (λj=>(((),(i:Int),(j:Int),()),((t.rows,t.counts,t.cY,()),()))) _ _ aR (λk D=>by
  unfold EW av aQ xG xI;dsimp only;rw[aW,au,az ⟨by omega,by omega⟩,az ⟨by omega,by omega⟩,az ⟨by omega,by omega⟩];simp only[bD,List.getElem_take];rw[bB,BEq.comm (a:=t.rows[k])];cases decide (t.rows[i] >= 0)<;>cases t.rows[i]==t.rows[k]<;>rfl) (by
  rw[hlen];unfold EW av aQ xG xI;dsimp only;rw[aU,aq]) (bO)
 grind
def Zy(t:bQ):CD t=some (kI t):=by
 unfold CD kI bE;simp only[eA,ak];cases D:aL (t.rows.length:Int) 1 16 with
 |false=>rfl
 | true=>
  have D:=bJ.1 D;by_cases C:(t.rows.length:Int)=(t.counts.length:Int)
  ·simp only[C,dV,dR,bC,aq,cv];cases Y:aL t.cY 0 100000 with
   |false=>rfl
   | true=>
    have e:=fT (step:=J4) (List.range t.rows.length) (Dl t) (λi=>(((),(i:Int),()),((t.rows,t.counts,t.cY,()),()))) (.inl ((false,()),())) (.inr (.inl ((),()))) aR (λk h=>by
     rw[cX]at h;have O:k<t.counts.length:=by omega
     have T:=aBk t h (by omega);rw[js,S0 h O];unfold J4 av aQ xG xI bE;dsimp only;rw[aW,au,az ⟨by omega,by omega⟩,az ⟨by omega,by omega⟩,az ⟨by omega,by omega⟩,az ⟨by omega,by omega⟩];simp only[bD,eA,ak];rw[T,ak];cases E:aL t.rows[k] (-1) 15 with
     |false=>rfl
     | true=>
      have E:=bJ.1 E;cases aL t.counts[k] t.cY 100000 with
      |false=>rfl
      | true=>
       simp only[bC,aq,cv,bne];by_cases L:t.rows[k] = -1
       ·rw[aW (show t.rows[k]<0 by omega),aU (show ¬ t.rows[k] >= 0 by omega),show (t.rows[k] == -1)=true by simp[L]];simp;rw[bB]
        grind
       ·rw[aU (show ¬ t.rows[k]<0 by omega),aW (show t.rows[k] >= 0 by omega),show (t.rows[k] == -1)=false by simp[L]];simp only[au,aq,cv];cases (t.rows.take k).any λx=>t.rows[k]==x with
        |true=>rfl
        | false=>
         simp;rw[bB];rfl) (by
     rw[cX];unfold J4 av aQ xG xI bE;dsimp only;rw[aU,aq]) (by rw[cX];exact bO)
    rw[cu]at e;simp only[bC,aq,cv]
    refine(aY (λo=>Option.bind o _) e).trans ?_
    rw[ak];cases (List.range t.rows.length).all (Dl t)<;>rfl
  ·have U:((t.rows.length:Int)==(t.counts.length:Int))=false:=by simp[C]
   rw[U,fO C];rfl
def w9(g:aV):W6 ((9:Int)*(W6 (bf g+(1:Int))))=9*(bf g+1):=by
 have:=fG g;rw[aO (n:=bf g+1),aO]
def MA(k:Int):x5 k=some (aL k 1 5):=by
 unfold x5;rw[dB];rfl
def aBl(n:Int)(u:Bool)(k:Int):C4 n u k=some (bif u then aL n 0 (W6 (k-1))else n==0):=by
 unfold C4;rw[dB];cases u<;>rfl
def oh(g:aV)(i:Nat):Bool:=decide ((i:Int) / 9<bf g)==decide ((i:Int) % 9+1<=5)
def aBm(g:aV){i:Nat}(hi:i<1000):Qu g (i:Int)=some (oh g i):=by
 unfold Qu oh;rw[sA,ak,rF (by omega),rG (by omega),aO,aO,BEq.comm]
def aBn(g:aV){i:Nat}(hi:i<1000):∃ c,CW g (i:Int)=some (c,oh g i):=by
 unfold CW oh;rw[n9,ak,rF (by omega),rG (by omega),aO,aO,MA];have:aL (i % 9+1) 1 5=decide ((i:Int) % 9+1 <= 5):=by
  simp[aL];omega
 rw[this];cases decide (i / 9<bf g)<;>exact⟨_,rfl⟩
def Dm(g:aV)(l:aa Int)(i:Nat):Bool:=match l[i]? with
 |some e=>aL e (-1) 1000000&&(oh g i ||e == -1)
 |none=>false
def MB{g:aV}{l:aa Int}{i:Nat}(h:i<l.length):Dm g l i=(aL l[i] (-1) 1000000&&(oh g i || l[i] == -1)):=by
 unfold Dm;rw[bZ h]
def om(l:aa Int)(i:Nat):Bool:=match l[i]? with
 |some e=>aL e 0 1000000&&(i==0 ||(match l[i-1]? with|some x=>!(decide (x >= e))|none=>false))
 |none=>false
def MC{l:aa Int}(h:0<l.length):om l 0=aL l[0] 0 1000000:=by
 unfold om;rw[bZ h];simp
def Gc{l:aa Int}{i:Nat}(h:i+1<l.length):om l (i+1)=(aL l[i+1] 0 1000000 && !(decide (l[i] >= l[i+1]))):=by
 unfold om
 grind
def kW(g:aV)(r:dn):Bool:=cI g&&((r.last.length:Int)==9*(bf g+1)&&(!(decide ((r.bx.length:Int) > 4))&&((List.range r.last.length).all (Dm g r.last)&&(List.range r.bx.length).all (om r.bx))))
def Zz(g:aV)(r:dn):Fz g r=some (kW g r):=by
 unfold Fz kW bE;rw[yd,ak,n9];cases T:cI g with
 |false=>rfl
 | true=>
  simp only[bC,aq,ak,cv,w9];by_cases C:(r.last.length:Int)=9*(bf g+1)
  ·have U:=fG g;rw[C,dV,aq,dR,cv,<-C];cases D:decide ((r.bx.length:Int) > 4)with
   |true=>rfl
   | false=>
    have D:=of_decide_eq_false D;have l1:=fT (step:=Lo) (List.range r.last.length) (Dm g r.last) (λi=>(((),(),r.last,(r.last.length:Int),(i:Int),()),((g.cH,g.aB,g.rows,g.aT,()),(r.last,r.bx,()),()))) (.inl ((false,()),())) (.inr (.inl (((),()),((r.last,r.bx,()),())))) aR (λk h=>by
     rw[cX]at h;obtain⟨c,E⟩:=aBn g (i:=k) (by omega);rw[js,MB h];unfold Lo av aQ xG xI;dsimp only;rw[aW,au,az ⟨by omega,by omega⟩];simp only[bD,dB,ak,sE,E,bne];rw[bB];cases aL r.last[k] (-1) 1000000<;>cases oh g k<;>cases r.last[k] == -1<;>rfl) (by
     rw[cX];unfold Lo av aQ xG xI;dsimp only;rw[aU,aq]) (by rw[cX];exact bO)
    have l2:=fT (step:=Lp) (List.range r.bx.length) (om r.bx) (λi=>(((),r.bx,(r.bx.length:Int),(i:Int),()),((r.last,r.bx,()),()))) (.inl ((false,()),())) (.inr (.inl ((),()))) aR (λk h=>by
     rw[cX]at h;rw[js];unfold Lp av aQ xG xI;dsimp only;rw[aW,au,az ⟨by omega,by omega⟩];simp only[bD,dB,ak];cases k with
     | zero=>
      rw[MC h];cases aL r.bx[0] 0 1000000 with
      |false=>rfl
      | true=>
       rw[aU];rfl
     | succ k=>
      rw[Gc h];have L:W6 (((k+1:Nat):Int)-1)=(k:Int):=by rw[aO];omega
      simp only[L,bD];rw[aW (show ((k+1:Nat):Int) > 0 by omega),az ⟨by omega,by omega⟩,bB];cases aL r.bx[k+1] 0 1000000<;>cases decide (r.bx[k] >= r.bx[k+1])<;>rfl) (by
     rw[cX];unfold Lp av aQ xG xI;dsimp only;rw[aU,aq]) (by rw[cX];exact bO)
    rw[cu]at l1 l2;simp only[iW,aq,cv]
    refine(aY (λo=>Option.bind o _) l1).trans ?_
    rw[ak];cases (List.range r.last.length).all (Dm g r.last)with
    |false=>rfl
    | true=>
     simp only[au,Sum.elim_inr,eJ,cv]
     refine(aY (λo=>Option.bind o _) l2).trans ?_
     rw[ak];cases (List.range r.bx.length).all (om r.bx)<;>rfl
  ·have O:((r.last.length:Int)==9*(bf g+1))=false:=by simp[C]
   rw[fO C,O];rfl
def akO(g:aV)(r:dn):JX g r=some (kW g r):=by
 unfold JX kW bE;rw[F8,ak,sA];cases O:cI g with
 |false=>rfl
 | true=>
  simp only[bC,aq,ak,cv,w9];by_cases C:(r.last.length:Int)=9*(bf g+1)
  ·have T:=fG g;rw[C,dV,aq,dR,cv];cases D:decide ((r.bx.length:Int) > 4)with
   |true=>rfl
   | false=>
    have D:=of_decide_eq_false D;have l1:=fT (step:=JV) (List.range r.last.length) (Dm g r.last) (λi=>(((),(),(i:Int),()),((g.cH,g.aB,g.rows,g.aT,()),(r.last,r.bx,()),()))) (.inl ((false,()),())) (.inr (.inl (((),()),((r.last,r.bx,()),())))) aR (λk h=>by
     rw[cX]at h;rw[js,MB h];unfold JV av aQ xG xI;dsimp only;rw[aW,au,az ⟨by omega,by omega⟩,az ⟨by omega,by omega⟩];simp only[bD,eA,ak,sE,aBm g (show k<1000 by omega),bne];rw[bB];cases aL r.last[k] (-1) 1000000<;>cases oh g k<;>cases r.last[k] == -1<;>rfl) (by
     rw[cX];unfold JV av aQ xG xI;dsimp only;rw[aU,aq]) (by rw[cX];exact bO)
    have l2:=fT (step:=JW) (List.range r.bx.length) (om r.bx) (λi=>(((),(i:Int),()),((r.last,r.bx,()),()))) (.inl ((false,()),())) (.inr (.inl ((),()))) aR (λk h=>by
     rw[cX]at h;rw[js];unfold JW av aQ xG xI;dsimp only;rw[aW,au,az ⟨by omega,by omega⟩];simp only[bD,eA,ak];cases k with
     | zero=>
      rw[MC h];cases aL r.bx[0] 0 1000000 with
      |false=>rfl
      | true=>
       rw[aU];rfl
     | succ k=>
      rw[Gc h];have E:W6 (((k+1:Nat):Int)-1)=(k:Int):=by rw[aO];omega
      simp only[E,bD];rw[aW (show ((k+1:Nat):Int) > 0 by omega),az ⟨by omega,by omega⟩,az ⟨by omega,by omega⟩,bB];cases aL r.bx[k+1] 0 1000000<;>cases decide (r.bx[k] >= r.bx[k+1])<;>rfl) (by
     rw[cX];unfold JW av aQ xG xI;dsimp only;rw[aU,aq]) (by rw[cX];exact bO)
    rw[cu]at l1 l2;simp only[iW,aq,cv]
    refine(aY (λo=>Option.bind o _) l1).trans ?_
    rw[ak];cases (List.range r.last.length).all (Dm g r.last)with
    |false=>rfl
    | true=>
     simp only[au,Sum.elim_inr,eJ,cv]
     refine(aY (λo=>Option.bind o _) l2).trans ?_
     rw[ak];cases (List.range r.bx.length).all (om r.bx)<;>rfl
  ·have L:((r.last.length:Int)==9*(bf g+1))=false:=by simp[C]
   rw[fO C,L];rfl
def aBo(l:aa Int)(x:Int)(C:l.length<1073741824):Qy l x=some (l.any λe=>e==x):=by
 unfold Qy bE;have e:=fT (step:=J0) l (λe=>!(e==x)) (λi=>((l,x,i,()),())) _ _ aR (λk h=>by
  unfold J0 av aQ xG xI;dsimp only;rw[aW,au,az ⟨by omega,by omega⟩];simp only[bD];rw[bB];cases l[k]==x<;>rfl) (by
  unfold J0 av aQ xG xI;dsimp only;rw[aU,aq]) (bO C)
 rw[cu]at e;rw[e];have:l.all (λe=>!(e==x)) = !l.any λe=>e==x:=by rw[List.any_eq_not_all_not,Bool.not_not]
 rw[this];cases l.any λe=>e==x<;>rfl
def aBp(l:aa Int)(x:Int)(C:l.length<1073741824):RH l x=some (l.count x:Int):=by
 unfold RH bh;have e:=cA (step:=Lt) _ (λi=>((x,((l.take i).count x),l,l.length,i,()),())) _ aR (λk h=>by
  unfold Lt av xG xI;have D:(l.take k).count x <= k:=Nat.le_trans List.count_le_length (by rw[fJ];omega);dsimp only;rw[aW,au,az ⟨by omega,by omega⟩];simp only[bD];rw[List.take_succ_eq_append_getElem h,List.count_append,List.count_singleton,bB,bB];cases l[k]==x<;>rfl) (by
  unfold Lt av xG xI;dsimp only;rw[aU,aq,iV]) (bO C)
 simp_all
def akP{x:Int}:∀ (l:aa Int),(∀ j (h:j<l.length),l[j]=x -> x ∉ l.take j) -> l.count x <= 1
 |[],_=>by simp
 | y :: ys,h=>by
  rw[List.count_cons];by_cases e:y=x
  ·have:x ∉ ys:=by
    intro C;have⟨j,E,D⟩:=jg.1 C;refine h (j+1) (by simp;omega) (by simpa using D) ?_;simp_all
   grind
  ·have:=akP ys λj E D C=>h (j+1) (by simp;omega) (by simpa using D) (by rw[List.take_succ_cons];exact List.mem_cons_of_mem _ C)
   simp_all
def aBq{x:Int}:∀ (l:aa Int) (j:Nat) (h:j<l.length),l[j]=x -> x∈l.take j -> 2 <= l.count x:=by
 intro l j h e C;have D:=List.count_pos_iff.2 C;have E:1 <= (l.drop j).count x:=List.count_pos_iff.2 (by rw[<- e];exact jg.2 ⟨0,by simp;omega,by simp⟩);have:l.count x=(l.take j).count x+(l.drop j).count x:=by rw[<- List.count_append,List.take_append_drop]
 omega
def q9(R M:Int)(L:aa Int)(j:Nat):Bool:=match L[j]? with
 |some e=>e==(j:Int) ||(aL e R M && !(decide ((L.count e:Int) > 1)))
 |none=>false
def AK(R M:Int)(L:aa Int)(j:Nat):Bool:=match L[j]? with
 |some e=>e==(j:Int) ||(aL e R M && !((L.take j).any λx=>x==e))
 |none=>false
def aBr(R M:Int)(L:aa Int)(Z:(L.length:Int)=R):(List.range L.length).all (q9 R M L)=(List.range L.length).all (AK R M L):=by
 rw[Bool.eq_iff_iff,cw,cw];simp only[gk];constructor
 ·intro h j C;have:=h j C;unfold q9 at this;unfold AK;rw[bZ C]at *
  simp only[eD,aN,ic,qt]at *
  rcases this with D|⟨D,Y⟩
  ·simp_all
  ·refine .inr ⟨D,?_⟩;rw[List.any_eq_false];intro x T O;have O:x=L[j]:=by simpa using O
   have:=aBq L j C rfl (O ▸ T);omega
 ·intro h j C;have:=h j C;unfold AK at this;unfold q9;rw[bZ C]at *
  simp only[eD,aN,ic,qt]at *
  rcases this with D|⟨D,Y⟩
  ·simp_all
  ·refine .inr ⟨D,?_⟩;have hle:=(bJ.1 D).1;have:=akP (x:=L[j]) L λk U e T=>by
    have E:=h k U;unfold AK at E;rw[bZ U]at E;simp only[eD,aN,ic]at E;rcases E with h3|⟨_,h4⟩
    ·grind
    ·grind
   omega
def jA(m:aa Int)(R b:Nat):aa Int:=(m.take ((b+1)*R)).drop (b*R)
def MD(m:aa Int)(R b:Nat):jA m R b=(m.drop (b*R)).take R:=by
 unfold jA;rw[List.drop_take,Nat.succ_mul,Nat.add_sub_cancel_left]
def ZA{m:aa Int}{R b:Nat}(h:(b+1)*R<=m.length):(jA m R b).length=R:=by
 rw[MD,fJ,List.length_drop];rw[Nat.succ_mul]at h;omega
def Dn{C R b j:Nat}(D:b<C)(E:j <= R):b*R+j <= C*R:=by
 have:=jD R D
 grind
def ME(R:Nat)(M:Int)(m:aa Int)(i:Nat):Bool:=match m[i]? with
 |some e=>e==((i % R:Nat):Int) ||(aL e (R:Int) M && !(((m.take i).drop (i / R*R)).any λx=>x==e))
 |none=>false
def akQ{R:Nat}{M:Int}{m:aa Int}{b j:Nat}(C:j<R):ME R M m (b*R+j)=AK (R:Int) M (jA m R b) j:=by
 unfold ME AK;have D:(b*R+j) % R=j:=by rw[Nat.mul_comm,Nat.mul_add_mod,Nat.mod_eq_of_lt C]
 have E:(b*R+j) / R=b:=by rw[Nat.mul_comm,Nat.mul_add_div (by omega),Nat.div_eq_of_lt C,Nat.add_zero]
 have L:(jA m R b)[j]?=m[b*R+j]?:=by rw[MD,List.getElem?_take_of_lt C,List.getElem?_drop]
 have O:(jA m R b).take j=(m.take (b*R+j)).drop (b*R):=by rw[MD,List.take_take,List.drop_take,Nat.add_sub_cancel_left,Nat.min_eq_left (Nat.le_of_lt C)]
 simp_all
def akR{n:Nat}(h:n<4611686018427387904):W6 (n:Int)=(n:Int):=aO
def aBs(R D:Nat)(L:0<R)(M:Int)(m:aa Int):(List.range (D*R)).all (ME R M m)=(List.range D).all λb=>(List.range R).all (AK (R:Int) M (jA m R b)):=by
 rw[Bool.eq_iff_iff,cw];simp;constructor
 ·intro h b E j C;rw[<- akQ C];refine h _ ?_;have:=Dn E (show j+1 <= R from C);omega
 ·intro h i hi;have E:i / R<D:=Nat.div_lt_of_lt_mul (by rw[Nat.mul_comm];exact hi);have C:i % R<R:=Nat.mod_lt _ L;have e:i / R*R+i % R=i:=by rw[Nat.mul_comm];exact Nat.div_add_mod i R
  have:=h _ E _ C;rw[<- akQ C,e]at this;exact this
def nt(g:aV)(s:eZ):Bool:=jW g s.cr&&((s.map.length:Int)==((bf g).toNat*(g.rows-s.cr).toNat:Nat)&&(List.range (bf g).toNat).all λb=>(List.range (g.rows-s.cr).toNat).all (q9 (g.rows-s.cr) (g.rows-1) (jA s.map (g.rows-s.cr).toNat b)))
def akS{g:aV}{s:eZ}{R C b:Nat}(D:g.rows-s.cr=(R:Int))(E:R<=16)(L:C<=8)(O:b<C)(Z:s.map.length=C*R):FB g s (b:Int)=some (b*R,(b+1)*R):=by
 have hm:C*R<=8*16:=Nat.mul_le_mul L E;have h1:b*R+R<=C*R:=Dn O (dM R);have T:W6 (g.rows-s.cr)=(R:Int):=by rw[D];exact aO
 have U:W6 ((b:Int)*(R:Int))=((b*R:Nat):Int):=by rw[<-Int.natCast_mul];exact aO
 have Y:W6 (((b+1:Nat):Int)*(R:Int))=(((b+1)*R:Nat):Int):=by
  rw[<-Int.natCast_mul];exact aO (by omega) (by rw[Nat.succ_mul];omega)
 unfold FB;rw[T,bB,U,Y,Nat.succ_mul,bM ⟨by omega,by omega,by omega⟩];simp only[bD]
def aBt{g:aV}{s:eZ}(R b:Int)(L:aa Int)(C:cI g=true)(D:L.length<1073741824):
  iter FC aR (((),(),R,b,L,L,(L.length:Int),(0:Int),()),((g.cH,g.aB,g.rows,g.aT,()),(s.cr,s.map,()),()))=some (bif (List.range L.length).all (q9 R (g.rows-1) L)then .inr (.inl (((),(),R,b,()),((g.cH,g.aB,g.rows,g.aT,()),(s.cr,s.map,()),())))else .inl ((false,()),())):=by
 have E:=fF C;have e:=fT (step:=FC) (List.range L.length) (q9 R _ L) (λi=>(((),(),R,b,L,L,L.length,i,()),((g.cH,g.aB,g.rows,g.aT,()),(s.cr,s.map,()),()))) _ _ aR (λk h=>by
  rw[cX]at h;rw[js];unfold FC q9 av aQ xG xI;dsimp only;rw[aW,au,az ⟨by omega,by omega⟩,bZ h];simp only[bD,dB,ak,aBp _ _ D,bne];rw[bB,aO (n:=g.rows-1)];cases L[k]==(k:Int)<;>cases aL L[k] R (g.rows-1)<;>cases decide ((L.count L[k]:Int) > 1)<;>rfl) (by
  rw[cX];unfold FC av aQ xG xI;dsimp only;rw[aU,aq]) (by rw[cX];exact bO)
 simp_all
def akT(g:aV)(s:eZ):Lv g s=some (nt g s):=by
 unfold Lv nt bE;rw[akA,ak,SQ];cases L:jW g s.cr with
 |false=>rfl
 | true=>
  obtain⟨U,s0,s2,DR,aBu⟩:=SP L;have Y:=fG g;have Z:((AH g s.cr).1.map.length:Int)=(((bf g).toNat*(g.rows-s.cr).toNat:Nat):Int):=by
   unfold AH;rw[L,au,Zl]
  rw[Z];obtain⟨C,D⟩:=gY Y.1;obtain⟨R,O⟩:=gY (show 0<=g.rows-s.cr by omega);rw[D,O];simp only[bD,bC,aq,cv];by_cases E:(s.map.length:Int)=((C*R:Nat):Int)
  ·have T:s.map.length=C*R:=by omega
   rw[E,dV,aq,dR,cv];have hw:W6 (R:Int)=(R:Int):=aO;have e:=fT (step:=Lu) (List.range C) (λb=>(List.range R).all (q9 (R:Int) (g.rows-1) (jA s.map R b))) (λi=>(((),(),(R:Int),(i:Int),()),((g.cH,g.aB,g.rows,g.aT,()),(s.cr,s.map,()),()))) (.inl ((false,()),())) (.inr (.inl ((),()))) aR (λk h=>by
    rw[cX]at h;rw[js];have hk:=Dn (R:=R) h (dM R);have hlen:(jA s.map R k).length=R:=ZA (by rw[Nat.succ_mul,T];exact hk);have wP:=aBt (g:=g) (s:=s) (R:Int) (k:Int) (jA s.map R k) U (by omega);unfold Lu av aQ xG bE;dsimp only;rw[sE,n9,ak,D,aW,au];have hbr:FB g (⟨s.cr,s.map⟩:eZ) (k:Int)=some (k*R,(k+1)*R):=akS (s:=⟨s.cr,s.map⟩) O (by omega) (by omega) h T;rw[hbr,ak];have hc:(Nat.ble (k*R) ((k+1)*R)&&Nat.ble ((k+1)*R) s.map.length)=true:=by
     rw[aN];exact⟨jr (by rw[Nat.succ_mul];omega),jr (by rw[Nat.succ_mul];omega)⟩
    rw[hc,au]
    refine(aY (λo=>Option.bind o _) wP).trans ?_
    rw[ak,hlen];cases (List.range R).all (q9 (R:Int) (g.rows-1) (jA s.map R k))with
    |false=>rfl
    | true=>
     simp only[au,Sum.elim_inr,eJ];rw[bB]) (by
    rw[cX];unfold Lu av aQ xG bE;dsimp only;rw[sE,n9,ak,D,aU,aq]) (by rw[cX];exact bO)
   rw[cu]at e;rw[hw]
   refine(aY (λo=>Option.bind o _) e).trans ?_
   rw[ak];cases (List.range C).all λb=>(List.range R).all (q9 (R:Int) (g.rows-1) (jA s.map R b))<;>rfl
  ·have e2:((s.map.length:Int)==((C*R:Nat):Int))=false:=by simp only[beq_eq_false_iff_ne];exact E
   rw[fO E,e2];rfl
def akU(g:aV)(s:eZ):J2 g s=some (nt g s):=by
 unfold J2 nt bE;rw[akz,ak,SQ];cases O:jW g s.cr with
 |false=>rfl
 | true=>
  obtain⟨T,s0,s2,DR,aBu⟩:=SP O;have U:=fG g;have gb:=fF T;obtain⟨C,Y⟩:=gY U.1;obtain⟨R,Z⟩:=gY (show 0<=g.rows-s.cr by omega);have hm:C*R<=8*16:=Nat.mul_le_mul (by omega) (by omega);have hw:W6 (R:Int)=(R:Int):=aO;have hmul:W6 ((C:Int)*(R:Int))=((C*R:Nat):Int):=by rw[<-Int.natCast_mul];exact aO
  rw[sA,ak,Y,Z,hw,hmul];simp only[bD,bC,aq,cv];by_cases D:(s.map.length:Int)=((C*R:Nat):Int)
  ·have wY:s.map.length=C*R:=by omega
   rw[D,dV,aq,dR,cv];have e:=fT (step:=J1) (List.range (C*R)) (ME R (g.rows-1) s.map) (λi=>(((),(),(R:Int),(i:Int),()),((g.cH,g.aB,g.rows,g.aT,()),(s.cr,s.map,()),()))) (.inl ((false,()),())) (.inr (.inl ((),()))) aR (λk h=>by
    rw[cX]at h;rw[js];have h':k<s.map.length:=by omega
    have ht:(k:Int).tmod (R:Int)=((k % R:Nat):Int):=(Int.ofNat_tmod k R).symm;have hd:(k:Int).tdiv (R:Int)=((k / R:Nat):Int):=(Int.ofNat_tdiv k R).symm;have Gd:k / R<=k:=Nat.div_le_self k R;have L:k / R*R<=k:=Nat.div_mul_le_self k R;have w1:W6 (((k / R:Nat):Int))=((k / R:Nat):Int):=akR (Nat.lt_of_le_of_lt Gd (by omega));have w2:W6 (((k / R:Nat):Int)*(R:Int))=((k / R*R:Nat):Int):=by rw[<-Int.natCast_mul];exact akR (Nat.lt_of_le_of_lt L (by omega))
    unfold J1 ME av aQ xG xI;rw[bZ h'];dsimp only;rw[aW,au,az ⟨by omega,by omega⟩,bX,az ⟨by omega,by omega⟩,bX,ht,hd,w1,w2,bM ⟨Int.natCast_nonneg _,Int.ofNat_le.2 L,by omega⟩,az ⟨by omega,by omega⟩];simp only[bD,eA,ak];rw[aBo _ _ (by rw[List.length_drop,fJ];omega),ak,bB,aO (n:=g.rows-1)];cases s.map[k]==((k % R:Nat):Int)<;>cases aL s.map[k] (R:Int) (g.rows-1)<;>cases ((s.map.take k).drop (k / R*R)).any (λx=>x==s.map[k])<;>rfl) (by
    rw[cX];unfold J1 av aQ xG xI;dsimp only;rw[aU,aq]) (by rw[cX];exact bO)
   rw[cu]at e
   refine(aY (λo=>Option.bind o _) e).trans ?_
   rw[ak,aBs R C (by omega)];have hAB:((List.range C).all λb=>(List.range R).all (AK (R:Int) (g.rows-1) (jA s.map R b)))=(List.range C).all λb=>(List.range R).all (q9 (R:Int) (g.rows-1) (jA s.map R b)):=by
    rw[Bool.eq_iff_iff,cw,cw]
    refine forall_congr' λb=>?_
    refine imp_congr_right λE=>?_
    have E:=gk.1 E;have hk:=Dn (R:=R) E (dM R);have hlen:(jA s.map R b).length=R:=ZA (by rw[Nat.succ_mul,wY];exact hk);have:=aBr (R:Int) (g.rows-1) (jA s.map R b) (by rw[hlen]);rw[hlen]at this;rw[this]
   rw[hAB];cases (List.range C).all λb=>(List.range R).all (q9 (R:Int) (g.rows-1) (jA s.map R b))<;>rfl
  ·have e2:((s.map.length:Int)==((C*R:Nat):Int))=false:=by simp only[beq_eq_false_iff_ne];exact D
   rw[fO D,e2];rfl
def jo(g:aV)(s:eZ):aV:=bif nt g s then ⟨g.cH,g.aB,W6 (g.rows-s.cr),g.aT⟩else ⟨0,0,0,0⟩
def ZB(g:aV)(s:eZ):FF g s=some (jo g s):=by
 unfold FF jo;rw[akT,ak];cases nt g s<;>rfl
def aBv(g:aV)(s:eZ):QF g s=some (jo g s):=by
 unfold QF jo;rw[akU,ak];cases nt g s<;>rfl
def oq(c:ax):ax:=c
def gx(a x:aI):Bool:=x.ay==a.ay&&(x.row==a.row&&(x.bR==a.bR&&true))
def ZC(l:aa aI)(a:aI)(C:l.length<1073741824):CE l a=some (gw (gx a) l):=by
 unfold CE gw bE;have e:=vY (step:=J5) l (gx a) (λi=>((l,(),i,()),((a.ay,a.row,a.bR,()),()))) _ _ aR (λk h=>by
  unfold J5 gx av aQ xG xI;dsimp only;rw[aW,au,az ⟨by omega,by omega⟩];simp only[bD];rw[bB];cases (l[k].ay==a.ay&&(l[k].row==a.row&&(l[k].bR==a.bR&&true)))<;>rfl) (by
  unfold J5 av aQ xG xI;dsimp only;rw[aU,aq]) (bO C)
 rw[cu]at e;rw[e];cases l.findIdx? _<;>rfl
def akV(l:aa aI)(a:aI)(C:l.length<1073741824):FD l a=some (gw (gx a) l):=by
 unfold FD gw;have e:=vY (step:=LA) l (gx a) (λi=>((l,(),l.length,i,()),((a.ay,a.row,a.bR,()),()))) _ _ aR (λk h=>by
  unfold LA gx av aQ xG xI;dsimp only;rw[aW,au,az ⟨by omega,by omega⟩];simp only[bD];rw[bB,BEq.comm (a:=a.ay),BEq.comm (a:=a.row),BEq.comm (a:=a.bR)];cases (l[k].ay==a.ay&&(l[k].row==a.row&&(l[k].bR==a.bR&&true)))<;>rfl) (by
  unfold LA av aQ xG xI;dsimp only;rw[aU,aq]) (bO C)
 rw[cu]at e;rw[e];cases l.findIdx? _<;>rfl
def partAt(c:ax)(i:Nat):Bool:=match c.bH[i]?,c.guard[i]? with
 |some t,some x=>kI t&&aL x 3 1000
 |_,_=>false
def ud(c:ax)(i:Nat):Bool:=match c.pending[i]? with
 |some a=>fj c.config.aE a&&(a.bR==0 && !((c.pending.take i).any (gx a)))
 |none=>false
def sF(c:ax):Bool:=(c.aP.aH.length:Int)==bf c.config.aE&&((c.bH.length:Int)==bf c.config.aE&&((c.guard.length:Int)==bf c.config.aE&&(!(decide ((c.pending.length:Int) > 128))&&((List.range c.bH.length).all (partAt c)&&(List.range c.pending.length).all (ud c)))))
def akW(c:ax)(n i:Int):QA (((),n,i,()),(oq c,()))=(bif (decide (i<n))then if C:0<=i/\i.toNat<c.bH.length then (CD (c.bH[i.toNat]'C.2)).bind λD=>bif (!D)then some (.inr (.inl ((false,()),())))else if E:0<=i/\i.toNat<c.guard.length then (cG (c.guard[i.toNat]'E.2) (3:Int) (1000:Int)).bind λL=>bif (!L)then some (.inr (.inl ((false,()),())))else some (.inl (((),n,(W6 (i+(1:Int))),()),(oq c,())))else none else none else some (.inr (.inr (.inl (((),()),(oq c,())))))):=rfl
def akX(c:ax)(i:Int):QB (((),i,()),(oq c,()))=(bif (decide (i<(c.pending.length:Int)))then if C:0<=i/\i.toNat<c.pending.length then (CC c.config.aE (c.pending[i.toNat]'C.2)).bind λD=>bif (!D)then some (.inr (.inl ((false,()),())))else bif ((c.pending[i.toNat]'C.2).bR != (0:Int))then some (.inr (.inl ((false,()),())))else (CE c.pending (c.pending[i.toNat]'C.2)).bind λE=>bif (E != i)then some (.inr (.inl ((false,()),())))else some (.inl (((),(W6 (i+(1:Int))),()),(oq c,())))else none else some (.inr (.inr (.inl ((),()))))):=rfl
def akY(c:ax)(G:(Int×Int×Int×Int×af))(n i:Int):RI (((),(),n,i,()),(oq c,G,()))=(bif (decide (i<n))then if C:0<=i/\i.toNat<c.bH.length then (At (c.bH[i.toNat]'C.2)).bind λD=>bif (!D)then some (.inr (.inl ((false,()),())))else if E:0<=i/\i.toNat<c.guard.length then (cz (c.guard[i.toNat]'E.2) (3:Int) (1000:Int)).bind λL=>bif (!L)then some (.inr (.inl ((false,()),())))else some (.inl (((),(),n,(W6 (i+(1:Int))),()),(oq c,G,())))else none else none else some (.inr (.inr (.inl (((),(),()),(oq c,G,())))))):=rfl
def akZ(c:ax)(g:aV)(l:aa aI)(n i:Int):RJ (((),(),l,n,i,()),(oq c,(g.cH,g.aB,g.rows,g.aT,()),()))=(bif (decide (i<n))then if C:0<=i/\i.toNat<l.length then (CY g (l[i.toNat]'C.2)).bind λD=>bif (!D)then some (.inr (.inl ((false,()),())))else bif ((l[i.toNat]'C.2).bR != (0:Int))then some (.inr (.inl ((false,()),())))else (FD c.pending (l[i.toNat]'C.2)).bind λE=>bif (E != i)then some (.inr (.inl ((false,()),())))else some (.inl (((),(),l,n,(W6 (i+(1:Int))),()),(oq c,(g.cH,g.aB,g.rows,g.aT,()),())))else none else some (.inr (.inr (.inl ((),()))))):=rfl
def aBw(c:ax):QC c=some (sF c):=by
 unfold QC sF bE;rw[sA,ak];have T:=fG c.config.aE;by_cases C:(c.aP.aH.length:Int)=bf c.config.aE
 ·by_cases D:(c.bH.length:Int)=bf c.config.aE
  ·by_cases E:(c.guard.length:Int)=bf c.config.aE
   ·rw[C,D,E,dV,dR,aq,cv,cv,cv,aq,aq];cases L:decide ((c.pending.length:Int) > 128)with
    |true=>rfl
    | false=>
     have L:=of_decide_eq_false L;have l1:=fT (step:=QA) (List.range c.bH.length) (partAt c) (λi=>(((),bf c.config.aE,(i:Int),()),(oq c,()))) (.inl ((false,()),())) (.inr (.inl (((),()),(oq c,())))) aR (λk h=>by
      rw[cX]at h;rw[js,akW,aW,au,az ⟨by omega,by omega⟩,az ⟨by omega,by omega⟩];simp only[bD,Zy,eA,ak];unfold partAt;rw[bZ h,bZ (show k<c.guard.length by omega),bB];simp only;cases kI c.bH[k]<;>cases aL (c.guard[k]'(by omega)) 3 1000<;>rfl) (by
      rw[cX,akW,aU,aq]) (by rw[cX];exact bO)
     have l2:=fT (step:=QB) (List.range c.pending.length) (ud c) (λi=>(((),(i:Int),()),(oq c,()))) (.inl ((false,()),())) (.inr (.inl ((),()))) aR (λk h=>by
      rw[cX]at h;rw[js,akX,aW,au,az ⟨by omega,by omega⟩];simp only[bD,Zb,ak,ZC _ _ (show c.pending.length<1073741824 by omega),bne];have O:=Ga (p:=gx c.pending[k]) h (by simp[gx]);rw[bne]at O;rw[O];unfold ud;rw[bZ h,bB];simp only;cases fj c.config.aE c.pending[k]<;>cases c.pending[k].bR==0<;>cases (c.pending.take k).any (gx c.pending[k])<;>rfl) (by
      rw[cX,akX,aU,aq]) (by rw[cX];exact bO)
     rw[cu]at l1 l2;simp only[iW,aq,cv]
     refine(aY (λo=>Option.bind o _) l1).trans ?_
     rw[ak];cases (List.range c.bH.length).all (partAt c)with
     |false=>rfl
     | true=>
      simp only[au,Sum.elim_inr,eJ,cv]
      refine(aY (λo=>Option.bind o _) l2).trans ?_
      rw[ak];cases (List.range c.pending.length).all (ud c)<;>rfl
   ·simp[C,D,fO E,E]
  ·simp[C,fO D,D]
 ·simp[fO C,C]
def aBx(c:ax)(T:c.aP.aH.length<1073741824):RK c=some (fB c.aP&&sF c):=by
 unfold RK sF bE;rw[n9,ak,My _ T,ak];cases fB c.aP with
 |false=>rfl
 |true=>
 simp only[bC,aq,cv];have b1:=fG c.config.aE;by_cases C:(c.aP.aH.length:Int)=bf c.config.aE
 ·by_cases D:(c.bH.length:Int)=bf c.config.aE
  ·by_cases E:(c.guard.length:Int)=bf c.config.aE
   ·have U:((c.aP.aH.length:Int) != bf c.config.aE)=false:=by simp[C]
    have Y:((c.bH.length:Int) != bf c.config.aE)=false:=by simp[D]
    have Z:((c.guard.length:Int) != bf c.config.aE)=false:=by simp[E]
    have q1:((c.aP.aH.length:Int)==bf c.config.aE)=true:=by simp[C]
    have q2:((c.bH.length:Int)==bf c.config.aE)=true:=by simp[D]
    have q3:((c.guard.length:Int)==bf c.config.aE)=true:=by simp[E]
    rw[U,Y,Z,q1,q2,q3];simp only[aq,cv];cases L:decide ((c.pending.length:Int) > 128)with
    |true=>rfl
    | false=>
     have L:=of_decide_eq_false L;have l1:=fT (step:=RI) (List.range c.bH.length) (partAt c) (λi=>(((),(),(c.bH.length:Int),(i:Int),()),(oq c,(c.config.aE.cH,c.config.aE.aB,c.config.aE.rows,c.config.aE.aT,()),()))) (.inl ((false,()),())) (.inr (.inl (((),(),()),(oq c,(c.config.aE.cH,c.config.aE.aB,c.config.aE.rows,c.config.aE.aT,()),())))) aR (λk h=>by
      rw[cX]at h;rw[js,akY,aW,au,az ⟨by omega,by omega⟩,az ⟨by omega,by omega⟩];simp only[bD,Zx,dB,ak];unfold partAt;rw[bZ h,bZ (show k<c.guard.length by omega),bB];simp only;cases kI c.bH[k]<;>cases aL (c.guard[k]'(by omega)) 3 1000<;>rfl) (by
      rw[cX,akY,aU,aq]) (by rw[cX];exact bO)
     have l2:=fT (step:=RJ) (List.range c.pending.length) (ud c) (λi=>(((),(),c.pending,(c.pending.length:Int),(i:Int),()),(oq c,(c.config.aE.cH,c.config.aE.aB,c.config.aE.rows,c.config.aE.aT,()),()))) (.inl ((false,()),())) (.inr (.inl ((),()))) aR (λk h=>by
      rw[cX]at h;rw[js,akZ,aW,au,az ⟨by omega,by omega⟩];simp only[bD,Za,ak,akV _ _ (show c.pending.length<1073741824 by omega),bne];have O:=Ga (p:=gx c.pending[k]) h (by simp[gx]);rw[bne]at O;rw[O];unfold ud;rw[bZ h,bB];simp only;cases fj c.config.aE c.pending[k]<;>cases c.pending[k].bR==0<;>cases (c.pending.take k).any (gx c.pending[k])<;>rfl) (by
      rw[cX,akZ,aU,aq]) (by rw[cX];exact bO)
     rw[cu]at l1 l2;simp only[iW,aq,cv]
     refine(aY (λo=>Option.bind o _) l1).trans ?_
     rw[ak];cases (List.range c.bH.length).all (partAt c)with
     |false=>rfl
     | true=>
      simp only[au,Sum.elim_inr,eJ,cv]
      refine(aY (λo=>Option.bind o _) l2).trans ?_
      rw[ak];cases (List.range c.pending.length).all (ud c)<;>rfl
   ·simp[C,D,fO E,E]
  ·simp[C,fO D,D]
 ·simp[fO C,C]
def sG(n:Int)(u:Bool)(k:Int):Bool:=bif u then aL n 0 (k-1)else n==0
def dL(g:aV)(c:aG):Bool:=cI g&&(aL c.kind 1 9&&(sG c.ay (aL c.kind 1 5) (bf g)&&(sG c.row (c.kind==1) g.rows&&sG c.bR (c.kind==2 ||c.kind==3) g.aT)))
def aBy(k:Int):RZ k=some (k==1):=by
 unfold RZ;rfl
def aBz(k:Int):R0 k=some (k==2 || k==3):=by
 unfold R0;cases k==2<;>rfl
def ZD{n k:Int}(u:Bool)(h:-1000<k/\k<1000):C4 n u k=some (sG n u k):=by
 rw[aBl,aO];rfl
def ZE(g:aV)(c:aG):FO g c=some (dL g c):=by
 unfold FO dL;rw[yd];cases C:cI g with
 |false=>rfl
 | true=>
  have D:=fG g;have E:=fF C;unfold YO;simp only[au,n9,ak,dB,MA,aBy,aBz,ZD _ (show -1000<bf g/\bf g<1000 by omega),ZD _ (show -1000<g.rows/\g.rows<1000 by omega),ZD _ (show -1000<g.aT/\g.aT<1000 by omega),cv]
  grind
def aBA(k:Int):Rc k=some (aL k 1 5,k==1,(k==2 || k==3)):=by
 obtain⟨y,e,h⟩:=aA0 k;rw[e,h]
def MF(c:aG):Bool:=(aL c.kind 1 5 ||c.ay==0)&&((c.kind==1 ||c.row==0)&&(((c.kind==2 ||c.kind==3) ||c.bR==0)&&(aL c.kind 1 9&&(aL c.ay 0 7&&(aL c.row 0 15&&aL c.bR 0 7)))))
def aBB(c:aG):Rd c=some (MF c):=by
 unfold Rd MF;simp only[aBA,ak,eA,bne]
 grind
def ak0(g:aV)(c:aG):KS g c=some (dL g c):=by
 unfold KS;rw[aBB,ak,Zb,ak];have key:(MF c&&fj g ⟨c.ay,c.row,c.bR⟩)=dL g c:=by
  unfold dL fj;cases D:cI g with
  |false=>simp
  | true=>
   have L:=fG g;have O:=fF D;rw[Bool.eq_iff_iff];simp only[MF,sG,aN,eD,gA,bJ,cv];constructor
   ·rintro⟨⟨h1,h2,h3,C,T,U,Y⟩,⟨Z,h9⟩,Ge⟩;refine⟨C,?_,?_,?_⟩
    ·cases hu:aL c.kind 1 5 with
     |true=>simp[au,bJ];omega
     | false=>simp only[aq,gA];rcases h1 with h1 | h1
              ·exact absurd (bJ.2 h1) (by rw[hu];simp)
              ·exact h1
    ·cases hu:c.kind==1 with
     |true=>simp[au,bJ];omega
     | false=>simp only[aq,gA];rcases h2 with h2 | h2
              ·simp_all
              ·exact h2
    ·cases hu:(c.kind==2 || c.kind==3)with
     |true=>simp[au,bJ];omega
     | false=>simp only[aq,gA];rcases h3 with (h3 | h3) | h3
              ·simp_all
              ·simp_all
              ·exact h3
   ·rintro⟨h1,h2,h3,C⟩;have f1:(1 <= c.kind/\c.kind <= 5 \/ c.ay=0)/\0 <= c.ay/\c.ay <= bf g-1:=by
     cases hu:aL c.kind 1 5 with
     |true=>rw[hu,au,bJ]at h2;exact⟨.inl (bJ.1 hu),h2⟩
     |false=>rw[hu,aq,gA]at h2;have:=akg D;exact⟨.inr h2,by omega⟩
    have f2:(c.kind=1 \/ c.row=0)/\0 <= c.row/\c.row <= g.rows-1:=by
     cases hu:c.kind==1 with
     |true=>rw[hu,au,bJ]at h3;exact⟨.inl (by simpa using hu),h3⟩
     |false=>grind
    have E:((c.kind=2 \/ c.kind=3) \/ c.bR=0)/\0 <= c.bR/\c.bR <= g.aT-1:=by
     cases hu:(c.kind==2 ||c.kind==3)with
     |true=>rw[hu,au,bJ]at C;exact⟨.inl (by simpa using hu),C⟩
     |false=>simp_all
    exact⟨⟨f1.1,f2.1,E.1,h1,by omega,by omega,by omega⟩,⟨by omega,by omega⟩,by omega⟩
 rw[<- key];cases MF c<;>rfl
def Dp{g:aV}{c:aG}(h:dL g c=true):cI g=true/\(1 <= c.kind/\c.kind <= 9)/\(c.kind <= 5 -> 0 <= c.ay/\c.ay<bf g)/\(5<c.kind -> c.ay=0):=by
 simp[dL,aN,bJ]at h
 refine⟨h.1,h.2.1,λD=>?_,λD=>?_⟩
 ·have:=h.2.2.1;rw[sG,show aL _ 1 5=true from bJ.2 ⟨h.2.1.1,D⟩,au,bJ]at this;omega
 ·have:=h.2.2.1;have C:aL c.kind 1 5=false:=by
   cases C:aL _ 1 5 with
   |false=>rfl
   |true=>have:=bJ.1 C;omega
  rwa [sG,C,aq,gA]at this
def kinds{k:Int}(h:1<=k/\k<=9):k=1\/k=2\/k=3\/k=4\/k=5\/k=6\/k=7\/k=8\/k=9:=by omega
def je(r:cy)(b:Int):cQ:=r.aB.getD b.toNat ⟨false,0⟩
def o8(r:cy)(c:aG):Bool:=
 bif c.kind==1 ||c.kind==5 then r.aZ==0 && !(je r c.ay).open_ else
 bif c.kind==2 ||c.kind==3 ||c.kind==4 then r.aZ==0&&(je r c.ay).open_ else
 bif c.kind==6 then r.aZ==0 else
 bif c.kind==8 then r.aZ==0&&r.aB.all (λb=>!b.open_)else
 bif c.kind==7 then r.aZ==1 else r.aZ==2
def fU(r:cy)(c:aG):cy:=
 bif c.kind==1 then ⟨r.aB.set c.ay.toNat ⟨true,c.row⟩,r.aZ⟩else
 bif c.kind==4 then ⟨r.aB.set c.ay.toNat ⟨false,0⟩,r.aZ⟩else
 bif c.kind==6 then ⟨r.aB,1⟩else
 bif c.kind==8 then ⟨r.aB,2⟩else
 bif c.kind==7 ||c.kind==9 then ⟨r.aB,0⟩else r
def ak1{r:cy}{b:Int}(h:b.toNat<r.aB.length):r.aB[b.toNat]=je r b:=by
 simp[je,h]
def ak2(r:cy):(((opens 0 r.aB).length:Int)==0)=r.aB.all λb=>!b.open_:=by
 rw[<-akI 0 r.aB,Bool.eq_iff_iff];simp only[gA];omega
def ak3(r:cy)(h:r.aB.length<1073741823):Kq r=some (opens 0 r.aB):=by
 unfold Kq bh;have e:=vU (step:=E5) (λi=>(((),(),(i:Int),()),((r.aB,r.aZ,()),opens 0 (r.aB.take i),()))) (z:=.inl (((),()),(opens 0 r.aB,()))) r.aB.length 0 aR (λk _ C=>?_) ?_ (by unfold aR;omega)
 ·have e:iter E5 aR (((),(),0,()),((r.aB,r.aZ,()),([]),()))=_:=e;simp_all
 ·have C:k<r.aB.length:=by omega
  unfold E5 av xG xI;dsimp only;have D:decide ((k:Int)<(r.aB.length:Int))=true:=aW;have E:0 <= (k:Int)/\(k:Int).toNat<r.aB.length:=⟨by omega,by simpa using C⟩
  have L:=SJ 0 (r.aB.take k);rw[fJ]at L;have O:bP ((opens 0 (r.aB.take k)).length+([(k:Int)]:aa Int).length)=true:=by
   unfold bP;simp;omega
  rw[D,au,az E,AE,qX C,Ze];simp only[bD,opens,fJ,fk,Nat.min_eq_left (Nat.le_of_lt C)];cases r.aB[k].open_ with
  |true=>grind
  |false=>grind
 ·rw[fk];unfold E5 av xG xI;simp_all
def aBC{r:cy}{c:aG}(D:1 <= c.kind/\c.kind <= 9)(C:c.kind <= 5 -> 0 <= c.ay/\c.ay.toNat<r.aB.length)(E:r.aB.length<1073741823):QT r c=some (o8 r c):=by
 unfold QT o8 xI;rcases kinds D with h|h|h|h|h|h|h|h|h
 case inr.inr.inr.inr.inr.inr.inr.inl=>simp[h,ak3 r E,ak2];cases r.aZ==0<;>rfl
 all_goals (try (have C:=C _))<;>simp[h,C,ak1]<;>(cases r.aZ==0<;>rfl)
def ZF(g:aV)(r:cy)(c:aG):LR g r c=some (lP g r&&(dL g c&&o8 r c)):=by
 unfold LR xI;rw[akJ,ak];cases D:lP g r with
 |false=>rfl
 | true=>
  rw[ZE,ak];cases E:dL g c with
  |false=>rfl
  | true=>
   have⟨T,L,C,_⟩:=Dp E;have hlen:(r.aB.length:Int)=bf g:=by
    simp[lP,aN,gA]at D;simp_all
   have U:=fG g;have C:c.kind <= 5 -> 0 <= c.ay/\c.ay.toNat<r.aB.length:=λh=>by have:=C h;omega
   have O:r.aB.length<1073741823:=by omega
   simp only[bC,aq,cv];unfold o8;rcases kinds L with h|h|h|h|h|h|h|h|h
   case inr.inr.inr.inr.inr.inr.inr.inl=>simp[h,SK r O,ak2];cases r.aZ==0<;>rfl
   all_goals (try (have C:=C (by omega)))<;>simp[h,C,ak1]<;>(cases r.aZ==0<;>rfl)
def mB(g:aV)(r:cy)(c:aG):Bool:=lP g r&&(dL g c&&o8 r c)
def ZG(g:aV)(r:cy)(c:aG):cy×Bool:=bif mB g r c then (fU r c,true)else (r,false)
def MG{g:aV}{r:cy}{c:aG}(h:mB g r c=true):cI g=true/\(r.aB.length:Int)=bf g/\(1 <= c.kind/\c.kind <= 9)/\(c.kind <= 5 -> 0 <= c.ay/\c.ay.toNat<r.aB.length):=by
 simp[mB,aN]at h;have⟨D,E,L,_⟩:=Dp h.2.1;have C:=h.1;simp[lP,aN,gA]at C;simp_all
def aBD(r:cy)(h:r.aB.length<1073741824):Fl r=some r:=by
 unfold Fl xA xZ;rw[show ([]).length+r.aB.length=r.aB.length by simp,di h];rfl
def aBE(g:aV)(r:cy)(c:aG)(h:r.aB.length<1073741824):L5 g r c=some (ZG g r c):=by
 unfold L5 ZG xL;rw[aBD r h,ZF];change (bif !(mB g r c)then _ else _)=_;cases C:mB g r c with
 |false=>rfl
 | true=>
  have⟨D,hlen,E,L⟩:=MG C;unfold fU
  grind
def ak4(r:cy)(c:aG):(fU r c).aB.length=r.aB.length:=by
 unfold fU
 grind
def Dq(t:c9)(a b:Int):Int:=
 bif a==1 then (bif b==2 ||b==3 then t.jF else bif b==4 then t.gI else bif b==1 ||b==5 then W6 (t.gI+t.rp)else 0)else
 bif a==2 then (bif b==4 then t.jh else bif b==1 ||b==5 then W6 (t.jh+t.rp)else 0)else
 bif a==3 then (bif b==4 then t.wr else bif b==1 ||b==5 then W6 (t.wr+t.rp)else 0)else
 bif a==4 then (bif b==1 ||b==5 then t.rp else 0)else
 bif a==5 then (bif b==1 ||b==5 then t.mN else 0)else 0
def Dr(t:c9)(a b:Int)(C:Bool):Int:=
 bif a==7 then t.xp else bif a==9 then t.xs else
 bif (a==6&&b==7) ||(a==8&&b==9)then t.nI else
 bif a==1&&b==1 then (bif C then t.jG else t.mI)else
 bif (a==2&&b==2) ||(a==3&&b==3)then (bif C then t.mK else t.mJ)else
 bif a==3&&b==2 then (bif C then t.mM else t.mL)else
 bif a==2&&b==3 then t.pG else
 bif a==5&&b==5 then t.jG else
 bif a==2&&b==6 then t.jh else bif a==3&&b==6 then t.wr else
 bif b==8 then Dq t a 1 else 0
def aBF(t:c9){a b:Int}(C:1<=a/\a<=9)(D:1<=b/\b<=9):R1 t a b=some (Dq t a b):=by
 rcases kinds C with rfl|rfl|rfl|rfl|rfl|rfl|rfl|rfl|rfl<;>rcases kinds D with rfl|rfl|rfl|rfl|rfl|rfl|rfl|rfl|rfl<;>kernel_rfl
def ZH(t:c9){a b:Int}(C:Bool)(D:1<=a/\a<=9)(E:1<=b/\b<=9):R2 t a b C=some (Dr t a b C):=by
 cases C<;>rcases kinds D with rfl|rfl|rfl|rfl|rfl|rfl|rfl|rfl|rfl<;>rcases kinds E with rfl|rfl|rfl|rfl|rfl|rfl|rfl|rfl|rfl<;>kernel_rfl
def ak5{t:c9}(C:iP t=true){a b:Int}(D:1 <= a/\a <= 9)(E:1 <= b/\b <= 9):Kr t a b=some (Dq t a b):=by
 unfold Kr;rw[SO,ak,C,bC];rcases kinds D with rfl|rfl|rfl|rfl|rfl|rfl|rfl|rfl|rfl<;>rcases kinds E with rfl|rfl|rfl|rfl|rfl|rfl|rfl|rfl|rfl<;>kernel_rfl
def ZI{t:c9}(E:iP t=true){a b:Int}(D:Bool)(C:1 <= a/\a <= 9)(L:1 <= b/\b <= 9):Ks t a b D=some (Dr t a b D):=by
 unfold Ks;rw[SO,ak,E,bC,aq,eA,ak,bJ.2 C,bC,aq,eA,ak,bJ.2 L,bC];by_cases O:b=8/\a≠7/\a≠9
 ·obtain⟨rfl,T,U⟩:=O;have e:=ak5 E C (b:=1) (by omega);rcases kinds C with rfl|rfl|rfl|rfl|rfl|rfl|rfl|rfl|rfl<;>first|exact absurd rfl T|exact absurd rfl U|simp[e,Dr]
 ·cases D<;>rcases kinds C with rfl|rfl|rfl|rfl|rfl|rfl|rfl|rfl|rfl<;>rcases kinds L with rfl|rfl|rfl|rfl|rfl|rfl|rfl|rfl|rfl<;>first|exact absurd ⟨rfl,by omega,by omega⟩ O|kernel_rfl
def S1(a b:aG):Bool:=aL a.kind 1 5&&aL b.kind 1 5
def MI(g:aV)(a b:aG):Bool:=S1 a b&&(W6 (a.ay.tdiv g.aB)==W6 (b.ay.tdiv g.aB))
def vZ(g:aV)(t:c9)(a b:aG):Int:=
 bif S1 a b&&a.ay==b.ay then max (max 1 (Dr t a.kind b.kind (MI g a b))) (Dq t a.kind b.kind)else max 1 (Dr t a.kind b.kind (MI g a b))
def S2(x y:Int):(if x > y then x else y)=max x y:=by
 rw[Int.max_def];split<;>split<;>omega
def ak6{g:aV}{b:Int}(h:0<=b/\b<bf g)(C:cI g=true):LU g b=some (W6 (b.tdiv g.aB)):=by
 have D:=fG g;have E:=fF C;unfold LU;rw[n9,ak,dB,ak,aO,bJ.2 ⟨h.1,by omega⟩,bC,aq,bX]
def MJ{k:Int}(h:1<=k/\k<=9):aL k 1 5=decide (k<=5):=by
 unfold aL;rw[aW h.1,cv]
def aBG{g:aV}(t:c9){a b:aG}(E:cI g=true)(C:1 <= a.kind/\a.kind <= 9)(D:1 <= b.kind/\b.kind <= 9)(L:a.kind <= 5 -> 0 <= a.ay/\a.ay<bf g)(O:b.kind <= 5 -> 0 <= b.ay/\b.ay<bf g):LV g t a b=some (vZ g t a b):=by
 unfold LV vZ MI S1;simp only[MA,ak];cases T:aL a.kind 1 5 with
 | false=>
  simp;rw[ZH t false C D,ak,S2,Int.max_comm]
 | true=>
  cases U:aL b.kind 1 5 with
  | false=>
   simp;rw[ZH t false C D,ak,S2,Int.max_comm]
  | true=>
   have Y:=bJ.1 T;have Z:=bJ.1 U;simp only[au,cv];rw[ak6 (L Y.2) E,ak,ak6 (O Z.2) E,ak,ZH t _ C D,ak,aBF t C D];cases a.ay==b.ay with
   |false=>grind
   |true =>grind
def aBH{g:aV}{t:c9}{a b:aG}(L:cI g=true)(E:iP t=true)(C:1 <= a.kind/\a.kind <= 9)(D:1 <= b.kind/\b.kind <= 9):Af g t a b=some (vZ g t a b):=by
 have O:=fF L;unfold Af vZ MI S1;rw[MJ C,MJ D];cases decide (a.kind <= 5)with
 | false=>
  simp;rw[ZI E false C D,ak,S2]
 | true=>
  cases decide (b.kind <= 5)with
  | false=>
   simp;rw[ZI E false C D,ak,S2]
  | true=>
   simp only[au,cv,Bool.and_self];rw[bX,bX,ZI E _ C D,ak,ak5 E C D]
   grind
def ZJ{t:c9}(h:iP t=true):∀ x∈od t,1 <= x/\x <= 64:=by
 simp[iP,aN,cw]at h;exact λx C=>bJ.1 (h.1 x C)
def ak7{t:c9}(h:iP t=true)(a b:Int):0 <= Dq t a b/\Dq t a b <= 128:=by
 have C:=ZJ h;simp only[od,gX,List.not_mem_nil,or_false,forall_eq_or_imp,forall_eq]at C;have⟨D,E,L,O,T,U,Y,Z,h9,Ge,AL,tE,ue,AM,AN,zP,Ds⟩:=C;unfold Dq;rw[aO (n:=t.gI+t.rp),aO (n:=t.jh+t.rp),aO (n:=t.wr+t.rp)]
 grind
def aBI{c:Bool}{x y a b:Int}(C:a<=x/\x<=b)(D:a<=y/\y<=b):a<=(bif c then x else y)/\(bif c then x else y)<=b:=by
 cases c
 ·exact D
 ·exact C
def aBJ{t:c9}(h:iP t=true)(a b:Int)(n:Bool):0 <= Dr t a b n/\Dr t a b n <= 128:=by
 have C:=ZJ h;simp[od,gX,forall_eq_or_imp,forall_eq]at C;have D:=ak7 h a 1
 repeat' (first|exact D|refine aBI ?_ ?_|omega)
def jf(g:aV)(c:aG):Int:=9*(bif aL c.kind 1 5 then c.ay else bf g)+c.kind-1
def ZK{g:aV}{c:aG}(h:dL g c=true):0 <= jf g c/\jf g c<9*(bf g+1):=by
 have⟨C,D,E,_⟩:=Dp h;have L:=fG g;unfold jf
 grind
def aBK{g:aV}{c:aG}(h:dL g c=true):Si g c=some (jf g c):=by
 have⟨C,D,E,_⟩:=Dp h;have L:=fG g;unfold Si jf;simp[n9,ak,MA];cases hu:aL _ 1 5 with
 | true=>
  have:=bJ.1 hu;simp;rw[aO (n:=9*c.ay),aO (n:=9*c.ay+c.kind),aO]
 | false=>
  simp;rw[aO (n:=9*bf g),aO (n:=9*bf g+c.kind),aO]
def ak8(r:dn)(C:r.last.length<1073741824)(D:r.bx.length<1073741824):Fm r=some r:=by
 unfold Fm xA xZ;rw[show ([]).length+r.last.length=r.last.length by simp,di C,show ([]).length+r.bx.length=r.bx.length by simp,di D];rfl
def ak9(r:dn)(C:r.last.length<1073741824)(D:r.bx.length<1073741824):tP r=some r:=ak8 r C D
def Dt(r:dn)(x:Int):Bool:=match r.bx.getLast? with
 |some y=>decide (x<=y)
 |none=>false
def Du(l:aa Int)(x:Int):aa Int:=(l++[x]).drop (l.length+1-4)
def uf(g:aV)(r:dn)(e:cO):dn:=
 bif kW g r&&(dL g e.cmd&&(aL e.at_ 0 1000000 && !(e.cmd.kind==1&&Dt r e.at_)))then ⟨r.last.set (jf g e.cmd).toNat e.at_,bif e.cmd.kind==1 then Du r.bx e.at_ else r.bx⟩else r
def S3{g:aV}{r:dn}(h:kW g r=true):cI g=true/\(r.last.length:Int)=9*(bf g+1)/\r.bx.length <= 4:=by
 simp[kW,aN,gA,ic,qt]at h
 grind
def ala{l:aa Int}(h:0<l.length)(C:(W6 ((l.length:Int)-1)).toNat<l.length)(D:l.length<1073741824):l.getLast?=some (l[(W6 ((l.length:Int)-1)).toNat]'C):=by
 have e:(W6 ((l.length:Int)-1)).toNat=l.length-1:=by rw[aO];omega
 simp only[e];rw[List.getLast?_eq_getElem?,bZ (by omega)]
def aBL(g:aV)(r:dn)(e:cO)(T:r.last.length<1073741824)(U:r.bx.length<1073741824):Sj g r e=some (uf g r e):=by
 unfold Sj uf xA xI xL xZ;rw[ak8 r T U,ak,Zz,ak];cases Y:kW g r with
 |false=>rfl
 | true=>
  simp only[bC,aq,cv];rw[ZE,ak];cases D:dL g e.cmd with
  |false=>rfl
  | true=>
   simp only[bC,aq,cv];rw[dB,ak];cases ha:aL e.at_ 0 1000000 with
   |false=>rfl
   | true=>
    obtain⟨hg,hl,h4⟩:=S3 Y;have E:=ZK D;have b1:=fG g;simp only[bC,aq,cv,aBK D,ak];cases hk:(e.cmd.kind==1)with
    | false=>
     simp only[aq,Bool.false_and,iW,au];rw[az ⟨E.1,by omega⟩,az]
    | true=>
     have tl:∀ (A B:ah dn),(if tE:0<=jf g e.cmd/\(jf g e.cmd).toNat<r.last.length then if ue:(jf g e.cmd).toNat<r.last.length then (bif bP (r.bx.length+([e.at_]:aa Int).length)then if 0<=(if W6 (((r.bx++[e.at_]).length:Int)-4) > 0 then W6 (((r.bx++[e.at_]).length:Int)-4)else 0)/\(if W6 (((r.bx++[e.at_]).length:Int)-4) > 0 then W6 (((r.bx++[e.at_]).length:Int)-4)else 0)<=((r.bx++[e.at_]).length:Int)/\((r.bx++[e.at_]).length:Int)<=((r.bx++[e.at_]).length:Int)then bif bP (([]:aa Int).length+(((r.bx++[e.at_]).take (((r.bx++[e.at_]).length:Int).toNat)).drop ((if W6 (((r.bx++[e.at_]).length:Int)-4) > 0 then W6 (((r.bx++[e.at_]).length:Int)-4)else 0).toNat)).length)then some (⟨(r.last.set (jf g e.cmd).toNat e.at_),(([]:aa Int)++(((r.bx++[e.at_]).take (((r.bx++[e.at_]).length:Int).toNat)).drop ((if W6 (((r.bx++[e.at_]).length:Int)-4) > 0 then W6 (((r.bx++[e.at_]).length:Int)-4)else 0).toNat)))⟩:dn)else none else none else none)else A else B)=some ⟨r.last.set (jf g e.cmd).toNat e.at_,Du r.bx e.at_⟩:=by
      intro A B;have L:(r.bx++[e.at_]).length=r.bx.length+1:=by simp
      have Z:(if W6 (((r.bx.length+1:Nat):Int)-4) > 0 then W6 (((r.bx.length+1:Nat):Int)-4)else 0)=((r.bx.length+1-4:Nat):Int):=by
       rw[aO];split<;>omega
      rw[az ⟨E.1,by omega⟩,az,di (by simp;omega),au,L,Z,bM ⟨by omega,by omega,by omega⟩,di (by simp;omega),au];unfold Du;simp only[bD,List.nil_append];rw[<-L,iV]
     simp only[au,cv];unfold Dt;by_cases C:0<r.bx.length
     ·have O:(W6 ((r.bx.length:Int)-1))=((r.bx.length-1:Nat):Int):=by rw[aO];omega
      have hi:(W6 ((r.bx.length:Int)-1)).toNat<r.bx.length:=by rw[O];omega
      rw[aW (show (r.bx.length:Int) > 0 by omega),au,az ⟨by rw[O];omega,hi⟩,ala C hi (by omega)];dsimp only;cases decide (e.at_<=r.bx[(W6 ((r.bx.length:Int)-1)).toNat])with
      |true=>rfl
      | false=>
       simp only[aq,iW,au];exact tl _ _
     ·have C:r.bx=[]:=List.eq_nil_of_length_eq_zero (by omega);rw[aU (by rw[C];simp),aq];rw[show r.bx.getLast?=none by rw[C];rfl];simp only[iW,au];exact tl _ _
def aBM(g:aV)(r:dn)(e:cO)(h1:r.last.length<1073741824)(h2:r.bx.length<1073741824):Re g r e=some (uf g r e):=by
 unfold Re uf xA xI xL xZ;rw[ak9 r h1 h2,ak,akO,ak];cases hr:kW g r with
 |false=>rfl
 | true=>
  simp only[bC,aq,cv];rw[ak0,ak];cases O:dL g e.cmd with
  |false=>rfl
  | true=>
   simp only[bC,aq,cv];rw[eA,ak];cases ha:aL e.at_ 0 1000000 with
   |false=>rfl
   | true=>
    obtain⟨hg,hl,h4⟩:=S3 hr;obtain⟨_,hk9,hb,_⟩:=Dp O;have hp:=ZK O;have b1:=fG g;have pl:jf g e.cmd=bif decide (e.cmd.kind<=5)then 9*e.cmd.ay+e.cmd.kind-1 else 9*bf g+e.cmd.kind-1:=by
     unfold jf;rw[MJ hk9];cases decide (e.cmd.kind<=5)<;>rfl
    have T:decide (e.cmd.kind<=5)=true->W6 (W6 (W6 (9*e.cmd.ay)+e.cmd.kind)-1)=jf g e.cmd:=by
     intro C;have:=hb (of_decide_eq_true C);rw[aO (n:=9*e.cmd.ay),aO (n:=9*e.cmd.ay+e.cmd.kind),aO,pl,C];rfl
    have hW2:decide (e.cmd.kind<=5)=false->W6 (W6 (W6 (9*bf g)+e.cmd.kind)-1)=jf g e.cmd:=by
     intro C;rw[aO (n:=9*bf g),aO (n:=9*bf g+e.cmd.kind),aO,pl,C];rfl
    have E:∀l:aa Int,l.length<1073741824->tP ⟨r.last.set (jf g e.cmd).toNat e.at_,l⟩=some ⟨r.last.set (jf g e.cmd).toNat e.at_,l⟩:=λl wY=>ak9 _ (by simp;omega) wY
    have D:0<=jf g e.cmd/\(jf g e.cmd).toNat<r.last.length:=⟨hp.1,by omega⟩
    have o1:bP (([]:aa Int).length+r.bx.length)=true:=di (by simp;omega);have o2:bP ((([]:aa Int)++r.bx).length+([e.at_]:aa Int).length)=true:=di (by simp;omega);have U:((([]:aa Int)++r.bx)++([e.at_]:aa Int)).length=r.bx.length+1:=by simp
    have Y:(bif decide ((((r.bx.length+1:Nat):Int)) > 4)then if 0<=(1:Int)/\(1:Int)<=((r.bx.length+1:Nat):Int)/\((r.bx.length+1:Nat):Int)<=((r.bx.length+1:Nat):Int)then (tP (⟨r.last.set (jf g e.cmd).toNat e.at_,(((([]:aa Int)++r.bx)++([e.at_]:aa Int)).take (((r.bx.length+1:Nat):Int).toNat)).drop ((1:Int).toNat)⟩:dn)).bind λeM=>some eM else none else (tP (⟨r.last.set (jf g e.cmd).toNat e.at_,((([]:aa Int)++r.bx)++([e.at_]:aa Int))⟩:dn)).bind λgD=>some gD)=some ⟨r.last.set (jf g e.cmd).toNat e.at_,Du r.bx e.at_⟩:=by
     have et:((([]:aa Int)++r.bx)++([e.at_]:aa Int)).take (((r.bx.length+1:Nat):Int).toNat)=r.bx++[e.at_]:=by
      rw[bD,<-U,iV,List.nil_append]
     rw[et];unfold Du;by_cases h5:4<=r.bx.length
     ·rw[aW,au,bM ⟨by omega,by omega,by omega⟩,E _ (by simp;omega),ak,show r.bx.length+1-4=1 by omega];rfl
     ·rw[aU,aq,E _ (by simp;omega),ak,show r.bx.length+1-4=0 by omega];rfl
    simp only[bC,aq,cv,sA,ak];cases hk:(e.cmd.kind==1)with
    | false=>
     cases C:decide (e.cmd.kind<=5)with
     | true=>
      simp only[aq,Bool.false_and,iW,au,T C];rw[az D,az D.2,E _ (by omega),ak]
     | false=>
      simp only[aq,Bool.false_and,iW,au,hW2 C];rw[az D,az D.2,E _ (by omega),ak]
    | true=>
     have C:decide (e.cmd.kind<=5)=true:=by
      have:e.cmd.kind=1:=by simpa using hk
      exact aW
     simp only[au,cv,C,T C,o1,o2,U];unfold Dt;by_cases L:0<r.bx.length
     ·have Z:(W6 ((r.bx.length:Int)-1))=((r.bx.length-1:Nat):Int):=by rw[aO];omega
      have hi:(W6 ((r.bx.length:Int)-1)).toNat<r.bx.length:=by rw[Z];omega
      rw[aW (show (r.bx.length:Int) > 0 by omega),au,az ⟨by rw[Z];omega,hi⟩,ala L hi (by omega)];dsimp only;rw[show decide (r.bx[(W6 ((r.bx.length:Int)-1)).toNat] >= e.at_)=decide (e.at_<=r.bx[(W6 ((r.bx.length:Int)-1)).toNat])from rfl];cases decide (e.at_<=r.bx[(W6 ((r.bx.length:Int)-1)).toNat])with
      |true=>rfl
      | false=>
       simp only[aq,iW,au];rw[az D,az D.2];exact Y
     ·have L:r.bx=[]:=List.eq_nil_of_length_eq_zero (by omega);rw[aU (by rw[L];simp),aq];rw[show r.bx.getLast?=none by rw[L];rfl];simp only[iW,au];rw[az D,az D.2];exact Y
def ZL{t:c9}(C:iP t=true)(g:aV)(a b:aG):1 <= vZ g t a b/\vZ g t a b <= 128:=by
 have D:=aBJ C a.kind b.kind (MI g a b);have E:=ak7 C a.kind b.kind;unfold vZ
 grind
def alb{t:c9}(C:iP t=true):1<=t.jH/\t.jH<=64:=ZJ C _ (by simp[od])
def ZM{T:Type}{p:T -> Bool}{l:aa T}{i:Nat}{x:T}(h:l.all p=true)(C:p x=true):(l.set i x).all p=true:=by grind
def Gf{g:aV}{r:cy}(h:lP g r=true):cI g=true/\(r.aB.length:Int)=bf g/\(0 <= r.aZ/\r.aZ <= 2)/\r.aB.all (q6 g)=true/\(r.aZ=2 -> (r.aB.all λb=>!b.open_)=true):=by
 simp only[lP,aN,gA,bJ,eD,bne_iff_ne]at h
 grind
def Gg{g:aV}{r:cy}(C:cI g=true)(D:(r.aB.length:Int)=bf g)(E:0 <= r.aZ/\r.aZ <= 2)(L:r.aB.all (q6 g)=true)(O:r.aZ=2 -> (r.aB.all λb=>!b.open_)=true):lP g r=true:=by
 simp only[lP,aN,gA,bJ,eD,bne_iff_ne]
 grind
def alc{g:aV}{r:cy}{c:aG}(O:lP g r=true)(L:dL g c=true)(D:o8 r c=true):lP g (fU r c)=true:=by
 have⟨C,hlen,Z,E,hz⟩:=Gf O;have⟨_,T,hb,_⟩:=Dp L;have gb:=fF C;have U:c.kind=1 -> 0 <= c.row/\c.row <= g.rows-1:=by
  intro h;simp[dL,aN]at L;have:=L.2.2.2.1;rw[sG,h]at this
  simpa [bJ]using this
 rcases kinds T with h|h|h|h|h|h|h|h|h
 ·have e:fU r c=⟨r.aB.set c.ay.toNat ⟨true,c.row⟩,r.aZ⟩:=by simp[fU,h]
  have Y:r.aZ=0:=by simp[o8,h]at D;exact D.1
  rw[e];exact Gg C (by simpa using hlen) (by omega) (ZM E (by simp only[q6,aN,bJ];exact⟨U h,by simp⟩)) (λe=>by simp only at e;omega)
 ·have e:fU r c=r:=by simp[fU,h]
  simp_all
 ·have e:fU r c=r:=by simp[fU,h]
  simp_all
 ·have e:fU r c=⟨r.aB.set c.ay.toNat ⟨false,0⟩,r.aZ⟩:=by simp[fU,h]
  have Y:r.aZ=0:=by simp[o8,h]at D;exact D.1
  rw[e];exact Gg C (by simpa using hlen) (by omega) (ZM E (by simp only[q6,aN,bJ];exact⟨by omega,by simp⟩)) (λe=>by simp only at e;omega)
 ·have e:fU r c=r:=by simp[fU,h]
  simp_all
 ·have e:fU r c=⟨r.aB,1⟩:=by simp[fU,h]
  rw[e];exact Gg C hlen (by simp) E (λe=>by simp at e)
 ·have e:fU r c=⟨r.aB,0⟩:=by simp[fU,h]
  rw[e];exact Gg C hlen (by simp) E (λe=>by simp at e)
 ·have e:fU r c=⟨r.aB,2⟩:=by simp[fU,h]
  rw[e];exact Gg C hlen (by simp) E (λ_=>by simp[o8,h]at D;simpa using D.2)
 ·have e:fU r c=⟨r.aB,0⟩:=by simp[fU,h]
  rw[e];exact Gg C hlen (by simp) E (λe=>by simp at e)
def v5(n k:Nat):aa Int:=List.replicate k (-1)++List.replicate (n-k) 0
def aBN{n k:Nat}(h:k<=n):(v5 n k).length=n:=by
 unfold v5;simp;omega
def aBO{n k:Nat}(h:k<n):(v5 n k).set k (-1)=v5 n (k+1):=by
 obtain⟨m,rfl⟩:∃m,n=k+1+m:=⟨n-k-1,by omega⟩
 unfold v5;rw[show k+1+m-k=m+1 by omega,show k+1+m-(k+1)=m by omega,List.set_append_right _ _ (by simp),List.length_replicate,Nat.sub_self,List.replicate_succ,List.replicate_succ',List.append_assoc];rfl
def aBP(n:Nat):v5 n 0=List.replicate n 0:=by simp[v5]
def aBQ(n:Nat):v5 n n=List.replicate n (-1):=by simp[v5]
def aBR(n:Nat)(C:n<1073741824):Rj (n:Int)=some (List.replicate n (-1)):=by
 have e:=cA (step:=K1) n (λi=>((n,(),i,()),(v5 n i,()))) _ aR (λk h=>by
  have D:=aBN (show k <= n by omega);unfold K1 av xG xL;dsimp only;rw[aW,au,az ⟨by omega,by omega⟩,az,bB,bD,aBO h]) (by
  unfold K1 av xG xL;dsimp only;rw[aU,aq]) (bO)
 unfold Rj bh;rw[bM ⟨by omega,by omega,by omega⟩];rw[aBP,aBQ]at e;simp_all
def aBS(g:aV)(r:dn)(e:cO):(uf g r e).last.length=r.last.length/\(r.bx.length <= 4 -> (uf g r e).bx.length <= 4):=by
 unfold uf;cases (kW g r&&(dL g e.cmd&&(aL e.at_ 0 1000000 && !(e.cmd.kind==1&&Dt r e.at_))))with
 |false=>simp_all
 | true=>
  refine⟨by simp,λh=>?_⟩
  cases e.cmd.kind==1 with
  |false=>exact h
  | true=>
   simp[au,Du,List.length_drop,List.length_append,lT];omega
def aBT{α:Type}{cs:aa α}(o k:Nat):cs.drop o=(cs.drop o).take k++cs.drop (o+k):=by
 rw[<-List.drop_drop];exact(List.take_append_drop k _).symm
def iG{w:World}{B:Nat}{cs:aa Value}{n:Nat}(h:cs.length=n):bN w B [] (cs.drop n):=by
 rw[List.drop_of_length_le (by omega)];exact .nil
def bN.cut{w:World}{B:Nat}{C D:aa V}{cs:aa Value}{o k:Nat}(h:bN w B C ((cs.drop o).take k))(E:bN w B D (cs.drop (o+k))):bN w B (C++D) (cs.drop o):=by
 rw[aBT o k];exact bN.append h E
def oI{H:Type}{cV:TypeId×Value->H}{w:World}:aX cV Tryz.prog w 3 .int cx:=aX.int Tryz.underlying3
def ZN(x:bA):Prop:=cx x.id/\cx x.dN/\cx x.line/\True/\cx x.data/\cx x.at_
def aBU{H:Type}{cV:TypeId×Value->H}{w:World}:aX cV Tryz.prog w 121 .dw ZN:=λn cs x C=>by
 have D:=Tryz.underlying121;obtain⟨L,i0,O⟩:=aX.part D C (i:=0) rfl oI (off:=0) (k:=1) rfl (by kernel_rfl);obtain⟨T,U,Y⟩:=aX.part D C (i:=1) rfl oI (off:=1) (k:=1) rfl (by kernel_rfl);obtain⟨Z,i2,r2⟩:=aX.part D C (i:=2) rfl oI (off:=2) (k:=1) rfl (by kernel_rfl);obtain⟨a3,i3,r3⟩:=aX.part D C (i:=3) rfl (aX.bool Tryz.underlying4) (off:=3) (k:=1) rfl (by kernel_rfl);obtain⟨a4,i4,r4⟩:=aX.part D C (i:=4) rfl oI (off:=4) (k:=1) rfl (by kernel_rfl);obtain⟨a5,i5,r5⟩:=aX.part D C (i:=5) rfl oI (off:=5) (k:=1) rfl (by kernel_rfl);have E:=aX.len D C;have hc:Tryz.prog.cellsOf 121=6:=by kernel_rfl
 rw[hc]at E;exact⟨⟨L,T,Z,a3,a4,a5⟩,⟨i0,U,i2,i3,i4,i5⟩,bN.cut O (bN.cut Y (bN.cut r2 (bN.cut r3 (bN.cut r4 (bN.cut r5 ((iG E)))))))⟩
def ZO(x:aI):Prop:=cx x.ay/\cx x.row/\cx x.bR
def aBV{H:Type}{cV:TypeId×Value->H}{w:World}:aX cV Tryz.prog w 123 .Addr ZO:=λn cs x C=>by
 have D:=Tryz.underlying123;obtain⟨L,i0,O⟩:=aX.part D C (i:=0) rfl oI (off:=0) (k:=1) rfl (by kernel_rfl);obtain⟨T,U,Y⟩:=aX.part D C (i:=1) rfl oI (off:=1) (k:=1) rfl (by kernel_rfl);obtain⟨Z,i2,r2⟩:=aX.part D C (i:=2) rfl oI (off:=2) (k:=1) rfl (by kernel_rfl);have E:=aX.len D C;have hc:Tryz.prog.cellsOf 123=3:=by kernel_rfl
 rw[hc]at E;exact⟨⟨L,T,Z⟩,⟨i0,U,i2⟩,bN.cut O (bN.cut Y (bN.cut r2 ((iG E))))⟩
def ald(x:kL):Prop:=cx x.down/\cx x.sleep
def aBW{H:Type}{cV:TypeId×Value->H}{w:World}:aX cV Tryz.prog w 34 .nK ald:=λn cs x C=>by
 have D:=Tryz.underlying34;obtain⟨L,i0,O⟩:=aX.part D C (i:=0) rfl oI (off:=0) (k:=1) rfl (by kernel_rfl);obtain⟨T,U,Y⟩:=aX.part D C (i:=1) rfl oI (off:=1) (k:=1) rfl (by kernel_rfl);have E:=aX.len D C;have Z:Tryz.prog.cellsOf 34=2:=by kernel_rfl
 rw[Z]at E;exact⟨⟨L,T⟩,⟨i0,U⟩,bN.cut O (bN.cut Y ((iG E)))⟩
def S4(x:fz):Prop:=cx x.eO/\cx x.cap/\cx x.fD/\cx x.low/\cx x.high/\(x.weights.length<=maxLen/\∀y∈x.weights,cx y)/\ald x.eK
def ale{H:Type}{cV:TypeId×Value->H}{w:World}:aX cV Tryz.prog w 36 .lU S4:=λn cs x C=>by
 have D:=Tryz.underlying36;obtain⟨L,i0,O⟩:=aX.part D C (i:=0) rfl oI (off:=0) (k:=1) rfl (by kernel_rfl);obtain⟨T,U,Y⟩:=aX.part D C (i:=1) rfl oI (off:=1) (k:=1) rfl (by kernel_rfl);obtain⟨Z,i2,r2⟩:=aX.part D C (i:=2) rfl oI (off:=2) (k:=1) rfl (by kernel_rfl);obtain⟨a3,i3,r3⟩:=aX.part D C (i:=3) rfl oI (off:=3) (k:=1) rfl (by kernel_rfl);obtain⟨a4,i4,r4⟩:=aX.part D C (i:=4) rfl oI (off:=4) (k:=1) rfl (by kernel_rfl);obtain⟨a5,i5,r5⟩:=aX.part D C (i:=5) rfl (aX.sl Tryz.underlying32 (by kernel_rfl) oI) (off:=5) (k:=1) rfl (by kernel_rfl);obtain⟨a6,i6,r6⟩:=aX.part D C (i:=6) rfl aBW (off:=6) (k:=2) rfl (by kernel_rfl);have E:=aX.len D C;have hc:Tryz.prog.cellsOf 36=8:=by kernel_rfl
 rw[hc]at E;exact⟨⟨L,T,Z,a3,a4,a5,a6⟩,⟨i0,U,i2,i3,i4,i5,i6⟩,bN.cut O (bN.cut Y (bN.cut r2 (bN.cut r3 (bN.cut r4 (bN.cut r5 (bN.cut r6 ((iG E))))))))⟩
def v7{T:Type}(U:T)(f:T->ah T)(l:aa T)(hf:∀ x∈l,f x=some x)(hl:l.length<1073741824):
  iter (α:=((aa T×af×Int×af)×(aa T×af))) (β:=(((af×af)×(aa T×af))⊕Empty)) (λx=>bif (decide (x.1.2.2.1<(x.1.1.length:Int)))then if C:0<=x.1.2.2.1/\x.1.2.2.1.toNat<x.1.1.length then (let D:=x.1.1[x.1.2.2.1.toNat]'C.2;(f D).bind λE=>if h4:0<=x.1.2.2.1/\x.1.2.2.1.toNat<x.2.1.length then if L:x.1.2.2.1.toNat<x.2.1.length then (let e6:=x.2.1[x.1.2.2.1.toNat]'L;some (.inl ((x.1.1,(),(W6 (x.1.2.2.1+(1:Int))),()),((x.2.1.set x.1.2.2.1.toNat E),()))))else none else none)else none else some (.inr (.inl (((),()),(x.2.1,())))))
   aR ((l,(),(0:Int),()),((List.replicate (l.length:Int).toNat U),()))=some (.inl (((),()),(l,()))):=by
 obtain⟨z,C,h2⟩:=Y9 (step:=(λx:((aa T×af×Int×af)×(aa T×af))=>(bif (decide (x.1.2.2.1<(x.1.1.length:Int)))then if C:0<=x.1.2.2.1/\x.1.2.2.1.toNat<x.1.1.length then (let D:=x.1.1[x.1.2.2.1.toNat]'C.2;(f D).bind λE=>if h4:0<=x.1.2.2.1/\x.1.2.2.1.toNat<x.2.1.length then if L:x.1.2.2.1.toNat<x.2.1.length then (let e6:=x.2.1[x.1.2.2.1.toNat]'L;some (.inl ((x.1.1,(),(W6 (x.1.2.2.1+(1:Int))),()),((x.2.1.set x.1.2.2.1.toNat E),()))))else none else none)else none else some (.inr (.inl (((),()),(x.2.1,())))):ah (((aa T×af×Int×af)×(aa T×af))⊕(((af×af)×(aa T×af))⊕Empty)))))
  (λx=>∃(i:Nat) (a:aa T),x=((l,(),(i:Int),()),(a,()))/\i<=l.length/\a.length=l.length/\∀j,j<i->a[j]?=l[j]?)
  (λx=>l.length-x.1.2.2.1.toNat) (λz=>z = .inl (((),()),(l,()))) (by
   rintro x ⟨i,a,rfl,hi,Y,Z⟩;dsimp only;by_cases h:i<l.length
   ·left;have O:decide ((i:Int)<(l.length:Int))=true:=by simpa using h
    have c2:0<=(i:Int)/\(i:Int).toNat<l.length:=⟨by omega,by simpa using h⟩
    have c3:0<=(i:Int)/\(i:Int).toNat<a.length:=⟨by omega,by rw[Y];simpa using h⟩
    rw[O,au,az c2,hf _ (cU _),ak,az c3,az c3.2]
    refine⟨_,rfl,⟨i+1,a.set i (l[i]'h),?_,by omega,by simpa using Y,λj nN=>?_⟩,?_⟩
    ·rw[aO];simp
    ·rw[List.getElem?_set];by_cases e:i=j
     ·subst e;rw[bM rfl,bM,bZ h]
     ·rw[bX e];exact Z j (by omega)
    ·dsimp only;rw[aO];omega
   ·right;have O:decide ((i:Int)<(l.length:Int))=false:=by simpa using h
    rw[O,aq];refine⟨_,rfl,?_⟩;have:a=l:=List.ext_getElem? λj=>by
     by_cases Bg:j<l.length
     ·exact Z j (by omega)
     ·rw[List.getElem?_eq_none (by omega),List.getElem?_eq_none (by omega)]
    rw[this])
  aR ((l,(),(0:Int),()),((List.replicate (l.length:Int).toNat U),())) ⟨0,_,rfl,by omega,by simp,λj h=>by omega⟩ (by dsimp only;unfold aR;omega)
 rw[C,h2]
def v8{T:Type}(f:T->T->ah Bool)(l:aa T)(Z:∀ x∈l,f x x=some true)(hl:l.length<1073741824):
  iter (α:=((aa T×aa T×Int×af)×af)) (β:=(((Bool×af)×af)⊕((af×af)⊕Empty))) (λx=>bif (decide (x.1.2.2.1<(x.1.1.length:Int)))then if C:0<=x.1.2.2.1/\x.1.2.2.1.toNat<x.1.1.length then (let D:=x.1.1[x.1.2.2.1.toNat]'C.2;if E:0<=x.1.2.2.1/\x.1.2.2.1.toNat<x.1.2.1.length then (let L:=x.1.2.1[x.1.2.2.1.toNat]'E.2;(f D L).bind λO=>bif (!O)then some (.inr (.inl ((false,()),())))else some (.inl ((x.1.1,x.1.2.1,(W6 (x.1.2.2.1+(1:Int))),()),())))else none)else none else some (.inr (.inr (.inl ((),())))))
   aR ((l,l,(0:Int),()),())=some (.inr (.inl ((),()))):=by
 obtain⟨z,C,h2⟩:=Y9 (step:=(λx:((aa T×aa T×Int×af)×af)=>(bif (decide (x.1.2.2.1<(x.1.1.length:Int)))then if C:0<=x.1.2.2.1/\x.1.2.2.1.toNat<x.1.1.length then (let D:=x.1.1[x.1.2.2.1.toNat]'C.2;if E:0<=x.1.2.2.1/\x.1.2.2.1.toNat<x.1.2.1.length then (let L:=x.1.2.1[x.1.2.2.1.toNat]'E.2;(f D L).bind λO=>bif (!O)then some (.inr (.inl ((false,()),())))else some (.inl ((x.1.1,x.1.2.1,(W6 (x.1.2.2.1+(1:Int))),()),())))else none)else none else some (.inr (.inr (.inl ((),())))):ah (((aa T×aa T×Int×af)×af)⊕(((Bool×af)×af)⊕((af×af)⊕Empty))))))
  (λx=>∃(i:Nat),x=((l,l,(i:Int),()),())/\i<=l.length)
  (λx=>l.length-x.1.2.2.1.toNat) (λz=>z = .inr (.inl ((),()))) (by
   rintro x ⟨i,rfl,hi⟩;dsimp only;by_cases h:i<l.length
   ·left;have U:decide ((i:Int)<(l.length:Int))=true:=by simpa using h
    have Y:0<=(i:Int)/\(i:Int).toNat<l.length:=⟨by omega,by simpa using h⟩
    rw[U,au,az Y,az Y,Z _ (cU _),ak];refine⟨_,rfl,⟨i+1,?_,by omega⟩,?_⟩
    ·rw[aO];simp
    ·dsimp only;rw[aO];omega
   ·right;have U:decide ((i:Int)<(l.length:Int))=false:=by simpa using h
    rw[U,aq];exact⟨_,rfl,rfl⟩)
  aR ((l,l,(0:Int),()),()) ⟨0,rfl,by omega⟩ (by dsimp only;unfold aR;omega)
 rw[C,h2]
def Sz(n:Int)(Q:Prop)(o:ah Int):Prop:=∃y,o=some y/\(y<0\/0<=y/\y<=n/\Q)
def Sz.bind{n:Int}{Q R:Prop}{o:ah Int}{g:Int->ah Int}(h:Sz n Q o)(C:∀ y,0<=y->y<=n->Q->Sz n R (g y)):Sz n R (o.bind λy=>bif (decide (y<(0:Int)))then some (-1:Int)else g y):=by
 obtain⟨y,rfl,h|⟨D,E,L⟩⟩:=h
 ·rw[ak,aW h];exact⟨-1,rfl,.inl (by omega)⟩
 ·rw[ak,aU];exact C y D E L
def Sz.done{n:Int}{Q:Prop}{y:Int}(C:0<=y)(D:y<=n)(E:Q):Sz n Q (some y):=⟨y,rfl,.inr ⟨C,D,E⟩⟩
def Sz.le{n m:Int}{Q:Prop}{o:ah Int}(h:Sz n Q o)(E:n<=m):Sz m Q o:=by
 obtain⟨y,e,h|⟨C,L,D⟩⟩:=h
 ·exact⟨y,e,.inl h⟩
 ·exact⟨y,e,.inr ⟨C,by omega,D⟩⟩
def Sz.imp{n:Int}{Q R:Prop}{o:ah Int}(h:Sz n Q o)(C:Q->R):Sz n R o:=by
 obtain⟨y,e,h|⟨D,E,L⟩⟩:=h
 ·exact⟨y,e,.inl h⟩
 ·exact⟨y,e,.inr ⟨D,E,C L⟩⟩
def AO{α:Type}{l:aa α}{n:Int}(C:l.length<=maxLen)(D:0<=n)(E:n<=1048576):Sz n (l.length<=1048576) (bif (decide ((W6 (n-(l.length:Int)))<(0:Int)))then some (-1:Int)else some (W6 (n-(l.length:Int)))):=by
 unfold maxLen at C;rw[aO];by_cases c:n-(l.length:Int)<0
 ·rw[aW c];exact⟨-1,rfl,.inl (by omega)⟩
 ·rw[aU c];exact⟨_,rfl,.inr ⟨by omega,by omega,by omega⟩⟩
def alf{T:Type}(f:T->Int->ah Int)(l:aa T){Q:T->Prop}(hl:l.length<=1048576)(hf:∀ x∈l,∀ n:Int,0<=n->n<=1048576->Sz n (Q x) (f x n)){n:Int}(h0:0<=n)(C:n<=1048576):
  Sz n (∀x∈l,Q x) ((iter (α:=((aa T×Int×Int×af)×af)) (β:=(((Int×af)×af)⊕(((Int×af)×af)⊕Empty))) (λx=>bif (decide (x.1.2.2.1<(x.1.1.length:Int)))then if C:0<=x.1.2.2.1/\x.1.2.2.1.toNat<x.1.1.length then (let L:=x.1.1[x.1.2.2.1.toNat]'C.2;(f L x.1.2.1).bind λD=>bif (decide (D<(0:Int)))then some (.inr (.inl (((-1:Int),()),())))else some (.inl ((x.1.1,D,(W6 (x.1.2.2.1+(1:Int))),()),())))else none else some (.inr (.inr (.inl ((x.1.2.1,()),()))))) aR ((l,n,(0:Int),()),())).bind (Sum.elim (λz4=>some z4.1.1) (Sum.elim (λz5=>some z5.1.1) (λz=>nomatch z)))):=by
 obtain⟨z,e,hz⟩:=aAq (step:=(λx:((aa T×Int×Int×af)×af)=>(bif (decide (x.1.2.2.1<(x.1.1.length:Int)))then if C:0<=x.1.2.2.1/\x.1.2.2.1.toNat<x.1.1.length then (let L:=x.1.1[x.1.2.2.1.toNat]'C.2;(f L x.1.2.1).bind λD=>bif (decide (D<(0:Int)))then some (.inr (.inl (((-1:Int),()),())))else some (.inl ((x.1.1,D,(W6 (x.1.2.2.1+(1:Int))),()),())))else none else some (.inr (.inr (.inl ((x.1.2.1,()),())))):ah (((aa T×Int×Int×af)×af)⊕(((Int×af)×af)⊕(((Int×af)×af)⊕Empty))))))
  l.length (λi x=>i<=l.length/\∃m:Int,x=((l,m,(i:Int),()),())/\0<=m/\m<=n/\∀j (E:j<l.length),j<i->Q l[j]) (λz=>(∃y:Int,y<0/\z = .inl ((y,()),()))\/∃y:Int,0<=y/\y<=n/\z = .inr (.inl ((y,()),()))/\∀x∈l,Q x) (x:=((l,n,(0:Int),()),())) aR ⟨by omega,n,rfl,h0,by omega,λj _ h=>by omega⟩ (by
  rintro k hk x ⟨_,m,rfl,O,Z,U⟩;dsimp only;rw[aW,au,az ⟨by omega,by omega⟩];simp only[bD];obtain⟨y,e,h⟩:=hf l[k] (cU hk) m O (by omega);rw[e,ak];rcases h with h|⟨C,h2,Y⟩
  ·right;rw[aW h,au];exact⟨_,rfl,.inl ⟨-1,by omega,rfl⟩⟩
  ·left;rw[aU,aq,bB]
   refine⟨_,rfl,by omega,y,rfl,C,by omega,λj E hjk=>?_⟩
   by_cases e:j=k
   ·subst e;exact Y
   ·exact U j E (by omega)) (by
  rintro x ⟨_,m,rfl,O,Z,U⟩;dsimp only;rw[aU,aq]
  refine⟨_,rfl,.inr ⟨m,O,Z,rfl,λx hx=>?_⟩⟩
  obtain⟨j,E,rfl⟩:=jg.1 hx;exact U j E E) (bO)
 rw[e,ak];rcases hz with ⟨y,h,rfl⟩|⟨y,h2,Y,rfl,h4⟩
 ·exact⟨y,rfl,.inl h⟩
 ·exact⟨y,rfl,.inr ⟨h2,Y,h4⟩⟩
def AP(x:fz):Prop:=(x.weights.length<=1048576)
def aBX(x:bA):IV x=some x:=by
 unfold IV;rfl
def aBY(x:bA):I5 x x=some true:=by
 unfold I5;simp only[ak,dV,dR,bC,aq]
def aBZ(x:aI):IU x=some x:=by
 unfold IU;rfl
def aB0(x:aI):I4 x x=some true:=by
 unfold I4;simp only[ak,dV,dR,bC,aq]
def ug(x:aa Int)(h:(x.length<=maxLen/\∀ y∈x,cx y)){n:Int}(C:0<=n)(D:n<=1048576):Sz n (x.length<=1048576) (qT x n):=by
 exact AO h.1 C D
def uh(x:aa Int)(C:(x.length<=1048576)):p9 x=some x:=by
 have E:=C;have D:=v7 ((0:Int):Int) some x (λy L=>rfl) (by omega);unfold p9 bh;rw[bM ⟨by omega,by omega,by omega⟩]
 refine(aY (λo=>Option.bind o _) D).trans ?_
 rfl
def uj(x:aa Int)(C:(x.length<=1048576)):qa x x=some true:=by
 have E:=C;have D:=v8 (λa b:Int=>some (a==b)) x (λy L=>by simp) (by omega);unfold qa bE;rw[show ((x.length:Int) != (x.length:Int))=false by simp,aq]
 refine(aY (λo=>Option.bind o _) D).trans ?_
 rfl
def aB1(x:kL):Pm x=some x:=by
 unfold Pm;rfl
def aB2(x:kL):PU x x=some true:=by
 unfold PU;simp only[ak,dV,dR,bC,aq]
def alg(x:fz)(h:S4 x){n:Int}(C:0<=n)(D:n<=1048576):Sz n (AP x) (IL x n):=by
 obtain⟨i0,U,Y,Z,i4,E,i6⟩:=h;unfold IL
 refine Sz.bind (ug x.weights E C D) λy5 L O T=>?_
 exact Sz.done L O T
def alh(x:fz)(C:AP x):IP x=some x:=by
 have D:=C;unfold IP;rw[uh x.weights D,ak,aB1 x.eK,ak]
def ali(x:fz)(C:AP x):I0 x x=some true:=by
 have D:=C;unfold I0;simp only[uj x.weights D,aB2 x.eK,ak,dV,dR,bC,aq]
def place(l:aa bA)(id:Int):Int:=match l.findIdx? (λr=>r.id==id)with
 |some i=>(i:Int)
 |none=>-1
def aB3(l:aa (Int×Bool))(k j:Int):mc (mY l k true) j=(j==k || mc l j):=by
 induction l with
 |nil =>rfl
 | cons p ps D=>
  simp only[mY];cases C:(k==p.1)with
  | true=>
   have e:k=p.1:=by simpa using C
   rw[au];simp[mc]
   grind
  | false=>
   rw[aq];simp only[mc]
   grind
def aB4(g:aV)(a:cZ)(L:∀ c∈a.cells,c.symbols.length<1073741824):Qx g a=some (mz g a):=by
 unfold Qx mz bE;rw[F8,ak,Ml,sA];cases O:cI g with
 |false=>rfl
 | true=>
  have Z:=oa g;have b2:=qe g;have er:bf g*g.rows=gu g:=by simp[gu,O]
  simp only[bC,aq,ak,cv,er];rw[aO];by_cases C:(a.cells.length:Int)=fH g
  ·by_cases D:(a.bz.length:Int)=gu g
   ·by_cases E:(a.bu.length:Int)=gu g
    ·have T:a.bz.length=a.bu.length:=by omega
     have l1:=fT (step:=JY) a.cells AF (λi=>(((),(i:Int),()),((a.cells,a.bz,a.bu,()),()))) (.inl ((false,()),())) (.inr (.inl (((),()),((a.cells,a.bz,a.bu,()),())))) aR (λk h=>by
      unfold JY av aQ xG xI;simp (disch:=omega) [h,bB,Mp _ 11 (L _ (cU h)),AF];cases q5 a.cells[k].symbols 11<;>rfl) (by unfold JY av aQ xG xI;simp) (bO)
     have l2:=fT (step:=JZ) (a.bz.zip a.bu) sD (λi=>(((),(i:Int),()),((a.cells,a.bz,a.bu,()),()))) (.inl ((false,()),())) (.inr (.inl ((),()))) aR (λk h=>by
      have U:k<a.bz.length:=by simp at h;omega
      have Y:k<a.bu.length:=by omega
      unfold JZ av aQ xG xI;simp (disch:=omega) [U,Y,bB,eA,sD];cases aL a.bz[k] 0 100000<;>cases aL a.bu[k] 0 100000<;>rfl) (by unfold JZ av aQ xG xI;simp[T]) (bO (by simp;omega))
     rw[cu]at l1 l2;simp only[C,D,E,dV,aq,decide_true,cv];rw[l1];cases h1:a.cells.all AF with
     |false=>simp
     | true=>
      simp only[au,Option.bind_some,Sum.elim_inr,eJ];rw[l2];cases (a.bz.zip a.bu).all sD<;>simp
    ·simp[C,D,fO E,E]
   ·have e4:¬ (a.bu.length:Int)=(a.bz.length:Int)\/True:=.inr trivial;simp[C,fO D,D]
  ·simp[fO C,C]
def ri(g:aV)(a:aI):Nat:=(qf g a).toNat
def aB5{g:aV}{a:aI}(h:fj g a=true):qf g a=(ri g a:Int)/\(ri g a:Int)<fH g:=by
 have:=Zc h;unfold ri;omega
def eX.MK{g:aV}{B:Int}{a:cZ}(C:eX g B a)(k:Nat){c:bK}(D:Sy c.symbols):eX g B ⟨a.cells.set k c,a.bz,a.bu⟩:=
 ⟨by simp[C.cells],Sy.cc C.syms D,C.bz,C.bu,C.Di,C.iO⟩
def lQ(R row:Int):aa Int:=(bif decide (0<row)then [row-1]else [])++(bif decide (row<R-1)then [row+1]else [])
def ZP{R row:Int}(O:2<=R)(T:R<=16)(U:0<=row)(Y:row<R):F1 R row=some (lQ R row):=by
 unfold F1 lQ xA xZ;have C:aL R 2 16=true:=by rw[bJ];omega
 have D:aL row 0 (R-1)=true:=by rw[bJ];omega
 rw[dB,ak,C,aO (n:=R-1),dB,aO (n:=row-1),aO (n:=row+1)];by_cases E:0<row<;>by_cases L:row<R-1<;>simp[D,E,L,bP]
def alj{R row:Int}(D:0 <= row)(E:row<R):∀ n∈lQ R row,0 <= n/\n<R:=by
 intro n C;unfold lQ at C
 grind
def aB6(R row:Int):(lQ R row).length <= 2:=by
 unfold lQ
 grind
def aB7{R row k:Int}{i:Nat}(hi:k+row=(i:Int))(C:0 <= k)(D:0 <= row)(H:aa Int):(lQ R row).foldl (λh n=>oY (k+n).toNat h) (H.set i 0)=vW R row i H:=by
 unfold lQ vW AG
 grind
def alk(k:Int):∀ (l:aa Int) (H:aa Int),(l.foldl (λh n=>oY (k+n).toNat h) H).length=H.length
 |[],H=>rfl
 |x::l,H=>by rw[List.foldl_cons,alk k l,Ms]
def alm(k:Int):∀ (l:aa Int) (H:aa Int),(∀ x∈H,0<=x/\x<=100000)->∀ x∈l.foldl (λh n=>oY (k+n).toNat h) H,0<=x/\x<=100000
 |[],H,h=>h
 |x::l,H,h=>by rw[List.foldl_cons];exact alm k l _ (SN h)
def aB8{g:aV}(D:cI g=true){B:Int}{a:cZ}(C:eX g B a)(hB:B <= 100000){n:Int}(O:0 <= n)(T:n <= 100000):FI g a n=some ⟨a.cells,a.bz.map (mA n),a.bu⟩:=by
 have U:=qe g;have Y:=C.bz;have E:aL n 0 100000=true:=by rw[bJ];omega
 unfold FI bh;rw[C.copy,ak,C.ok D hB,ak,dB,ak,E];have e:=cA (step:=LH) _ (λi=>((n,(),(),(a.bz.length:Int),(i:Int),()),(((),(),(),()),((),(),(),()),([]:aa bK),([]:aa Int),([]:aa Int),a.cells,upto (mA n) a.bz i,a.bu,()))) (.inl (((),(),()),(((),(),(),()),((),(),(),()),([]:aa bK),([]:aa Int),([]),a.cells,a.bz.map (mA n),a.bu,()))) aR (λk h=>by
  unfold LH av xG xL;have Z:=C.Di _ (cU h);have L:=F7 (mA n) a.bz k h;have D:=F6 (mA n) a.bz k h (by rw[AD];exact h);simp (disch:=omega) [AD,h,D,aO];rw[<- L];rfl) (by unfold LH av xG xL;simp[F5]) (bO)
 rw[cu,SH]at e;simp_all
def aB9(y:Int):0 <= bits .and .i64 y 15/\bits .and .i64 y 15 <= 15:=by
 have e:bits .and .i64 y 15=IntKind.wrap .i64 ((BitVec.ofInt 64 y &&& BitVec.ofInt 64 15).toNat):=rfl;have h:(BitVec.ofInt 64 y &&& BitVec.ofInt 64 15).toNat <= 15:=by
  exact Nat.le_trans Nat.and_le_right (by decide)
 rw[e,IntKind.wrap_i64];omega
def aln{n:Int}(C:0 <= n)(D:n<18446744073709551616):IntKind.u64.wrap n=n:=by
 have:IntKind.u64.wrap n=n % 18446744073709551616:=rfl
 grind
def r9(x:Int):Prop:=0<=x/\x<=1000000000
def i0:cx 0:=⟨by decide,by decide⟩
def lg(a:Nat):Nat:=(14688061253356765440 / 2 ^ (4*a)) % 16
def okB(C s1 s2 i:Nat):Bool:=!Nat.beq C 0&&(Nat.beq (gm C (pw i)) s1&&Nat.beq (gm s1 (pw i)) s2)
def loc(C s1 s2:Nat):ah Nat:=(List.range 11).find? (okB C s1 s2)
def Gh:ah Nat->Nat
 |some n=>n
 |none=>99
def aCa:(jd λa=>Nat.beq a 0 ||RR (Int.ofNat a)==some (Int.ofNat (lg a)))=true:=by kernel_rfl
def alo:(jd λC=>jd λs1=>jd λs2=>bif Nat.beq C 0 || Nat.beq s1 0 then Nat.beq (Gh (loc C s1 s2)) 99 else
  (λx=>!Nat.beq x 0&&Nat.beq (Gh (loc C s1 s2)) (bif Nat.blt (lg x) 11&&Nat.beq (gm s1 x) s2 then lg x else 99)) (gm s1 (iv C)))=true:=by kernel_rfl
def aCb:((List.range 11).all λn=>EY 2 (Int.ofNat n)==some (Int.ofNat (pw n)))=true:=by kernel_rfl
def ML{n:Nat}(h:n<11):EY 2 (n:Int)=some (pw n:Int):=eq_of_beq (cw.1 aCb n (gk.2 h))
def aCc:((List.range 11).all λi=>(List.range 3).all λj=>Nat.beq (gm (pw (i*j)) (pw i)) (pw (i*(j+1))))=true:=by kernel_rfl
def aCd{i j:Nat}(hi:i<11)(C:j<3):gm (pw (i*j)) (pw i)=pw (i*(j+1)):=cE (cw.1 (cw.1 aCc i (gk.2 hi)) j (gk.2 C))
def uk(w:aa Nat)(i:Nat):aa Int:=[(bW w 0 i:Int),(bW w 1 i:Int),(bW w 2 i:Int)]
def ZQ(w:aa Nat)(i:Nat):Nat->aa Int
 |0=>[(bW w 0 i:Int),(bW w 1 i:Int),(bW w 2 i:Int)]
 |1=>[(bW w 0 (i+1):Int),(bW w 1 i:Int),(bW w 2 i:Int)]
 |2=>[(bW w 0 (i+1):Int),(bW w 1 (i+1):Int),(bW w 2 i:Int)]
 |_=>[(bW w 0 (i+1):Int),(bW w 1 (i+1):Int),(bW w 2 (i+1):Int)]
def aCe{w:aa Nat}(T:dK w)(hl:w.length=11){i:Nat}(hi:i<11):iter EZ aR ((bw w,(),(i:Int),(1:Int),(pw i:Int),(0:Int),()),(uk w i,()))=some (.inl ((bw w,(),(i:Int),()),(uk w (i+1),()))):=by
 have O:i<(bw w).length:=by rw[gU];omega
 have U:(bw w)[i]=((w.getD i 0:Nat):Int):=ua O;have Y:=T.get i;have C:∀ j,bits .xor .i64 ((bW w j i:Nat):Int) ((gm (w.getD i 0) (pw (i*j)):Nat):Int)=((bW w j (i+1):Nat):Int):=λj=>by
  rw[qY (qZ w j i) (gj _ _)];rfl
 have D:=λj=>Mm Y (tZ (i*j))
 have E:∀ j,j<3 -> tT ((pw (i*j):Nat):Int) ((pw i:Nat):Int)=some ((pw (i*(j+1)):Nat):Int):=λj L=>by
  rw[Mm (tZ (i*j)) (tZ i),aCd hi L]
 generalize bw w=W at *
 generalize w.getD i 0=c at *
 have e:=cA (step:=EZ) 3 (λj=>((W,(),(i:Int),(pw (i*j):Int),(pw i:Int),(j:Int),()),(ZQ w i j,()))) (.inl ((W,(),(i:Int),()),(uk w (i+1),()))) aR (λj L=>by
  have D:=D j;have E:=E j L;have C:=C j;generalize pw (i*j)=d at D E C ⊢;unfold EZ av xG xI xL;rcases(by omega:j=0 \/ j=1 \/ j=2)with rfl|rfl|rfl<;>simp[ZQ,O,U,D,E,C]<;>rfl) (by unfold EZ av xG xI xL;simp[ZQ,uk]) (bO)
 have Z:pw (i*0)=1:=by rw[Nat.mul_zero];rfl
 rw[cu,Z]at e;exact e
def aCf{w:aa Nat}(D:dK w)(C:w.length=11):QI (bw w)=some (uk w 11):=by
 have E:=(Mq D C).ok;unfold QI bh;rw[Mp _ _ (by rw[gU];omega),E,ak];have e:=cA (step:=Km) 11 (λi=>((bw w,(),(i:Int),()),(uk w i,()))) (.inl (((),()),(uk w 11,()))) aR (λi hi=>by
  have L:i<w.length:=by omega
  unfold Km av xG bh;simp (disch:=omega) [gU,L,ML hi,aCe D C hi,bB]) (by unfold Km av xG bh;simp[ C]) (bO)
 rw[cu]at e;have O:(List.replicate (3:Int).toNat (0:Int))=uk w 0:=rfl;simp_all
def nu(w:aa Nat):Bool:=Nat.beq (bW w 0 11) 0&&(Nat.beq (bW w 1 11) 0&&Nat.beq (bW w 2 11) 0)
def ga(w:aa Nat):aa Nat×Int×Int:=bif nu w then (w,0,-1)else match loc (bW w 0 11) (bW w 1 11) (bW w 2 11)with
 |some k=>(w.set k (w.getD k 0 ^^^ bW w 0 11),1,(k:Int))
 |none=>(w,2,-1)
def Gi(n m:Nat):((n:Int)==(m:Int))=Nat.beq n m:=by
 cases h:Nat.beq n m with
 |true=>simp_all
 | false=>
  have:n≠m:=by rintro rfl;simp at h
  grind
def aCg{C s1 s2:Nat}(h:loc C s1 s2=none):∀ i,i<11 -> okB C s1 s2 i=false:=by
 intro i hi;have:=List.find?_eq_none.1 h i (gk.2 hi);simp_all
def S5{D s1 s2 k:Nat}(h:loc D s1 s2=some k):k<11/\okB D s1 s2 k=true /\ ∀ i,i<k -> okB D s1 s2 i=false:=by
 refine⟨gk.1 (List.mem_of_find?_eq_some h),List.find?_some h,λi hi=>?_⟩
 have⟨O,l1,l2,E,T⟩:=List.find?_eq_some_iff_append.1 h;have U:l1.length=k/\l1=List.range k:=by
  have C:(List.range 11)[l1.length]?=some k:=by rw[E];simp
  have L:l1.length<11:=by have:=aY List.length E;simp at this;omega
  rw[List.getElem?_range L]at C;injection C with C;refine⟨C,?_⟩;have Y:(List.range 11).take l1.length=l1:=by rw[E];simp
  grind
 simp_all
def aCh{w:aa Nat}(U:dK w)(Y:w.length=11):QJ (bw w)=some (bw (ga w).1,(ga w).2.1,(ga w).2.2):=by
 have hs:=(Mq U Y).ok;have ho:bP w.length=true:=di;have h0:∀n:Nat,((n:Int)==(0:Int))=Nat.beq n 0:=λn=>Gi n 0
 have UT:=qZ w 0 11;have oM:=qZ w 1 11;unfold QJ E0 xA bE xZ xI;rw[Mp _ _ (by rw[gU];omega),hs,ak,aCf U Y];have e0:E0 (uk w 11)=some (nu w):=by
  unfold E0 nu xI;cases h1:Nat.beq (bW w 0 11) 0<;>cases h2:Nat.beq (bW w 1 11) 0<;>simp[uk,h0,h1,h2]
 have E:∀i (h:i<(bw w).length),(bw w)[i]=((w.getD i 0:Nat):Int):=λi h=>ua h
 have D:∀ k,(bw w).set k (bits .xor .i64 ((w.getD k 0:Nat):Int) ((bW w 0 11:Nat):Int))=bw (w.set k (w.getD k 0 ^^^ bW w 0 11)):=λk=>by
  rw[qY (U.get k) UT,SM]
 have hlen:(bw w).length=11:=by rw[gU,Y]
 unfold E0 xI at e0;unfold ga nu at *
 simp only[bC,aq,ak];rw[e0,ak,di (by simp[hlen])];cases hz:(Nat.beq (bW w 0 11) 0&&(Nat.beq (bW w 1 11) 0&&Nat.beq (bW w 2 11) 0))with
 |true=>simp
 | false=>
  simp only[aq,au,List.nil_append];unfold uk;generalize hW:bw w=W at E D hlen ⊢;generalize hg0:bW w 0 11=C at *
  generalize Xq:bW w 1 11=s1 at *
  generalize yT:bW w 2 11=s2 at *
  have step:∀ i:Nat,i<11->CH (((),(),(i:Int),()),(W,[(C:Int),(s1:Int),(s2:Int)],()))=some (bif okB C s1 s2 i then .inr (.inl (((),1,(i:Int),()),(bw (w.set i (w.getD i 0 ^^^ C)),())))else .inl (((),(),((i+1:Nat):Int),()),(W,[(C:Int),(s1:Int),(s2:Int)],()))):=by
   intro i hi;have dA:i<W.length:=by omega
   have L:(i:Int)<11:=by omega
   have Z:=Mm UT (tZ i);have m2:=Mm oM (tZ i);have E:=E i dA;have D:=D i;generalize w.getD i 0=c at E D ⊢;generalize bw (w.set i (c ^^^ C))=R at D ⊢;unfold CH okB av aQ xG xL;have O:((C:Int) != (0:Int)) = !Nat.beq C 0:=by rw[bne,h0]
   cases T:Nat.beq C 0 with
   |true=>simp (disch:=omega) [L,ML hi,O,T,bB]
   | false=>
    cases q1:Nat.beq (gm C (pw i)) s1 with
    |false=>simp (disch:=omega) [L,ML hi,O,T,Z,Gi,q1,bB]
    | true=>
     cases q2:Nat.beq (gm s1 (pw i)) s2 with
     |false=>simp (disch:=omega) [L,ML hi,O,T,Z,m2,Gi,q1,q2,bB]
     |true=>simp (disch:=omega) [L,ML hi,O,T,Z,m2,Gi,q1,q2,dA,E,D]
  cases Ea:loc C s1 s2 with
  | none=>
   have hn:=aCg Ea;have e:=cA (step:=CH) 11 (λi=>(((),(),(i:Int),()),(W,[(C:Int),(s1:Int),(s2:Int)],()))) (.inr (.inl (((),()),(W,())))) aR (λi hi=>by rw[step i hi,hn i hi];rfl) (by unfold CH av aQ xG xL;simp) (bO);rw[cu]at e;rw[e];simp only[Option.bind_some,Sum.elim_inr,eJ];rw[hW]
  | some k=>
   obtain⟨hk,fo,hlo⟩:=S5 Ea;have e:=cA (step:=CH) k (λi=>(((),(),(i:Int),()),(W,[(C:Int),(s1:Int),(s2:Int)],()))) (.inl (((),1,(k:Int),()),(bw (w.set k (w.getD k 0 ^^^ C)),()))) aR (λi hi=>by rw[step i (by omega),hlo i hi];rfl) (by rw[step k hk,fo];rfl) (bO);rw[cu]at e;rw[e];rfl
def alp{C s1 s2:Nat}(E:C<16)(L:s1<16)(O:s2<16)(h:C=0 \/ s1=0):loc C s1 s2=none:=by
 have t:=gv (gv (gv alo E) L) O;have T:(Nat.beq C 0 ||Nat.beq s1 0)=true:=by rcases h with rfl|rfl<;>simp
 rw[T]at t;have t:=cE t;cases D:loc C s1 s2 with
 |none=>rfl
 | some k=>
  rw[D]at t;have:=(S5 D).1;simp[Gh]at t;omega
def aCi{C s1 s2:Nat}(O:C<16)(T:s1<16)(U:s2<16)(Y:C≠0)(Z:s1≠0):gm s1 (iv C)≠0/\loc C s1 s2=bif Nat.blt (lg (gm s1 (iv C))) 11&&Nat.beq (gm s1 (gm s1 (iv C))) s2 then some (lg (gm s1 (iv C)))else none:=by
 have t:=gv (gv (gv alo O) T) U;have c0:Nat.beq C 0=false:=by cases h:Nat.beq C 0 with|false=>rfl|true=>exact absurd (cE h) Y
 have c1:Nat.beq s1 0=false:=by cases h:Nat.beq s1 0 with|false=>rfl|true=>exact absurd (cE h) Z
 dsimp only at t;rw[c0,c1,Bool.or_false,aq,aN]at t;have⟨t1,D⟩:=t;have D:=cE D;refine⟨(by rintro e;rw[e]at t1;cases t1),?_⟩;cases L:(Nat.blt (lg (gm s1 (iv C))) 11&&Nat.beq (gm s1 (gm s1 (iv C))) s2)with
 | true=>
  rw[L,au]at D;rw[aN]at L;have dA:lg (gm s1 (iv C))<11:=cP L.1;cases E:loc C s1 s2 with
  |none=>rw[E]at D;simp[Gh]at D;omega
  |some k=>rw[E]at D;simp[Gh]at D;rw[D];rfl
 | false=>
  rw[L,aq]at D;cases E:loc C s1 s2 with
  |none=>rfl
  | some k=>
   have:=(S5 E).1;rw[E]at D;simp[Gh]at D;omega
def aCj{a:Nat}(h:a<16)(C:a≠0):C3 (a:Int)=some (iv a:Int):=by
 have t:=gv aAH h;simp_all
def aCk{a:Nat}(h:a<16)(C:a≠0):RR (a:Int)=some (lg a:Int):=by
 have t:=gv aCa h;simp_all
def alq{w:aa Nat}(Y:dK w)(O:w.length=11):LN (bw w)=some (bw (ga w).1,(ga w).2.1,(ga w).2.2):=by
 have ho:bP (([]:aa Int).length+(bw w).length)=true:=di (by simp[gU,O]);have h0:∀n:Nat,((n:Int)==(0:Int))=Nat.beq n 0:=λn=>Gi n 0
 have C:=qZ w 0 11;have D:=qZ w 1 11;have Z:=qZ w 2 11;have T:∀i (h:i<(bw w).length),(bw w)[i]=((w.getD i 0:Nat):Int):=λi h=>ua h
 have U:∀ k,(bw w).set k (bits .xor .i64 ((w.getD k 0:Nat):Int) ((bW w 0 11:Nat):Int))=bw (w.set k (w.getD k 0 ^^^ bW w 0 11)):=λk=>by
  rw[qY (Y.get k) C,SM]
 have hlen:(bw w).length=11:=by rw[gU,O]
 unfold LN xA xC xL xZ;rw[Zg Y O,ak,aAD Y O,ho];have aCl:jt [((bW w 0 11:Nat):Int),((bW w 1 11:Nat):Int),((bW w 2 11:Nat):Int)]=false:=rfl;rw[aCl,aq,au,ak];unfold ga nu;cases hz:(Nat.beq (bW w 0 11) 0&&(Nat.beq (bW w 1 11) 0&&Nat.beq (bW w 2 11) 0))with
 |true=>simp
 | false=>
  simp only[aq,List.nil_append];generalize hW:bw w=W at T U hlen ⊢;generalize hg0:bW w 0 11=E at *
  generalize Xq:bW w 1 11=s1 at *
  generalize yT:bW w 2 11=s2 at *
  have dc:∀n:Nat,((n:Int) != (0:Int)) = !Nat.beq n 0:=λn=>by rw[bne,h0]
  by_cases L:E=0
  ·rw[alp C D Z (.inl L)];subst L;simp[hW]
  ·have c0:Nat.beq E 0=false:=by cases h:Nat.beq E 0 with | false=>rfl | true=>exact absurd (cE h) L
   by_cases n1:s1=0
   ·rw[alp C D Z (.inr n1)];simp_all
   ·have c1:Nat.beq s1 0=false:=by cases h:Nat.beq s1 0 with | false=>rfl | true=>exact absurd (cE h) n1
    have⟨nx,Ea⟩:=aCi C D Z L n1;have e1:=aCj C L;have e2:=Df D (aAG E);rw[Ea];generalize hx:gm s1 (iv E)=x at *
    have alr:x<16:=by rw[<- hx];exact gj _ _
    have e3:=aCk alr nx;have e4:=Df D alr;generalize hn:lg x=n at *
    by_cases q1:n<11
    ·have d1:Nat.blt n 11=true:=jr q1;have d2:(n:Int)<11:=by omega
     have dA:n<W.length:=by omega
     have T:=T n dA;have U:=U n;cases q2:Nat.beq (gm s1 x) s2 with
     | true=>
      simp only[d1,cv,au];generalize w.getD n 0=c at T U ⊢;simp_all
     | false=>
      simp[ e1,e2,e3,e4,Gi,q2,hW]
    ·have d1:Nat.blt n 11=false:=by
      cases h:Nat.blt n 11 with
      |false=>rfl
      |true=>exact absurd (cP h) (by omega)
     have d2:¬ (n:Int)<11:=by omega
     simp only[d1,Bool.false_and,aq];simp[dc,c0,c1,e1,e2,e3,d2,hW]
def Dv{w:aa Nat}(C:dK w)(D:w.length=11):(ga w).1.length=11/\dK (ga w).1/\((ga w).2.1=0 \/ (ga w).2.1=1 \/ (ga w).2.1=2):=by
 have E:=qZ w 0 11;unfold ga;cases nu w with
 |true=>simp_all
 | false=>
  cases loc _ _ _ with
  |none=>simp_all
  |some k=>exact⟨by simp[D],C.set (lN (C.get k) E),.inr (.inl rfl)⟩
def aCm:(jd λa=>(List.range 11).all λk=>Nat.beq (gm (gm a (pw k)) (pw k)) (gm a (pw (k*2))))=true:=by kernel_rfl
def aCn{w:aa Nat}(O:dK w)(T:w.length=11)(h:(ga w).2.1≠2):nu (ga w).1=true:=by
 unfold ga at h ⊢;cases U:nu w with
 |true=>grind
 | false=>
  rw[U,aq]at h;simp only[aq];cases Y:loc (bW w 0 11) (bW w 1 11) (bW w 2 11)with
  |none=>grind
  | some k=>
   have⟨E,C,_⟩:=S5 Y;have D:=qZ w 0 11;simp only[okB,aN]at C;have L:=cE C.2.1;have Z:=cE C.2.2;have u:=λj=>akp O T D E j
   have p0:gm (bW w 0 11) (pw (k*0))=bW w 0 11:=by rw[Nat.mul_zero];exact aAB D
   have p2:gm (bW w 0 11) (pw (k*2))=bW w 2 11:=by
    rw[<- cE (cw.1 (gv aCm D) k (gk.2 E)),L,Z]
   simp only[nu,aN];rw[u 0,u 1,u 2,p0,Nat.mul_one,L,p2,Nat.xor_self,Nat.xor_self,Nat.xor_self];exact⟨rfl,rfl,rfl⟩
def aCo{w:aa Nat}(D:dK w)(C:w.length=11):RT (bw w)=some (bw (w.drop 3)):=by
 unfold RT xA xZ;have c0:((w.length:Int)==(11:Int))=true:=by rw[C];rfl
 have E:(bw w).length=11:=by rw[gU,C]
 rw[Zf D (by omega),ak,c0,show (!true)=false from rfl,aq,E];have e:((bw w).take ((11:Nat):Int).toNat).drop (3:Int).toNat=bw (w.drop 3):=by
  rw[List.take_of_length_le (by omega)];simp_all
 have L:bP (([]:aa Int).length+(bw (w.drop 3)).length)=true:=by
  rw[gU,List.length_drop,C];rfl
 simp_all
def als(x:aV):Prop:=cx x.cH/\cx x.aB/\cx x.rows/\cx x.aT
def aCp{H:Type}{cV:TypeId×Value->H}{w:World}:aX cV Tryz.prog w 23 .fe als:=λn cs x C=>by
 have D:=Tryz.underlying23;obtain⟨L,i0,O⟩:=aX.part D C (i:=0) rfl oI (off:=0) (k:=1) rfl (by kernel_rfl);obtain⟨T,U,Y⟩:=aX.part D C (i:=1) rfl oI (off:=1) (k:=1) rfl (by kernel_rfl);obtain⟨Z,i2,r2⟩:=aX.part D C (i:=2) rfl oI (off:=2) (k:=1) rfl (by kernel_rfl);obtain⟨a3,i3,r3⟩:=aX.part D C (i:=3) rfl oI (off:=3) (k:=1) rfl (by kernel_rfl);have E:=aX.len D C;have hc:Tryz.prog.cellsOf 23=4:=by kernel_rfl
 rw[hc]at E;exact⟨⟨L,T,Z,a3⟩,⟨i0,U,i2,i3⟩,bN.cut O (bN.cut Y (bN.cut r2 (bN.cut r3 ((iG E)))))⟩
def alu(x:c9):Prop:=cx x.jF/\cx x.rp/\cx x.gI/\cx x.mI/\cx x.jG/\cx x.jH/\cx x.mJ/\cx x.mK/\cx x.jh/\cx x.wr/\cx x.mL/\cx x.mM/\cx x.pG/\cx x.mN/\cx x.nI/\cx x.xp/\cx x.xs
def aCq{H:Type}{cV:TypeId×Value->H}{w:World}:aX cV Tryz.prog w 25 .jI alu:=λn cs x C=>by
 have D:=Tryz.underlying25;obtain⟨L,i0,O⟩:=aX.part D C (i:=0) rfl oI (off:=0) (k:=1) rfl (by kernel_rfl);obtain⟨T,U,Y⟩:=aX.part D C (i:=1) rfl oI (off:=1) (k:=1) rfl (by kernel_rfl);obtain⟨Z,i2,r2⟩:=aX.part D C (i:=2) rfl oI (off:=2) (k:=1) rfl (by kernel_rfl);obtain⟨a3,i3,r3⟩:=aX.part D C (i:=3) rfl oI (off:=3) (k:=1) rfl (by kernel_rfl);obtain⟨a4,i4,r4⟩:=aX.part D C (i:=4) rfl oI (off:=4) (k:=1) rfl (by kernel_rfl);obtain⟨a5,i5,r5⟩:=aX.part D C (i:=5) rfl oI (off:=5) (k:=1) rfl (by kernel_rfl);obtain⟨a6,i6,r6⟩:=aX.part D C (i:=6) rfl oI (off:=6) (k:=1) rfl (by kernel_rfl);obtain⟨a7,i7,r7⟩:=aX.part D C (i:=7) rfl oI (off:=7) (k:=1) rfl (by kernel_rfl);obtain⟨a8,i8,r8⟩:=aX.part D C (i:=8) rfl oI (off:=8) (k:=1) rfl (by kernel_rfl);obtain⟨a9,i9,r9⟩:=aX.part D C (i:=9) rfl oI (off:=9) (k:=1) rfl (by kernel_rfl);obtain⟨Gj,i10,um⟩:=aX.part D C (i:=10) rfl oI (off:=10) (k:=1) rfl (by kernel_rfl);obtain⟨Gk,i11,uq⟩:=aX.part D C (i:=11) rfl oI (off:=11) (k:=1) rfl (by kernel_rfl);obtain⟨Gl,i12,ur⟩:=aX.part D C (i:=12) rfl oI (off:=12) (k:=1) rfl (by kernel_rfl);obtain⟨S6,i13,uv⟩:=aX.part D C (i:=13) rfl oI (off:=13) (k:=1) rfl (by kernel_rfl);obtain⟨S7,i14,uw⟩:=aX.part D C (i:=14) rfl oI (off:=14) (k:=1) rfl (by kernel_rfl);obtain⟨Mt,i15,uy⟩:=aX.part D C (i:=15) rfl oI (off:=15) (k:=1) rfl (by kernel_rfl);obtain⟨Gm,i16,uz⟩:=aX.part D C (i:=16) rfl oI (off:=16) (k:=1) rfl (by kernel_rfl);have E:=aX.len D C;have hc:Tryz.prog.cellsOf 25=17:=by kernel_rfl
 rw[hc]at E;exact⟨⟨L,T,Z,a3,a4,a5,a6,a7,a8,a9,Gj,Gk,Gl,S6,S7,Mt,Gm⟩,⟨i0,U,i2,i3,i4,i5,i6,i7,i8,i9,i10,i11,i12,i13,i14,i15,i16⟩,bN.cut O (bN.cut Y (bN.cut r2 (bN.cut r3 (bN.cut r4 (bN.cut r5 (bN.cut r6 (bN.cut r7 (bN.cut r8 (bN.cut r9 (bN.cut um (bN.cut uq (bN.cut ur (bN.cut uv (bN.cut uw (bN.cut uy (bN.cut uz ((iG E))))))))))))))))))⟩
def alv(x:jE):Prop:=cx x.order/\True
def aCr{H:Type}{cV:TypeId×Value->H}{w:World}:aX cV Tryz.prog w 27 .nJ alv:=λn cs x C=>by
 have D:=Tryz.underlying27;obtain⟨L,i0,O⟩:=aX.part D C (i:=0) rfl oI (off:=0) (k:=1) rfl (by kernel_rfl);obtain⟨T,U,Y⟩:=aX.part D C (i:=1) rfl (aX.bool Tryz.underlying4) (off:=1) (k:=1) rfl (by kernel_rfl);have E:=aX.len D C;have Z:Tryz.prog.cellsOf 27=2:=by kernel_rfl
 rw[Z]at E;exact⟨⟨L,T⟩,⟨i0,U⟩,bN.cut O (bN.cut Y ((iG E)))⟩
def alw(x:iX):Prop:=cx x.bz/\cx x.bu
def aCs{H:Type}{cV:TypeId×Value->H}{w:World}:aX cV Tryz.prog w 29 .mO alw:=λn cs x C=>by
 have D:=Tryz.underlying29;obtain⟨L,i0,O⟩:=aX.part D C (i:=0) rfl oI (off:=0) (k:=1) rfl (by kernel_rfl);obtain⟨T,U,Y⟩:=aX.part D C (i:=1) rfl oI (off:=1) (k:=1) rfl (by kernel_rfl);have E:=aX.len D C;have Z:Tryz.prog.cellsOf 29=2:=by kernel_rfl
 rw[Z]at E;exact⟨⟨L,T⟩,⟨i0,U⟩,bN.cut O (bN.cut Y ((iG E)))⟩
def alx(x:ig):Prop:=als x.aE/\alu x.ck/\alv x.mapping/\cx x.cr/\cx x.interval/\cx x.iz/\alw x.dO
def aCt{H:Type}{cV:TypeId×Value->H}{w:World}:aX cV Tryz.prog w 31 .Config alx:=λn cs x C=>by
 have D:=Tryz.underlying31;obtain⟨L,i0,O⟩:=aX.part D C (i:=0) rfl aCp (off:=0) (k:=4) rfl (by kernel_rfl);obtain⟨T,U,Y⟩:=aX.part D C (i:=1) rfl aCq (off:=4) (k:=17) rfl (by kernel_rfl);obtain⟨Z,i2,r2⟩:=aX.part D C (i:=2) rfl aCr (off:=21) (k:=2) rfl (by kernel_rfl);obtain⟨a3,i3,r3⟩:=aX.part D C (i:=3) rfl oI (off:=23) (k:=1) rfl (by kernel_rfl);obtain⟨a4,i4,r4⟩:=aX.part D C (i:=4) rfl oI (off:=24) (k:=1) rfl (by kernel_rfl);obtain⟨a5,i5,r5⟩:=aX.part D C (i:=5) rfl oI (off:=25) (k:=1) rfl (by kernel_rfl);obtain⟨a6,i6,r6⟩:=aX.part D C (i:=6) rfl aCs (off:=26) (k:=2) rfl (by kernel_rfl);have E:=aX.len D C;have hc:Tryz.prog.cellsOf 31=28:=by kernel_rfl
 rw[hc]at E;exact⟨⟨L,T,Z,a3,a4,a5,a6⟩,⟨i0,U,i2,i3,i4,i5,i6⟩,bN.cut O (bN.cut Y (bN.cut r2 (bN.cut r3 (bN.cut r4 (bN.cut r5 (bN.cut r6 ((iG E))))))))⟩
def ZR(x:gJ):Prop:=S4 x.bI/\S4 x.next/\True
def aCu{H:Type}{cV:TypeId×Value->H}{w:World}:aX cV Tryz.prog w 38 .jJ ZR:=λn cs x C=>by
 have D:=Tryz.underlying38;obtain⟨L,i0,O⟩:=aX.part D C (i:=0) rfl ale (off:=0) (k:=8) rfl (by kernel_rfl);obtain⟨T,U,Y⟩:=aX.part D C (i:=1) rfl ale (off:=8) (k:=8) rfl (by kernel_rfl);obtain⟨Z,i2,r2⟩:=aX.part D C (i:=2) rfl (aX.bool Tryz.underlying4) (off:=16) (k:=1) rfl (by kernel_rfl);have E:=aX.len D C;have hc:Tryz.prog.cellsOf 38=17:=by kernel_rfl
 rw[hc]at E;exact⟨⟨L,T,Z⟩,⟨i0,U,i2⟩,bN.cut O (bN.cut Y (bN.cut r2 ((iG E))))⟩
def ZS(x:cQ):Prop:=True/\cx x.row
def aCv{H:Type}{cV:TypeId×Value->H}{w:World}:aX cV Tryz.prog w 386 .fQ ZS:=λn cs x C=>by
 have D:=Tryz.underlying386;obtain⟨L,i0,O⟩:=aX.part D C (i:=0) rfl (aX.bool Tryz.underlying4) (off:=0) (k:=1) rfl (by kernel_rfl);obtain⟨T,U,Y⟩:=aX.part D C (i:=1) rfl oI (off:=1) (k:=1) rfl (by kernel_rfl);have E:=aX.len D C;have Z:Tryz.prog.cellsOf 386=2:=by kernel_rfl
 rw[Z]at E;exact⟨⟨L,T⟩,⟨i0,U⟩,bN.cut O (bN.cut Y ((iG E)))⟩
def ZT(x:cy):Prop:=(x.aB.length<=maxLen/\∀y∈x.aB,ZS y)/\cx x.aZ
def aCw{H:Type}{cV:TypeId×Value->H}{w:World}:aX cV Tryz.prog w 41 .iI ZT:=λn cs x C=>by
 have D:=Tryz.underlying41;obtain⟨L,i0,O⟩:=aX.part D C (i:=0) rfl (aX.sl Tryz.underlying39 (by kernel_rfl) aCv) (off:=0) (k:=1) rfl (by kernel_rfl);obtain⟨T,U,Y⟩:=aX.part D C (i:=1) rfl oI (off:=1) (k:=1) rfl (by kernel_rfl);have E:=aX.len D C;have Z:Tryz.prog.cellsOf 41=2:=by kernel_rfl
 rw[Z]at E;exact⟨⟨L,T⟩,⟨i0,U⟩,bN.cut O (bN.cut Y ((iG E)))⟩
def ZU(x:dn):Prop:=(x.last.length<=maxLen/\∀y∈x.last,cx y)/\(x.bx.length<=maxLen/\∀y∈x.bx,cx y)
def aCx{H:Type}{cV:TypeId×Value->H}{w:World}:aX cV Tryz.prog w 43 .ki ZU:=λn cs x C=>by
 have D:=Tryz.underlying43;obtain⟨L,i0,O⟩:=aX.part D C (i:=0) rfl (aX.sl Tryz.underlying32 (by kernel_rfl) oI) (off:=0) (k:=1) rfl (by kernel_rfl);obtain⟨T,U,Y⟩:=aX.part D C (i:=1) rfl (aX.sl Tryz.underlying32 (by kernel_rfl) oI) (off:=1) (k:=1) rfl (by kernel_rfl);have E:=aX.len D C;have Z:Tryz.prog.cellsOf 43=2:=by kernel_rfl
 rw[Z]at E;exact⟨⟨L,T⟩,⟨i0,U⟩,bN.cut O (bN.cut Y ((iG E)))⟩
def S8(x:bK):Prop:=(x.symbols.length<=maxLen/\∀y∈x.symbols,cx y)/\True
def aCy{H:Type}{cV:TypeId×Value->H}{w:World}:aX cV Tryz.prog w 359 .Cell S8:=λn cs x C=>by
 have D:=Tryz.underlying359;obtain⟨L,i0,O⟩:=aX.part D C (i:=0) rfl (aX.sl Tryz.underlying32 (by kernel_rfl) oI) (off:=0) (k:=1) rfl (by kernel_rfl);obtain⟨T,U,Y⟩:=aX.part D C (i:=1) rfl (aX.bool Tryz.underlying4) (off:=1) (k:=1) rfl (by kernel_rfl);have E:=aX.len D C;have Z:Tryz.prog.cellsOf 359=2:=by kernel_rfl
 rw[Z]at E;exact⟨⟨L,T⟩,⟨i0,U⟩,bN.cut O (bN.cut Y ((iG E)))⟩
def ZV(x:cZ):Prop:=(x.cells.length<=maxLen/\∀y∈x.cells,S8 y)/\(x.bz.length<=maxLen/\∀y∈x.bz,cx y)/\(x.bu.length<=maxLen/\∀y∈x.bu,cx y)
def aCz{H:Type}{cV:TypeId×Value->H}{w:World}:aX cV Tryz.prog w 46 .Array ZV:=λn cs x C=>by
 have D:=Tryz.underlying46;obtain⟨L,i0,O⟩:=aX.part D C (i:=0) rfl (aX.sl Tryz.underlying44 (by kernel_rfl) aCy) (off:=0) (k:=1) rfl (by kernel_rfl);obtain⟨T,U,Y⟩:=aX.part D C (i:=1) rfl (aX.sl Tryz.underlying32 (by kernel_rfl) oI) (off:=1) (k:=1) rfl (by kernel_rfl);obtain⟨Z,i2,r2⟩:=aX.part D C (i:=2) rfl (aX.sl Tryz.underlying32 (by kernel_rfl) oI) (off:=2) (k:=1) rfl (by kernel_rfl);have E:=aX.len D C;have hc:Tryz.prog.cellsOf 46=3:=by kernel_rfl
 rw[hc]at E;exact⟨⟨L,T,Z⟩,⟨i0,U,i2⟩,bN.cut O (bN.cut Y (bN.cut r2 ((iG E))))⟩
def ZW(x:eZ):Prop:=cx x.cr/\(x.map.length<=maxLen/\∀y∈x.map,cx y)
def aCA{H:Type}{cV:TypeId×Value->H}{w:World}:aX cV Tryz.prog w 48 .kj ZW:=λn cs x C=>by
 have D:=Tryz.underlying48;obtain⟨L,i0,O⟩:=aX.part D C (i:=0) rfl oI (off:=0) (k:=1) rfl (by kernel_rfl);obtain⟨T,U,Y⟩:=aX.part D C (i:=1) rfl (aX.sl Tryz.underlying32 (by kernel_rfl) oI) (off:=1) (k:=1) rfl (by kernel_rfl);have E:=aX.len D C;have Z:Tryz.prog.cellsOf 48=2:=by kernel_rfl
 rw[Z]at E;exact⟨⟨L,T⟩,⟨i0,U⟩,bN.cut O (bN.cut Y ((iG E)))⟩
def ZX(x:de):Prop:=(x.aH.length<=maxLen/\∀y∈x.aH,cx y)/\cx x.wait/\True
def aCB{H:Type}{cV:TypeId×Value->H}{w:World}:aX cV Tryz.prog w 50 .kM ZX:=λn cs x C=>by
 have D:=Tryz.underlying50;obtain⟨L,i0,O⟩:=aX.part D C (i:=0) rfl (aX.sl Tryz.underlying32 (by kernel_rfl) oI) (off:=0) (k:=1) rfl (by kernel_rfl);obtain⟨T,U,Y⟩:=aX.part D C (i:=1) rfl oI (off:=1) (k:=1) rfl (by kernel_rfl);obtain⟨Z,i2,r2⟩:=aX.part D C (i:=2) rfl (aX.bool Tryz.underlying4) (off:=2) (k:=1) rfl (by kernel_rfl);have E:=aX.len D C;have hc:Tryz.prog.cellsOf 50=3:=by kernel_rfl
 rw[hc]at E;exact⟨⟨L,T,Z⟩,⟨i0,U,i2⟩,bN.cut O (bN.cut Y (bN.cut r2 ((iG E))))⟩
def S9(x:bQ):Prop:=(x.rows.length<=maxLen/\∀y∈x.rows,cx y)/\(x.counts.length<=maxLen/\∀y∈x.counts,cx y)/\cx x.cY
def aCC{H:Type}{cV:TypeId×Value->H}{w:World}:aX cV Tryz.prog w 248 .eR S9:=λn cs x C=>by
 have D:=Tryz.underlying248;obtain⟨L,i0,O⟩:=aX.part D C (i:=0) rfl (aX.sl Tryz.underlying32 (by kernel_rfl) oI) (off:=0) (k:=1) rfl (by kernel_rfl);obtain⟨T,U,Y⟩:=aX.part D C (i:=1) rfl (aX.sl Tryz.underlying32 (by kernel_rfl) oI) (off:=1) (k:=1) rfl (by kernel_rfl);obtain⟨Z,i2,r2⟩:=aX.part D C (i:=2) rfl oI (off:=2) (k:=1) rfl (by kernel_rfl);have E:=aX.len D C;have hc:Tryz.prog.cellsOf 248=3:=by kernel_rfl
 rw[hc]at E;exact⟨⟨L,T,Z⟩,⟨i0,U,i2⟩,bN.cut O (bN.cut Y (bN.cut r2 ((iG E))))⟩
def ZY(x:bV):Prop:=cx x.weight/\cx x.eP
def aCD{H:Type}{cV:TypeId×Value->H}{w:World}:aX cV Tryz.prog w 281 .ef ZY:=λn cs x C=>by
 have D:=Tryz.underlying281;obtain⟨L,i0,O⟩:=aX.part D C (i:=0) rfl oI (off:=0) (k:=1) rfl (by kernel_rfl);obtain⟨T,U,Y⟩:=aX.part D C (i:=1) rfl oI (off:=1) (k:=1) rfl (by kernel_rfl);have E:=aX.len D C;have Z:Tryz.prog.cellsOf 281=2:=by kernel_rfl
 rw[Z]at E;exact⟨⟨L,T⟩,⟨i0,U⟩,bN.cut O (bN.cut Y ((iG E)))⟩
def aly(x:gB):Prop:=True/\cx x.low/\cx x.high
def aCE{H:Type}{cV:TypeId×Value->H}{w:World}:aX cV Tryz.prog w 56 .kN aly:=λn cs x C=>by
 have D:=Tryz.underlying56;obtain⟨L,i0,O⟩:=aX.part D C (i:=0) rfl (aX.bool Tryz.underlying4) (off:=0) (k:=1) rfl (by kernel_rfl);obtain⟨T,U,Y⟩:=aX.part D C (i:=1) rfl oI (off:=1) (k:=1) rfl (by kernel_rfl);obtain⟨Z,i2,r2⟩:=aX.part D C (i:=2) rfl oI (off:=2) (k:=1) rfl (by kernel_rfl);have E:=aX.len D C;have hc:Tryz.prog.cellsOf 56=3:=by kernel_rfl
 rw[hc]at E;exact⟨⟨L,T,Z⟩,⟨i0,U,i2⟩,bN.cut O (bN.cut Y (bN.cut r2 ((iG E))))⟩
def alz(x:eE):Prop:=cx x.state/\cx x.since/\cx x.idle
def aCF{H:Type}{cV:TypeId×Value->H}{w:World}:aX cV Tryz.prog w 58 .Power alz:=λn cs x C=>by
 have D:=Tryz.underlying58;obtain⟨L,i0,O⟩:=aX.part D C (i:=0) rfl oI (off:=0) (k:=1) rfl (by kernel_rfl);obtain⟨T,U,Y⟩:=aX.part D C (i:=1) rfl oI (off:=1) (k:=1) rfl (by kernel_rfl);obtain⟨Z,i2,r2⟩:=aX.part D C (i:=2) rfl oI (off:=2) (k:=1) rfl (by kernel_rfl);have E:=aX.len D C;have hc:Tryz.prog.cellsOf 58=3:=by kernel_rfl
 rw[hc]at E;exact⟨⟨L,T,Z⟩,⟨i0,U,i2⟩,bN.cut O (bN.cut Y (bN.cut r2 ((iG E))))⟩
def alA(x:kZ):Prop:=cx x.next/\cx x.every/\cx x.wait
def aCG{H:Type}{cV:TypeId×Value->H}{w:World}:aX cV Tryz.prog w 60 .nL alA:=λn cs x C=>by
 have D:=Tryz.underlying60;obtain⟨L,i0,O⟩:=aX.part D C (i:=0) rfl oI (off:=0) (k:=1) rfl (by kernel_rfl);obtain⟨T,U,Y⟩:=aX.part D C (i:=1) rfl oI (off:=1) (k:=1) rfl (by kernel_rfl);obtain⟨Z,i2,r2⟩:=aX.part D C (i:=2) rfl oI (off:=2) (k:=1) rfl (by kernel_rfl);have E:=aX.len D C;have hc:Tryz.prog.cellsOf 60=3:=by kernel_rfl
 rw[hc]at E;exact⟨⟨L,T,Z⟩,⟨i0,U,i2⟩,bN.cut O (bN.cut Y (bN.cut r2 ((iG E))))⟩
def ZZ(x:bU):Prop:=cx x.line/\cx x.code/\cx x.times
def aCH{H:Type}{cV:TypeId×Value->H}{w:World}:aX cV Tryz.prog w 285 .eo ZZ:=λn cs x C=>by
 have D:=Tryz.underlying285;obtain⟨L,i0,O⟩:=aX.part D C (i:=0) rfl oI (off:=0) (k:=1) rfl (by kernel_rfl);obtain⟨T,U,Y⟩:=aX.part D C (i:=1) rfl oI (off:=1) (k:=1) rfl (by kernel_rfl);obtain⟨Z,i2,r2⟩:=aX.part D C (i:=2) rfl oI (off:=2) (k:=1) rfl (by kernel_rfl);have E:=aX.len D C;have hc:Tryz.prog.cellsOf 285=3:=by kernel_rfl
 rw[hc]at E;exact⟨⟨L,T,Z⟩,⟨i0,U,i2⟩,bN.cut O (bN.cut Y (bN.cut r2 ((iG E))))⟩
def alB(x:aG):Prop:=cx x.kind/\cx x.ay/\cx x.row/\cx x.bR
def aCI{H:Type}{cV:TypeId×Value->H}{w:World}:aX cV Tryz.prog w 289 .Command alB:=λn cs x C=>by
 have D:=Tryz.underlying289;obtain⟨L,i0,O⟩:=aX.part D C (i:=0) rfl oI (off:=0) (k:=1) rfl (by kernel_rfl);obtain⟨T,U,Y⟩:=aX.part D C (i:=1) rfl oI (off:=1) (k:=1) rfl (by kernel_rfl);obtain⟨Z,i2,r2⟩:=aX.part D C (i:=2) rfl oI (off:=2) (k:=1) rfl (by kernel_rfl);obtain⟨a3,i3,r3⟩:=aX.part D C (i:=3) rfl oI (off:=3) (k:=1) rfl (by kernel_rfl);have E:=aX.len D C;have hc:Tryz.prog.cellsOf 289=4:=by kernel_rfl
 rw[hc]at E;exact⟨⟨L,T,Z,a3⟩,⟨i0,U,i2,i3⟩,bN.cut O (bN.cut Y (bN.cut r2 (bN.cut r3 ((iG E)))))⟩
def Z0(x:cO):Prop:=cx x.at_/\alB x.cmd
def aCJ{H:Type}{cV:TypeId×Value->H}{w:World}:aX cV Tryz.prog w 291 .Event Z0:=λn cs x C=>by
 have D:=Tryz.underlying291;obtain⟨L,i0,O⟩:=aX.part D C (i:=0) rfl oI (off:=0) (k:=1) rfl (by kernel_rfl);obtain⟨T,U,Y⟩:=aX.part D C (i:=1) rfl aCI (off:=1) (k:=4) rfl (by kernel_rfl);have E:=aX.len D C;have Z:Tryz.prog.cellsOf 291=5:=by kernel_rfl
 rw[Z]at E;exact⟨⟨L,T⟩,⟨i0,U⟩,bN.cut O (bN.cut Y ((iG E)))⟩
def Z1(x:cW):Prop:=cx x.id/\cx x.at_/\cx x.data/\cx x.code
def aCK{H:Type}{cV:TypeId×Value->H}{w:World}:aX cV Tryz.prog w 295 .gd Z1:=λn cs x C=>by
 have D:=Tryz.underlying295;obtain⟨L,i0,O⟩:=aX.part D C (i:=0) rfl oI (off:=0) (k:=1) rfl (by kernel_rfl);obtain⟨T,U,Y⟩:=aX.part D C (i:=1) rfl oI (off:=1) (k:=1) rfl (by kernel_rfl);obtain⟨Z,i2,r2⟩:=aX.part D C (i:=2) rfl oI (off:=2) (k:=1) rfl (by kernel_rfl);obtain⟨a3,i3,r3⟩:=aX.part D C (i:=3) rfl oI (off:=3) (k:=1) rfl (by kernel_rfl);have E:=aX.len D C;have hc:Tryz.prog.cellsOf 295=4:=by kernel_rfl
 rw[hc]at E;exact⟨⟨L,T,Z,a3⟩,⟨i0,U,i2,i3⟩,bN.cut O (bN.cut Y (bN.cut r2 (bN.cut r3 ((iG E)))))⟩
def MM(x:ax):Prop:=alx x.config/\ZR x.box/\cx x.now/\ZT x.bq/\ZU x.ready/\ZV x.array/\ZW x.spare/\ZX x.aP/\(x.bH.length<=maxLen/\∀y∈x.bH,S9 y)/\(x.guard.length<=maxLen/\∀y∈x.guard,cx y)/\(x.pending.length<=maxLen/\∀y∈x.pending,ZO y)/\(x.queue.length<=maxLen/\∀y∈x.queue,ZN y)/\(x.shares.length<=maxLen/\∀y∈x.shares,ZY y)/\aly x.drain/\alz x.aZ/\alA x.cK/\(x.errors.length<=maxLen/\∀y∈x.errors,ZZ y)/\(x.trace.length<=maxLen/\∀y∈x.trace,Z0 y)/\(x.cS.length<=maxLen/\∀y∈x.cS,Z1 y)
def aCL{H:Type}{cV:TypeId×Value->H}{w:World}:aX cV Tryz.prog w 65 .cN MM:=λn cs x C=>by
 have D:=Tryz.underlying65;obtain⟨L,i0,O⟩:=aX.part D C (i:=0) rfl aCt (off:=0) (k:=28) rfl (by kernel_rfl);obtain⟨T,U,Y⟩:=aX.part D C (i:=1) rfl aCu (off:=28) (k:=17) rfl (by kernel_rfl);obtain⟨Z,i2,r2⟩:=aX.part D C (i:=2) rfl oI (off:=45) (k:=1) rfl (by kernel_rfl);obtain⟨a3,i3,r3⟩:=aX.part D C (i:=3) rfl aCw (off:=46) (k:=2) rfl (by kernel_rfl);obtain⟨a4,i4,r4⟩:=aX.part D C (i:=4) rfl aCx (off:=48) (k:=2) rfl (by kernel_rfl);obtain⟨a5,i5,r5⟩:=aX.part D C (i:=5) rfl aCz (off:=50) (k:=3) rfl (by kernel_rfl);obtain⟨a6,i6,r6⟩:=aX.part D C (i:=6) rfl aCA (off:=53) (k:=2) rfl (by kernel_rfl);obtain⟨a7,i7,r7⟩:=aX.part D C (i:=7) rfl aCB (off:=55) (k:=3) rfl (by kernel_rfl);obtain⟨a8,i8,r8⟩:=aX.part D C (i:=8) rfl (aX.sl Tryz.underlying51 (by kernel_rfl) aCC) (off:=58) (k:=1) rfl (by kernel_rfl);obtain⟨a9,i9,r9⟩:=aX.part D C (i:=9) rfl (aX.sl Tryz.underlying32 (by kernel_rfl) oI) (off:=59) (k:=1) rfl (by kernel_rfl);obtain⟨Gj,i10,um⟩:=aX.part D C (i:=10) rfl (aX.sl Tryz.underlying52 (by kernel_rfl) aBV) (off:=60) (k:=1) rfl (by kernel_rfl);obtain⟨Gk,i11,uq⟩:=aX.part D C (i:=11) rfl (aX.sl Tryz.underlying53 (by kernel_rfl) aBU) (off:=61) (k:=1) rfl (by kernel_rfl);obtain⟨Gl,i12,ur⟩:=aX.part D C (i:=12) rfl (aX.sl Tryz.underlying54 (by kernel_rfl) aCD) (off:=62) (k:=1) rfl (by kernel_rfl);obtain⟨S6,i13,uv⟩:=aX.part D C (i:=13) rfl aCE (off:=63) (k:=3) rfl (by kernel_rfl);obtain⟨S7,i14,uw⟩:=aX.part D C (i:=14) rfl aCF (off:=66) (k:=3) rfl (by kernel_rfl);obtain⟨Mt,i15,uy⟩:=aX.part D C (i:=15) rfl aCG (off:=69) (k:=3) rfl (by kernel_rfl);obtain⟨Gm,i16,uz⟩:=aX.part D C (i:=16) rfl (aX.sl Tryz.underlying61 (by kernel_rfl) aCH) (off:=72) (k:=1) rfl (by kernel_rfl);obtain⟨Ta,i17,Z2⟩:=aX.part D C (i:=17) rfl (aX.sl Tryz.underlying62 (by kernel_rfl) aCJ) (off:=73) (k:=1) rfl (by kernel_rfl);obtain⟨Z3,i18,r18⟩:=aX.part D C (i:=18) rfl (aX.sl Tryz.underlying63 (by kernel_rfl) aCK) (off:=74) (k:=1) rfl (by kernel_rfl);have E:=aX.len D C;have hc:Tryz.prog.cellsOf 65=75:=by kernel_rfl
 rw[hc]at E;exact⟨⟨L,T,Z,a3,a4,a5,a6,a7,a8,a9,Gj,Gk,Gl,S6,S7,Mt,Gm,Ta,Z3⟩,⟨i0,U,i2,i3,i4,i5,i6,i7,i8,i9,i10,i11,i12,i13,i14,i15,i16,i17,i18⟩,bN.cut O (bN.cut Y (bN.cut r2 (bN.cut r3 (bN.cut r4 (bN.cut r5 (bN.cut r6 (bN.cut r7 (bN.cut r8 (bN.cut r9 (bN.cut um (bN.cut uq (bN.cut ur (bN.cut uv (bN.cut uw (bN.cut uy (bN.cut uz (bN.cut Z2 (bN.cut r18 ((iG E))))))))))))))))))))⟩
def AQ(x:gJ):Prop:=AP x.bI/\AP x.next
def MN(x:cy):Prop:=(x.aB.length<=1048576)
def Tb(x:dn):Prop:=(x.last.length<=1048576)/\(x.bx.length<=1048576)
def uA(x:bK):Prop:=(x.symbols.length<=1048576)
def Dw(x:cZ):Prop:=(x.cells.length<=1048576/\∀y∈x.cells,uA y)/\(x.bz.length<=1048576)/\(x.bu.length<=1048576)
def Tc(x:eZ):Prop:=(x.map.length<=1048576)
def v9(x:de):Prop:=(x.aH.length<=1048576)
def hU(x:bQ):Prop:=(x.rows.length<=1048576)/\(x.counts.length<=1048576)
def eB(x:ax):Prop:=AQ x.box/\MN x.bq/\Tb x.ready/\Dw x.array/\Tc x.spare/\v9 x.aP/\(x.bH.length<=1048576/\∀y∈x.bH,hU y)/\(x.guard.length<=1048576)/\(x.pending.length<=1048576)/\(x.queue.length<=1048576)/\(x.shares.length<=1048576)/\(x.errors.length<=1048576)/\(x.trace.length<=1048576)/\(x.cS.length<=1048576)
def aCM(x:aV):Pe x=some x:=by
 unfold Pe;rfl
def aCN(x:aV):PN x x=some true:=by
 unfold PN;simp only[ak,dV,dR,bC,aq]
def aCO(x:c9):Pf x=some x:=by
 unfold Pf;rfl
def aCP(x:c9):PO x x=some true:=by
 unfold PO;simp only[ak,dV,dR,bC,aq]
def aCQ(x:jE):Pg x=some x:=by
 unfold Pg;rfl
def aCR(x:jE):PR x x=some true:=by
 unfold PR;simp only[ak,dV,dR,bC,aq]
def aCS(x:iX):Ph x=some x:=by
 unfold Ph;rfl
def aCT(x:iX):PS x x=some true:=by
 unfold PS;simp only[ak,dV,dR,bC,aq]
def toConfig(x:ig):Pj x=some x:=by
 unfold Pj;rw[aCM x.aE,ak,aCO x.ck,ak,aCQ x.mapping,ak,aCS x.dO,ak]
def aCU(x:ig):PT x x=some true:=by
 unfold PT;simp only[aCN x.aE,aCP x.ck,aCR x.mapping,aCT x.dO,ak,dV,dR,bC,aq]
def aCV(x:gJ)(h:ZR x){n:Int}(C:0<=n)(D:n<=1048576):Sz n (AQ x) (O5 x n):=by
 obtain⟨i0,E,i2⟩:=h;unfold O5
 refine Sz.bind (alg x.bI i0 C D) λL O b0 T=>?_
 refine Sz.bind (Sz.le (alg x.next E (n:=L) O (by omega)) (by omega)) λy1 U Y Z=>?_
 exact Sz.done U Y ⟨T,Z⟩
def aCW(x:gJ)(C:AQ x):Pn x=some x:=by
 obtain⟨D,E⟩:=C;unfold Pn;rw[alh x.bI D,ak,alh x.next E,ak]
def aCX(x:gJ)(C:AQ x):PW x x=some true:=by
 obtain⟨D,E⟩:=C;unfold PW;simp only[ali x.bI D,ali x.next E,ak,dV,dR,bC,aq]
def aCY(x:cQ):IQ x=some x:=by
 unfold IQ;rfl
def aCZ(x:cQ):I1 x x=some true:=by
 unfold I1;simp only[ak,dV,dR,bC,aq]
def aC0(x:aa cQ)(h:(x.length<=maxLen/\∀ y∈x,ZS y)){n:Int}(C:0<=n)(D:n<=1048576):Sz n (x.length<=1048576) (XK x n):=by
 exact AO h.1 C D
def aC1(x:aa cQ)(C:(x.length<=1048576)):Po x=some x:=by
 have E:=C;have D:=v7 (⟨false,(0:Int)⟩:cQ) IQ x (λy L=>aCY y) (by omega);unfold Po bh;rw[bM ⟨by omega,by omega,by omega⟩]
 refine(aY (λo=>Option.bind o _) D).trans ?_
 rfl
def aC2(x:aa cQ)(C:(x.length<=1048576)):PX x x=some true:=by
 have E:=C;have D:=v8 I1 x (λy L=>aCZ y) (by omega);unfold PX bE;rw[show ((x.length:Int) != (x.length:Int))=false by simp,aq]
 refine(aY (λo=>Option.bind o _) D).trans ?_
 rfl
def aC3(x:cy)(h:ZT x){n:Int}(C:0<=n)(D:n<=1048576):Sz n (MN x) (O6 x n):=by
 obtain⟨i0,T⟩:=h;unfold O6
 refine Sz.bind (aC0 x.aB i0 C D) λU E L O=>?_
 exact Sz.done E L O
def aC4(x:cy)(C:MN x):Pp x=some x:=by
 have D:=C;unfold Pp;rw[aC1 x.aB D,ak]
def aC5(x:cy)(C:MN x):PY x x=some true:=by
 have D:=C;unfold PY;simp only[aC2 x.aB D,ak,dV,dR,bC,aq]
def aC6(x:dn)(h:ZU x){n:Int}(C:0<=n)(D:n<=1048576):Sz n (Tb x) (O7 x n):=by
 obtain⟨i0,E⟩:=h;unfold O7
 refine Sz.bind (ug x.last i0 C D) λL O b0 T=>?_
 refine Sz.bind (Sz.le (ug x.bx E (n:=L) O (by omega)) (by omega)) λy1 U Y Z=>?_
 exact Sz.done U Y ⟨T,Z⟩
def aC7(x:dn)(C:Tb x):Pr x=some x:=by
 obtain⟨D,E⟩:=C;unfold Pr;rw[uh x.last D,ak,uh x.bx E,ak]
def aC8(x:dn)(C:Tb x):PZ x x=some true:=by
 obtain⟨D,E⟩:=C;unfold PZ;simp only[uj x.last D,uj x.bx E,ak,dV,dR,bC,aq]
def aC9(x:bK)(h:S8 x){n:Int}(C:0<=n)(D:n<=1048576):Sz n (uA x) (IM x n):=by
 obtain⟨i0,T⟩:=h;unfold IM
 refine Sz.bind (ug x.symbols i0 C D) λU E L O=>?_
 exact Sz.done E L O
def toCell(x:bK)(C:uA x):IS x=some x:=by
 have D:=C;unfold IS;rw[uh x.symbols D,ak]
def aDa(x:bK)(C:uA x):I2 x x=some true:=by
 have D:=C;unfold I2;simp only[uj x.symbols D,ak,dV,dR,bC,aq]
def aDb(x:aa bK)(h:(x.length<=maxLen/\∀ y∈x,S8 y)){n:Int}(O:0<=n)(T:n<=1048576):Sz n (x.length<=1048576/\∀ y∈x,uA y) (O8 x n):=by
 have C:=h.1;unfold maxLen at C;unfold O8 bE;rw[aO];by_cases c:n-(x.length:Int)<0
 ·rw[aW c];exact⟨-1,rfl,.inl (by omega)⟩
 ·rw[aU c,aq];exact Sz.imp (Sz.le (alf IM x (Q:=λx=>uA x) (by omega) (λy D m E L=>aC9 y (h.2 y D) E L) (n:=n-(x.length:Int)) (by omega) (by omega)) (by omega)) λq=>⟨by omega,q⟩
def aDc(x:aa bK)(C:(x.length<=1048576/\∀ y∈x,uA y)):Pu x=some x:=by
 have L:=C.1;have D:=v7 (⟨[],false⟩:bK) IS x (λy E=>toCell y (C.2 y E)) (by omega);unfold Pu bh;rw[bM ⟨by omega,by omega,by omega⟩]
 refine(aY (λo=>Option.bind o _) D).trans ?_
 rfl
def aDd(x:aa bK)(C:(x.length<=1048576/\∀ y∈x,uA y)):P0 x x=some true:=by
 have L:=C.1;have D:=v8 I2 x (λy E=>aDa y (C.2 y E)) (by omega);unfold P0 bE;rw[show ((x.length:Int) != (x.length:Int))=false by simp,aq]
 refine(aY (λo=>Option.bind o _) D).trans ?_
 rfl
def aDe(x:cZ)(h:ZV x){n:Int}(C:0<=n)(D:n<=1048576):Sz n (Dw x) (O9 x n):=by
 obtain⟨i0,E,L⟩:=h;unfold O9
 refine Sz.bind (aDb x.cells i0 C D) λO T b0 U=>?_
 refine Sz.bind (Sz.le (ug x.bz E (n:=O) T (by omega)) (by omega)) λY Z b1 z1=>?_
 refine Sz.bind (Sz.le (ug x.bu L (n:=Y) Z (by omega)) (by omega)) λy2 a2 b2 z2=>?_
 exact Sz.done a2 b2 ⟨U,z1,z2⟩
def toArray(x:cZ)(C:Dw x):Pv x=some x:=by
 obtain⟨D,E,L⟩:=C;unfold Pv;rw[aDc x.cells D,ak,uh x.bz E,ak,uh x.bu L,ak]
def aDf(x:cZ)(C:Dw x):P1 x x=some true:=by
 obtain⟨D,E,L⟩:=C;unfold P1;simp only[aDd x.cells D,uj x.bz E,uj x.bu L,ak,dV,dR,bC,aq]
def aDg(x:eZ)(h:ZW x){n:Int}(C:0<=n)(D:n<=1048576):Sz n (Tc x) (Pa x n):=by
 obtain⟨i0,E⟩:=h;unfold Pa
 refine Sz.bind (ug x.map E C D) λU L O T=>?_
 exact Sz.done L O T
def aDh(x:eZ)(C:Tc x):Pw x=some x:=by
 have D:=C;unfold Pw;rw[uh x.map D,ak]
def aDi(x:eZ)(C:Tc x):P2 x x=some true:=by
 have D:=C;unfold P2;simp only[uj x.map D,ak,dV,dR,bC,aq]
def aDj(x:de)(h:ZX x){n:Int}(C:0<=n)(D:n<=1048576):Sz n (v9 x) (Pb x n):=by
 obtain⟨i0,T,U⟩:=h;unfold Pb
 refine Sz.bind (ug x.aH i0 C D) λY E L O=>?_
 exact Sz.done E L O
def aDk(x:de)(C:v9 x):Px x=some x:=by
 have D:=C;unfold Px;rw[uh x.aH D,ak]
def aDl(x:de)(C:v9 x):P3 x x=some true:=by
 have D:=C;unfold P3;simp only[uj x.aH D,ak,dV,dR,bC,aq]
def aDm(x:bQ)(h:S9 x){n:Int}(C:0<=n)(D:n<=1048576):Sz n (hU x) (IN x n):=by
 obtain⟨i0,E,i2⟩:=h;unfold IN
 refine Sz.bind (ug x.rows i0 C D) λL O b0 T=>?_
 refine Sz.bind (Sz.le (ug x.counts E (n:=L) O (by omega)) (by omega)) λy1 U Y Z=>?_
 exact Sz.done U Y ⟨T,Z⟩
def aDn(x:bQ)(C:hU x):IT x=some x:=by
 obtain⟨D,E⟩:=C;unfold IT;rw[uh x.rows D,ak,uh x.counts E,ak]
def aDo(x:bQ)(C:hU x):I3 x x=some true:=by
 obtain⟨D,E⟩:=C;unfold I3;simp only[uj x.rows D,uj x.counts E,ak,dV,dR,bC,aq]
def aDp(x:aa bQ)(h:(x.length<=maxLen/\∀ y∈x,S9 y)){n:Int}(O:0<=n)(T:n<=1048576):Sz n (x.length<=1048576/\∀ y∈x,hU y) (Pc x n):=by
 have C:=h.1;unfold maxLen at C;unfold Pc bE;rw[aO];by_cases c:n-(x.length:Int)<0
 ·rw[aW c];exact⟨-1,rfl,.inl (by omega)⟩
 ·rw[aU c,aq];exact Sz.imp (Sz.le (alf IN x (Q:=λx=>hU x) (by omega) (λy D m E L=>aDm y (h.2 y D) E L) (n:=n-(x.length:Int)) (by omega) (by omega)) (by omega)) λq=>⟨by omega,q⟩
def aDq(x:aa bQ)(C:(x.length<=1048576/\∀ y∈x,hU y)):Py x=some x:=by
 have L:=C.1;have D:=v7 (⟨[],[],(0:Int)⟩:bQ) IT x (λy E=>aDn y (C.2 y E)) (by omega);unfold Py bh;rw[bM ⟨by omega,by omega,by omega⟩]
 refine(aY (λo=>Option.bind o _) D).trans ?_
 rfl
def aDr(x:aa bQ)(C:(x.length<=1048576/\∀ y∈x,hU y)):P4 x x=some true:=by
 have L:=C.1;have D:=v8 I3 x (λy E=>aDo y (C.2 y E)) (by omega);unfold P4 bE;rw[show ((x.length:Int) != (x.length:Int))=false by simp,aq]
 refine(aY (λo=>Option.bind o _) D).trans ?_
 rfl
def aDs(x:aa aI)(h:(x.length<=maxLen/\∀ y∈x,ZO y)){n:Int}(C:0<=n)(D:n<=1048576):Sz n (x.length<=1048576) (XL x n):=by
 exact AO h.1 C D
def aDt(x:aa aI)(C:(x.length<=1048576)):Pz x=some x:=by
 have E:=C;have D:=v7 (⟨(0:Int),(0:Int),(0:Int)⟩:aI) IU x (λy L=>aBZ y) (by omega);unfold Pz bh;rw[bM ⟨by omega,by omega,by omega⟩]
 refine(aY (λo=>Option.bind o _) D).trans ?_
 rfl
def aDu(x:aa aI)(C:(x.length<=1048576)):P5 x x=some true:=by
 have E:=C;have D:=v8 I4 x (λy L=>aB0 y) (by omega);unfold P5 bE;rw[show ((x.length:Int) != (x.length:Int))=false by simp,aq]
 refine(aY (λo=>Option.bind o _) D).trans ?_
 rfl
def aDv(x:aa bA)(h:(x.length<=maxLen/\∀ y∈x,ZN y)){n:Int}(C:0<=n)(D:n<=1048576):Sz n (x.length<=1048576) (XM x n):=by
 exact AO h.1 C D
def aDw(x:aa bA)(C:(x.length<=1048576)):PB x=some x:=by
 have E:=C;have D:=v7 (⟨(0:Int),(0:Int),(0:Int),false,(0:Int),(0:Int)⟩:bA) IV x (λy L=>aBX y) (by omega);unfold PB bh;rw[bM ⟨by omega,by omega,by omega⟩]
 refine(aY (λo=>Option.bind o _) D).trans ?_
 rfl
def aDx(x:aa bA)(C:(x.length<=1048576)):P6 x x=some true:=by
 have E:=C;have D:=v8 I5 x (λy L=>aBY y) (by omega);unfold P6 bE;rw[show ((x.length:Int) != (x.length:Int))=false by simp,aq]
 refine(aY (λo=>Option.bind o _) D).trans ?_
 rfl
def aDy(x:bV):IW x=some x:=by
 unfold IW;rfl
def aDz(x:bV):I6 x x=some true:=by
 unfold I6;simp only[ak,dV,dR,bC,aq]
def aDA(x:aa bV)(h:(x.length<=maxLen/\∀ y∈x,ZY y)){n:Int}(C:0<=n)(D:n<=1048576):Sz n (x.length<=1048576) (XN x n):=by
 exact AO h.1 C D
def aDB(x:aa bV)(C:(x.length<=1048576)):PC x=some x:=by
 have E:=C;have D:=v7 (⟨(0:Int),(0:Int)⟩:bV) IW x (λy L=>aDy y) (by omega);unfold PC bh;rw[bM ⟨by omega,by omega,by omega⟩]
 refine(aY (λo=>Option.bind o _) D).trans ?_
 rfl
def aDC(x:aa bV)(C:(x.length<=1048576)):P7 x x=some true:=by
 have E:=C;have D:=v8 I6 x (λy L=>aDz y) (by omega);unfold P7 bE;rw[show ((x.length:Int) != (x.length:Int))=false by simp,aq]
 refine(aY (λo=>Option.bind o _) D).trans ?_
 rfl
def aDD(x:gB):PD x=some x:=by
 unfold PD;rfl
def aDE(x:gB):P8 x x=some true:=by
 unfold P8;simp only[ak,dV,dR,bC,aq]
def aDF(x:eE):PE x=some x:=by
 unfold PE;rfl
def aDG(x:eE):P9 x x=some true:=by
 unfold P9;simp only[ak,dV,dR,bC,aq]
def aDH(x:kZ):PF x=some x:=by
 unfold PF;rfl
def aDI(x:kZ):Qa x x=some true:=by
 unfold Qa;simp only[ak,dV,dR,bC,aq]
def aDJ(x:bU):IX x=some x:=by
 unfold IX;rfl
def aDK(x:bU):I7 x x=some true:=by
 unfold I7;simp only[ak,dV,dR,bC,aq]
def aDL(x:aa bU)(h:(x.length<=maxLen/\∀ y∈x,ZZ y)){n:Int}(C:0<=n)(D:n<=1048576):Sz n (x.length<=1048576) (XO x n):=by
 exact AO h.1 C D
def aDM(x:aa bU)(C:(x.length<=1048576)):PG x=some x:=by
 have E:=C;have D:=v7 (⟨(0:Int),(0:Int),(0:Int)⟩:bU) IX x (λy L=>aDJ y) (by omega);unfold PG bh;rw[bM ⟨by omega,by omega,by omega⟩]
 refine(aY (λo=>Option.bind o _) D).trans ?_
 rfl
def aDN(x:aa bU)(C:(x.length<=1048576)):Qb x x=some true:=by
 have E:=C;have D:=v8 I7 x (λy L=>aDK y) (by omega);unfold Qb bE;rw[show ((x.length:Int) != (x.length:Int))=false by simp,aq]
 refine(aY (λo=>Option.bind o _) D).trans ?_
 rfl
def aDO(x:aG):PI x=some x:=by
 unfold PI;rfl
def aDP(x:aG):Qc x x=some true:=by
 unfold Qc;simp only[ak,dV,dR,bC,aq]
def aDQ(x:cO):IY x=some x:=by
 unfold IY;rw[aDO x.cmd,ak]
def aDR(x:cO):I8 x x=some true:=by
 unfold I8;simp only[aDP x.cmd,ak,dV,dR,bC,aq]
def aDS(x:aa cO)(h:(x.length<=maxLen/\∀ y∈x,Z0 y)){n:Int}(C:0<=n)(D:n<=1048576):Sz n (x.length<=1048576) (XP x n):=by
 exact AO h.1 C D
def aDT(x:aa cO)(C:(x.length<=1048576)):PJ x=some x:=by
 have E:=C;have D:=v7 (⟨(0:Int),⟨(0:Int),(0:Int),(0:Int),(0:Int)⟩⟩:cO) IY x (λy L=>aDQ y) (by omega);unfold PJ bh;rw[bM ⟨by omega,by omega,by omega⟩]
 refine(aY (λo=>Option.bind o _) D).trans ?_
 rfl
def aDU(x:aa cO)(C:(x.length<=1048576)):Qd x x=some true:=by
 have E:=C;have D:=v8 I8 x (λy L=>aDR y) (by omega);unfold Qd bE;rw[show ((x.length:Int) != (x.length:Int))=false by simp,aq]
 refine(aY (λo=>Option.bind o _) D).trans ?_
 rfl
def aDV(x:cW):IZ x=some x:=by
 unfold IZ;rfl
def aDW(x:cW):I9 x x=some true:=by
 unfold I9;simp only[ak,dV,dR,bC,aq]
def aDX(x:aa cW)(h:(x.length<=maxLen/\∀ y∈x,Z1 y)){n:Int}(C:0<=n)(D:n<=1048576):Sz n (x.length<=1048576) (XQ x n):=by
 exact AO h.1 C D
def aDY(x:aa cW)(C:(x.length<=1048576)):PL x=some x:=by
 have E:=C;have D:=v7 (⟨(0:Int),(0:Int),(0:Int),(0:Int)⟩:cW) IZ x (λy L=>aDV y) (by omega);unfold PL bh;rw[bM ⟨by omega,by omega,by omega⟩]
 refine(aY (λo=>Option.bind o _) D).trans ?_
 rfl
def aDZ(x:aa cW)(C:(x.length<=1048576)):Qe x x=some true:=by
 have E:=C;have D:=v8 I9 x (λy L=>aDW y) (by omega);unfold Qe bE;rw[show ((x.length:Int) != (x.length:Int))=false by simp,aq]
 refine(aY (λo=>Option.bind o _) D).trans ?_
 rfl
def aD0(x:ax)(h:MM x){n:Int}(C:0<=n)(D:n<=1048576):Sz n (eB x) (Pd x n):=by
 obtain⟨i0,E,i2,L,O,T,U,Y,Z,i9,i10,i11,i12,i13,i14,i15,i16,i17,i18⟩:=h;unfold Pd
 refine Sz.bind (aCV x.box E C D) λy1 a1 b1 z1=>?_
 refine Sz.bind (Sz.le (aC3 x.bq L (n:=y1) a1 (by omega)) (by omega)) λy3 a3 b3 z3=>?_
 refine Sz.bind (Sz.le (aC6 x.ready O (n:=y3) a3 (by omega)) (by omega)) λy4 a4 b4 z4=>?_
 refine Sz.bind (Sz.le (aDe x.array T (n:=y4) a4 (by omega)) (by omega)) λy5 a5 b5 z5=>?_
 refine Sz.bind (Sz.le (aDg x.spare U (n:=y5) a5 (by omega)) (by omega)) λy6 a6 b6 z6=>?_
 refine Sz.bind (Sz.le (aDj x.aP Y (n:=y6) a6 (by omega)) (by omega)) λy7 a7 b7 z7=>?_
 refine Sz.bind (Sz.le (aDp x.bH Z (n:=y7) a7 (by omega)) (by omega)) λy8 a8 b8 z8=>?_
 refine Sz.bind (Sz.le (ug x.guard i9 (n:=y8) a8 (by omega)) (by omega)) λy9 a9 b9 z9=>?_
 refine Sz.bind (Sz.le (aDs x.pending i10 (n:=y9) a9 (by omega)) (by omega)) λgS Gj b10 jc=>?_
 refine Sz.bind (Sz.le (aDv x.queue i11 (n:=gS) Gj (by omega)) (by omega)) λeM Gk b11 lR=>?_
 refine Sz.bind (Sz.le (aDA x.shares i12 (n:=eM) Gk (by omega)) (by omega)) λgD Gl b12 mC=>?_
 refine Sz.bind (Sz.le (aDL x.errors i16 (n:=gD) Gl (by omega)) (by omega)) λkF Gm b16 MO=>?_
 refine Sz.bind (Sz.le (aDS x.trace i17 (n:=kF) Gm (by omega)) (by omega)) λgN Ta b17 CT=>?_
 refine Sz.bind (Sz.le (aDX x.cS i18 (n:=gN) Ta (by omega)) (by omega)) λjT Z3 b18 MP=>?_
 exact Sz.done Z3 b18 ⟨z1,z3,z4,z5,z6,z7,z8,z9,jc,lR,mC,MO,CT,MP⟩
def aD1(x:ax)(C:eB x):Cm x=some x:=by
 obtain⟨D,E,L,O,T,U,Y,Z,Z4,Z5,Z6,Z7,Z8,Z9⟩:=C;unfold Cm;rw[toConfig x.config,ak,aCW x.box D,ak,aC4 x.bq E,ak,aC7 x.ready L,ak,toArray x.array O,ak,aDh x.spare T,ak,aDk x.aP U,ak,aDq x.bH Y,ak,uh x.guard Z,ak,aDt x.pending Z4,ak,aDw x.queue Z5,ak,aDB x.shares Z6,ak,aDD x.drain,ak,aDF x.aZ,ak,aDH x.cK,ak,aDM x.errors Z7,ak,aDT x.trace Z8,ak,aDY x.cS Z9,ak]
def alC(x:ax)(C:eB x):Cn x x=some true:=by
 obtain⟨D,E,L,O,T,U,Y,Z,Z4,Z5,Z6,Z7,Z8,Z9⟩:=C;unfold Cn;simp only[aCU x.config,aCX x.box D,aC5 x.bq E,aC8 x.ready L,aDf x.array O,aDi x.spare T,aDl x.aP U,aDr x.bH Y,uj x.guard Z,aDu x.pending Z4,aDx x.queue Z5,aDC x.shares Z6,aDE x.drain,aDG x.aZ,aDI x.cK,aDN x.errors Z7,aDU x.trace Z8,aDZ x.cS Z9,ak,dV,dR,bC,aq]
def o9(c:ig)(p:fz):Bool:=(vP c p).getD false
def Td(c:ig)(p:fz)(C:p.weights.length<1073741823):vP c p=some (o9 c p):=by
 obtain⟨b,e,_⟩:=Zu c p C;unfold o9;rw[e];rfl
def alD(c:ig)(p:fz)(C:p.weights.length<1073741823):EU c p=some (o9 c p):=by
 have⟨b,e,D,_⟩:=aBb c p C;unfold o9;simp_all
def ba1(a x:Bool):(bif a then some x else some false)=some (a&&x):=by cases a<;>rfl
def ba2(a x:Bool):(bif !a then some false else some x)=some (a&&x):=by cases a<;>rfl
def ba3(a b:Int)(x:Bool):(bif a != b then some false else some x)=some (a==b&&x):=by
 rw[bne];cases a==b<;>rfl
theorem ba4(p:Prop)[Decidable p](x:Bool):(bif decide p then some false else some x)=some (!decide p&&x):=by cases decide p<;>rfl
def gE(c:ax):Bool:=
 o9 c.config c.box.bI&&(o9 c.config c.box.next&&(aL c.now 0 1000000&&(lP c.config.aE c.bq&&(kW c.config.aE c.ready&&(mz c.config.aE c.array&&(nt c.config.aE c.spare&&(c.spare.cr==c.config.cr&&((fB c.aP&&sF c)&&(o7 (fH (jo c.config.aE c.spare)) c.queue&&(iQ c.shares&&((c.shares.length:Int)==4&&(oZ c.drain&&(jX c.aZ&&(c.aZ.state==c.bq.aZ&&(!decide (c.aZ.since > c.now)&&(aL c.cK.every 1 100000&&(aL c.cK.wait 1 c.cK.every&&(aL c.cK.next 0 (W6 (fH c.config.aE-1))&&(kH c.errors&&(decide ((c.trace.length:Int)<=2000)&&decide ((c.cS.length:Int)<=400)))))))))))))))))))))
def Te(c:ax)(C:eB c):FH c=some (gE c):=by
 have⟨⟨D,E⟩,Y,⟨Z,z5⟩,⟨⟨z6,L⟩,z7,z8⟩,z9,O,⟨lR,aaa⟩,mC,ot,ny,pg,MO,CT,MP⟩:=C;unfold AP at D E;have T:∀ x∈c.array.cells,x.symbols.length<1073741824:=λx U=>by
  have:=L x U;unfold uA at this;omega
 unfold v9 at O;unfold FH gE;simp only[Td _ _ (show c.box.bI.weights.length<1073741823 by omega),Td _ _ (show c.box.next.weights.length<1073741823 by omega),dB,akJ,Zz,akx _ _ T,akT,aBx _ (show c.aP.aH.length<1073741824 by omega),ZB,Mk,aBi _ _ (show c.queue.length<1073741824 by omega),Mx _ (show c.shares.length<1073741824 by omega),SR,SW,akN _ (show c.errors.length<1073741824 by omega),ak,ba1,ba2,ba3,ba4]
def aab(c:ax)(C:eB c):QH c=some (gE c):=by
 obtain⟨⟨D,E⟩,Y,⟨Z,z5⟩,⟨⟨z6,L⟩,z7,z8⟩,z9,O,⟨lR,aaa⟩,mC,ot,ny,pg,MO,CT,MP⟩:=C;unfold AP at D E;have T:∀ x∈c.array.cells,x.symbols.length<1073741824:=λx U=>by
  have:=L x U;unfold uA at this;omega
 unfold v9 at O;unfold QH gE;simp only[alD _ _ (show c.box.bI.weights.length<1073741823 by omega),alD _ _ (show c.box.next.weights.length<1073741823 by omega),eA,aBc,akO,aB4 _ _ T,akU,SU _ (show c.aP.aH.length<1073741824 by omega),aBw,aBv,Ml,aBg,Zr _ (show c.shares.length<1073741824 by omega),SS,SX,akM,ak,ba1,ba2,ba3,ba4,Bool.and_assoc]
def aD2{H:Type}{cV:TypeId×Value->H}{w:World}{base:Nat}{v:Value}{d:DataW H}{p:aa MemPlace}(C:Value.okWide Tryz.prog w .any base 65 v)(h:DataW.Trod cV Tryz.prog w 0 (λ_=>true) true 65 v d p):Xo .cN MM w v:=
 arz aCL Tryz.underlying65 C h
def aac{g:aV}{a:cZ}(h:mz g a=true):cI g=true/\(a.bz.length:Int)=gu g/\(a.bu.length:Int)=gu g:=by
 simp[mz,aN,iU]at h;simp_all
def aD3{n:Int}{l:aa bA}(h:o7 n l=true){i j:Nat}(E:i<j)(D:j<l.length):(l[i].id==l[j].id)=false:=by
 unfold o7 at h;rw[aN,cw]at h;have C:=h.1 j (gk.2 D);unfold q8 at C;rw[bZ D]at C;simp at C;have:=C.2.2 l[i] (jg.2 ⟨i,by simp;omega,by simp⟩);simp_all
abbrev aD4:=((af×af×af×Int×af)×(ax×(Int×Int×Int×Int×Int×Int×Int×Int×Int×Int×Int×Int×Int×Int×Int×Int×Int×Int×Int×Int×Int×Int×Bool×Int×Int×Int×Int×Int×Int×Int×Int×Int×Int×af×Int×Int×Int×Int×Int×Int×Int×af×Int×Int×Bool×Int×af×Int×af×af×af×af×af×Int×af×af×Int×Bool×(aa bQ)×(aa Int)×(aa aI)×(aa bA)×(aa bV)×Bool×Int×Int×Int×Int×Int×Int×Int×Int×(aa bU)×(aa cO)×(aa cW)×af)×(aa bQ)×(aa Int)×(aa Int)×(aa cQ)×(aa Int)×(aa Int)×(aa bK)×(aa Int)×(aa Int)×(aa Int)×(aa Int)×af))
abbrev aD5:=((af×af×af×(aa bQ)×Int×Int×af)×(ax×ax×(Int×Int×Int×Int×Int×Int×Int×Int×Int×Int×Int×Int×Int×Int×Int×Int×Int×Int×Int×Int×Int×Int×Bool×Int×Int×Int×Int×Int×Int×Int×Int×Int×Int×af×Int×Int×Int×Int×Int×Int×Int×af×Int×Int×Bool×Int×af×Int×af×af×af×af×af×Int×af×af×Int×Bool×af×(aa Int)×(aa aI)×(aa bA)×(aa bV)×Bool×Int×Int×Int×Int×Int×Int×Int×Int×(aa bU)×(aa cO)×(aa cW)×af)×(aa Int)×(aa Int)×(aa cQ)×(aa Int)×(aa Int)×(aa bK)×(aa Int)×(aa Int)×(aa Int)×(aa Int)×(aa bQ)×af))
def ir{α:Type}(l:aa α)(h:l.length<=1048577:=by omega):bP (([]:aa α).length+l.length)=true:=di (by simp;omega)
def aad(t:bQ)(h:hU t):Fp t=some t:=by
 unfold Fp xA xZ;have C:=h.1;have D:=h.2;rw[ir _,ir _];rfl
def alE(t:bQ)(h:hU t):JM t=some t:=aad t h
def aD6(s:aD4)(T:aa bQ)(C:s.1.2.2.2.1=0)(D:s.2.2.2.1=[])(E:s.2.2.1.2.2.2.2.2.2.2.2.2.2.2.2.2.2.2.2.2.2.2.2.2.2.2.2.2.2.2.2.2.2.2.2.2.2.2.2.2.2.2.2.2.2.2.2.2.2.2.2.2.2.2.2.2.2.2.2.2.2.1=T)(L:T.length<=1048576/\∀ y∈T,hU y):iter EO aR s=some (.inl (((),(),(),()),(s.2.1,s.2.2.1,T,s.2.2.2.2))):=by
 subst E;have e:=cA (step:=EO) (s.2.2.1.2.2.2.2.2.2.2.2.2.2.2.2.2.2.2.2.2.2.2.2.2.2.2.2.2.2.2.2.2.2.2.2.2.2.2.2.2.2.2.2.2.2.2.2.2.2.2.2.2.2.2.2.2.2.2.2.2.2.1).length (λi=>(((),(),(),(i:Int),()),(s.2.1,s.2.2.1,(s.2.2.1.2.2.2.2.2.2.2.2.2.2.2.2.2.2.2.2.2.2.2.2.2.2.2.2.2.2.2.2.2.2.2.2.2.2.2.2.2.2.2.2.2.2.2.2.2.2.2.2.2.2.2.2.2.2.2.2.2.2.1).take i,s.2.2.2.2))) (.inl (((),(),(),()),(s.2.1,s.2.2.1,s.2.2.1.2.2.2.2.2.2.2.2.2.2.2.2.2.2.2.2.2.2.2.2.2.2.2.2.2.2.2.2.2.2.2.2.2.2.2.2.2.2.2.2.2.2.2.2.2.2.2.2.2.2.2.2.2.2.2.2.2.2.1,s.2.2.2.2))) aR (λk h=>by
  unfold EO av xG xI;dsimp only;rw[aW,au,az ⟨by omega,by omega⟩];simp only[bD];rw[alE _ (L.2 _ (cU _)),ak,di (by simp;omega),au,bB,qX h]) (by
  unfold EO av xG xI;dsimp only;rw[aU,aq,iV]) (bO)
 have O:s=(((),(),(),((0:Nat):Int),()),(s.2.1,s.2.2.1,(s.2.2.1.2.2.2.2.2.2.2.2.2.2.2.2.2.2.2.2.2.2.2.2.2.2.2.2.2.2.2.2.2.2.2.2.2.2.2.2.2.2.2.2.2.2.2.2.2.2.2.2.2.2.2.2.2.2.2.2.2.2.1).take 0,s.2.2.2.2)):=by
  rw[List.take_zero,<-D,cu,<-C]
 rw[<-e,<-O]
def aD7(s:aD5)(D:s.1.2.2.2.2.2.1=0)(E:s.1.2.2.2.2.1=(s.1.2.2.2.1.length:Int))(L:s.2.2.2.2.2.2.2.2.2.2.2.2.2.2.1=[])(C:s.1.2.2.2.1.length <= 1048576 /\ ∀ y∈s.1.2.2.2.1,hU y):iter Fq aR s=some (.inl (((),(),(),()),(s.2.1,s.2.2.1,s.2.2.2.1,s.2.2.2.2.1,s.2.2.2.2.2.1,s.2.2.2.2.2.2.1,s.2.2.2.2.2.2.2.1,s.2.2.2.2.2.2.2.2.1,s.2.2.2.2.2.2.2.2.2.1,s.2.2.2.2.2.2.2.2.2.2.1,s.2.2.2.2.2.2.2.2.2.2.2.1,s.2.2.2.2.2.2.2.2.2.2.2.2.1,s.2.2.2.2.2.2.2.2.2.2.2.2.2.1,s.1.2.2.2.1,s.2.2.2.2.2.2.2.2.2.2.2.2.2.2.2))):=by
 have e:=cA (step:=Fq) s.1.2.2.2.1.length (λi=>(((),(),(),s.1.2.2.2.1,s.1.2.2.2.1.length,i,()),(s.2.1,s.2.2.1,s.2.2.2.1,s.2.2.2.2.1,s.2.2.2.2.2.1,s.2.2.2.2.2.2.1,s.2.2.2.2.2.2.2.1,s.2.2.2.2.2.2.2.2.1,s.2.2.2.2.2.2.2.2.2.1,s.2.2.2.2.2.2.2.2.2.2.1,s.2.2.2.2.2.2.2.2.2.2.2.1,s.2.2.2.2.2.2.2.2.2.2.2.2.1,s.2.2.2.2.2.2.2.2.2.2.2.2.2.1,s.1.2.2.2.1.take i,s.2.2.2.2.2.2.2.2.2.2.2.2.2.2.2))) _ aR (λk h=>by
  unfold Fq av xG xI;dsimp only;rw[aW,au,az ⟨by omega,by omega⟩];simp only[bD];rw[aad _ (C.2 _ (cU _)),ak,di (by simp;omega),au,bB,qX h]) (by
  unfold Fq av xG xI;dsimp only;rw[aU,aq,iV]) (bO)
 grind
def alF(l:aa Int)(h:l.length <= 1048577):Ry l=some l:=by
 cases l with
 |nil=>rfl
 | cons a l=>
  show (bif bP _ then some _ else none)=_;rw[ir _ h];rfl
def aD8(l:aa aI)(h:l.length <= 1048577):Yu l=some l:=by
 cases l with
 |nil=>rfl
 | cons a l=>
  show (bif bP _ then some _ else none)=_;rw[ir _ h];rfl
def aD9(l:aa bA)(h:l.length <= 1048577):Yv l=some l:=by
 cases l with
 |nil=>rfl
 | cons a l=>
  show (bif bP _ then some _ else none)=_;rw[ir _ h];rfl
def aEa(l:aa bV)(h:l.length <= 1048577):Yw l=some l:=by
 cases l with
 |nil=>rfl
 | cons a l=>
  show (bif bP _ then some _ else none)=_;rw[ir _ h];rfl
def aEb(l:aa bU)(h:l.length <= 1048577):Yx l=some l:=by
 cases l with
 |nil=>rfl
 | cons a l=>
  show (bif bP _ then some _ else none)=_;rw[ir _ h];rfl
def aEc(l:aa cO)(h:l.length <= 1048577):Yy l=some l:=by
 cases l with
 |nil=>rfl
 | cons a l=>
  show (bif bP _ then some _ else none)=_;rw[ir _ h];rfl
def aEd(l:aa cW)(h:l.length <= 1048577):Yz l=some l:=by
 cases l with
 |nil=>rfl
 | cons a l=>
  show (bif bP _ then some _ else none)=_;rw[ir _ h];rfl
def aae(b:gJ)(h:AQ b):Lc b=some b:=by
 have C:b.bI.weights.length <= 1048576:=h.1;have D:b.next.weights.length <= 1048576:=h.2
 unfold Lc Fk xA xZ;rw[ir _,au,ir _];rfl
def alG(b:gJ)(h:AQ b):Qj b=some b:=aae b h
def Tf(c:ax)(D:eB c):JN c=some c:=by
 obtain⟨E,L,O,C,T,U,Y,z8,z9,jc,lR,mC,ot,ny⟩:=D;have y2:c.bq.aB.length<=1048576:=L;obtain⟨y3,y3'⟩:=O;have y5:c.spare.map.length<=1048576:=T;have y6:c.aP.aH.length<=1048576:=U;unfold JN xA bh xZ;rw[alG _ E,ak];unfold XX tP XY JL xA xZ;rw[ir _,au,ak,ir _,au,ir _,au,ak,aAS _ (by have:=C.1.1;omega) (by have:=C.2.1;omega) (by have:=C.2.2;omega) (λx Z=>by have:x.symbols.length<=1048576:=C.1.2 x Z;omega),ak,ir _,au,ak,ir _,au,ak]
 refine(aY (λo=>Option.bind o _) (aD6 _ c.bH rfl rfl rfl Y)).trans ?_
 rw[ak];simp only[eJ];rw[ir c.guard,au,ir c.pending,au,ir c.queue,au,ir c.shares,au,ir c.errors,au,ir c.trace,au,ir c.cS,au];rfl
def MQ(c:ax)(D:eB c):Fs c=some c:=by
 obtain⟨E,L,O,C,T,U,Y,z8,z9,jc,lR,mC,ot,ny⟩:=D;have y2:c.bq.aB.length<=1048576:=L;obtain⟨y3,y3'⟩:=O;have y5:c.spare.map.length<=1048576:=T;have y6:c.aP.aH.length<=1048576:=U;unfold Fs bh;rw[aae _ E,ak];unfold Fl Fm CU xA xZ;rw[ir _,au,ak,ir _,au,ir _,au,ak,akw _ (by have:=C.1.1;omega) (by have:=C.2.1;omega) (by have:=C.2.2;omega) (λx Z=>by have:x.symbols.length<=1048576:=C.1.2 x Z;omega),ak,alF _ (by omega),ak,ir _,au,ak]
 refine(aY (λo=>Option.bind o _) (aD7 _ rfl rfl rfl Y)).trans ?_
 rw[ak];simp only[eJ];rw[alF c.guard (by omega),ak,aD8 c.pending (by omega),ak,aD9 c.queue (by omega),ak,aEa c.shares (by omega),ak,aEb c.errors (by omega),ak,aEc c.trace (by omega),ak,aEd c.cS (by omega),ak];rfl
def dx{α:Type}(p:α->Bool)(q:aa α):Nat:=(q.findIdx? p).getD q.length
def we{α:Type}(p:α -> Bool)(q:aa α):dx p q <= q.length:=by
 unfold dx;cases h:q.findIdx? p with
 |none=>simp_all
 | some k=>
  have⟨C,_⟩:=pF.1 h
  grind
def nA{α:Type}{p:α -> Bool}{q:aa α}{i:Nat}(h:i<dx p q)(hi:i<q.length):p q[i]=false:=by
 unfold dx at h;cases C:q.findIdx? p with
 |none =>simp_all
 | some k=>
  rw[C]at h;have⟨_,_,D⟩:=pF.1 C;simp_all
def rj{α:Type}{p:α -> Bool}{q:aa α}(h:dx p q<q.length):p q[dx p q]=true:=by
 unfold dx at h;cases C:q.findIdx? p with
 |none=>grind
 | some k=>
  have⟨D,E,_⟩:=pF.1 C;have e:dx p q=k:=by unfold dx;rw[C];rfl
  simp_all
def Tg{α:Type}(p:α -> Bool)(q:aa α):q.any p=decide (dx p q<q.length):=by
 by_cases c:dx p q<q.length
 ·rw[aW c,List.any_eq_true];exact⟨_,cU c,rj c⟩
 ·rw[aU c,List.any_eq_false];intro x C;obtain⟨i,hi,rfl⟩:=jg.1 C;rw[nA (p:=p) (by omega) hi];simp
def cg{T:Type}(g:T->Int->T×Int):aa T->Int->aa T×Int
 |[],k=>([],k)
 |x::l,k=>((g x k).1::(cg g l (g x k).2).1,(cg g l (g x k).2).2)
def alH{T:Type}(g:T->Int->T×Int)(x:T):∀ (l:aa T) (k:Int),cg g (l++[x]) k=((cg g l k).1++[(g x (cg g l k).2).1],(g x (cg g l k).2).2)
 |[],k=>rfl
 | y :: l,k=>by
  rw[List.cons_append];unfold cg;rw[alH g x l];rfl
def Gn{T:Type}(g:T->Int->T×Int):∀ (l:aa T) (k:Int),(cg g l k).1.length=l.length
 |[],k=>rfl
 | y :: l,k=>by
  unfold cg;rw[List.length_cons,List.length_cons,Gn g l]
def MR{T:Type}(g:T->Int->T×Int)(s:Nat):∀ (l:aa T) (k:Int),(∀ x∈l,∀ k,k<=(g x k).2/\(g x k).2<=k+s)->k<=(cg g l k).2/\(cg g l k).2<=k+((s*l.length:Nat):Int)
 |[],k,_=>by simp[cg]
 | y :: l,k,h=>by
  have E:=h y (.head _) k;have L:=MR g s l (g y k).2 λx C=>h x (.tail _ C)
  have D:s*(y::l).length=s*l.length+s:=by rw[List.length_cons,Nat.mul_succ]
  show k<=(cg g l (g y k).2).2/\(cg g l (g y k).2).2<=_;rw[D];omega
def alI{T:Type}(g:T->Int->T×Int)(l:aa T)(k:Int){i:Nat}(hi:i<l.length):cg g (l.take (i+1)) k=((cg g (l.take i) k).1++[(g l[i] (cg g (l.take i) k).2).1],(g l[i] (cg g (l.take i) k).2).2):=by
 rw[qX hi,alH]
def alJ{T:Type}(g:T->Int->T×Int):∀ (l:aa T) (k:Int) (i:Nat) (hi:i<l.length) (C:i<(cg g l k).1.length),(cg g l k).1[i]=(g l[i] (cg g (l.take i) k).2).1
 |[],k,i,hi,C=>by simp at hi
 |y::l,k,0,hi,C=>rfl
 |y::l,k,i+1,hi,C=>alJ g l (g y k).2 i (by simpa using hi) (by rw[Gn];simpa using hi)
def aaf{s n i:Nat}(C:s<=2097154)(hi:i<=n)(D:n<=1048576):s*i<=2199025352704:=Nat.le_trans (Nat.mul_le_mul C (Nat.le_trans hi D)) (by decide)
def wg{T:Type}(g:T->Int->T×Int)(s:Nat)(B:Int)(st:((af×Int×Int×af)×(aa T×af))->ah (((af×Int×Int×af)×(aa T×af))⊕(((Int×af)×(aa T×af))⊕Empty)))(l:aa T)(O:l.length<=1048576)(U:s<=2097154)(Y:∀ x∈l,∀ k,k<=(g x k).2/\(g x k).2<=k+s)
  (Z:∀(a:aa T) (i:Nat) (k:Int) (h:i<a.length),i<1048576->a[i]∈l->0<=k->k<=B+2199025352704->st (((),k,(i:Int),()),(a,()))=some (.inl (((),(g a[i] k).2,((i+1:Nat):Int),()),(a.set i (g a[i] k).1,()))))
  (ng:∀(a:aa T) (k:Int),st (((),k,(a.length:Int),()),(a,()))=some (.inr (.inl ((k,()),(a,()))))) (k:Int) (h0:0<=k) (h1:k<=B):iter st aR (((),k,(0:Int),()),(l,()))=some (.inl (((cg g l k).2,()),((cg g l k).1,()))):=by
 have e:=cA (step:=st) l.length (λi=>(((),(cg g (l.take i) k).2,(i:Int),()),((cg g (l.take i) k).1++l.drop i,()))) (.inl (((cg g l k).2,()),((cg g l k).1,()))) aR (λi hi=>by
  have wX:=MR g s (l.take i) k λx D=>Y x (List.mem_of_mem_take D)
  have hm:=aaf U (Nat.le_of_lt hi) O;have E:(l.take i).length=i:=by rw[fJ];omega
  have L:(cg g (l.take i) k).1.length=i:=by rw[Gn,E]
  rw[E]at wX;have ha:((cg g (l.take i) k).1++l.drop i).length=l.length:=by rw[List.length_append,L,List.length_drop];omega
  have D:((cg g (l.take i) k).1++l.drop i)[i]'(by omega)=l[i]:=by
   rw[List.getElem_append_right (by omega),List.getElem_drop];congr 1;omega
  have C:=Z _ i (cg g (l.take i) k).2 (by omega:i<((cg g (l.take i) k).1++l.drop i).length) (by omega) (by rw[D];exact cU _) (by omega) (by omega);rw[D]at C;refine C.trans ?_;rw[alI g l k hi,List.set_append_right _ _ (by omega),L,Nat.sub_self,List.drop_eq_getElem_cons hi,List.set_cons_zero,List.append_assoc];rfl) (by
  have C:=ng (cg g l k).1 (cg g l k).2;rw[Gn]at C;rw[iV,List.drop_length,List.append_nil];exact C) (bO)
 exact e
def wh{T:Type}(g:T->Int->T×Int)(s:Nat)(B:Int)(st:((aa T×Int×Int×af)×af)->ah (((aa T×Int×Int×af)×af)⊕(((Int×af)×af)⊕(((Int×af)×af)⊕Empty))))(l:aa T)(D:l.length<=1048576)(E:s<=2097154)(L:∀ x∈l,∀ k,k<=(g x k).2/\(g x k).2<=k+s)
  (O:∀(a:aa T) (x:T) (i:Nat) (k:Int) (h:i<a.length),i<1048576->x∈l->a[i]=(g x k).1->0<=k->k<=B+2199025352704->st ((a,k,(i:Int),()),())=some (.inl ((a,(g x k).2,((i+1:Nat):Int),()),())))
  (U:∀(a:aa T) (k:Int),st ((a,k,(a.length:Int),()),())=some (.inr (.inr (.inl ((k,()),()))))) (k:Int) (h0:0<=k) (h1:k<=B):iter st aR (((cg g l k).1,k,(0:Int),()),())=some (.inr (.inl (((cg g l k).2,()),()))):=by
 have e:=cA (step:=st) l.length (λi=>(((cg g l k).1,(cg g (l.take i) k).2,(i:Int),()),())) (.inr (.inl (((cg g l k).2,()),()))) aR (λi hi=>by
  have Y:=MR g s (l.take i) k λx Z=>L x (List.mem_of_mem_take Z)
  have hm:=aaf E (Nat.le_of_lt hi) D;have ht:(l.take i).length=i:=by rw[fJ];omega
  rw[ht]at Y;have hg:=Gn g l k;have C:=O (cg g l k).1 l[i] i (cg g (l.take i) k).2 (by omega) (by omega) (cU _) (alJ g l k i hi (by omega)) (by omega) (by omega);rw[alI g l k hi];exact C) (by
  have C:=U (cg g l k).1 (cg g l k).2;rw[Gn]at C;rw[iV];exact C) (bO)
 exact e
def MH{T:Type}(mark:aa T->Int->ah (Int×(aa T×af)))(held:aa T->Int->ah Int)(l:aa T):Prop:=∀k:Int,0<=k->k<=1152921504606846976->∃m C,mark l k=some (m,(C,()))/\held C k=some m/\k<=m/\m<=k+2199025352704
def wj{T:Type}{mark:aa T->Int->ah (Int×(aa T×af))}{held:aa T->Int->ah Int}{l:aa T}(g:T->Int->T×Int)(s:Nat)(E:l.length<=1048576)(L:s<=2097154)(O:∀ x∈l,∀ k,k<=(g x k).2/\(g x k).2<=k+s)(U:∀ k:Int,0<=k->k<=1152921504606846976->mark l k=some ((cg g l k).2,((cg g l k).1,())))(Y:∀ k:Int,0<=k->k<=1152921504606846976->held (cg g l k).1 k=some (cg g l k).2):MH mark held l:=λk C D=>by
 have:=MR g s l k O;have:=aaf L (dM _) E;exact⟨_,_,U k C D,Y k C D,by omega,by omega⟩
def fP(_ k:Int):Int×Int:=(k,k+1)
def Th(x k:Int):k<=(fP x k).2/\(fP x k).2<=k+(1:Nat):=by
 unfold fP;dsimp only;omega
def Ti(l:aa Int)(E:l.length<=1048576)(k:Int)(C:0<=k)(D:k<=2305843009213693952):gi l k=some ((cg fP l k).2,((cg fP l k).1,())):=by
 unfold gi bh;rw[wg fP 1 2305843009213693952 Ja l E (by omega) (λx _=>Th x) (λa i k h hi _ C D=>by
  have L:0<=(i:Int):=by omega
  unfold Ja av xG xL;dsimp only[jb];rw[aW,au];simp only[gz,bD,L,h,and_self,dite_true,mH,List.set_set];rw[bB,aO (n:=k+1)];rfl) (λa k=>by
  unfold Ja av xG xL;dsimp only[jb];rw[aU,aq]) k C D]
 rfl
def Tj(l:aa Int)(E:l.length<=1048576)(k:Int)(C:0<=k)(D:k<=2305843009213693952):oV (cg fP l k).1 k=some (cg fP l k).2:=by
 unfold oV bE;rw[wh fP 1 2305843009213693952 Js l E (by omega) (λx _=>Th x) (λa x i k h hi _ L C D=>by
  have O:0<=(i:Int):=by omega
  unfold Js av aQ xG xI;dsimp only;rw[aW,au];simp only[bD,O,h,and_self,dite_true,L];rw[bB,aO (n:=k+1)];simp only[fP,dV,dR,bC,aq]) (λa k=>by
  unfold Js av aQ xG xI;dsimp only;rw[aU,aq]) k C D]
 rfl
def yh(l:aa Int)(C:l.length<=1048576):MH gi oV l:=wj fP 1 C (by omega) (λx _=>Th x) (λk D E=>Ti l C k D (by omega)) (λk D E=>Tj l C k D (by omega))
def uB(_:cQ)(k:Int):cQ×Int:=(⟨((k).tmod 3==0),k+1⟩,k+1+1)
def aag(x:cQ)(k:Int):k<=(uB x k).2/\(uB x k).2<=k+(2:Nat):=by
 unfold uB;dsimp only;omega
def aEe(l:aa cQ)(E:l.length<=1048576)(k:Int)(C:0<=k)(D:k<=1152921504606846976):Co l k=some ((cg uB l k).2,((cg uB l k).1,())):=by
 unfold Co bh;rw[wg uB 2 1152921504606846976 Jb l E (by omega) (λx _=>aag x) (λa i k h hi _ C D=>by
  have L:0<=(i:Int):=by omega
  unfold Jb av xG xL;dsimp only[jb];rw[aW,au];simp only[gz,bD,L,h,and_self,dite_true,mH,List.set_set];rw[bB,aO (n:=k+1),aO (n:=k+1+1)];rfl) (λa k=>by
  unfold Jb av xG xL;dsimp only[jb];rw[aU,aq]) k C D]
 rfl
def aEf(l:aa cQ)(E:l.length<=1048576)(k:Int)(C:0<=k)(D:k<=1152921504606846976):Ju (cg uB l k).1 k=some (cg uB l k).2:=by
 unfold Ju bE;rw[wh uB 2 1152921504606846976 Jt l E (by omega) (λx _=>aag x) (λa x i k h hi _ L C D=>by
  have O:0<=(i:Int):=by omega
  unfold Jt av aQ xG xI;dsimp only;rw[aW,au];simp only[bD,O,h,and_self,dite_true,L];rw[bB,aO (n:=k+1),aO (n:=k+1+1)];simp only[uB,dV,dR,bC,aq]) (λa k=>by
  unfold Jt av aQ xG xI;dsimp only;rw[aU,aq]) k C D]
 rfl
def aEg(l:aa cQ)(C:l.length<=1048576):MH Co Ju l:=wj uB 2 C (by omega) (λx _=>aag x) (λk D E=>aEe l C k D (by omega)) (λk D E=>aEf l C k D (by omega))
def uC(_:aI)(k:Int):aI×Int:=(⟨k,k+1,k+1+1⟩,k+1+1+1)
def aah(x:aI)(k:Int):k<=(uC x k).2/\(uC x k).2<=k+(3:Nat):=by
 unfold uC;dsimp only;omega
def aEh(l:aa aI)(E:l.length<=1048576)(k:Int)(C:0<=k)(D:k<=1152921504606846976):Cp l k=some ((cg uC l k).2,((cg uC l k).1,())):=by
 unfold Cp bh;rw[wg uC 3 1152921504606846976 Jf l E (by omega) (λx _=>aah x) (λa i k h hi _ C D=>by
  have L:0<=(i:Int):=by omega
  unfold Jf av xG xL;dsimp only[jb];rw[aW,au];simp only[gz,bD,L,h,and_self,dite_true,mH,List.set_set];rw[bB,aO (n:=k+1),aO (n:=k+1+1),aO (n:=k+1+1+1)];rfl) (λa k=>by
  unfold Jf av xG xL;dsimp only[jb];rw[aU,aq]) k C D]
 rfl
def aEi(l:aa aI)(E:l.length<=1048576)(k:Int)(C:0<=k)(D:k<=1152921504606846976):Jy (cg uC l k).1 k=some (cg uC l k).2:=by
 unfold Jy bE;rw[wh uC 3 1152921504606846976 Jx l E (by omega) (λx _=>aah x) (λa x i k h hi _ L C D=>by
  have O:0<=(i:Int):=by omega
  unfold Jx av aQ xG xI;dsimp only;rw[aW,au];simp only[bD,O,h,and_self,dite_true,L];rw[bB,aO (n:=k+1),aO (n:=k+1+1),aO (n:=k+1+1+1)];simp only[uC,dV,dR,bC,aq]) (λa k=>by
  unfold Jx av aQ xG xI;dsimp only;rw[aU,aq]) k C D]
 rfl
def aEj(l:aa aI)(C:l.length<=1048576):MH Cp Jy l:=wj uC 3 C (by omega) (λx _=>aah x) (λk D E=>aEh l C k D (by omega)) (λk D E=>aEi l C k D (by omega))
def uD(_:bA)(k:Int):bA×Int:=(⟨k,k+1,k+1+1,((k+1+1+1).tmod 3==0),k+1+1+1+1,k+1+1+1+1+1⟩,k+1+1+1+1+1+1)
def aai(x:bA)(k:Int):k<=(uD x k).2/\(uD x k).2<=k+(6:Nat):=by
 unfold uD;dsimp only;omega
def aEk(l:aa bA)(E:l.length<=1048576)(k:Int)(C:0<=k)(D:k<=1152921504606846976):Cr l k=some ((cg uD l k).2,((cg uD l k).1,())):=by
 unfold Cr bh;rw[wg uD 6 1152921504606846976 Jh l E (by omega) (λx _=>aai x) (λa i k h hi _ C D=>by
  have L:0<=(i:Int):=by omega
  unfold Jh av xG xL;dsimp only[jb];rw[aW,au];simp only[gz,bD,L,h,and_self,dite_true,mH,List.set_set];rw[bB,aO (n:=k+1),aO (n:=k+1+1),aO (n:=k+1+1+1),aO (n:=k+1+1+1+1),aO (n:=k+1+1+1+1+1),aO (n:=k+1+1+1+1+1+1)];rfl) (λa k=>by
  unfold Jh av xG xL;dsimp only[jb];rw[aU,aq]) k C D]
 rfl
def aEl(l:aa bA)(E:l.length<=1048576)(k:Int)(C:0<=k)(D:k<=1152921504606846976):JA (cg uD l k).1 k=some (cg uD l k).2:=by
 unfold JA bE;rw[wh uD 6 1152921504606846976 Jz l E (by omega) (λx _=>aai x) (λa x i k h hi _ L C D=>by
  have O:0<=(i:Int):=by omega
  unfold Jz av aQ xG xI;dsimp only;rw[aW,au];simp only[bD,O,h,and_self,dite_true,L];rw[bB,aO (n:=k+1),aO (n:=k+1+1),aO (n:=k+1+1+1),aO (n:=k+1+1+1+1),aO (n:=k+1+1+1+1+1),aO (n:=k+1+1+1+1+1+1)];simp only[uD,dV,dR,bC,aq]) (λa k=>by
  unfold Jz av aQ xG xI;dsimp only;rw[aU,aq]) k C D]
 rfl
def aEm(l:aa bA)(C:l.length<=1048576):MH Cr JA l:=wj uD 6 C (by omega) (λx _=>aai x) (λk D E=>aEk l C k D (by omega)) (λk D E=>aEl l C k D (by omega))
def uE(_:bV)(k:Int):bV×Int:=(⟨k,k+1⟩,k+1+1)
def aaj(x:bV)(k:Int):k<=(uE x k).2/\(uE x k).2<=k+(2:Nat):=by
 unfold uE;dsimp only;omega
def aEn(l:aa bV)(E:l.length<=1048576)(k:Int)(C:0<=k)(D:k<=1152921504606846976):Cs l k=some ((cg uE l k).2,((cg uE l k).1,())):=by
 unfold Cs bh;rw[wg uE 2 1152921504606846976 Jj l E (by omega) (λx _=>aaj x) (λa i k h hi _ C D=>by
  have L:0<=(i:Int):=by omega
  unfold Jj av xG xL;dsimp only[jb];rw[aW,au];simp only[gz,bD,L,h,and_self,dite_true,mH,List.set_set];rw[bB,aO (n:=k+1),aO (n:=k+1+1)];rfl) (λa k=>by
  unfold Jj av xG xL;dsimp only[jb];rw[aU,aq]) k C D]
 rfl
def aEo(l:aa bV)(E:l.length<=1048576)(k:Int)(C:0<=k)(D:k<=1152921504606846976):JC (cg uE l k).1 k=some (cg uE l k).2:=by
 unfold JC bE;rw[wh uE 2 1152921504606846976 JB l E (by omega) (λx _=>aaj x) (λa x i k h hi _ L C D=>by
  have O:0<=(i:Int):=by omega
  unfold JB av aQ xG xI;dsimp only;rw[aW,au];simp only[bD,O,h,and_self,dite_true,L];rw[bB,aO (n:=k+1),aO (n:=k+1+1)];simp only[uE,dV,dR,bC,aq]) (λa k=>by
  unfold JB av aQ xG xI;dsimp only;rw[aU,aq]) k C D]
 rfl
def aEp(l:aa bV)(C:l.length<=1048576):MH Cs JC l:=wj uE 2 C (by omega) (λx _=>aaj x) (λk D E=>aEn l C k D (by omega)) (λk D E=>aEo l C k D (by omega))
def uF(_:bU)(k:Int):bU×Int:=(⟨k,k+1,k+1+1⟩,k+1+1+1)
def aak(x:bU)(k:Int):k<=(uF x k).2/\(uF x k).2<=k+(3:Nat):=by
 unfold uF;dsimp only;omega
def aEq(l:aa bU)(E:l.length<=1048576)(k:Int)(C:0<=k)(D:k<=1152921504606846976):Ct l k=some ((cg uF l k).2,((cg uF l k).1,())):=by
 unfold Ct bh;rw[wg uF 3 1152921504606846976 Jl l E (by omega) (λx _=>aak x) (λa i k h hi _ C D=>by
  have L:0<=(i:Int):=by omega
  unfold Jl av xG xL;dsimp only[jb];rw[aW,au];simp only[gz,bD,L,h,and_self,dite_true,mH,List.set_set];rw[bB,aO (n:=k+1),aO (n:=k+1+1),aO (n:=k+1+1+1)];rfl) (λa k=>by
  unfold Jl av xG xL;dsimp only[jb];rw[aU,aq]) k C D]
 rfl
def aEr(l:aa bU)(E:l.length<=1048576)(k:Int)(C:0<=k)(D:k<=1152921504606846976):JE (cg uF l k).1 k=some (cg uF l k).2:=by
 unfold JE bE;rw[wh uF 3 1152921504606846976 JD l E (by omega) (λx _=>aak x) (λa x i k h hi _ L C D=>by
  have O:0<=(i:Int):=by omega
  unfold JD av aQ xG xI;dsimp only;rw[aW,au];simp only[bD,O,h,and_self,dite_true,L];rw[bB,aO (n:=k+1),aO (n:=k+1+1),aO (n:=k+1+1+1)];simp only[uF,dV,dR,bC,aq]) (λa k=>by
  unfold JD av aQ xG xI;dsimp only;rw[aU,aq]) k C D]
 rfl
def aEs(l:aa bU)(C:l.length<=1048576):MH Ct JE l:=wj uF 3 C (by omega) (λx _=>aak x) (λk D E=>aEq l C k D (by omega)) (λk D E=>aEr l C k D (by omega))
def uG(_:cO)(k:Int):cO×Int:=(⟨k,⟨k+1,k+1+1,k+1+1+1,k+1+1+1+1⟩⟩,k+1+1+1+1+1)
def aal(x:cO)(k:Int):k<=(uG x k).2/\(uG x k).2<=k+(5:Nat):=by
 unfold uG;dsimp only;omega
def aEt(l:aa cO)(E:l.length<=1048576)(k:Int)(C:0<=k)(D:k<=1152921504606846976):Cu l k=some ((cg uG l k).2,((cg uG l k).1,())):=by
 unfold Cu bh;rw[wg uG 5 1152921504606846976 Jo l E (by omega) (λx _=>aal x) (λa i k h hi _ C D=>by
  have L:0<=(i:Int):=by omega
  unfold Jo av xG xL;dsimp only[jb];rw[aW,au];simp only[gz,bD,L,h,and_self,dite_true,mH,List.set_set];rw[bB,aO (n:=k+1),aO (n:=k+1+1),aO (n:=k+1+1+1),aO (n:=k+1+1+1+1),aO (n:=k+1+1+1+1+1)];rfl) (λa k=>by
  unfold Jo av xG xL;dsimp only[jb];rw[aU,aq]) k C D]
 rfl
def aEu(l:aa cO)(E:l.length<=1048576)(k:Int)(C:0<=k)(D:k<=1152921504606846976):JG (cg uG l k).1 k=some (cg uG l k).2:=by
 unfold JG bE;rw[wh uG 5 1152921504606846976 JF l E (by omega) (λx _=>aal x) (λa x i k h hi _ L C D=>by
  have O:0<=(i:Int):=by omega
  unfold JF av aQ xG xI;dsimp only;rw[aW,au];simp only[bD,O,h,and_self,dite_true,L];rw[bB,aO (n:=k+1),aO (n:=k+1+1),aO (n:=k+1+1+1),aO (n:=k+1+1+1+1),aO (n:=k+1+1+1+1+1)];simp only[uG,dV,dR,bC,aq]) (λa k=>by
  unfold JF av aQ xG xI;dsimp only;rw[aU,aq]) k C D]
 rfl
def aEv(l:aa cO)(C:l.length<=1048576):MH Cu JG l:=wj uG 5 C (by omega) (λx _=>aal x) (λk D E=>aEt l C k D (by omega)) (λk D E=>aEu l C k D (by omega))
def uH(_:cW)(k:Int):cW×Int:=(⟨k,k+1,k+1+1,k+1+1+1⟩,k+1+1+1+1)
def aam(x:cW)(k:Int):k<=(uH x k).2/\(uH x k).2<=k+(4:Nat):=by
 unfold uH;dsimp only;omega
def aEw(l:aa cW)(E:l.length<=1048576)(k:Int)(C:0<=k)(D:k<=1152921504606846976):Cv l k=some ((cg uH l k).2,((cg uH l k).1,())):=by
 unfold Cv bh;rw[wg uH 4 1152921504606846976 Jq l E (by omega) (λx _=>aam x) (λa i k h hi _ C D=>by
  have L:0<=(i:Int):=by omega
  unfold Jq av xG xL;dsimp only[jb];rw[aW,au];simp only[gz,bD,L,h,and_self,dite_true,mH,List.set_set];rw[bB,aO (n:=k+1),aO (n:=k+1+1),aO (n:=k+1+1+1),aO (n:=k+1+1+1+1)];rfl) (λa k=>by
  unfold Jq av xG xL;dsimp only[jb];rw[aU,aq]) k C D]
 rfl
def aEx(l:aa cW)(E:l.length<=1048576)(k:Int)(C:0<=k)(D:k<=1152921504606846976):JI (cg uH l k).1 k=some (cg uH l k).2:=by
 unfold JI bE;rw[wh uH 4 1152921504606846976 JH l E (by omega) (λx _=>aam x) (λa x i k h hi _ L C D=>by
  have O:0<=(i:Int):=by omega
  unfold JH av aQ xG xI;dsimp only;rw[aW,au];simp only[bD,O,h,and_self,dite_true,L];rw[bB,aO (n:=k+1),aO (n:=k+1+1),aO (n:=k+1+1+1),aO (n:=k+1+1+1+1)];simp only[uH,dV,dR,bC,aq]) (λa k=>by
  unfold JH av aQ xG xI;dsimp only;rw[aU,aq]) k C D]
 rfl
def aEy(l:aa cW)(C:l.length<=1048576):MH Cv JI l:=wj uH 4 C (by omega) (λx _=>aam x) (λk D E=>aEw l C k D (by omega)) (λk D E=>aEx l C k D (by omega))
def yj(l:aa Int)(h:l.length<=1048576)(k:Int):k<=(cg fP l k).2/\(cg fP l k).2<=k+1048576:=by
 have:=MR fP 1 l k λx _=>Th x
 omega
def AR(x:bK)(k:Int):bK×Int:=(⟨(cg fP x.symbols k).1,((cg fP x.symbols k).2.tmod 3==0)⟩,(cg fP x.symbols k).2+1)
def aan(x:bK)(h:x.symbols.length<=1048576)(k:Int):k<=(AR x k).2/\(AR x k).2<=k+(1048577:Nat):=by
 have:=yj x.symbols h k;unfold AR;dsimp only;omega
def aEz(l:aa bK)(O:l.length<=1048576)(D:∀ y∈l,y.symbols.length<=1048576):MH EM Qg l:=wj AR 1048577 O (by omega) (λx C=>aan x (D x C)) (λk E L=>by
 unfold EM bh;rw[wg AR 1048577 1152921504606846976 Jc l O (by omega) (λx C=>aan x (D x C)) (λa i k h hi C E L=>by
  have T:0<=(i:Int):=by omega
  have Y:=yj a[i].symbols (D _ C) k;unfold Jc av xG xL xM;dsimp only[jb];rw[aW,au];simp only[gz,bD,T,h,and_self,dite_true];rw[Ti _ (D _ C) k E (by omega),ak];simp only[mH,List.set_set];rw[bB,aO (n:=(cg fP a[i].symbols k).2+1)];rfl) (λa k=>by
  unfold Jc av xG xL xM;dsimp only[jb];rw[aU,aq]) k E L]
 rfl) (λk E L=>by
 unfold Qg bE;rw[wh AR 1048577 1152921504606846976 Jv l O (by omega) (λx C=>aan x (D x C)) (λa x i k h hi U C E L=>by
  have T:0<=(i:Int):=by omega
  have Y:=yj x.symbols (D _ U) k;unfold Jv av aQ xG xI;dsimp only;rw[aW,au];simp only[bD,T,h,and_self,dite_true,C];rw[show (AR x k).1.symbols=(cg fP x.symbols k).1 from rfl,Tj _ (D _ U) k E (by omega),ak,aU,bB,aO (n:=(cg fP x.symbols k).2+1)];simp only[AR,dR,bC,aq]) (λa k=>by
  unfold Jv av aQ xG xI;dsimp only;rw[aU,aq]) k E L]
 rfl)
def yl(x:bQ)(k:Int):bQ×Int:=(⟨(cg fP x.rows k).1,(cg fP x.counts (cg fP x.rows k).2).1,(cg fP x.counts (cg fP x.rows k).2).2⟩,(cg fP x.counts (cg fP x.rows k).2).2+1)
def aao(x:bQ)(h:x.rows.length<=1048576/\x.counts.length<=1048576)(k:Int):k<=(yl x k).2/\(yl x k).2<=k+(2097153:Nat):=by
 have:=yj x.rows h.1 k;have:=yj x.counts h.2 (cg fP x.rows k).2;unfold yl;dsimp only;omega
def aEA(l:aa bQ)(T:l.length<=1048576)(D:∀ y∈l,y.rows.length<=1048576/\y.counts.length<=1048576):MH EN Qh l:=wj yl 2097153 T (by omega) (λx C=>aao x (D x C)) (λk E L=>by
 unfold EN bh;rw[wg yl 2097153 1152921504606846976 Jd l T (by omega) (λx C=>aao x (D x C)) (λa i k h hi C E L=>by
  have U:0<=(i:Int):=by omega
  have Y:=yj a[i].rows (D _ C).1 k;have Z:=yj a[i].counts (D _ C).2 (cg fP a[i].rows k).2;unfold Jd av xG xL xM;dsimp only[jb];rw[aW,au];simp only[gz,bD,U,h,and_self,dite_true];rw[Ti _ (D _ C).1 k E (by omega),ak];simp only[mH,List.set_set];rw[Ti _ (D _ C).2 _ (by omega) (by omega),ak];simp only[mH,List.set_set];rw[bB,aO (n:=(cg fP a[i].counts (cg fP a[i].rows k).2).2+1)];rfl) (λa k=>by
  unfold Jd av xG xL xM;dsimp only[jb];rw[aU,aq]) k E L]
 rfl) (λk E L=>by
 unfold Qh bE;rw[wh yl 2097153 1152921504606846976 Jw l T (by omega) (λx C=>aao x (D x C)) (λa x i k h hi O C E L=>by
  have U:0<=(i:Int):=by omega
  have Y:=yj x.rows (D _ O).1 k;have Z:=yj x.counts (D _ O).2 (cg fP x.rows k).2;unfold Jw av aQ xG xI;dsimp only;rw[aW,au];simp only[bD,U,h,and_self,dite_true,C];rw[show (yl x k).1.rows=(cg fP x.rows k).1 from rfl,Tj _ (D _ O).1 k E (by omega),ak,aU,aq,show (yl x k).1.counts=(cg fP x.counts (cg fP x.rows k).2).1 from rfl,Tj _ (D _ O).2 _ (by omega) (by omega),ak,aU,bB,aO (n:=(cg fP x.counts (cg fP x.rows k).2).2+1)];simp only[yl,dV,aq]) (λa k=>by
  unfold Jw av aQ xG xI;dsimp only;rw[aU,aq]) k E L]
 rfl)
def alK{β:Type}(c:ax)(hz:eB c)(B:(Int×(aa Int×af))->(Int×(aa Int×af))->(Int×(aa cQ×af))->(Int×(aa Int×af))->(Int×(aa Int×af))->(Int×(aa bK×af))->(Int×(aa Int×af))->(Int×(aa Int×af))->(Int×(aa Int×af))->(Int×(aa Int×af))->(Int×(aa bQ×af))->(Int×(aa Int×af))->(Int×(aa aI×af))->(Int×(aa bA×af))->(Int×(aa bV×af))->(Int×(aa bU×af))->(Int×(aa cO×af))->(Int×(aa cW×af))->ah β)(z:ah β)(h:∀ D E L O T U Y Z r8 r9 um uq ur uv uw uy uz C,0<=C.1/\C.1<=100000000000000->Qi (⟨c.config,⟨⟨c.box.bI.eO,c.box.bI.cap,c.box.bI.fD,c.box.bI.low,c.box.bI.high,D.2.1,c.box.bI.eK⟩,⟨c.box.next.eO,c.box.next.cap,c.box.next.fD,c.box.next.low,c.box.next.high,E.2.1,c.box.next.eK⟩,c.box.waits⟩,c.now,⟨L.2.1,c.bq.aZ⟩,⟨O.2.1,T.2.1⟩,⟨U.2.1,Y.2.1,Z.2.1⟩,⟨c.spare.cr,r8.2.1⟩,⟨r9.2.1,c.aP.wait,c.aP.dS⟩,um.2.1,uq.2.1,ur.2.1,uv.2.1,uw.2.1,c.drain,c.aZ,c.cK,uy.2.1,uz.2.1,C.2.1⟩:ax) (1:Int)=some C.1->B D E L O T U Y Z r8 r9 um uq ur uv uw uy uz C=z):((gi c.box.bI.weights (1:Int)).bind λD=>(gi c.box.next.weights D.1).bind λE=>(Co c.bq.aB E.1).bind λL=>(gi c.ready.last L.1).bind λO=>(gi c.ready.bx O.1).bind λT=>(EM c.array.cells T.1).bind λU=>(gi c.array.bz U.1).bind λY=>(gi c.array.bu Y.1).bind λZ=>(gi c.spare.map Z.1).bind λr8=>(gi c.aP.aH r8.1).bind λr9=>(EN c.bH r9.1).bind λum=>(gi c.guard um.1).bind λuq=>(Cp c.pending uq.1).bind λur=>(Cr c.queue ur.1).bind λuv=>(Cs c.shares uv.1).bind λuw=>(Ct c.errors uw.1).bind λuy=>(Cu c.trace uy.1).bind λuz=>(Cv c.cS uz.1).bind λC=>B D E L O T U Y Z r8 r9 um uq ur uv uw uy uz C)=z:=by
 obtain⟨⟨z1,z2⟩,z3,⟨z4,z5⟩,⟨⟨z6,z6'⟩,z7,z8⟩,z9,jc,⟨lR,aaa⟩,mC,ot,ny,pg,MO,CT,MP⟩:=hz;obtain⟨m0,l0,e0,d0,a0,b0⟩:=yh c.box.bI.weights z1 1 (by omega) (by omega);obtain⟨m1,l1,e1,d1,a1,b1⟩:=yh c.box.next.weights z2 m0 (by omega) (by omega)
 obtain⟨m2,l2,e2,d2,a2,b2⟩:=aEg c.bq.aB z3 m1 (by omega) (by omega);obtain⟨m3,l3,e3,d3,a3,b3⟩:=yh c.ready.last z4 m2 (by omega) (by omega);obtain⟨m4,l4,e4,d4,a4,b4⟩:=yh c.ready.bx z5 m3 (by omega) (by omega);obtain⟨m5,l5,e5,d5,a5,b5⟩:=aEz c.array.cells z6 z6' m4 (by omega) (by omega);obtain⟨m6,l6,e6,d6,a6,b6⟩:=yh c.array.bz z7 m5 (by omega) (by omega);obtain⟨m7,l7,e7,d7,a7,b7⟩:=yh c.array.bu z8 m6 (by omega) (by omega);obtain⟨m8,l8,e8,d8,a8,b8⟩:=yh c.spare.map z9 m7 (by omega) (by omega);obtain⟨m9,l9,e9,d9,a9,b9⟩:=yh c.aP.aH jc m8 (by omega) (by omega);obtain⟨m10,l10,jU,d10,Gj,b10⟩:=aEA c.bH lR aaa m9 (by omega) (by omega);obtain⟨m11,l11,vM,d11,Gk,b11⟩:=yh c.guard mC m10 (by omega) (by omega);obtain⟨m12,l12,ni,d12,Gl,b12⟩:=aEj c.pending ot m11 (by omega) (by omega);obtain⟨F9,l13,Yr,d13,S6,b13⟩:=aEm c.queue ny m12 (by omega) (by omega);obtain⟨m14,l14,oX,d14,S7,b14⟩:=aEp c.shares pg F9 (by omega) (by omega);obtain⟨m15,l15,Rf,d15,Mt,b15⟩:=aEs c.errors MO m14 (by omega) (by omega);obtain⟨m16,l16,qU,d16,Gm,b16⟩:=aEv c.trace CT m15 (by omega) (by omega);obtain⟨m17,l17,KH,d17,Ta,b17⟩:=aEy c.cS MP m16 (by omega) (by omega)
 refine(aY (λo=>Option.bind o _) e0).trans ?_
 rw[ak]
 refine(aY (λo=>Option.bind o _) e1).trans ?_
 rw[ak]
 refine(aY (λo=>Option.bind o _) e2).trans ?_
 rw[ak]
 refine(aY (λo=>Option.bind o _) e3).trans ?_
 rw[ak]
 refine(aY (λo=>Option.bind o _) e4).trans ?_
 rw[ak]
 refine(aY (λo=>Option.bind o _) e5).trans ?_
 rw[ak]
 refine(aY (λo=>Option.bind o _) e6).trans ?_
 rw[ak]
 refine(aY (λo=>Option.bind o _) e7).trans ?_
 rw[ak]
 refine(aY (λo=>Option.bind o _) e8).trans ?_
 rw[ak]
 refine(aY (λo=>Option.bind o _) e9).trans ?_
 rw[ak]
 refine(aY (λo=>Option.bind o _) jU).trans ?_
 rw[ak]
 refine(aY (λo=>Option.bind o _) vM).trans ?_
 rw[ak]
 refine(aY (λo=>Option.bind o _) ni).trans ?_
 rw[ak]
 refine(aY (λo=>Option.bind o _) Yr).trans ?_
 rw[ak]
 refine(aY (λo=>Option.bind o _) oX).trans ?_
 rw[ak]
 refine(aY (λo=>Option.bind o _) Rf).trans ?_
 rw[ak]
 refine(aY (λo=>Option.bind o _) qU).trans ?_
 rw[ak]
 refine(aY (λo=>Option.bind o _) KH).trans ?_
 rw[ak];refine h (m0,(l0,())) (m1,(l1,())) (m2,(l2,())) (m3,(l3,())) (m4,(l4,())) (m5,(l5,())) (m6,(l6,())) (m7,(l7,())) (m8,(l8,())) (m9,(l9,())) (m10,(l10,())) (m11,(l11,())) (m12,(l12,())) (F9,(l13,())) (m14,(l14,())) (m15,(l15,())) (m16,(l16,())) (m17,(l17,())) (by dsimp only;omega) ?_;unfold Qi XR Qf XS XT XU XV XW;simp only[d0,d1,d2,d3,d4,d5,d6,d7,d8,d9,d10,d11,d12,d13,d14,d15,d16,d17,ak,aU (show ¬ m0<0 by omega),aU (show ¬ m1<0 by omega),aU (show ¬ m2<0 by omega),aU (show ¬ m3<0 by omega),aU (show ¬ m4<0 by omega),aU (show ¬ m5<0 by omega),aU (show ¬ m6<0 by omega),aU (show ¬ m7<0 by omega),aU (show ¬ m8<0 by omega),aU (show ¬ m9<0 by omega),aU (show ¬ m10<0 by omega),aU (show ¬ m11<0 by omega),aU (show ¬ m12<0 by omega),aU (show ¬ F9<0 by omega),aU (show ¬ m14<0 by omega),aU (show ¬ m15<0 by omega),aU (show ¬ m16<0 by omega),aU (show ¬ m17<0 by omega),aq]
def nb(l:aa UInt8):aa Int:=l.map λb=>(b.toNat:Int)
def dm(c:ax)(a:cZ):ax:=⟨c.config,c.box,c.now,c.bq,c.ready,a,c.spare,c.aP,c.bH,c.guard,c.pending,c.queue,c.shares,c.drain,c.aZ,c.cK,c.errors,c.trace,c.cS⟩
def wm:bK:=⟨[],false⟩
def Dx(d:bK):bK:=⟨(d.symbols.set 0 (bits .xor .i64 (d.symbols.getD 0 0) 5)).set 1 (bits .xor .i64 (d.symbols.getD 1 0) 10),d.iy⟩
def jY(base:Nat):Nat->aa bK->aa bK
 |0,cs=>cs
 |n+1,cs=>(jY base n cs).set (base+n) (Dx ((jY base n cs).getD (base+n) wm))
def MS(base:Nat):∀ (n:Nat) (cs:aa bK),(jY base n cs).length=cs.length
 |0,_=>rfl
 | n+1,cs=>by
  show ((jY base n cs).set _ _).length=_;rw[gz,MS]
def aEB{d:bK}(h:Sy d.symbols):Sy (Dx d).symbols:=by
 have C:0<d.symbols.length:=by rw[h.1];omega
 have l1:1<d.symbols.length:=by rw[h.1];omega
 have L:d.symbols.getD 0 0=d.symbols[0]:=by rw[eY,bZ C];rfl
 have O:d.symbols.getD 1 0=d.symbols[1]:=by rw[eY,bZ l1];rfl
 have D:=akv (h.get (k:=0) C) (b:=5) ⟨by omega,by omega⟩;have E:=akv (h.get l1) (b:=10) ⟨by omega,by omega⟩;unfold Dx;rw[L,O];exact(h.set ⟨D.1,D.2.1⟩).set ⟨E.1,E.2.1⟩
def Tl{base:Nat}:∀ (n:Nat) {cs:aa bK},base+n <= cs.length -> (∀ c∈cs,Sy c.symbols) -> ∀ c∈jY base n cs,Sy c.symbols
 |0,cs,_,h=>h
 | n+1,cs,D,h=>by
  have C:=Tl (base:=base) n (by omega) h;have hlen:=MS base n cs;refine Sy.cc C (aEB ?_)
  grind
def uI(g:aV)(l:iX)(a:cZ)(b r:Int):cZ:=
 ⟨bif ye l a (b*g.rows+r).toNat then jY ((b*g.rows+r)*g.aT).toNat g.aT.toNat a.cells else a.cells,a.bz.set (b*g.rows+r).toNat 0,vW g.rows r (b*g.rows+r).toNat a.bu⟩
def MT{g:aV}(C:cI g=true){b r k:Int}(E:0 <= b)(L:b<bf g)(O:0 <= r)(T:r<g.rows)(U:0 <= k)(Y:k<g.aT):0 <= (b*g.rows+r)*g.aT/\(b*g.rows+r)*g.aT+k<fH g/\0 <= b*g.rows+r/\b*g.rows+r<gu g:=by
 have er:bf g*g.rows=gu g:=by simp[gu,C]
 have⟨r0,Z,D⟩:=vT E L O T;rw[er]at D;have⟨q0,q1,q2⟩:=vT Z D U Y;have el:gu g*g.aT=fH g:=by simp[gu,fH,C]
 simp_all
def aEC{g:aV}(C:cI g=true)(c:ax){b r:Int}(hc:(c.array.cells.length:Int)=fH g)(Y:∀ x∈c.array.cells,Sy x.symbols)(E:0<=b)(L:b<bf g)(O:0<=r)(T:r<g.rows):
  iter Dc aR (((),b,r,(),(0:Int),()),(c,(g.cH,g.aB,g.rows,g.aT,()),()))=some (.inl (((),b,r,(),()),(dm c ⟨jY ((b*g.rows+r)*g.aT).toNat g.aT.toNat c.array.cells,c.array.bz,c.array.bu⟩,(g.cH,g.aB,g.rows,g.aT,()),()))):=by
 obtain⟨_,_,_,_,g5,g6,g7,g8⟩:=fF C;have b1:=oa g;obtain⟨n,Z⟩:=gY (show 0<=g.aT by omega);obtain⟨B,hB⟩:∃B,B=((b*g.rows+r)*g.aT).toNat:=⟨_,rfl⟩
 have pI:g.aT.toNat=n:=by omega
 rw[<-hB,pI];have lz:B+n<=c.array.cells.length:=by
  have:=MT C E L O T (show 0<=g.aT-1 by omega) (by omega);omega
 have e:=cA (step:=Dc) n (λk=>(((),b,r,(),(k:Int),()),(dm c ⟨jY B k c.array.cells,c.array.bz,c.array.bu⟩,(g.cH,g.aB,g.rows,g.aT,()),()))) (.inl (((),b,r,(),()),(dm c ⟨jY B n c.array.cells,c.array.bz,c.array.bu⟩,(g.cH,g.aB,g.rows,g.aT,()),()))) aR (λk hk=>by
  have OR:fj g ⟨b,r,(k:Int)⟩=true:=De C E L O T (by dsimp only;omega) (by dsimp only;omega);have hix:qf g ⟨b,r,(k:Int)⟩=((B+k:Nat):Int):=by
   have:=MT C E L O T (show 0<=(k:Int) by omega) (by omega);unfold qf;rw[OR,au];dsimp only;omega
  have hlen:=MS B k c.array.cells;have U:=Tl k (by omega:B+k<=c.array.cells.length) Y;show Dc (((),b,r,(),(k:Int),()),(dm c ⟨jY B k c.array.cells,c.array.bz,c.array.bu⟩,(g.cH,g.aB,g.rows,g.aT,()),()))=some (.inl (((),b,r,(),((k+1:Nat):Int),()),(dm c ⟨(jY B k c.array.cells).set (B+k) (Dx ((jY B k c.array.cells).getD (B+k) wm)),c.array.bz,c.array.bu⟩,(g.cH,g.aB,g.rows,g.aT,()),())));generalize jY B k c.array.cells=cs at hlen U;have D:B+k<cs.length:=by omega
  have s1:=Sy.mem U D;have l1:(0:Nat)<cs[B+k].symbols.length:=by rw[s1.1];omega
  have l2:(1:Nat)<cs[B+k].symbols.length:=by rw[s1.1];omega
  have c2:decide ((k:Int)<g.aT)=true:=aW;have B2:cs.getD (B+k) wm=cs[B+k]:=by rw[eY,bZ D];rfl
  have f0:cs[B+k].symbols.getD 0 0=cs[B+k].symbols[0]:=by rw[eY,bZ l1];rfl
  have f1:cs[B+k].symbols.getD 1 0=cs[B+k].symbols[1]:=by rw[eY,bZ l2];rfl
  rw[B2];unfold Dx;rw[f0,f1];unfold Dc dm xC av xG xL xM;dsimp only;rw[c2,au,sE g,Zd,ak,hix];generalize B+k=j at D s1 l1 l2;simp (disch:=omega) [D,bB,l1,l2]) (by unfold Dc xC av xG xL xM;simp[Z]) (bO)
 exact e
def aED(c:ax){R k:Int}{nb:aa Int}(Y:nb.length<1000)(E:∀ n∈nb,0<=n/\n<R)(Z:0<=k)(hk:k+R<=(c.array.bu.length:Int))(hH:c.array.bu.length<1000000)(L:∀ x∈c.array.bu,0<=x/\x<=100000):
  iter Az aR (((),k,(),(nb.length:Int),(0:Int),()),(c,nb,()))=some (.inl ((),(dm c ⟨c.array.cells,c.array.bz,nb.foldl (λh n=>oY (k+n).toNat h) c.array.bu⟩,()))):=by
 have e:=cA (step:=Az) nb.length (λi=>(((),k,(),(nb.length:Int),(i:Int),()),(dm c ⟨c.array.cells,c.array.bz,(nb.take i).foldl (λh n=>oY (k+n).toNat h) c.array.bu⟩,nb,()))) (.inl ((),(dm c ⟨c.array.cells,c.array.bz,nb.foldl (λh n=>oY (k+n).toNat h) c.array.bu⟩,()))) aR (λj h=>by
  have hx:=E _ (cU h);have O:=alk k (nb.take j) c.array.bu;have hB:=alm k (nb.take j) c.array.bu L;rw[List.take_succ_eq_append_getElem h,List.foldl_append];simp only[List.foldl_cons,List.foldl_nil];generalize (nb.take j).foldl (λh n=>oY (k+n).toNat h) c.array.bu=G at O hB;obtain⟨q,D⟩:=gY (show 0<=k+nb[j] by omega);have C:q<G.length:=by omega
  have hg:=hB _ (cU C);have T:W6 (k+nb[j])=(q:Int):=by rw[D];exact aO
  have U:W6 (G[q]+1)=G[q]+1:=aO;rw[D,bD,Zk C];unfold Az dm av xG xL;simp (disch:=omega) [h,T,C,U,bB,mA]) (by unfold Az av xG xL;simp) (bO)
 rw[cu,List.take_zero,List.foldl_nil]at e;exact e
def aap{g:aV}(D:cI g=true)(l:iX){B:Int}(hB:0 <= B){a:cZ}(C:eX g B a){b r:Int}(E:0 <= b)(L:b<bf g)(O:0 <= r)(T:r<g.rows):eX g B (uI g l a b r):=by
 have⟨_,_,_,_,Y,Z,g7,g8⟩:=fF D;have U:((b*g.rows+r)*g.aT).toNat+g.aT.toNat <= a.cells.length:=by
  have:=MT D E L O T (show 0 <= g.aT-1 by omega) (by omega);have:=C.cells;omega
 unfold uI;refine⟨?_,?_,by simp[C.bz],by simp[aAW,C.bu],Mr C.Di ⟨by omega,by omega⟩,aAY C.iO⟩
 ·dsimp only;cases ye l a (b*g.rows+r).toNat with
  |false=>exact C.cells
  |true=>rw[au,MS];exact C.cells
 ·dsimp only;cases ye l a (b*g.rows+r).toNat with
  |false=>exact C.syms
  |true=>rw[au];exact Tl _ U C.syms
def alL{g:aV}(Y:cI g=true)(l:iX){B:Int}(c:ax)(C:eX g B c.array){b r:Int}(Z:0<=b)(h2:b<bf g)(D:0<=r)(E:r<g.rows):L7 g l c b r=some ((),(dm c (uI g l c.array b r),())):=by
 obtain⟨_,_,_,_,g5,g6,g7,g8⟩:=fF Y;have b2:=qe g;have er:bf g*g.rows=gu g:=by simp[gu,Y]
 obtain⟨r0,r1,r2⟩:=vT Z h2 D E;rw[er]at r2;have hk:b*g.rows+g.rows<=gu g:=by
  have:=(vT Z h2 (show 0<=g.rows-1 by omega) (show g.rows-1<g.rows by omega)).2.2;omega
 have a1:=C.bz;have a2:=C.bu;have L:W6 (b*g.rows)=b*g.rows:=aO;have e2:W6 (b*g.rows+r)=b*g.rows+r:=aO;have eL:=aEC Y c C.cells C.syms Z h2 D E;unfold uI;generalize jY ((b*g.rows+r)*g.aT).toNat g.aT.toNat c.array.cells=cs at eL;obtain⟨i,hi⟩:=gY r1;obtain⟨k,O⟩:∃k,k=b*g.rows:=⟨_,rfl⟩
 rw[<-O]at hi hk L e2 r0 r1 r2;unfold L7 bh xL;rw[<-O,L,e2];rw[hi]at r2;rw[hi,bD];have T:i<c.array.bz.length:=by omega
 have U:i<c.array.bu.length:=by omega
 have VI:Sk g l c.array b r=some (ye l c.array i):=by
  unfold Sk xI;have e2':W6 (i:Int)=i:=aO;simp only[<-O,L,hi,e2'];unfold ye;simp only[eY,bZ T,bZ U,Option.getD_some];by_cases h:c.array.bz[i] > l.bz<;>simp[T,U,h]
 rw[VI,ak];have b1:=Mr C.iO (k:=i) (v:=0) ⟨by omega,by omega⟩;have Eg:=ZP g5 g6 D E;have qE:=aB6 g.rows r;have aaq:∀ cells:aa bK,iter Az aR (((),k,(),((lQ g.rows r).length:Int),(0:Int),()),(dm c ⟨cells,c.array.bz.set i 0,c.array.bu.set i 0⟩,lQ g.rows r,()))=some (.inl ((),(dm c ⟨cells,c.array.bz.set i 0,vW g.rows r i c.array.bu⟩,()))):=λcells=>by
  have:=aED (dm c ⟨cells,c.array.bz.set i 0,c.array.bu.set i 0⟩) (R:=g.rows) (k:=k) (nb:=lQ g.rows r) (by omega) (alj D E) r0 (by simp[dm];omega) (by simp[dm];omega) b1;simp only[dm]at this ⊢;rw[aB7 hi r0 D]at this;exact this
 have h2x:Y5=Az:=rfl;unfold dm at aaq eL ⊢;cases ye l c.array i with
 | false=>
  simp[T,U,Eg,h2x,aaq]
 | true=>
  rw[au,eL];have e2':W6 (i:Int)=i:=aO;simp[<-O,L,e2',hi,T,U,Eg,aaq]
def aEE{g:aV}(C:cI g=true)(c:ax){b r:Int}(hc:(c.array.cells.length:Int)=fH g)(Y:∀ x∈c.array.cells,Sy x.symbols)(E:0<=b)(L:b<bf g)(O:0<=r)(T:r<g.rows):
  iter Aj aR (((),r,(),b*g.rows+r,(0:Int),()),(c,(g.cH,g.aB,g.rows,g.aT,()),()))=some (.inl (((),r,(),b*g.rows+r,()),(dm c ⟨jY ((b*g.rows+r)*g.aT).toNat g.aT.toNat c.array.cells,c.array.bz,c.array.bu⟩,(g.cH,g.aB,g.rows,g.aT,()),()))):=by
 obtain⟨_,_,_,_,g5,g6,g7,g8⟩:=fF C;have b1:=oa g;have b2:=qe g;obtain⟨n,Z⟩:=gY (show 0<=g.aT by omega);obtain⟨B,hB⟩:∃B,B=((b*g.rows+r)*g.aT).toNat:=⟨_,rfl⟩
 have pI:g.aT.toNat=n:=by omega
 rw[<-hB,pI];have lz:B+n<=c.array.cells.length:=by
  have:=MT C E L O T (show 0<=g.aT-1 by omega) (by omega);omega
 have e:=cA (step:=Aj) n (λk=>(((),r,(),b*g.rows+r,(k:Int),()),(dm c ⟨jY B k c.array.cells,c.array.bz,c.array.bu⟩,(g.cH,g.aB,g.rows,g.aT,()),()))) (.inl (((),r,(),b*g.rows+r,()),(dm c ⟨jY B n c.array.cells,c.array.bz,c.array.bu⟩,(g.cH,g.aB,g.rows,g.aT,()),()))) aR (λk hk=>by
  have OR:=MT C E L O T (show 0<=(k:Int) by omega) (by omega);have e1:W6 ((b*g.rows+r)*g.aT)=(b*g.rows+r)*g.aT:=aO;have e2:W6 ((b*g.rows+r)*g.aT+(k:Int))=((B+k:Nat):Int):=by rw[aO];omega
  have hlen:=MS B k c.array.cells;have U:=Tl k (by omega:B+k<=c.array.cells.length) Y;show Aj (((),r,(),b*g.rows+r,(k:Int),()),(dm c ⟨jY B k c.array.cells,c.array.bz,c.array.bu⟩,(g.cH,g.aB,g.rows,g.aT,()),()))=some (.inl (((),r,(),b*g.rows+r,((k+1:Nat):Int),()),(dm c ⟨(jY B k c.array.cells).set (B+k) (Dx ((jY B k c.array.cells).getD (B+k) wm)),c.array.bz,c.array.bu⟩,(g.cH,g.aB,g.rows,g.aT,()),())));generalize jY B k c.array.cells=cs at hlen U;have D:B+k<cs.length:=by omega
  have s1:=Sy.mem U D;have l1:(0:Nat)<cs[B+k].symbols.length:=by rw[s1.1];omega
  have l2:(1:Nat)<cs[B+k].symbols.length:=by rw[s1.1];omega
  have c2:decide ((k:Int)<g.aT)=true:=aW;have B2:cs.getD (B+k) wm=cs[B+k]:=by rw[eY,bZ D];rfl
  have f0:cs[B+k].symbols.getD 0 0=cs[B+k].symbols[0]:=by rw[eY,bZ l1];rfl
  have f1:cs[B+k].symbols.getD 1 0=cs[B+k].symbols[1]:=by rw[eY,bZ l2];rfl
  rw[B2];unfold Dx;rw[f0,f1];unfold Aj dm xC av xG xL xM;dsimp only;have t0:(0:Int).toNat=0:=rfl;have t1:(1:Int).toNat=1:=rfl;have p0:(0:Int)<=0:=Int.le_refl 0;have p1:(0:Int)<=1:=by omega
  rw[c2,au];simp only[e1,e2,bD];have cj:(0:Int)<=((B+k:Nat):Int):=by omega
  simp only[cj,D,p0,p1,t0,t1,l1,l2,and_self,dite_true,gz,mH,List.set_set,jb];have w:=bB (i:=k);simp only[w,List.getElem_set_ne (show (0:Nat)≠1 by decide)]) (by unfold Aj xC av xG xL xM;simp[Z]) (bO)
 exact e
end Go.Proofs.YtnilicojgkhpnaaGreat
