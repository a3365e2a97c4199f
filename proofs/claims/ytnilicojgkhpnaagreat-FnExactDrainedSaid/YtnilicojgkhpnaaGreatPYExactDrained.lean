/-
  Plain laws. Nothing here is a claim.
-/
import Derived.Test.YtnilicojgkhpnaaGreatVZ
import Derived.Test.YtnilicojgkhpnaaGreatOpenV
import Derived.Test.YtnilicojgkhpnaaGreatG1
import Derived.Test.YtnilicojgkhpnaaGreatG2
import Derived.Test.YtnilicojgkhpnaaGreatG3
import Derived.Test.YtnilicojgkhpnaaGreatG4
import Derived.Test.YtnilicojgkhpnaaGreatG5
import Derived.Test.YtnilicojgkhpnaaGreatG6
import Derived.Test.YtnilicojgkhpnaaGreatG7
import Derived.Test.YtnilicojgkhpnaaGreatG8
import Derived.Test.YtnilicojgkhpnaaGreatG9
import Derived.Test.YtnilicojgkhpnaaGreatG10
import Derived.Test.YtnilicojgkhpnaaGreatG11
import Derived.Test.YtnilicojgkhpnaaGreatGX
namespace Go.Proofs.YtnilicojgkhpnaaGreat
set_option linter.defProp false
open Go.RowKit
set_option linter.unusedVariables false
set_option linter.unusedSimpArgs false
set_option maxRecDepth 100000
def aO{n:Int}(C:-9223372036854775808<=n:=by omega)(D:n<9223372036854775808:=by omega):W6 n=n:=by
 exact(IntKind.wrap_i64 n).trans (by omega)
def Y8{α β:Type}{step:α -> ah (α⊕β)}(I:α -> Prop)(m:α -> Nat)(Q:β -> Prop)
  (h:∀x,I x -> (∃y,step x=some (.inl y)/\I y/\m y<m x) \/ ∃z,step x=some (.inr z)/\Q z):
  ∀(n:Nat) (x:α),I x -> m x<n -> ∃z,iter step n x=some z/\Q z
 |0,x,_,E=>by omega
 | n+1,x,L,E=>by
  unfold iter;rcases h x L with ⟨y,C,D,O⟩|⟨z,C,D⟩
  ·rw[C];exact Y8 I m Q h n y D (by omega)
  ·simp_all
def ak{α β:Type}(x:α)(f:α->ah β):(some x).bind f=f x:=rfl
def fT{α β T:Type}{step:α -> ah (α⊕β)}(l:aa T)(q:T -> Bool)(S:Nat -> α)(D z:β)(fuel:Nat)(L:∀ k (h:k<l.length),step (S k)=some (bif q l[k]then .inl (S (k+1))else .inr D))(O:step (S l.length)=some (.inr z))(C:l.length<fuel):
  iter step fuel (S 0)=some (bif l.all q then z else D):=by
 have key:∀ (n i fuel:Nat),i+n=l.length -> n<fuel -> iter step fuel (S i)=some (bif (l.drop i).all q then z else D):=by
  intro n
  induction n with
  | zero=>
   intro i fuel hi C
   match fuel,C with
   | f+1,_=>
    have:i=l.length:=by omega
    subst this;unfold iter;simp_all
  | succ n U=>
   intro i fuel hi C
   match fuel,C with
   | f+1,C=>
    have E:i<l.length:=by omega
    unfold iter;rw[L i E,List.drop_eq_getElem_cons E,List.all_cons];cases q l[i]with
    |true=>grind
    |false=>rfl
 exact key l.length 0 fuel (by omega) C
def cH{α β:Type}{step:α -> ah (α⊕β)}(n:Nat)(S:Nat -> α)(z:β)(fuel:Nat)(E:∀ k,k<n -> step (S k)=some (.inl (S (k+1))))(D:step (S n)=some (.inr z))(C:n<fuel):iter step fuel (S 0)=some z:=by
 have key:∀ (m i fuel),i+m=n -> m<fuel -> iter step fuel (S i)=some z:=by
  intro m
  induction m with
  | zero=>
   intro i fuel hi C
   match fuel,C with
   | f+1,_=>
    have:i=n:=by omega
    subst this;unfold iter;rw[D]
  | succ m L=>
   intro i fuel hi C
   match fuel,C with
   | f+1,C=>
    unfold iter
    grind
 simp_all
def aAm{α β:Type}{step:α -> ah (α⊕β)}(n:Nat)(I:Nat -> α -> Prop)(Q:β -> Prop){x:α}(fuel:Nat)(E:I 0 x)(O:∀ k,k<n -> ∀ x,I k x -> (∃ y,step x=some (.inl y)/\I (k+1) y) \/ ∃ z,step x=some (.inr z)/\Q z)(L:∀ x,I n x -> ∃ z,step x=some (.inr z)/\Q z)(C:n<fuel):∃ z,iter step fuel x=some z/\Q z:=by
 have key:∀ (m i fuel:Nat) (x:α),i+m=n -> m<fuel -> I i x -> ∃ z,iter step fuel x=some z/\Q z:=by
  intro m
  induction m with
  | zero=>
   intro i fuel x hi C D
   match fuel,C with
   | f+1,_=>
    have:i=n:=by omega
    subst this;have⟨z,T,U⟩:=L x D;unfold iter;simp_all
  | succ m Y=>
   intro i fuel x hi C D
   match fuel,C with
   | f+1,C=>
    unfold iter
    grind
 exact key n 0 fuel x (by omega) C E
def upto{α:Type}(f:α->α)(l:aa α)(i:Nat):aa α:=(l.take i).map f++l.drop i
def Az{α:Type}(f:α->α)(l:aa α)(i:Nat):(upto f l i).length=l.length:=by
 simp[upto];omega
def SH{α:Type}(f:α->α)(l:aa α):upto f l 0=l:=by simp[upto]
def F4{α:Type}(f:α->α)(l:aa α):upto f l l.length=l.map f:=by simp[upto]
def F5{α:Type}(f:α -> α)(l:aa α)(i:Nat)(h:i<l.length)(C:i<(upto f l i).length):(upto f l i)[i]=l[i]:=by
 simp[upto]
 grind
def F6{α:Type}(f:α -> α)(l:aa α)(i:Nat)(h:i<l.length):(upto f l i).set i (f l[i])=upto f l (i+1):=by
 have C:min i l.length=i:=by omega
 have e:=List.drop_eq_getElem_cons h;simp only[upto];rw[List.set_append_right _ _ (by simp;omega),e,List.take_succ_eq_append_getElem h];simp only[List.map_append,List.map_cons,List.map_nil,eG,fJ,C,Nat.sub_self,List.set_cons_zero,List.append_assoc,List.cons_append,List.nil_append]
def kU{x y:Int}(h:¬ x=y):(x==y)=false:=by simp[h]
def fO{x y:Int}(h:¬ x=y):(x != y)=true:=by simp[h]
def di{n:Nat}(h:n<1073741824:=by omega):bO n=true:=aW h
def bD{i:Nat}(h:i<4611686018427387904:=by omega):W6 ((i:Int)+1)=((i+1:Nat):Int):=by
 rw[aO];simp
def bP{n:Nat}(h:n<1073741824:=by omega):n<aS:=by unfold aS;omega
def aL(x a b:Int):Bool:=decide (a<=x)&&decide (x<=b)
def bJ{x a b:Int}:aL x a b=true ↔ a<=x/\x<=b:=by simp[aL]
def dK(x a b:Int):cA x a b=some (aL x a b):=by
 unfold cA aL;by_cases h:a<=x<;>simp[h]
def eJ(x a b:Int):cG x a b=some (aL x a b):=dK x a b
def cI(g:aU):Bool:=aL g.cF 1 2&&aL g.aB 1 4&&aL g.rows 2 16&&aL g.aT 1 8
def yd(g:aU):sy g=some (cI g):=by
 unfold sy cI;simp[dK]
 grind
def F7(g:aU):xS g=some (cI g):=by
 unfold xS cI;simp[eJ]
 grind
def fF{g:aU}(h:cI g=true):1<=g.cF/\g.cF<=2/\1<=g.aB/\g.aB<=4/\2<=g.rows/\g.rows<=16/\1<=g.aT/\g.aT<=8:=by
 simp only[cI,aL,aN,iV]at h;omega
def bf(g:aU):Int:=bif cI g then g.cF*g.aB else 0
def fG(g:aU):0 <= bf g/\bf g <= 8:=by
 unfold bf;cases h:cI g with
 |false=>simp
 | true=>
  have⟨C,D,E,L,_⟩:=fF h;simp;rcases(by omega:g.cF=1 \/ g.cF=2)with e|e<;>rw[e]<;>omega
def akc{g:aU}(h:cI g=true):1 <= bf g:=by
 have⟨C,D,E,L,_⟩:=fF h;simp[bf,h,au];rcases(by omega:g.cF=1 \/ g.cF=2)with e|e<;>rw[e]<;>omega
def oa(g:aU):n9 g=some (bf g):=by
 have C:=fG g;unfold n9;rw[yd,ak];unfold bf at C ⊢;cases h:cI g with
 |false=>rfl
 | true=>
  rw[h]at C;simp at C;simp;rw[aO]
def sB(g:aU):qd g=some (bf g):=by
 have C:=fG g;unfold qd;rw[F7,ak];unfold bf at C ⊢;cases h:cI g with
 |false=>rfl
 | true=>
  rw[h]at C;simp at C;simp;rw[aO]
def gu(g:aU):Int:=bif cI g then bf g*g.rows else 0
def fH(g:aU):Int:=bif cI g then bf g*g.rows*g.aT else 0
def SI{a b A B:Int}(D:0<=a)(E:a<=A)(C:0<=b)(L:b<=B):0<=a*b/\a*b<=A*B:=
 ⟨Int.mul_nonneg D C,Int.le_trans (Int.mul_le_mul_of_nonneg_right E C) (Int.mul_le_mul_of_nonneg_left L (by omega))⟩
def qg(g:aU):0 <= gu g/\gu g <= 128:=by
 unfold gu;cases h:cI g with
 |false=>simp
 | true=>
  have⟨_,_,_,_,D,C,_⟩:=fF h;have:=fG g;exact SI this.1 this.2 (by omega) C
def oc(g:aU):0 <= fH g/\fH g <= 1024:=by
 have C:=qg g;unfold fH gu at *
 cases h:cI g with
 |false=>simp
 | true=>
  rw[h]at C;have⟨_,_,_,_,E,L,O,D⟩:=fF h;exact SI C.1 C.2 (by omega) D
def Mh(g:aU):vP g=some (fH g):=by
 have C:=oc g;have D:=qg g;unfold vP;rw[oa,ak];unfold fH gu at *
 cases h:cI g with
 |false=>simp only[bf,h,aq,Int.zero_mul];rw[show W6 0=0 from rfl,Int.zero_mul];rfl
 | true=>
  rw[h]at C D;simp only[au]at C D;simp only[au];rw[aO (n:=bf g*g.rows),aO]
def Mi(g:aU):tS g=some (fH g):=by
 have C:=oc g;have D:=qg g;unfold tS;rw[F7,ak,sB,ak];unfold fH gu at *
 cases h:cI g with
 |false=>rfl
 | true=>
  rw[h]at C D;simp at C D;simp;rw[aO (n:=bf g*g.rows),aO]
def fj(g:aU)(a:aI):Bool:=cI g&&aL a.ay 0 (bf g-1)&&aL a.row 0 (g.rows-1)&&aL a.bR 0 (g.aT-1)
def sC{g:aU}{a:aI}(h:fj g a=true):cI g=true/\0 <= a.ay/\a.ay<bf g/\0 <= a.row/\a.row<g.rows/\0 <= a.bR/\a.bR<g.aT:=by
 simp[fj,aL,aN,iV]at h
 grind
def Dc{g:aU}{a:aI}(h:cI g=true)(C:0 <= a.ay)(D:a.ay<bf g)(E:0 <= a.row)(L:a.row<g.rows)(O:0 <= a.bR)(T:a.bR<g.aT):fj g a=true:=by
 simp[fj,aL,aN,iV]
 grind
def Y9(g:aU)(a:aI):CV g a=some (fj g a):=by
 unfold CV fj;simp[yd,oa,dK,ak];have C:=fG g;cases h:cI g with
 |false=>rfl
 | true=>
  have⟨_,_,_,_,D,E,L,O⟩:=fF h;rw[aO,aO,aO]
  grind
def Za(g:aU)(a:aI):Cz g a=some (fj g a):=by
 unfold Cz fj;simp only[sB,eJ,ak];have C:=fG g;rw[aO];cases h:cI g with
 | false=>
  have:aL a.ay 0 (bf g-1)=false:=by
   simp[bf,h,aL]
   grind
  simp_all
 | true=>
  have⟨_,_,_,_,D,E,L,O⟩:=fF h;rw[aO,aO]
  grind
def vU{b n r R:Int}(C:0 <= b)(D:b<n)(E:0 <= r)(L:r<R):0 <= b*R/\0 <= b*R+r/\b*R+r<n*R:=by
 have O:0 <= b*R:=Int.mul_nonneg C (by omega);have T:(b+1)*R <= n*R:=Int.mul_le_mul_of_nonneg_right (by omega) (by omega)
 grind
def qh(g:aU)(a:aI):Int:=bif fj g a then (a.ay*g.rows+a.row)*g.aT+a.bR else -1
def Zb{g:aU}{a:aI}(h:fj g a=true):0 <= qh g a/\qh g a<fH g/\0 <= a.ay*g.rows/\0 <= a.ay*g.rows+a.row/\a.ay*g.rows+a.row<gu g/\0 <= (a.ay*g.rows+a.row)*g.aT:=by
 have⟨C,D,E,L,O,T,U⟩:=sC h;have⟨r0,Y,Z⟩:=vU D E L O;have⟨l0,l1,l2⟩:=vU Y Z T U;simp[qh,h,fH,gu,C,au];omega
def Zc(g:aU)(a:aI):L2 g a=some (qh g a):=by
 unfold L2;rw[Y9,ak];cases h:fj g a with
 |false=>simp[qh,h]
 | true=>
  have C:=Zb h;have E:=oc g;have L:=qg g;have⟨D,O,T,U,Y,Z,b6⟩:=sC h;have⟨_,_,_,_,g5,g6,g7,g8⟩:=fF D;simp only[qh,h,au]at C ⊢;simp only[bB,aq];rw[aO (n:=a.ay*g.rows),aO (n:=a.ay*g.rows+a.row),aO (n:=(a.ay*g.rows+a.row)*g.aT),aO]
def aAn(g:aU)(a:aI):Ro g a=some (qh g a):=by
 unfold Ro;rw[Za,ak];cases h:fj g a with
 |false=>simp[qh,h]
 | true=>
  have C:=Zb h;have E:=oc g;have L:=qg g;have⟨D,O,T,U,Y,Z,b6⟩:=sC h;have⟨_,_,_,_,g5,g6,g7,g8⟩:=fF D;simp only[qh,h,au]at C ⊢;simp only[bB,aq];rw[aO (n:=a.ay*g.rows),aO (n:=a.ay*g.rows+a.row),aO (n:=(a.ay*g.rows+a.row)*g.aT),aO]
def vV{α β:Type}{step:α -> ah (α⊕β)}(S:Nat -> α){z:β}:∀ (n i fuel:Nat),(∀ k,i <= k -> k<i+n -> step (S k)=some (.inl (S (k+1)))) -> step (S (i+n))=some (.inr z) -> n<fuel -> iter step fuel (S i)=some z
 | 0,i,fuel,_,C,D=>by
  match fuel,D with
  |f+1,_=>unfold iter;rw[Nat.add_zero]at C;rw[C]
 | n+1,i,fuel,E,C,D=>by
  match fuel,D with
  | f+1,D=>
   unfold iter;rw[E i (dM _) (by omega)];exact vV S n _ f (λk L O=>E k (by omega) (by omega)) (by rw[show i+1+n=i+(n+1) by omega];exact C) (by omega)
def AA{i:Nat}(h:i<4611686018427387904:=by omega):W6 ((i:Int)+1)=((i+1:Nat):Int):=by
 rw[aO];simp
def aAo(x a b:Int):cA x a b=some (decide (a <= x)&&decide (x <= b)):=by
 unfold cA
 grind
def akd{x a b:Int}(h:a<=x)(C:x<=b):cA x a b=some true:=by
 rw[aAo,aW h,aW C];rfl
def aAp{x a b:Int}(h:a<=x)(C:x<=b):cG x a b=some true:=akd h C
def opens:Nat->aa cR->aa Int
 |_,[]=>[]
 |i,b::bs=>bif b.open_ then (i:Int)::opens (i+1) bs else opens (i+1) bs
def Zd(i:Nat)(a b:aa cR):opens i (a++b)=opens i a++opens (i+a.length) b:=by
 induction a generalizing i with
 |nil=>simp[opens]
 | cons x a C=>
  simp[List.cons_append,opens]
  grind
def SJ(i:Nat)(l:aa cR):(opens i l).length <= l.length:=by
 induction l generalizing i with
 |nil=>simp[opens]
 | cons x a C=>
  have:=C (i+1);simp[opens]
  grind
def qZ{α:Type}{l:aa α}{i:Nat}(h:i<l.length):l.take (i+1)=l.take i++[l[i]]:=by
 rw[List.take_succ_eq_append_getElem h]
def SK(r:cy)(h:r.aB.length<1073741823):Ao r=some (opens 0 r.aB):=by
 unfold Ao bk;have e:=vV (step:=Fw) (λi=>(((),r.aB,(r.aB.length:Int),(i:Int),()),(opens 0 (r.aB.take i),()))) (z:=.inl (((),()),(opens 0 r.aB,()))) r.aB.length 0 aS (λk _ C=>?_) ?_ (by unfold aS;omega)
 ·have e:iter Fw aS (((),r.aB,r.aB.length,0,()),(([]),()))=_:=e;simp_all
 ·have C:k<r.aB.length:=by omega
  unfold Fw av xG xI;dsimp only;have D:decide ((k:Int)<(r.aB.length:Int))=true:=aW;have E:0 <= (k:Int)/\(k:Int).toNat<r.aB.length:=⟨by omega,by simpa using C⟩
  have L:=SJ 0 (r.aB.take k);rw[fJ]at L;have O:bO ((opens 0 (r.aB.take k)).length+([(k:Int)]:aa Int).length)=true:=by
   unfold bO;simp;omega
  rw[D,au,az E,AA,qZ C,Zd];simp only[bC,opens,fJ,fk,Nat.min_eq_left (Nat.le_of_lt C)];cases r.aB[k].open_ with
  |true=>grind
  |false=>grind
 ·rw[fk];unfold Fw av xG xI;simp_all
def gmT:Nat:=116196760129267793630862849262464326346044543732748708940920453221664288556434379745879494961270582141731748813355742142288220638766218855867759359510984593843506004200114943278699875244065120512813025380665946106619127097398772031257643617143689515450995722003729973585221105779229319991106539050771048038400
def gm(a b:Nat):Nat:=(gmT / 2 ^ (4*(16*a+b))) % 16
def pwT:Nat:=44684875893970114885940500792407720993
def pw(n:Nat):Nat:=(pwT / 2 ^ (4*n)) % 16
def je(f:Nat->Bool):Bool:=(List.range 16).all f
def gv{f:Nat->Bool}(h:je f=true){a:Nat}(C:a<16):f a=true:=by
 have:=cw.1 h a (gk.2 C);exact this
def gj(a b:Nat):gm a b<16:=Nat.mod_lt _ (by decide)
def ua(n:Nat):pw n<16:=Nat.mod_lt _ (by decide)
def aAq:(je λa=>je λb=>jo (Int.ofNat a) (Int.ofNat b)==some (Int.ofNat (gm a b)))=true:=by kernel_rfl
def aAr:((List.range 31).all λn=>LI 2 (Int.ofNat n)==some (Int.ofNat (pw n)))=true:=by kernel_rfl
def ake:(je λa=>je λb=>decide (bits .xor .i64 (Int.ofNat a) (Int.ofNat b)=Int.ofNat (a ^^^ b))&&Nat.blt (a ^^^ b) 16)=true:=by kernel_rfl
def aAs:(je λa=>je λb=>je λc=>Nat.beq (gm (a ^^^ b) c) (gm a c ^^^ gm b c))=true:=by kernel_rfl
def akf:(je λa=>Nat.beq (gm a 1) a&&Nat.beq (gm 0 a) 0)=true:=by kernel_rfl
def aAt:(je λC=>je λs1=>je λs2=>
  (λy z=>(λx=>Nat.beq (gm x 1 ^^^ (gm y 1 ^^^ (gm z 1 ^^^ C))) 0&&Nat.beq (gm x 1 ^^^ (gm y 2 ^^^ (gm z 4 ^^^ s1))) 0&&Nat.beq (gm x 1 ^^^ (gm y 4 ^^^ (gm z 3 ^^^ s2))) 0) (C ^^^ y ^^^ z))
   (gm (gm 2 (C ^^^ s1) ^^^ gm 5 (C ^^^ s2)) 13) (gm (gm 3 (C ^^^ s2) ^^^ gm 5 (C ^^^ s1)) 13))=true:=by kernel_rfl
def aAu:C1 4=some 13:=by kernel_rfl
def Dd{a b:Nat}(C:a<16)(D:b<16):jo (a:Int) (b:Int)=some (gm a b:Int):=by
 have h:=gv (gv aAq C) D;exact eq_of_beq h
def aAv{n:Nat}(h:n<31):LI 2 (n:Int)=some (pw n:Int):=eq_of_beq (cw.1 aAr n (gk.2 h))
def q5{a b:Nat}(C:a<16)(D:b<16):bits .xor .i64 (a:Int) (b:Int)=((a ^^^ b:Nat):Int):=by
 have h:=gv (gv ake C) D;simp_all
def lN{a b:Nat}(C:a<16)(D:b<16):a ^^^ b<16:=by
 have h:=gv (gv ake C) D;simp_all
def aAw{a b c:Nat}(C:a<16)(D:b<16)(E:c<16):gm (a ^^^ b) c=gm a c ^^^ gm b c:=cD (gv (gv (gv aAs C) D) E)
def aAx{a:Nat}(C:a<16):gm a 1=a:=by
 have h:=gv akf C;rw[aN]at h;exact cD h.1
def SL{a:Nat}(C:a<16):gm 0 a=0:=by
 have h:=gv akf C;rw[aN]at h;exact cD h.2
abbrev bw (w:aa Nat):aa Int:=w.map λ(n:Nat)=>(n:Int)
def dJ(w:aa Nat):Prop:=∀x∈w,x<16
def gT(w:aa Nat):(bw w).length=w.length:=by simp[bw]
def uc{w:aa Nat}{k:Nat}(h:k<(bw w).length):(bw w)[k]=((w.getD k 0:Nat):Int):=by grind
def dJ.get{w:aa Nat}(h:dJ w)(k:Nat):w.getD k 0<16:=by
 by_cases C:k<w.length
 ·simp[eY,bZ C];exact h _ (cV C)
 ·simp_all
def Ze{w:aa Nat}(E:dJ w)(T:w.length<1000)(n:Int):vR (bw w) n=some ((w.length:Int)==n):=by
 unfold vR bE;have e:=vV (step:=Ap) (λi=>((bw w,n,bw w,((bw w).length),i,()),())) (z:=.inr (.inl ((bw w,n,()),()))) w.length 0 aS (λk _ C=>?_) ?_ (by unfold aS;omega)
 ·simp_all
 ·have C:k<(bw w).length:=by rw[gT];omega
  unfold Ap av aQ xG xI;dsimp only;have L:decide ((k:Int)<((bw w).length:Int))=true:=aW;have D:0 <= (k:Int)/\(k:Int).toNat<(bw w).length:=⟨by omega,by simpa using C⟩
  rw[L,au,az D];have O:(bw w)[(k:Int).toNat]'D.2=((w.getD k 0:Nat):Int):=uc C;rw[O];have:=E.get k;unfold CU;rw[akd (by omega) (by omega),ak,ak,AA];rfl
 ·unfold Ap av aQ xG xI;simp_all
def bW(w:aa Nat)(j:Nat):Nat->Nat
 |0=>0
 |i+1=>bW w j i ^^^ gm (w.getD i 0) (pw (i*j))
def q6(w:aa Nat)(j:Nat):∀ i,bW w j i<16
 |0=>Nat.zero_lt_succ _
 |i+1=>lN (q6 w j i) (gj _ _)
def aAy{w:aa Nat}(O:dJ w)(hl:w.length=11)(j:Nat)(hj:j<3)(a b:Int)(o:aa Int)(T:j<o.length)(U:o.set j 0=o):
  iter C0 aS ((bw w,(),(j:Int),a,b,bw w,((bw w).length:Int),(0:Int),()),(o,()))=some (.inl ((bw w,(),a,b,()),(o.set j (bW w j 11:Int),()))):=by
 have e:=vV (step:=C0) (λi=>((bw w,(),(j:Int),a,b,bw w,((bw w).length:Int),(i:Int),()),(o.set j (bW w j i:Int),()))) (z:=.inl ((bw w,(),a,b,()),(o.set j (bW w j 11:Int),()))) 11 0 aS (λk _ D=>?_) ?_ (by unfold aS;omega)
 ·have e:iter C0 aS ((bw w,(),(j:Int),a,b,bw w,((bw w).length:Int),(0:Int),()),(o.set j 0,()))=_:=e;rw[U]at e;exact e
 ·have D:k<(bw w).length:=by rw[gT];omega
  unfold C0 av xG xI xL;dsimp only;have E:decide ((k:Int)<((bw w).length:Int))=true:=aW;have L:0<=(k:Int)/\(k:Int).toNat<(bw w).length:=⟨by omega,by simpa using D⟩
  have C:0<=(j:Int)/\(j:Int).toNat<(o.set j (bW w j k:Int)).length:=⟨by omega,by simpa using T⟩
  have Y:(bw w)[(k:Int).toNat]'L.2=((w.getD k 0:Nat):Int):=uc D;have Z:(o.set j (bW w j k:Int))[(j:Int).toNat]'C.2=(bW w j k:Int):=mH _;rw[E,au,az L,az C,az C.2,Y,Z];have hkj:k*j<=20:=Nat.le_trans (Nat.mul_le_mul (show k<=10 by omega) (show j<=2 by omega)) (by decide);have c6:W6 ((k:Int)*(j:Int))=((k*j:Nat):Int):=by
   rw[<-Int.natCast_mul,aO]
  rw[c6,aAv (by omega),ak,Dd (O.get k) (ua _),ak,az C,az C.2,q5 (q6 _ _ _) (gj _ _),AA];have c7:(o.set j (bW w j k:Int)).set (j:Int).toNat ((bW w j k ^^^ gm (w.getD k 0) (pw (k*j)):Nat):Int)=o.set j (bW w j (k+1):Int):=List.set_set ..;rw[c7]
 ·unfold C0 av xG xI xL;dsimp only;have E:decide (((0+11:Nat):Int)<((bw w).length:Int))=false:=aV (by rw[gT];omega);rw[E,aq]
def sD(w:aa Nat):Nat->aa Int
 |0=>[0,0,0]
 |1=>[(bW w 0 11:Int),0,0]
 |2=>[(bW w 0 11:Int),(bW w 1 11:Int),0]
 |_=>[(bW w 0 11:Int),(bW w 1 11:Int),(bW w 2 11:Int)]
def Zf{w:aa Nat}(D:dJ w)(E:w.length=11):Au (bw w)=some [(bW w 0 11:Int),(bW w 1 11:Int),(bW w 2 11:Int)]:=by
 unfold Au bk;have c0:((w.length:Int)==(11:Int))=true:=by rw[E];rfl
 rw[Ze D (by omega),c0,ak];have e:=vV (step:=FK) (λj=>((bw w,(),(3:Int),(j:Int),()),(sD w j,()))) (z:=.inl (((),()),(sD w 3,()))) 3 0 aS (λk _ O=>?_) ?_ (by unfold aS;omega)
 ·have e:iter FK aS ((bw w,(),((List.replicate (3:Int).toNat (0:Int)).length:Int),(0:Int),()),(List.replicate (3:Int).toNat (0:Int),()))=_:=e;rw[show (!true)=false from rfl,aq,bL (by decide),e];rfl
 ·unfold FK av xG bk;dsimp only;have L:decide ((k:Int)<(3:Int))=true:=aW;have C:sD w k=(sD w k).set k 0/\k<(sD w k).length/\(sD w k).set k (bW w k 11:Int)=sD w (k+1):=by
   have:k=0\/k=1\/k=2:=by omega
   rcases this with rfl|rfl|rfl
   ·exact⟨rfl,by simp[sD],rfl⟩
   ·exact⟨rfl,by simp[sD],rfl⟩
   ·exact⟨rfl,by simp[sD],rfl⟩
  rw[L,au,aAy D E k (by omega) (3:Int) (k:Int) (sD w k) C.2.1 C.1.symm,C.2.2];show some (Sum.inl ((bw w,(),(3:Int),W6 ((k:Int)+1),()),(sD w (k+1),())))=_;rw[AA]
 ·unfold FK av xG bk;dsimp only;rfl
def aAz{w:aa Nat}(C:dJ w)(D:w.length=11):RQ (bw w)=some (Nat.beq (bW w 0 11) 0&&(Nat.beq (bW w 1 11) 0&&Nat.beq (bW w 2 11) 0)):=by
 unfold RQ xL;rw[Zf C D,ak];generalize bW w 0 11=a;generalize bW w 1 11=b;generalize bW w 2 11=c;have q:∀ n:Nat,((n:Int)==(0:Int))=Nat.beq n 0:=by
  intro n;cases n with
  |zero=>rfl
  |succ n=>rfl
 show (bif ((a:Int)==(0:Int))then (bif ((b:Int)==(0:Int))then some ((c:Int)==(0:Int))else some false)else some false)=_
 grind
def aAA(C D E:Nat)(L:C<16)(O:D<16)(T:E<16):
  (λy z=>(λx=>(gm x 1 ^^^ (gm y 1 ^^^ (gm z 1 ^^^ C)))=0/\(gm x 1 ^^^ (gm y 2 ^^^ (gm z 4 ^^^ D)))=0/\(gm x 1 ^^^ (gm y 4 ^^^ (gm z 3 ^^^ E)))=0) (C ^^^ y ^^^ z))
   (gm (gm 2 (C ^^^ D) ^^^ gm 5 (C ^^^ E)) 13) (gm (gm 3 (C ^^^ E) ^^^ gm 5 (C ^^^ D)) 13):=by
 have h:=gv (gv (gv aAt L) O) T;simp_all
def aAB{d:aa Nat}(Z:dJ d)(Y:d.length=8):∃ w,L8 (bw d)=some (bw w)/\w.length=11/\dJ w/\w.drop 3=d/\bW w 0 11=0/\bW w 1 11=0/\bW w 2 11=0:=by
 have hz:dJ (0 :: 0 :: 0 :: d):=by
  intro x hx;simp only[gW]at hx;rcases hx with rfl|rfl|rfl|hx
  ·decide
  ·decide
  ·decide
  ·exact Z x hx
 have key:∀ j x y z,j<3->x<16->y<16->z<16->bW (x :: y :: z :: d) j 11=gm x (pw (0*j)) ^^^ (gm y (pw (1*j)) ^^^ (gm z (pw (2*j)) ^^^ bW (0 :: 0 :: 0 :: d) j 11)):=by
  intro j x y z hj hx hy hz;simp only[bW,List.getD_cons_zero,List.getD_cons_succ,Nat.xor_assoc,Nat.zero_xor,SL (ua _)]
 have e0:∀ C E L:Nat,C<16->E<16->L<16->Au (bw (0 :: 0 :: 0 :: d))=some [(C:Int),(E:Int),(L:Int)]->
   L8 (bw d)=some (bw ((C ^^^ gm (gm 2 (C ^^^ E) ^^^ gm 5 (C ^^^ L)) 13 ^^^ gm (gm 3 (C ^^^ L) ^^^ gm 5 (C ^^^ E)) 13)::gm (gm 2 (C ^^^ E) ^^^ gm 5 (C ^^^ L)) 13::gm (gm 3 (C ^^^ L) ^^^ gm 5 (C ^^^ E)) 13::d)):=by
  intro C E L D T U hs;unfold L8 xL;have c0:((d.length:Int)==(8:Int))=true:=by rw[Y];rfl
  have c1:bO ((List.replicate (3:Int).toNat (0:Int)).length+(bw d).length)=true:=by
   rw[gT,Y];rfl
  rw[Ze Z (by omega),ak,c0,show (!true)=false from rfl,aq,bL (by decide),c1,au];have e1:Au (List.replicate (3:Int).toNat (0:Int)++bw d)=some [(C:Int),(E:Int),(L:Int)]:=hs;rw[e1,ak];show (C1 (4:Int)).bind (λiE=>(jo (2:Int) (bits .xor .i64 (C:Int) (E:Int))).bind λkF=>(jo (5:Int) (bits .xor .i64 (C:Int) (L:Int))).bind λgM=>(jo (bits .xor .i64 kF gM) iE).bind λjT=>(jo (3:Int) (bits .xor .i64 (C:Int) (L:Int))).bind λjV=>(jo (5:Int) (bits .xor .i64 (C:Int) (E:Int))).bind λqY=>(jo (bits .xor .i64 jV qY) iE).bind λqe=>some (bits .xor .i64 (bits .xor .i64 (C:Int) jT) qe::jT::qe::bw d))=_;have m2:∀b:Nat,b<16->jo (2:Int) (b:Int)=some (gm 2 b:Int):=λb O=>Dd (a:=2) (by decide) O
  have m3:∀b:Nat,b<16->jo (3:Int) (b:Int)=some (gm 3 b:Int):=λb O=>Dd (a:=3) (by decide) O
  have m5:∀b:Nat,b<16->jo (5:Int) (b:Int)=some (gm 5 b:Int):=λb O=>Dd (a:=5) (by decide) O
  have F8:∀b:Nat,b<16->jo (b:Int) (13:Int)=some (gm b 13:Int):=λb O=>Dd (b:=13) O (by decide)
  rw[aAu,ak,q5 D T,q5 D U,m2 _ (lN D T),ak,m5 _ (lN D U),ak,q5 (gj _ _) (gj _ _),F8 _ (lN (gj _ _) (gj _ _)),ak,m3 _ (lN D U),ak,m5 _ (lN D T),ak,q5 (gj _ _) (gj _ _),F8 _ (lN (gj _ _) (gj _ _)),ak,q5 D (gj _ _),q5 (lN D (gj _ _)) (gj _ _)];rfl
 have D:=q6 (0::0::0::d) 0 11;have T:=q6 (0::0::0::d) 1 11;have U:=q6 (0::0::0::d) 2 11;have e1:=e0 _ _ _ D T U (Zf hz (by simp[Y]));have f:=aAA _ _ _ D T U;dsimp only at f;refine⟨_,e1,by simp[Y],?_,rfl,?_,?_,?_⟩
 ·intro x hx;simp only[gW]at hx;rcases hx with rfl | rfl | rfl | hx
  ·exact lN (lN D (gj _ _)) (gj _ _)
  ·exact gj _ _
  ·exact gj _ _
  ·exact Z x hx
 ·rw[key 0 _ _ _ (by decide) (lN (lN D (gj _ _)) (gj _ _)) (gj _ _) (gj _ _)];exact f.1
 ·rw[key 1 _ _ _ (by decide) (lN (lN D (gj _ _)) (gj _ _)) (gj _ _) (gj _ _)];exact f.2.1
 ·rw[key 2 _ _ _ (by decide) (lN (lN D (gj _ _)) (gj _ _)) (gj _ _) (gj _ _)];exact f.2.2
def akg{w:aa Nat}(C:dJ w){k e:Nat}(D:e<16)(L:k<w.length)(j:Nat):∀ i,bW (w.set k (w.getD k 0 ^^^ e)) j i=if i <= k then bW w j i else bW w j i ^^^ gm e (pw (k*j))
 |0=>by rw[bL (Nat.zero_le _)];rfl
 | i+1=>by
  have O:=akg C D L j i;have T:(w.set k (w.getD k 0 ^^^ e)).getD i 0=if i=k then w.getD k 0 ^^^ e else w.getD i 0:=by
   grind
  show bW _ j i ^^^ gm _ (pw (i*j))=_;rw[O,T];by_cases U:i<k
  ·rw[bL,bX,bL];rfl
  ·by_cases E:i=k
   ·subst E;rw[bL (dM _),bL rfl,bX,aAw (C.get _) D (ua _),<- Nat.xor_assoc];rfl
   ·rw[bX,bX E,bX];show _=bW w j i ^^^ gm _ _ ^^^ gm e _
    grind
def dJ.set{w:aa Nat}(h:dJ w){k v:Nat}(D:v<16):dJ (w.set k v):=by
 intro x C;rcases List.mem_or_eq_of_mem_set C with C|rfl
 ·exact h x C
 ·exact D
def ivT:Nat:=9460475325918865680
def iv(a:Nat):Nat:=(ivT / 2 ^ (4*a)) % 16
def aAC(a:Nat):iv a<16:=Nat.mod_lt _ (by decide)
def aAD:(je λa=>Nat.beq a 0 ||C1 (Int.ofNat a)==some (Int.ofNat (iv a)))=true:=by kernel_rfl
def od:aa Nat:=[8,14,7,1]
def aAE:((List.range 8).all λm=>je λf=>(List.range 3).all λj=>
  Nat.beq (gm (gm 8 f) (pw (m*j)) ^^^ (gm (gm 14 f) (pw ((m+1)*j)) ^^^ (gm (gm 7 f) (pw ((m+2)*j)) ^^^ gm f (pw ((m+3)*j))))) 0)=true:=by kernel_rfl
def aAF:(je λa=>je λb=>tV (Int.ofNat a) (Int.ofNat b)==some (Int.ofNat (gm a b)))=true:=by kernel_rfl
def Mj{a b:Nat}(C:a<16)(D:b<16):tV (a:Int) (b:Int)=some (gm a b:Int):=by
 have h:=gv (gv aAF C) D;exact eq_of_beq h
def akh(W:aa Int):iter Yb aS (((),(),(1:Int),()),(W,([(1:Int),(1:Int)]:aa Int),()))=some (.inl (((),(),()),(W,bw od,()))):=by kernel_rfl
def aki{w:aa Nat}(E:dJ w)(T:w.length<1000)(n:Int):tT (bw w) n=some ((w.length:Int)==n):=by
 unfold tT bE;have e:=vV (step:=zZ) (λi=>((bw w,n,i,()),())) (z:=.inr (.inl ((bw w,n,()),()))) w.length 0 aS (λk _ C=>?_) ?_ (by unfold aS;omega)
 ·simp_all
 ·have C:k<(bw w).length:=by rw[gT];omega
  unfold zZ av aQ xG xI;dsimp only;have L:decide ((k:Int)<((bw w).length:Int))=true:=aW;have D:0 <= (k:Int)/\(k:Int).toNat<(bw w).length:=⟨by omega,by simpa using C⟩
  rw[L,au,az D];have O:(bw w)[(k:Int).toNat]'D.2=((w.getD k 0:Nat):Int):=uc C;rw[O];have:=E.get k;unfold Cx;rw[aAp (by omega) (by omega),ak,ak,AA];rfl
 ·unfold zZ av aQ xG xI;simp_all
def ud(k:Nat):Nat:=od.getD k 0
def aAG(k:Nat):ud k<16:=by
 have:dJ od:=by
  intro x C;simp[od,gW,List.not_mem_nil,or_false]at C;omega
 exact this.get k
def kG(r:aa Nat)(m f:Nat):Nat->aa Nat
 |0=>r
 |k+1=>(kG r m f k).set (m+k) ((kG r m f k).getD (m+k) 0 ^^^ gm (ud k) f)
def Mk(r:aa Nat)(m f:Nat):∀ k,(kG r m f k).length=r.length
 |0=>rfl
 |k+1=>by show (List.set _ _ _).length=_;rw[gz,Mk]
def Ml{r:aa Nat}(C:dJ r)(m f:Nat):∀ k,dJ (kG r m f k)
 |0=>C
 |k+1=>(Ml C m f k).set (lN ((Ml C m f k).get _) (gj _ _))
def SM(w:aa Nat)(k v:Nat):(bw w).set k (v:Int)=bw (w.set k v):=(List.map_set ..).symm
def aAH{r:aa Nat}(T:dJ r)(U:r.length=11){m f:Nat}(hm:m<8)(Y:f<16)(W:aa Int):
  iter E0 aS (((),(),(),((m+3:Nat):Int),(f:Int),(0:Int),()),(W,bw od,bw r,()))=some (.inl (((),(),(),((m+3:Nat):Int),()),(W,bw od,bw (kG r m f 4),()))):=by
 have e:=vV (step:=E0) (λk=>(((),(),(),((m+3:Nat):Int),(f:Int),(k:Int),()),(W,bw od,bw (kG r m f k),()))) (z:=.inl (((),(),(),((m+3:Nat):Int),()),(W,bw od,bw (kG r m f 4),()))) 4 0 aS (λk _ hk=>?_) ?_ (by unfold aS;omega)
 ·exact e
 ·unfold E0 av xG xL;dsimp only;have D:decide ((k:Int)<((bw od).length:Int))=true:=aW (by show (k:Int)<4;omega);have Z:W6 (W6 (((m+3:Nat):Int)-3)+(k:Int))=((m+k:Nat):Int):=by
   rw[aO (n:=((m+3:Nat):Int)-3),aO];omega
  have L:m+k<(bw (kG r m f k)).length:=by rw[gT,Mk,U];omega
  have C:0<=((m+k:Nat):Int)/\((m+k:Nat):Int).toNat<(bw (kG r m f k)).length:=⟨by omega,L⟩
  have O:k<(bw od).length:=by show k<4;omega
  have E:0<=(k:Int)/\(k:Int).toNat<(bw od).length:=⟨by omega,O⟩
  have c5:(bw (kG r m f k))[((m+k:Nat):Int).toNat]'C.2=(((kG r m f k).getD (m+k) 0:Nat):Int):=uc L;have c6:(bw od)[(k:Int).toNat]'E.2=((ud k:Nat):Int):=uc O;rw[D,au];simp only[Z];rw[az C,az C.2];rw[az E,az E.2,c6,Mj (aAG k) Y,ak,az C,az C.2,c5,q5 ((Ml T m f k).get _) (gj _ _),AA];have c7:(bw (kG r m f k)).set ((m+k:Nat):Int).toNat (((kG r m f k).getD (m+k) 0 ^^^ gm (ud k) f:Nat):Int)=bw (kG r m f (k+1)):=SM _ _ _;rw[c7]
 ·unfold E0 av xG xL;dsimp only;have D:decide (((0+4:Nat):Int)<((bw od).length:Int))=false:=rfl;rw[D,aq]
def out(r:aa Nat):Nat->aa Nat
 |0=>r
 |t+1=>kG (out r t) (7-t) ((out r t).getD (10-t) 0) 4
def De(r:aa Nat):∀ t,(out r t).length=r.length
 |0=>rfl
 |t+1=>by show (kG _ _ _ _).length=_;rw[Mk,De]
def Df{r:aa Nat}(C:dJ r):∀ t,dJ (out r t)
 |0=>C
 |t+1=>Ml (Df C t) _ _ _
def akj{r:aa Nat}(D:dJ r)(E:r.length=11)(W:aa Int):
  iter E1 aS (((),(),(),(10:Int),()),(W,bw od,bw r,()))=some (.inl (((),(),()),(W,bw (out r 8),()))):=by
 have e:=vV (step:=E1) (λt=>(((),(),(),(10:Int)-(t:Int),()),(W,bw od,bw (out r t),()))) (z:=.inl (((),(),()),(W,bw (out r 8),()))) 8 0 aS (λt _ U=>?_) ?_ (by unfold aS;omega)
 ·exact e
 ·unfold E1 av xG bk xL;dsimp only;have hi:(10:Int)-(t:Int)=((7-t+3:Nat):Int):=by omega
  have O:decide ((10:Int)-(t:Int) >= 3)=true:=aW;have L:7-t+3<(bw (out r t)).length:=by rw[gT,De,E];omega
  have C:0<=((7-t+3:Nat):Int)/\((7-t+3:Nat):Int).toNat<(bw (out r t)).length:=⟨by omega,L⟩
  have T:(bw (out r t))[((7-t+3:Nat):Int).toNat]'C.2=(((out r t).getD (10-t) 0:Nat):Int):=(uc L).trans (by rw[show 7-t+3=10-t by omega]);rw[O,au];simp only[hi];rw[az C,az C.2,T,aAH (Df D t) (by rw[De,E]) (by omega) ((Df D t).get _)];show some (Sum.inl (((),(),(),W6 (((7-t+3:Nat):Int)-1),()),(W,bw od,bw (out r (t+1)),())))=_;rw[aO,show ((7-t+3:Nat):Int)-1=10-((t+1:Nat):Int) by omega]
 ·unfold E1 av xG bk xL;dsimp only;rfl
def aAI:(je λa=>Nat.beq (gm 1 a) a)=true:=by kernel_rfl
def akk{a:Nat}(C:a<16):gm 1 a=a:=cD (gv aAI C)
def akl{r:aa Nat}(C:dJ r)(E:r.length=11){k e:Nat}(D:e<16)(L:k<11)(j:Nat):bW (r.set k (r.getD k 0 ^^^ e)) j 11=bW r j 11 ^^^ gm e (pw (k*j)):=by
 rw[akg C D (by omega) j 11,bX]
def aAJ{r:aa Nat}(D:dJ r)(E:r.length=11){m f j:Nat}(L:m<8)(C:f<16)(O:j<3):bW (kG r m f 4) j 11=bW r j 11:=by
 have st:∀ k,k<4 -> bW (kG r m f (k+1)) j 11=bW _ j 11 ^^^ gm _ _:=λk U=>
  akl (Ml D m f k) (by rw[Mk,E]) (gj _ _) (by omega) j
 have h:=cw.1 (gv (cw.1 aAE m (gk.2 L)) C) j (gk.2 O);have h:gm (gm (ud 0) f) (pw ((m+0)*j)) ^^^ (gm (gm (ud 1) f) (pw ((m+1)*j)) ^^^ (gm (gm (ud 2) f) (pw ((m+2)*j)) ^^^ gm (gm (ud 3) f) (pw ((m+3)*j))))=0:=by
  have T:gm (ud 3) f=f:=akk C;rw[T];exact cD h
 rw[st 3 (by decide),st 2 (by decide),st 1 (by decide),st 0 (by decide),Nat.xor_assoc,Nat.xor_assoc,Nat.xor_assoc,h,Nat.xor_zero];rfl
def akm{r:aa Nat}(C:dJ r)(D:r.length=11){j:Nat}(E:j<3):∀ t,t<=8->bW (out r t) j 11=bW r j 11
 |0,_=>rfl
 |t+1,L=>(aAJ (Df C t) (by rw[De,D]) (by omega) ((Df C t).get _) E).trans (akm C D E t (by omega))
def akn(r:aa Nat)(k v n:Nat):(r.set k v).getD n 0=if n=k/\k<r.length then v else r.getD n 0:=by grind
def Zg(r:aa Nat)(m f:Nat):∀ k n,m+k<=n->(kG r m f k).getD n 0=r.getD n 0
 |0,n,_=>rfl
 | k+1,n,h=>by
  show (List.set _ _ _).getD n 0=_;rw[akn,bX,Zg r m f k n (by omega)]
def aAK{r:aa Nat}{m f:Nat}(h:m+3<r.length):(kG r m f 4).getD (m+3) 0=r.getD (m+3) 0 ^^^ gm (ud 3) f:=by
 show (List.set _ _ _).getD _ 0=_;rw[akn,bL ⟨rfl,by rw[Mk];exact h⟩,Zg r m f 3 _ (dM _)]
def ako{r:aa Nat}(C:dJ r)(E:r.length=11):∀ t,t <= 8 -> ∀ n,10-t<n -> n<11 -> (out r t).getD n 0=0
 |0,_,n,h,D=>by omega
 | t+1,O,n,h,D=>by
  show (kG _ _ _ 4).getD n 0=0;by_cases L:n=10-t
  ·have e:n=7-t+3:=by omega
   subst e;rw[aAK (by rw[De];omega),<- L];have:gm (ud 3) _=(out r t).getD (7-t+3) 0:=akk ((Df C t).get _);simp_all
  ·rw[Zg _ _ _ 4 n (by omega)];exact ako C E t (by omega) n (by omega) D
def qi(w r:aa Nat):Nat->aa Nat
 |0=>w
 |k+1=>(qi w r k).set k (r.getD k 0)
def Zh(w r:aa Nat):∀ k,(qi w r k).length=w.length
 |0=>rfl
 |k+1=>by show (List.set _ _ _).length=_;rw[gz,Zh]
def akp{w r:aa Nat}(Y:w.length=11)(Z:r.length=11):
  iter Kl aS (((),(),(0:Int),()),(bw w,bw r,()))=some (.inl (((),()),(bw (qi w r 3),()))):=by
 have e:=vV (step:=Kl) (λi=>(((),(),i,()),(bw (qi w r i),bw r,()))) (z:=.inl (((),()),(bw (qi w r 3),()))) 3 0 aS (λk _ hk=>?_) ?_ (by unfold aS;omega)
 ·exact e
 ·unfold Kl av xG xL;dsimp only;have L:decide ((k:Int)<(3:Int))=true:=aW;have D:k<(bw r).length:=by rw[gT];omega
  have O:k<(bw (qi w r k)).length:=by rw[gT,Zh];omega
  have C:0 <= (k:Int)/\(k:Int).toNat<(bw r).length:=⟨by omega,D⟩
  have E:0 <= (k:Int)/\(k:Int).toNat<(bw (qi w r k)).length:=⟨by omega,O⟩
  have T:(bw r)[(k:Int).toNat]'C.2=((r.getD k 0:Nat):Int):=uc D;rw[L,au,az C,az C.2,T,az E,az E.2,AA];have U:(bw (qi w r k)).set (k:Int).toNat ((r.getD k 0:Nat):Int)=bw (qi w r (k+1)):=SM _ _ _;rw[U]
 ·rfl
def aAL{d:aa Nat}(U:dJ d)(E:d.length=8):∃ w,Ab (bw d)=some (bw w)/\w.length=11/\dJ w/\bW w 0 11=0/\bW w 1 11=0/\bW w 2 11=0:=by
 have D:dJ (0 :: 0 :: 0 :: d):=by
  intro x hx;simp only[gW]at hx;rcases hx with rfl|rfl|rfl|hx
  ·decide
  ·decide
  ·decide
  ·exact U x hx
 have C:(0::0::0::d).length=11:=by simp[E]
 have Y:Ab (bw d)=some (bw (qi (0 :: 0 :: 0 :: d) (out (0 :: 0 :: 0 :: d) 8) 3)):=by
  unfold Ab xA bk xZ;have c0:((d.length:Int)==(8:Int))=true:=by rw[E];rfl
  have Z:bO ((List.replicate (3:Int).toNat (0:Int)).length+(bw d).length)=true:=by
   rw[gT,E];rfl
  have c2:bO (([]:aa Int).length+(bw (0 :: 0 :: 0 :: d)).length)=true:=by
   rw[gT,C];rfl
  have c3:W6 (((bw (0 :: 0 :: 0 :: d)).length:Int)-(1:Int))=10:=by
   rw[gT,C];rfl
  have eW:List.replicate (3:Int).toNat (0:Int)++bw d=bw (0::0::0::d):=rfl;rw[aki U (by omega),ak,c0,show (!true)=false from rfl,aq,bL (by decide),Z,au,eW,akh,ak,eH];dsimp only;rw[List.nil_append,c2,au,c3,akj D C,ak,eH];dsimp only;rw[akp C (by rw[De,C]),ak,eH]
 have L:=Df D 8;have O:∀ j,j<3->bW (qi (0 :: 0 :: 0 :: d) (out (0 :: 0 :: 0 :: d) 8) 3) j 11=0:=by
  intro j hj;have T:=akm D C hj 8 (dM _);have z:=ako D C 8 (dM _);revert T z;generalize out (0 :: 0 :: 0 :: d) 8=r;intro T z;have h2:bW (qi (0 :: 0 :: 0 :: d) r 3) j 11=gm (r.getD 0 0) (pw (0*j)) ^^^ (gm (r.getD 1 0) (pw (1*j)) ^^^ (gm (r.getD 2 0) (pw (2*j)) ^^^ bW (0 :: 0 :: 0 :: d) j 11)):=by
   show bW (r.getD 0 0::r.getD 1 0::r.getD 2 0::d) j 11=_;simp only[bW,List.getD_cons_zero,List.getD_cons_succ,Nat.xor_assoc,Nat.zero_xor,SL (ua _)]
  have h3:bW r j 11=gm (r.getD 0 0) (pw (0*j)) ^^^ (gm (r.getD 1 0) (pw (1*j)) ^^^ gm (r.getD 2 0) (pw (2*j))):=by
   simp only[bW,z 3 (by decide) (by decide),z 4 (by decide) (by decide),z 5 (by decide) (by decide),z 6 (by decide) (by decide),z 7 (by decide) (by decide),z 8 (by decide) (by decide),z 9 (by decide) (by decide),z 10 (by decide) (by decide),Nat.xor_assoc,Nat.zero_xor,Nat.xor_zero,SL (ua _)]
  rw[h2,<-T,h3,<-Nat.xor_assoc (gm (r.getD 1 0) _) (gm (r.getD 2 0) _),<-Nat.xor_assoc (gm (r.getD 0 0) _),Nat.xor_self]
 refine⟨_,Y,by rw[Zh,C],?_,O 0 (by decide),O 1 (by decide),O 2 (by decide)⟩;exact((D.set (L.get _)).set (L.get _)).set (L.get _)
def vW(s:Int):Bool:=aL s 0 15
def q7(l:aa Int)(n:Int):Bool:=l.all vW&&decide ((l.length:Int)=n)
def akq(l:aa Int)(n:Int)(C:l.length<1073741824):vR l n=some (q7 l n):=by
 unfold vR q7 bE;have e:=fT (step:=Ap) l vW (λi=>((l,n,l,l.length,i,()),())) _ (.inr (.inl ((l,n,()),()))) aS (λk h=>by
  unfold Ap CU av aQ xG xI;simp (disch:=omega) [h,bD,dK,vW];cases aL l[k] 0 15<;>rfl) (by unfold Ap av aQ xG xI;simp) (bP C)
 rw[cv]at e;rw[e];cases l.all vW<;>simp;rfl
def Mm(l:aa Int)(n:Int)(C:l.length<1073741824):tT l n=some (q7 l n):=by
 unfold tT q7 bE;have e:=fT (step:=zZ) l vW (λi=>((l,n,i,()),())) _ (.inr (.inl ((l,n,()),()))) aS (λk h=>by
  unfold zZ Cx av aQ xG xI;simp (disch:=omega) [h,bD,eJ,vW];cases aL l[k] 0 15<;>rfl) (by unfold zZ av aQ xG xI;simp) (bP C)
 rw[cv]at e;rw[e];cases l.all vW<;>simp;rfl
def Sy(l:aa Int):Prop:=l.length=11/\∀s∈l,0<=s/\s<=15
def Sy.ok{l:aa Int}(h:Sy l):q7 l 11=true:=by
 simp[q7,aN,cw,vW,bJ];exact⟨λx C=>h.2 x C,by rw[h.1];rfl⟩
def Sy.of{l:aa Int}(h:q7 l 11=true):Sy l:=by
 simp[q7,aN,cw,iV,vW,bJ]at h;exact⟨by omega,h.1⟩
def akr{a b:Int}(E:0 <= a/\a <= 15)(L:0 <= b/\b <= 15):0 <= bits .xor .i64 a b/\bits .xor .i64 a b <= 15/\bits .xor .i64 (bits .xor .i64 a b) b=a:=by
 obtain⟨x,rfl⟩:=iw E.1;obtain⟨y,rfl⟩:=iw L.1;have D:x<16:=by omega
 have C:y<16:=by omega
 have:=lN D C;rw[q5 D C];rw[q5 this C]
 grind
def Sy.set{l:aa Int}(h:Sy l){k:Nat}{v:Int}(D:0<=v/\v<=15):Sy (l.set k v):=by
 refine⟨by simp[h.1],λs C=>?_⟩
 rcases List.mem_or_eq_of_mem_set C with C|rfl
 ·exact h.2 s C
 ·exact D
def Sy.get{l:aa Int}(h:Sy l){k:Nat}(C:k<l.length):0<=l[k]/\l[k]<=15:=h.2 _ (cV C)
structure eX (g:aU) (B:Int) (a:cZ):Prop where
 cells:(a.cells.length:Int)=fH g
 syms:∀c∈a.cells,Sy c.symbols
 bz:(a.bz.length:Int)=gu g
 bu:(a.bu.length:Int)=gu g
 Dg:∀x∈a.bz,0<=x/\x<=B
 iO:∀x∈a.bu,0<=x/\x<=100000
def aAM(c:bK)(h:c.symbols.length<1073741824):Rw c=some c:=by
 unfold Rw xA xZ;simp[bO,h]
def aAN(c:bK)(h:c.symbols.length<1073741824):Qj c=some c:=by
 unfold Qj xA xZ;simp[bO,h]
def aks(a:cZ)(T:a.cells.length<1073741823)(C:a.bz.length<1073741824)(D:a.bu.length<1073741824)(E:∀ c∈a.cells,c.symbols.length<1073741824):Fl a=some a:=by
 unfold Fl xA bk xZ;have e:=cH (step:=K9) a.cells.length (λi=>(((),(),a.cells,(a.cells.length:Int),(i:Int),()),(((),(),(),()),((),(),(),()),([]:aa bK),([]:aa Int),([]:aa Int),a.cells.take i,(([]:aa Int)++a.bz),(([]:aa Int)++a.bu),())))
  (.inl (((),(),()),(((),(),(),()),((),(),(),()),([]:aa bK),([]:aa Int),([]:aa Int),a.cells,(([]:aa Int)++a.bz),(([]:aa Int)++a.bu),()))) aS (λk h=>by
  unfold K9 av xG xI;have L:min k a.cells.length=k:=by omega
  have O:bO (k+1)=true:=di;simp (disch:=omega) [h,bD,aAM _ (E _ (cV h)),L,O]) (by unfold K9 av xG xI;simp) (bP)
 rw[cv,List.take_zero]at e;rw[e];simp[bO,C,D]
def aAO(a:cZ)(T:a.cells.length<1073741823)(C:a.bz.length<1073741824)(D:a.bu.length<1073741824)(E:∀ c∈a.cells,c.symbols.length<1073741824):Ql a=some a:=by
 unfold Ql xA bk xZ;have e:=cH (step:=JH) a.cells.length (λi=>(((),(),(),(i:Int),()),((a.cells,a.bz,a.bu,()),((),(),(),()),((),(),(),()),([]:aa bK),([]:aa Int),([]:aa Int),a.cells.take i,(([]:aa Int)++a.bz),(([]:aa Int)++a.bu),())))
  (.inl (((),(),()),(((),(),(),()),((),(),(),()),([]:aa bK),([]:aa Int),([]:aa Int),a.cells,(([]:aa Int)++a.bz),(([]:aa Int)++a.bu),()))) aS (λk h=>by
  unfold JH av xG xI;have L:min k a.cells.length=k:=by omega
  have O:bO (k+1)=true:=di;simp (disch:=omega) [h,bD,aAN _ (E _ (cV h)),L,O]) (by unfold JH av xG xI;simp) (bP)
 rw[cv,List.take_zero]at e;rw[e];simp[bO,C,D]
def eX.lens{g:aU}{B:Int}{a:cZ}(h:eX g B a):a.cells.length<1073741823/\a.bz.length<1073741824/\a.bu.length<1073741824/\∀ c∈a.cells,c.symbols.length<1073741824:=by
 have D:=h.cells;have E:=h.bz;have L:=h.bu;have O:=oc g;have T:=qg g;exact⟨by omega,by omega,by omega,λc C=>by rw[(h.syms c C).1];omega⟩
def eX.copy{g:aU}{B:Int}{a:cZ}(h:eX g B a):Fl a=some a:=
 let ⟨C,D,E,L⟩:=h.lens;aks a C D E L
def AB(c:bK):Bool:=q7 c.symbols 11
def sE(p:Int×Int):Bool:=aL p.1 0 100000&&aL p.2 0 100000
def mz(g:aU)(a:cZ):Bool:=cI g&&(decide ((a.cells.length:Int)=fH g)&&(decide ((a.bz.length:Int)=gu g)&&(decide ((a.bu.length:Int)=gu g)&&(a.cells.all AB&&(a.bz.zip a.bu).all sE))))
def akt(g:aU)(a:cZ)(L:∀ c∈a.cells,c.symbols.length<1073741824):Fy g a=some (mz g a):=by
 unfold Fy mz bE;rw[oa,ak,yd,ak,Mh];cases O:cI g with
 |false=>rfl
 | true=>
  have Z:=oc g;have b2:=qg g;have er:bf g*g.rows=gu g:=by simp[gu,O]
  simp only[bB,aq,ak,cu,er];rw[aO];by_cases C:(a.cells.length:Int)=fH g
  ·by_cases D:(a.bz.length:Int)=gu g
   ·by_cases E:(a.bu.length:Int)=gu g
    ·have T:a.bz.length=a.bu.length:=by omega
     have l1:=fT (step:=Ln) a.cells AB (λi=>(((),a.cells,(a.cells.length:Int),(i:Int),()),((a.cells,a.bz,a.bu,()),()))) (.inl ((false,()),())) (.inr (.inl (((),()),((a.cells,a.bz,a.bu,()),())))) aS (λk h=>by
      unfold Ln av aQ xG xI;simp (disch:=omega) [h,bD,akq _ 11 (L _ (cV h)),AB];cases q7 a.cells[k].symbols 11<;>rfl) (by unfold Ln av aQ xG xI;simp) (bP)
     have l2:=fT (step:=Lo) (a.bz.zip a.bu) sE (λi=>(((),(a.bz.length:Int),(i:Int),()),((a.cells,a.bz,a.bu,()),()))) (.inl ((false,()),())) (.inr (.inl ((),()))) aS (λk h=>by
      have U:k<a.bz.length:=by simp at h;omega
      have Y:k<a.bu.length:=by omega
      unfold Lo av aQ xG xI;simp (disch:=omega) [U,Y,bD,dK,sE];cases aL a.bz[k] 0 100000<;>cases aL a.bu[k] 0 100000<;>rfl) (by unfold Lo av aQ xG xI;simp[T]) (bP (by simp;omega))
     rw[cv]at l1 l2;simp only[C,D,E,dV,aq,decide_true,cu];rw[<-C,l1];cases h1:a.cells.all AB with
     |false=>simp
     | true=>
      simp only[au,Option.bind_some,Sum.elim_inr,eH];rw[l2];cases (a.bz.zip a.bu).all sE<;>simp
    ·simp[C,D,fO E,E]
   ·simp[C,fO D,D]
  ·simp[fO C,C]
def eX.ok{g:aU}{B:Int}{a:cZ}(h:eX g B a)(E:cI g=true)(hB:B <= 100000):Fy g a=some true:=by
 rw[akt g a (λc C=>by rw[(h.syms c C).1];omega)];have L:=h.cells;have O:=h.bz;have T:=h.bu;have U:a.cells.all AB=true:=cw.2 λc C=>(h.syms c C).ok
 have Y:(a.bz.zip _).all sE=true:=cw.2 λp Z=>by
  obtain⟨x,y⟩:=p;have D:=List.of_mem_zip Z;have a1:=h.Dg x D.1;have a2:=h.iO y D.2;simp[sE,aN,bJ];omega
 simp[mz,E,L,O,T,U,Y]
def sF(g:aU):(⟨g.cF,g.aB,g.rows,g.aT⟩:aU)=g:=rfl
def mA(n x:Int):Int:=if 100000<x+n then 100000 else x+n
def Zi(l:aa Int)(h:∀ s∈l,0 <= s/\s <= 15):bw (l.map Int.toNat)=l/\dJ (l.map Int.toNat):=by
 constructor
 ·induction l with
  |nil=>rfl
  | cons x l C=>
   have D:=h x (.head _);have:=C λs E=>h s (.tail _ E)
   grind
 ·intro x D
  grind
def Mn{w:aa Nat}(D:dJ w)(E:w.length=11):Sy (bw w):=by
 refine⟨by rw[gT,E],λs C=>?_⟩
 simp at C;obtain⟨x,L,rfl⟩:=C;have:=D x L;omega
def Sy.mem{l:aa bK}(h:∀c∈l,Sy c.symbols){k:Nat}(C:k<l.length):Sy l[k].symbols:=h _ (cV C)
def Sy.cc{l:aa bK}(h:∀c∈l,Sy c.symbols){k:Nat}{d:bK}(C:Sy d.symbols):∀c∈l.set k d,Sy c.symbols:=by grind
def Mo{l:aa Int}{B C:Int}(h:∀x∈l,B <= x/\x <= C){k:Nat}{v:Int}(D:B <= v/\v <= C):∀x∈l.set k v,B <= x/\x <= C:=by grind
def ye(l:iY)(a:cZ)(i:Nat):Bool:=decide (a.bz.getD i 0 > l.bz) ||decide (a.bu.getD i 0 > l.bu)
def aAP(g:aU)(l:iY)(a:cZ)(i:Nat)(C:i<a.bz.length)(D:i<a.bu.length):Fc g l a (i:Int)=some (ye l a i):=by
 unfold Fc ye xI
 grind
def aAQ{l:aa Int}{B C:Int}(h:∀ x∈l,B<=x/\x<=C)(k:Nat)(D:B<=0/\0<=C):B<=l.getD k 0/\l.getD k 0<=C:=by
 rw[eY];cases E:l[k]? with
 |none=>exact D
 |some x=>exact h x (gN E)
def aku{x:Int}(h:0<=x/\x<=100000){n:Int}(C:0<=n):0<=mA n x/\mA n x<=100000:=by
 unfold mA;split<;>omega
def oZ(k:Nat)(h:aa Int):aa Int:=h.set k (mA 1 (h.getD k 0))
def Mp(k:Nat)(h:aa Int):(oZ k h).length=h.length:=by simp[oZ]
def SN{k:Nat}{h:aa Int}(C:∀ x∈h,0<=x/\x<=100000):∀ x∈oZ k h,0<=x/\x<=100000:=
 Mo C (aku (aAQ C k ⟨by omega,by omega⟩) (by omega))
def Zj{k:Nat}{h:aa Int}(C:k<h.length):oZ k h=h.set k (mA 1 h[k]):=by
 unfold oZ;rw[eY,bZ C];rfl
def AD(row:Int)(i:Nat)(h:aa Int):aa Int:=bif decide (0<row)then oZ (i-1) (h.set i 0)else h.set i 0
def vX(R row:Int)(i:Nat)(h:aa Int):aa Int:=bif decide (row<R-1)then oZ (i+1) (AD row i h)else AD row i h
def aAR(row:Int)(i:Nat)(h:aa Int):(AD row i h).length=h.length:=by
 unfold AD;cases decide (0<row)<;>simp[Mp]
def aAS(R row:Int)(i:Nat)(h:aa Int):(vX R row i h).length=h.length:=by
 unfold vX;cases decide (row<R-1)<;>simp[Mp,aAR]
def aAT{row:Int}{i:Nat}{h:aa Int}(D:∀ x∈h,0<=x/\x<=100000):∀ x∈AD row i h,0<=x/\x<=100000:=by
 have C:=Mo D (k:=i) (v:=0) ⟨by omega,by omega⟩;unfold AD;cases decide (0<row)
 ·exact C
 ·exact SN C
def aAU{R row:Int}{i:Nat}{h:aa Int}(D:∀ x∈h,0<=x/\x<=100000):∀ x∈vX R row i h,0<=x/\x<=100000:=by
 have C:=aAT (row:=row) (i:=i) D;unfold vX;cases decide (row<R-1)
 ·exact C
 ·exact SN C
def Gv{C:Type}(P:C->Prop)(o:ah C):Prop:=∃y,o=some y/\P y
def Gv.pure{C:Type}{P:C->Prop}{y:C}(h:P y):Gv P (some y):=⟨y,rfl,h⟩
def Gv.bind{α C:Type}{Q:α->Prop}{P:C->Prop}{f:ah α}{g:α->ah C}(h:Gv Q f)(D:∀ y,Q y->Gv P (g y)):Gv P (f.bind g):=by
 obtain⟨y,rfl,E⟩:=h;exact D y E
def aAV(x a b:Int):Gv (λy=>y=aL x a b) (cG x a b):=⟨_,eJ x a b,rfl⟩
def aAW(k:Int):Gv (λy=>y=(aL k 1 5,k==1,(k==2 || k==3))) (Rb k):=by
 refine Gv.bind (aAV _ _ _) (λ_ h=>?_)
 subst h;cases h:k==2<;>exact Gv.pure (by simp)
def Mq(y:Int):0<=bits .and .i64 y 15/\bits .and .i64 y 15<=15:=by
 have e:bits .and .i64 y 15=IntKind.wrap .i64 ((BitVec.ofInt 64 y &&& BitVec.ofInt 64 15).toNat:Int):=rfl;have h:(BitVec.ofInt 64 y &&& BitVec.ofInt 64 15).toNat<=15:=by
  rw[BitVec.toNat_and];exact Nat.le_trans Nat.and_le_right (by decide)
 rw[e,IntKind.wrap_i64];omega
def oe(t:c9):aa Int:=[t.jF,t.rp,t.gH,t.mI,t.jG,t.jH,t.mJ,t.mK,t.ji,t.wr,t.mL,t.mM,t.pH,t.mN,t.nJ,t.xp,t.xs]
def yf(x:Int):Bool:=aL x 1 64
def iP(t:c9):Bool:=(oe t).all yf&&(decide (t.jF<=t.gH)&&(decide (t.mI<=t.jG)&&(decide (t.mJ<=t.mK)&&decide (t.mL<=t.mM))))
def Mr(t:c9):Ft t=some (iP t):=by
 unfold Ft iP bE;change (iter Fs aS (((),(),((oe t).length:Int),(0:Int),()),(t,oe t,()))).bind _=_;have C:(oe t).length=17:=rfl;generalize oe t=l at *
 have e:=fT (step:=Fs) l yf (λi=>(((),(),(l.length:Int),(i:Int),()),(t,l,()))) _ (.inr (.inl (((),()),(t,())))) aS (λk h=>by
  unfold Fs av aQ xG xL;simp (disch:=omega) [h,bD,dK,yf];cases aL l[k] 1 64<;>rfl) (by unfold Fs av aQ xG xL;simp) (bP)
 rw[cv]at e;rw[e];cases l.all yf<;>simp
 grind
def SO(t:c9):Cu t=some (iP t):=by
 unfold Cu iP XZ bE;rw[ak];change (iter EO aS (((),(),(0:Int),()),(t,oe t,()))).bind _=_;have C:(oe t).length=17:=rfl;generalize oe t=l at *
 have e:=fT (step:=EO) l yf (λi=>(((),(),(i:Int),()),(t,l,()))) (.inl ((false,()),())) (.inr (.inl (((),()),(t,())))) aS (λk h=>by
  unfold EO av aQ xG xL;simp (disch:=omega) [h,bD,eJ,yf];cases aL l[k] 1 64<;>rfl) (by unfold EO av aQ xG xL;simp) (bP)
 rw[cv]at e;rw[e];cases l.all yf<;>simp
 grind
def aAX(t:c9):JN t=x4 t:=by
 unfold JN x4;rw[Mr,SO]
def aAY(t:c9):∃ y,x4 t=some y:=by
 unfold x4;rw[Mr];cases iP t<;>exact⟨_,rfl⟩
def Ms(R i:Nat):Int:=((i % R:Nat):Int)
def lO(n R:Nat):aa Int:=(List.range n).map (Ms R)
def Zk(n R:Nat):(lO n R).length=n:=by simp[lO]
def aAZ(n R:Nat):lO (n+1) R=lO n R++[Ms R n]:=by simp[lO,List.range_succ]
def jW(g:aU)(n:Int):Bool:=cI g&&(aL n 0 2&&decide (2<=g.rows-n))
def AE(g:aU)(n:Int):eZ×Bool:=bif jW g n then (⟨n,lO ((bf g).toNat*(g.rows-n).toNat) (g.rows-n).toNat⟩,true)else (⟨0,[]⟩,false)
def SP{g:aU}{n:Int}(h:jW g n=true):cI g=true/\0 <= n/\n <= 2/\2 <= g.rows-n/\g.rows <= 16:=by
 simp[jW,aN,bJ,iV]at h;have⟨C,⟨D,E⟩,L⟩:=h;have:=fF C;simp_all
def akv(g:aU)(n:Int):JM g n=some (AE g n):=by
 unfold JM AE bk;rw[F7,ak];cases D:cI g with
 |false=>simp[jW,D]
 | true=>
  simp only[bB,aq,eJ,ak];cases E:aL n 0 2 with
  |false=>simp[jW,E]
  | true=>
   have pJ:=bJ.1 E;have gb:=fF D;simp only[bB,aq];rw[aO];by_cases O:g.rows-n<2
   ·have:decide (2<=g.rows-n)=false:=aV;rw[aW O,au];simp[jW,this]
   ·have Y:jW g n=true:=by simp[jW,D,E];omega
    rw[aV O,aq,Y,au];have Z:=fG g;obtain⟨C,L⟩:=iw Z.1;obtain⟨R,T⟩:=iw (show 0<=g.rows-n by omega);have hm:C*R<=8*16:=Nat.mul_le_mul (by omega) (by omega);have hmul:W6 ((C:Int)*(R:Int))=((C*R:Nat):Int):=by
     rw[<-Int.natCast_mul];exact aO
    have U:W6 (g.rows-n)=(R:Int):=by rw[T];exact aO
    have e:=cH (step:=JL) (C*R) (λi=>((n,(),(),(),(i:Int),()),((g.cF,g.aB,g.rows,g.aT,()),((0:Int),(),()),(n,(),()),([]:aa Int),lO i R,())))
     (.inl (((),(),()),(((0:Int),(),()),(n,(),()),([]:aa Int),lO (C*R) R,()))) aS (λk h=>by
     unfold JL av xG;have ho:bO ((lO k R).length+1)=true:=di (by rw[Zk];omega);have ht:(k:Int).tmod (R:Int)=Ms R k:=by unfold Ms;exact(Int.ofNat_tmod k R).symm
     dsimp only;rw[sF,sB,ak,U,L,hmul,aW,au,bX,ht];simp only[List.length_cons,List.length_nil,fk];rw[ho,au,bD,aAZ]) (by
     unfold JL av xG;dsimp only;rw[sF,sB,ak,U,L,hmul,aV,aq]) (bP)
    rw[cv]at e
    refine(aY (λo=>Option.bind o _) e).trans ?_
    rw[L,T];rfl
def aA0(b R:Nat)(C:0<R)(j:Nat)(D:j <= R):lO (b*R+j) R=lO (b*R) R++(List.range j).map (λi:Nat=>(i:Int)):=by
 unfold lO;rw[List.range_add,List.map_append,List.map_map];congr 1
 refine List.map_congr_left λi hi=>?_
 have hi:=gk.1 hi;simp only[Function.comp,Ms];rw[Nat.mul_comm,Nat.mul_add_mod,Nat.mod_eq_of_lt (by omega)]
def akw(g:aU)(n:Int):Lb g n=some (AE g n):=by
 unfold Lb AE bk;rw[yd,ak];cases C:cI g with
 |false=>simp[jW,C]
 | true=>
  simp only[bB,aq,dK,ak];cases D:aL n 0 2 with
  |false=>simp[jW,D]
  | true=>
   have pJ:=bJ.1 D;have gb:=fF C;simp only[bB,aq];rw[aO];by_cases O:g.rows-n<2
   ·have:decide (2<=g.rows-n)=false:=aV;rw[aW O,au];simp[jW,this]
   ·have Y:jW g n=true:=by simp[jW,C,D];omega
    rw[aV O,aq,Y,au];have Z:=fG g;obtain⟨E,L⟩:=iw Z.1;obtain⟨R,T⟩:=iw (show 0<=g.rows-n by omega);have U:W6 (g.rows-n)=(R:Int):=by rw[T];exact aO
    have inner:∀ b:Nat,b<E->iter Fq aS ((n,(),(),(),(b:Int),(0:Int),()),((g.cF,g.aB,g.rows,g.aT,()),((0:Int),(),()),(n,(),()),([]:aa Int),lO (b*R) R,()))=some (.inl ((n,(),(),(),(b:Int),()),((g.cF,g.aB,g.rows,g.aT,()),((0:Int),(),()),(n,(),()),([]:aa Int),lO ((b+1)*R) R,()))):=by
     intro b Zl;have hm:b*R<=8*16:=Nat.mul_le_mul (by omega) (by omega);have e:=cH (step:=Fq) R (λj=>((n,(),(),(),(b:Int),(j:Int),()),((g.cF,g.aB,g.rows,g.aT,()),((0:Int),(),()),(n,(),()),([]:aa Int),lO (b*R) R++(List.range j).map (λi:Nat=>(i:Int)),())))
      (.inl ((n,(),(),(),(b:Int),()),((g.cF,g.aB,g.rows,g.aT,()),((0:Int),(),()),(n,(),()),([]:aa Int),lO (b*R) R++(List.range R).map (λi:Nat=>(i:Int)),()))) aS (λk h=>by
      unfold Fq av xG;have ho:bO ((lO (b*R) R++(List.range k).map (λi:Nat=>(i:Int))).length+1)=true:=di (by simp[Zk];omega);dsimp only;rw[U,aW,au];simp only[List.length_cons,List.length_nil,fk];rw[ho,au,bD,List.range_succ,List.map_append,List.append_assoc];rfl) (by
      unfold Fq av xG;dsimp only;rw[U,aV,aq]) (bP)
     rw[cv,List.range_zero,List.map_nil,List.append_nil]at e;rw[e,<-aA0 b R (by omega) R (dM _),Nat.succ_mul]
    have e:=cH (step:=La) E (λi=>((n,(),(),(),(i:Int),()),((g.cF,g.aB,g.rows,g.aT,()),((0:Int),(),()),(n,(),()),([]:aa Int),lO (i*R) R,())))
     (.inl (((),(),()),(((0:Int),(),()),(n,(),()),([]:aa Int),lO (E*R) R,()))) aS (λk h=>by
     unfold La av xG bk;dsimp only;rw[sF,oa,ak,L,aW,au]
     refine(aY (λo=>Option.bind o _) (inner k h)).trans ?_
     rw[ak];simp only[eH];rw[bD]) (by
     unfold La av xG bk;dsimp only;rw[sF,oa,ak,L,aV,aq]) (bP)
    rw[cv,Nat.zero_mul]at e
    refine(aY (λo=>Option.bind o _) e).trans ?_
    rw[L,T];rfl
def Dh(t:c9):Int:=(x4 t).getD 0
def Zm(t:c9):x4 t=some (Dh t):=by
 obtain⟨y,e⟩:=aAY t;unfold Dh;rw[e];rfl
def aA1(t:c9):JN t=some (Dh t):=by rw[aAX,Zm]
def Zn(m:jE):Lc m=some (aL m.order 0 2):=by
 unfold Lc;rw[dK];rfl
def aA2(m:jE):EP m=some (aL m.order 0 2):=by
 unfold EP;rw[eJ];rfl
def og(c:ia):Bool:=cI c.aE&&(iP c.ck&&(aL c.mapping.order 0 2&&(jW c.aE c.cr&&(aL c.interval (Dh c.ck) 10000&&(aL c.iz 1 16&&(aL c.dO.bz (W6 ((6:Int)*c.interval)) 100000&&aL c.dO.bu 0 100000))))))
def SQ(g:aU)(n:Int):(AE g n).2=jW g n:=by
 unfold AE;cases jW g n<;>rfl
def Zo(c:ia):Rz c=some (og c):=by
 unfold Rz og;simp only[akw,yd,Mr,Zn,Zm,dK,ak,SQ];cases cI c.aE<;>cases iP c.ck<;>cases aL c.mapping.order 0 2<;>cases jW c.aE c.cr<;>cases aL c.interval (Dh c.ck) 10000<;>cases aL c.iz 1 16<;>cases aL c.dO.bz (W6 ((6:Int)*c.interval)) 100000<;>rfl
def aA3(c:ia):Qo c=some (og c):=by
 unfold Qo og;simp only[akv,SO,aA2,aA1,eJ,ak,SQ];cases h:jW c.aE c.cr with
 |false=>cases cI c.aE<;>cases iP c.ck<;>cases aL c.mapping.order 0 2<;>rfl
 | true=>
  rw[(SP h).1];cases iP c.ck<;>cases aL c.mapping.order 0 2<;>cases aL c.interval (Dh c.ck) 10000<;>cases aL c.iz 1 16<;>cases aL c.dO.bz (W6 ((6:Int)*c.interval)) 100000<;>rfl
def Zp{c:ia}(h:og c=true):cI c.aE=true/\iP c.ck=true/\jW c.aE c.cr=true/\aL c.iz 1 16=true:=by
 simp[og,aN]at h;simp_all
def akx{t:c9}(h:iP t=true):(1 <= t.gH/\t.gH <= 64)/\1 <= t.rp/\t.rp <= 64:=by
 simp[iP,aN,cw]at h;have C:=h.1 t.gH (by simp[oe]);have D:=h.1 t.rp (by simp[oe]);simp[yf,bJ]at C D;simp_all
def nq(s:bV):Bool:=aL s.weight 1 9&&aL s.eP 0 s.weight
def iQ(l:aa bV):Bool:=l.all nq&&aL (l.length:Int) 1 4
def Mt(l:aa bV)(C:l.length<1073741824):Fu l=some (iQ l):=by
 unfold Fu iQ bE;have e:=fT (step:=Ld) l nq (λi=>((l,l,l.length,i,()),())) _ (.inr (.inl ((l,()),()))) aS (λk h=>by
  unfold Ld av aQ xG xI;simp (disch:=omega) [h,bD,dK,nq];cases aL l[k].weight 1 9<;>cases aL l[k].eP 0 l[k].weight<;>rfl) (by unfold Ld av aQ xG xI;simp) (bP C)
 rw[cv]at e;rw[e];cases l.all nq<;>simp[dK]
def Zq(l:aa bV)(C:l.length<1073741824):ER l=some (iQ l):=by
 unfold ER iQ bE;have e:=fT (step:=JO) l nq (λi=>((l,i,()),())) _ (.inr (.inl ((l,()),()))) aS (λk h=>by
  unfold JO av aQ xG xI;simp (disch:=omega) [h,bD,eJ,nq];cases aL l[k].weight 1 9<;>cases aL l[k].eP 0 l[k].weight<;>rfl) (by unfold JO av aQ xG xI;simp) (bP C)
 rw[cv]at e;rw[e];cases l.all nq<;>simp[eJ]
def oh(w:Int):bV:=⟨w,w⟩
def Di(l:aa Int):aa bV×Bool:=bif iQ (l.map oh)then (l.map oh,true)else ([],false)
def aky{l:aa Int}{k:Nat}(h:k<l.length):(l.take (k+1)).map oh=(l.take k).map oh++[⟨l[k],l[k]⟩]:=by
 rw[List.take_succ_eq_append_getElem h,List.map_append];rfl
def akz(l:aa Int)(D:l.length<1073741823):An l=some (Di l):=by
 unfold An Di bk;have e:=cH (step:=Le) l.length (λi=>(((),l,(l.length:Int),(i:Int),()),((l.take i).map oh,()))) _ aS (λk h=>by
  unfold Le av xG xI;have C:bO (((l.take k).map oh).length+1)=true:=di (by simp;omega);dsimp only;rw[aW,au,az ⟨by omega,by omega⟩];simp only[List.length_cons,List.length_nil,fk,bC];rw[C,au,bD,aky h]) (by
  unfold Le av xG xI;dsimp only;rw[aV,aq,iW]) (bP)
 refine(aY (λo=>Option.bind o _) e).trans ?_
 rw[ak];simp only[eH];rw[Mt _ (by simp;omega),ak]
 grind
def akA(l:aa Int)(O:l.length<1073741823):Cw l=some (Di l):=by
 unfold Cw Di bk;have e:=cH (step:=JP) (min l.length 5) (λi=>((l,(),(i:Int),()),((l.take i).map oh,()))) (.inl (((),()),((l.take 5).map oh,()))) aS (λk h=>by
  have C:k<l.length:=by omega
  unfold JP av xG xI;have D:bO (((l.take k).map oh).length+1)=true:=di (by simp;omega);dsimp only;rw[aW,au,aW,au,az ⟨by omega,by omega⟩,az ⟨by omega,by omega⟩];simp only[List.length_cons,List.length_nil,fk,bC];rw[D,au,bD,aky C]) (by
  unfold JP av xG xI;dsimp only;by_cases c:l.length <= 5
  ·rw[Nat.min_eq_left c,iW,List.take_of_length_le c];by_cases T:l.length=5
   ·rw[aV,aq]
   ·rw[aV,aq]
  ·rw[Nat.min_eq_right (by omega),aW,au,aV,aq]) (bP)
 rw[cv,List.take_zero,List.map_nil]at e
 refine(aY (λo=>Option.bind o _) e).trans ?_
 rw[ak];simp only[eH];rw[Zq _ (by simp;omega),ak];by_cases c:l.length <= 5
 ·rw[List.take_of_length_le c];cases iQ _<;>rfl
 ·have E:iQ (l.map oh)=false:=by
   unfold iQ;have:aL ((l.map oh).length:Int) 1 4=false:=by
    rw[Bool.eq_false_iff];intro h;have:=(bJ.1 h).2
    grind
   rw[this,Bool.and_false]
  have L:iQ ((l.take 5).map oh)=false:=by
   unfold iQ;have:aL (((l.take 5).map oh).length:Int) 1 4=false:=by
    rw[Bool.eq_false_iff];intro h;have:=(bJ.1 h).2
    grind
   rw[this,Bool.and_false]
  rw[E,L];rfl
def akB(l:aa Int):(Di l).2=iQ (l.map oh):=by
 unfold Di;cases iQ (l.map oh)<;>rfl
def o6(d:gB):Bool:=decide (d.low >= 0)&&(decide (d.low<d.high)&&decide (d.high<=12))
def SR(d:gB):CS d=some (o6 d):=by
 unfold CS o6
 grind
def SS(d:gB):Cv d=some (o6 d):=by
 unfold Cv o6
 grind
def AF(r:kL):Bool:=aL r.down 1 10000&&(decide (r.sleep > r.down)&&decide (r.sleep<=20000))
def akC(r:kL):Lg r=some (AF r):=by
 unfold Lg AF;rw[dK]
 grind
def akD(r:kL):JQ r=some (AF r):=by
 unfold JQ AF;rw[eJ]
 grind
def vY(p:fz):Bool:=aL p.eN 0 1&&(aL p.cap 0 100000&&(aL p.fD 3 1000&&(o6 ⟨false,p.low,p.high⟩&&((p.weights.length:Int)==4&&(iQ (p.weights.map oh)&&AF p.eI)))))
def aA4(p:fz)(C:p.weights.length<1073741823):Qq p=some (vY p):=by
 unfold Qq vY;simp[akA _ C,ak,eJ,SS,akD,akB]
 grind
def aA5(x:Int):aL x 0 1=(x==0 || x==1):=by
 rw[Bool.eq_iff_iff];simp[aL];omega
def Zr(p:fz)(C:p.weights.length<1073741823):RC p=some (vY p):=by
 unfold RC vY;simp[akz _ C,ak,dK,SR,akC,akB,aA5]
 grind
def aA6(x:Int):Qr x=Fv x:=by
 unfold Qr Fv;rw[eJ,dK]
def Zs(x:Int):∃ y,Fv x=some y:=by
 unfold Fv;rw[dK];cases aL x 3 1000<;>exact⟨_,rfl⟩
def Zt(c:ia)(p:fz)(C:p.weights.length<1073741823):∃ b,vQ c p=some b/\(b=true->og c=true):=by
 unfold vQ;obtain⟨y,e⟩:=Zs p.fD;simp only[Zo,Zr _ C,e,ak];cases D:og c with
 |false=>exact⟨false,rfl,λh=>by cases h⟩
 | true=>
  have L:=akx (Zp D).2.1;have E:¬ W6 (c.ck.gH+c.ck.rp)=0:=by
   rw[aO];omega
  cases vY p with
  |false=>exact⟨false,rfl,λ_=>rfl⟩
  | true=>
   simp only[bX E,bB,aq,au];cases decide (W6 (y+2)<=c.dO.bu)<;>exact⟨_,rfl,λ_=>by first|rfl|trivial⟩
def aA7(c:ia)(p:fz)(C:p.weights.length<1073741823):∃ b,vQ c p=some b/\ES c p=some b/\(b=true->og c=true):=by
 unfold vQ ES;obtain⟨y,e⟩:=Zs p.fD;simp only[Zo,aA3,Zr _ C,aA4 _ C,aA6,e,ak];cases D:og c with
 |false=>exact⟨false,rfl,rfl,λh=>by cases h⟩
 | true=>
  have L:=akx (Zp D).2.1;have E:¬ W6 (c.ck.gH+c.ck.rp)=0:=by
   rw[aO];omega
  cases vY p with
  |false=>exact⟨false,rfl,rfl,λ_=>rfl⟩
  | true=>
   simp only[bX E,bB,aq,au];cases decide (W6 (y+2)<=c.dO.bu)<;>exact⟨_,rfl,rfl,λ_=>by first|rfl|trivial⟩
def akE(i:Nat)(l:aa cR):((opens i l).length==0)=l.all λb=>!b.open_:=by
 induction l generalizing i with
 |nil=>rfl
 | cons x a C=>
  simp[opens,List.all_cons]
  grind
def q8(g:aU)(b:cR):Bool:=aL b.row 0 (g.rows-1)&&(b.open_ ||b.row==0)
def lP(g:aU)(r:cy):Bool:=cI g&&(((r.aB.length:Int)==bf g)&&(aL r.aZ 0 2&&(r.aB.all (q8 g)&&(r.aZ != 2 ||r.aB.all λb=>!b.open_))))
def akF(g:aU)(r:cy):Li g r=some (lP g r):=by
 unfold Li lP bE;rw[yd,ak,oa];cases D:cI g with
 |false=>rfl
 | true=>
  simp only[bB,aq,ak,cu];by_cases C:(r.aB.length:Int)=bf g
  ·have L:=fG g;have O:=fF D;simp only[C,dV,aq,dR,cu,dK,ak];cases T:aL r.aZ 0 2 with
   |false=>rfl
   | true=>
    have e:=fT (step:=Lh) r.aB (q8 g) (λi=>(((),(),r.aB,(r.aB.length:Int),(i:Int),()),((g.cF,g.aB,g.rows,g.aT,()),(r.aB,r.aZ,()),()))) (.inl ((false,()),())) (.inr (.inl (((),()),((r.aB,r.aZ,()),())))) aS (λk h=>by
     unfold Lh av aQ xG xI;dsimp only;rw[aW,au,az ⟨by omega,by omega⟩];simp only[bC,dK,ak];rw[aO (n:=g.rows-1),bD];unfold q8;cases aL r.aB[k].row 0 (g.rows-1)with
     |false=>rfl
     | true=>
      cases r.aB[k].open_ with
      |true=>rfl
      | false=>
       simp[bne];cases r.aB[k].row==0<;>rfl) (by
     unfold Lh av aQ xG xI;dsimp only;rw[aV,aq]) (bP)
    rw[cv,C]at e;simp only[bB,aq,cu]
    refine(aY (λo=>Option.bind o _) e).trans ?_
    rw[ak];cases r.aB.all (q8 g)with
    |false=>rfl
    | true=>
     simp only[au,Sum.elim_inr,eH,cu];cases U:r.aZ != 2 with
     |true=>rfl
     | false=>
      simp;rw[SK ⟨r.aB,r.aZ⟩ (by show r.aB.length<_;omega),ak,<- akE 0 r.aB];congr 1
      grind
  ·have E:((r.aB.length:Int)==bf g)=false:=by simp[C]
   rw[fO C,E];rfl
def aA8(g:aU)(r:cy):Qs g r=some (lP g r):=by
 unfold Qs lP bE;rw[F7,ak,sB];cases E:cI g with
 |false=>rfl
 | true=>
  simp only[bB,aq,ak,cu];by_cases D:(r.aB.length:Int)=bf g
  ·have T:=fG g;have U:=fF E;simp only[D,dV,aq,dR,cu,eJ,ak];cases Y:aL r.aZ 0 2 with
   |false=>rfl
   | true=>
    have e:=fT (step:=JR) r.aB (λb=>q8 g b&&(r.aZ != 2 || !b.open_)) (λi=>(((),(),(i:Int),()),((g.cF,g.aB,g.rows,g.aT,()),(r.aB,r.aZ,()),()))) (.inl ((false,()),())) (.inr (.inl ((),()))) aS (λk h=>by
     unfold JR av aQ xG xI;dsimp only;rw[aW,au,az ⟨by omega,by omega⟩];simp only[bC,eJ,ak];rw[aO (n:=g.rows-1),bD];unfold q8;simp only[bne];cases aL r.aB[k].row 0 (g.rows-1)with
     |false=>rfl
     |true=>cases r.aB[k].open_<;>cases r.aB[k].row==0<;>cases r.aZ==2<;>rfl) (by
     unfold JR av aQ xG xI;dsimp only;rw[aV,aq]) (bP)
    rw[cv]at e;simp only[bB,aq,cu]
    refine(aY (λo=>Option.bind o _) e).trans ?_
    rw[ak];have L:(r.aB.all λb=>q8 g b&&(r.aZ != 2 || !b.open_))=(r.aB.all (q8 g)&&(r.aZ != 2 || r.aB.all λb=>!b.open_)):=by
     cases r.aZ != 2 with
     |true=>simp
     | false=>
      simp only[Bool.false_or];rw[Bool.eq_iff_iff];simp only[cw,aN];exact⟨λh=>⟨λx C=>(h x C).1,λx C=>(h x C).2⟩,λh x C=>⟨h.1 x C,h.2 x C⟩⟩
    rw[L];cases (r.aB.all (q8 g)&&(r.aZ != 2 ||r.aB.all λb=>!b.open_))<;>rfl
  ·have O:((r.aB.length:Int)==bf g)=false:=by simp[D]
   rw[fO D,O];rfl
def AG(d:Int):Bool:=aL d (-2) 5
def fB(r:de):Bool:=r.aH.all AG&&(aL (r.aH.length:Int) 1 8&&aL r.wait 1 10000)
def Mv(r:de)(C:r.aH.length<1073741824):Aq r=some (fB r):=by
 unfold Aq fB bE;have e:=fT (step:=Ls) _ AG (λi=>(((),r.aH,r.aH.length,i,()),((r.aH,r.wait,r.dS,()),()))) _ (.inr (.inl (((),()),((r.aH,r.wait,r.dS,()),())))) aS (λk h=>by
  unfold Ls av aQ xG xI;simp (disch:=omega) [h,bD,dK,AG];cases aL r.aH[k] _ 5<;>rfl) (by unfold Ls av aQ xG xI;simp) (bP C)
 rw[cv]at e;rw[e];cases r.aH.all AG<;>simp[dK]
 grind
def SU(r:de)(C:r.aH.length<1073741824):Cy r=some (fB r):=by
 unfold Cy fB bE;have e:=fT (step:=J0) _ AG (λi=>(((),i,()),((r.aH,r.wait,r.dS,()),()))) _ (.inr (.inl (((),()),((r.aH,r.wait,r.dS,()),())))) aS (λk h=>by
  unfold J0 av aQ xG xI;simp (disch:=omega) [h,bD,eJ,AG];cases aL r.aH[k] _ 5<;>rfl) (by unfold J0 av aQ xG xI;simp) (bP C)
 rw[cv]at e;rw[e];cases r.aH.all AG<;>simp[eJ]
 grind
def gw{T:Type}(p:T->Bool)(l:aa T):Int:=match l.findIdx? p with
 |some i=>(i:Int)
 |none=>-1
def sG{α β T:Type}{step:α -> ah (α⊕β)}(l:aa T)(p:T -> Bool)(S:Nat -> α)(D:Nat -> β)(z:β)(fuel:Nat)(E:∀ k (h:k<l.length),step (S k)=some (bif p l[k]then .inr (D k)else .inl (S (k+1))))(L:step (S l.length)=some (.inr z))(C:l.length<fuel):
  iter step fuel (S 0)=some (match l.findIdx? p with|some i=>D i|none=>z):=by
 have key:∀ (n i fuel:Nat),i+n=l.length -> n<fuel -> (∀ j (h:j<l.length),j<i -> p l[j]=false) -> iter step fuel (S i)=some (match l.findIdx? p with | some i=>D i | none=>z):=by
  intro n
  induction n with
  | zero=>
   intro i fuel hi C O
   match fuel,C with
   | f+1,_=>
    have:i=l.length:=by omega
    subst this;have e:l.findIdx? p=none:=by
     rw[List.findIdx?_eq_none_iff];intro x U;obtain⟨j,Y,rfl⟩:=jh.1 U
     grind
    unfold iter;rw[L,e]
  | succ n Z=>
   intro i fuel hi C O
   match fuel,C with
   | f+1,C=>
    have dA:i<l.length:=by omega
    unfold iter;rw[E i dA];cases hp:p l[i]with
    | true=>
     have e:l.findIdx? p=some i:=by
      rw[pG]
      grind
     rw[e];rfl
    | false=>
     simp only[aq]
     refine Z (i+1) f (by omega) (by omega) λj Y Ie=>?_
     by_cases e:j=i
     ·grind
     ·grind
 exact key l.length 0 fuel (by omega) C λj _ h=>by omega
def F9{T:Type}{p:T -> Bool}{l:aa T}{i:Nat}(h:i<l.length)(E:p l[i]=true):(gw p l != (i:Int))=(l.take i).any p:=by
 unfold gw;cases C:(l.take i).any p with
 | false=>
  have e:l.findIdx? p=some i:=by
   rw[pG]
   refine⟨h,E,λj D=>?_⟩
   have:=List.any_eq_false.1 C l[j] (jh.2 ⟨j,by simp;omega,by simp⟩);exact this
  rw[e];simp
 | true=>
  have⟨x,L,U⟩:=List.any_eq_true.1 C;obtain⟨j,D,rfl⟩:=jh.1 L;rw[fJ]at D;cases O:l.findIdx? p with
  |none=>simp
  | some k=>
   have⟨Y,Z,k3⟩:=pG.1 O;have:k≠i:=by
    grind
   simp only;simp;omega
def SV(x:Int):Bool:=aL x 0 4294967295
def o7(n:Int)(r:bA):Bool:=aL r.id 1 100000&&(aL r.dN 0 3&&(decide (r.line >= 0)&&(decide (r.line<n)&&(SV r.data&&((r.write ||r.data==0)&&aL r.at_ 0 1000000)))))
def aA9(n:Int)(r:bA):RK n r=some (o7 n r):=by
 unfold RK o7 CX SV;simp[dK]
 grind
def aBa(n:Int)(r:bA):QC n r=some (o7 n r):=by
 unfold QC o7 J3 SV;simp[eJ]
 grind
def q9(x y:bA):Bool:=decide (x.at_<y.at_) ||(x.at_==y.at_&&decide (x.id<y.id))
def akG(x y:bA):RL x y=some (q9 x y):=by
 unfold RL q9
 grind
def aBb(x y:bA):X6 x y=some (q9 x y):=akG x y
def Zu(l:aa bA)(id:Int)(C:l.length<1073741824):J5 l id=some (gw (λr=>r.id==id) l):=by
 unfold J5 gw bE;have e:=sG (step:=J4) l (λr=>r.id==id) (λi=>((l,id,i,()),())) _ (.inr (.inl ((),()))) aS (λk h=>by
  unfold J4 av aQ xG xI;simp (disch:=omega) [h,bD];cases l[k].id==id<;>rfl) (by unfold J4 av aQ xG xI;simp) (bP C)
 rw[cv]at e;rw[e];cases l.findIdx? _<;>rfl
def ri(n:Int)(q:aa bA)(i:Nat):Bool:=match q[i]? with
 |some r=>o7 n r&&((i==0 ||(match q[i-1]? with|some x=>q9 x r|none=>false)) && !((q.take i).any λx=>x.id==r.id))
 |none=>false
def Zv{n:Int}{q:aa bA}(h:0<q.length):ri n q 0=o7 n q[0]:=by
 unfold ri;rw[bZ h];simp
def Mw{n:Int}{q:aa bA}{i:Nat}(h:i+1<q.length):ri n q (i+1)=(o7 n q[i+1]&&(q9 q[i] q[i+1] && !((q.take (i+1)).any λx=>x.id==q[i+1].id))):=by
 unfold ri
 grind
def o8(n:Int)(q:aa bA):Bool:=(List.range q.length).all (ri n q)&&decide ((q.length:Int)<=12)
def aBc(n:Int)(q:aa bA):QD n q=some (o8 n q):=by
 unfold QD o8 bE;by_cases c:(q.length:Int)<=12
 ·rw[aV (show ¬ (q.length:Int) > 12 by omega),aq,aW c,Bool.and_true];have e:=fT (step:=J6) (List.range q.length) (ri n q) (λi=>((n,q,(i:Int),()),())) (.inl ((false,()),())) (.inr (.inl ((),()))) aS (λk h=>by
   rw[cO]at h;rw[iU];unfold J6 av aQ xG xI;dsimp only;rw[aW,au,az ⟨by omega,by omega⟩];simp only[bC,aBa,ak];cases k with
   | zero=>
    rw[Zv h];cases o7 n q[0]with
    |false=>rfl
    | true=>
     simp only[bB,aq,au];rw[aV,aq,az ⟨by omega,h⟩,Zu _ _ (by omega),ak,F9 h (by simp)];simp;rfl
   | succ k=>
    rw[Mw h];cases o7 n q[k+1]with
    |false=>rfl
    | true=>
     simp only[bB,aq,cu];have C:W6 (((k+1:Nat):Int)-1)=(k:Int):=by rw[aO];omega
     simp only[C,bC];rw[aW,au,az ⟨by omega,by omega⟩,az ⟨by omega,h⟩,aBb,ak];cases q9 q[k] q[k+1]with
     |false=>rfl
     | true=>
      simp only[bB,aq,cu];rw[az ⟨by omega,h⟩,Zu _ _ (by omega),ak,F9 h (by simp),bD];cases (q.take (k+1)).any λx=>x.id==q[k+1].id<;>rfl) (by
   rw[cO];unfold J6 av aQ xG xI;dsimp only;rw[aV,aq]) (by rw[cO];exact bP)
  rw[cv]at e
  refine(aY (λo=>Option.bind o _) e).trans ?_
  rw[ak];cases (List.range q.length).all (ri n q)<;>rfl
 ·rw[aW (show (q.length:Int) > 12 by omega),au,aV c,Bool.and_false]
def aBd(n:Int)(q:aa bA){i:Nat}(h:i<q.length)(C:q.length<1073741824):
  iter FC aS ((n,q,(),q,(q.length:Int),(i:Int),((q.take i).drop 0),(((q.take i).drop 0).length:Int),(0:Int),()),((q[i].id,q[i].dN,q[i].line,q[i].write,q[i].data,q[i].at_,()),()))=some (bif (q.take i).any (λx=>x.id==q[i].id)then .inl ((false,()),())else .inr (.inl ((n,q,q,(q.length:Int),(i:Int),()),()))):=by
 rw[List.drop_zero];have hlen:(q.take i).length=i:=by rw[fJ];omega
 generalize D:q[i]=r;generalize E:q.take i=t at *
 have e:=fT (step:=FC) t (λx=>!(x.id==r.id)) (λj=>((n,q,(),q,(q.length:Int),(i:Int),t,(t.length:Int),(j:Int),()),((r.id,r.dN,r.line,r.write,r.data,r.at_,()),()))) (.inl ((false,()),())) _ aS (λk h=>by
  unfold FC av aQ xG xI;dsimp only;rw[aW,au,az ⟨by omega,by omega⟩];simp only[bC];rw[bD];cases t[k].id==r.id<;>rfl) (by
  unfold FC av aQ xG xI;dsimp only;rw[aV,aq]) (bP)
 grind
def aBe(n:Int)(q:aa bA)(D:q.length<1073741824):RM n q=some (o8 n q):=by
 unfold RM o8 bE;have e:=fT (step:=Lx) (List.range q.length) (ri n q) (λi=>((n,q,q,(q.length:Int),(i:Int),()),())) (.inl ((false,()),())) (.inr (.inl ((q,()),()))) aS (λk h=>by
   rw[cO]at h;rw[iU];unfold Lx av aQ xG xI bE;dsimp only;rw[aW,au,az ⟨by omega,by omega⟩];simp only[bC,aA9,ak];have C:=aBd n q h D;cases k with
   | zero=>
    rw[Zv h];cases o7 n q[0]with
    |false=>rfl
    | true=>
     simp only[bB,aq,au];rw[aV,aq,bL ⟨by omega,by omega,by omega⟩]
     refine(aY (λo=>Option.bind o _) C).trans ?_
     simp;rfl
   | succ k=>
    rw[Mw h];cases o7 n q[k+1]with
    |false=>rfl
    | true=>
     simp only[bB,aq,cu];have E:W6 (((k+1:Nat):Int)-1)=(k:Int):=by rw[aO];omega
     simp only[E,bC];rw[aW,au,az ⟨by omega,by omega⟩,akG,ak];cases q9 q[k] q[k+1]with
     |false=>rfl
     | true=>
      simp only[bB,aq,cu];rw[bL ⟨by omega,by omega,by omega⟩]
      refine(aY (λo=>Option.bind o _) C).trans ?_
      rw[ak];cases (q.take (k+1)).any λx=>x.id==q[k+1].id with
      |true=>rfl
      | false=>
       simp only[aq,Sum.elim_inr,eH];rw[bD];rfl) (by
   rw[cO];unfold Lx av aQ xG xI bE;dsimp only;rw[aV,aq]) (by rw[cO];exact bP)
 rw[cv]at e
 refine(aY (λo=>Option.bind o _) e).trans ?_
 rw[ak];cases (List.range q.length).all (ri n q)<;>rfl
def jX(p:eC):Bool:=aL p.state 0 2&&(aL p.since 0 1000000&&aL p.idle 0 1000000)
def SW(p:eC):CY p=some (jX p):=by
 unfold CY jX;simp[dK]
 grind
def SX(p:eC):vI p=some (jX p):=by
 unfold vI jX;simp[eJ]
 grind
def yg(e:bU):Bool:=aL e.line 0 1023&&((e.code==1 ||e.code==2)&&aL e.times 1 999)
def kV(e x:bU):Bool:=x.line==e.line&&x.code==e.code
def Ga(l:aa bU)(i:Nat):Bool:=match l[i]? with
 |some e=>yg e && !((l.take i).any (kV e))
 |none=>false
def SY{l:aa bU}{i:Nat}(h:i<l.length):Ga l i=(yg l[i] && !((l.take i).any (kV l[i]))):=by
 unfold Ga;rw[bZ h]
def kH(l:aa bU):Bool:=(List.range l.length).all (Ga l)&&decide ((l.length:Int)<=6)
def akH(l:aa bU)(e:bU)(C:l.length<1073741824):J8 l e.line e.code=some (gw (kV e) l):=by
 unfold J8 gw bE;have e:=sG (step:=J7) l (kV e) (λi=>((l,e.line,e.code,i,()),())) _ _ aS (λk h=>by
  unfold J7 kV av aQ xG xI;dsimp only;rw[aW,au,az ⟨by omega,by omega⟩,az ⟨by omega,by omega⟩];simp only[bC];rw[bD];cases l[k].line==e.line<;>cases l[k].code==e.code<;>rfl) (by
  unfold J7 av aQ xG xI;dsimp only;rw[aV,aq]) (bP C)
 rw[cv]at e;rw[e];cases l.findIdx? _<;>rfl
def akI(l:aa bU):Ka l=some (kH l):=by
 unfold Ka kH bE;by_cases c:(l.length:Int) <= 6
 ·rw[aV (show ¬ (l.length:Int) > 6 by omega),aq,aW c,Bool.and_true];have e:=fT (step:=J9) _ (Ga l) (λi=>((l,(i:Int),()),())) _ _ aS (λk h=>by
   rw[cO]at h;rw[iU,SY h];unfold J9 EV yg av aQ xG xI;dsimp only;rw[aW,au,az ⟨by omega,by omega⟩,az ⟨by omega,by omega⟩,az ⟨by omega,by omega⟩];simp only[bC,eJ,ak];rw[akH _ _ (by omega),ak,F9 h (by simp[kV]),bD];cases aL l[k].line 0 1023<;>cases l[k].code==1<;>cases l[k].code==2<;>cases aL l[k].times 1 999<;>cases (l.take k).any (kV l[k])<;>rfl) (by
   rw[cO];unfold J9 av aQ xG xI;dsimp only;rw[aV,aq]) (by rw[cO];exact bP)
  refine(aY (λo=>Option.bind o _) e).trans ?_
  rw[ak];cases (List.range l.length).all (Ga l)<;>rfl
 ·rw[aW (show (l.length:Int) > 6 by omega),au,aV c,Bool.and_false]
def aBf(l:aa bU){i:Nat}(h:i<l.length)(C:l.length<1073741824):
  iter FE aS ((l,(),l,(l.length:Int),(i:Int),((l.take i).drop 0),(((l.take i).drop 0).length:Int),(0:Int),()),((l[i].line,l[i].code,l[i].times,()),()))=some (bif (l.take i).any (kV l[i])then .inl ((false,()),())else .inr (.inl ((l,l,(l.length:Int),(i:Int),()),()))):=by
 rw[List.drop_zero];have hlen:(l.take i).length=i:=by rw[fJ];omega
 generalize D:l[i]=r;generalize E:l.take i=t at *
 have e:=fT (step:=FE) t (λx=>!(kV r x)) (λj=>((l,(),l,(l.length:Int),(i:Int),t,(t.length:Int),(j:Int),()),((r.line,r.code,r.times,()),()))) _ _ aS (λk h=>by
  unfold FE kV av aQ xG xI;dsimp only;rw[aW,au,az ⟨by omega,by omega⟩];simp only[bC];rw[bD,BEq.comm (a:=r.line),BEq.comm (a:=r.code)];cases t[k].line==r.line<;>cases t[k].code==r.code<;>rfl) (by
  unfold FE av aQ xG xI;dsimp only;rw[aV,aq]) (bP)
 grind
def akJ(l:aa bU)(C:l.length<1073741824):Lz l=some (kH l):=by
 unfold Lz kH bE;have e:=fT (step:=Ly) _ (Ga l) (λi=>((l,l,l.length,i,()),())) _ _ aS (λk h=>by
   rw[cO]at h;rw[iU,SY h];have D:=aBf l h C;unfold Ly yg av aQ xG xI bE;dsimp only;rw[aW,au,az ⟨by omega,by omega⟩];simp only[bC,dK,ak,bne];rw[bL ⟨by omega,by omega,by omega⟩];rw[show (0:Int).toNat=0 from rfl,D];cases aL l[k].line 0 1023<;>cases l[k].code==1<;>cases l[k].code==2<;>cases aL l[k].times 1 999<;>cases (l.take k).any (kV l[k])<;>first|rfl|(simp only[au,aq,bB,iX,ak,Sum.elim_inr,eH];rw[bD];rfl)) (by
   rw[cO];unfold Ly av aQ xG xI bE;dsimp only;rw[aV,aq]) (by rw[cO];exact bP)
 refine(aY (λo=>Option.bind o _) e).trans ?_
 cases (List.range _).all _<;>rfl
def SZ(l:aa Int)(x:Int)(C:l.length<1073741824):CW l x=some (gw (λe=>x==e) l):=by
 unfold CW gw;have e:=sG (step:=Lu) l (λe=>x==e) (λi=>((l,x,l.length,i,()),())) _ _ aS (λk h=>by
  unfold Lu av aQ xG xI;dsimp only;rw[aW,au,az ⟨by omega,by omega⟩];simp only[bC];rw[bD];cases x==l[k]<;>rfl) (by
  unfold Lu av aQ xG xI;dsimp only;rw[aV,aq]) (bP C)
 rw[cv]at e;rw[e];cases l.findIdx? _<;>rfl
def Dj(t:bQ)(i:Nat):Bool:=match t.rows[i]?,t.counts[i]? with
 |some r,some c=>aL r (-1) 15&&(aL c t.cY 100000&&((r != -1 ||c==0)&&(r == -1 ||!((t.rows.take i).any λx=>r==x))))
 |_,_=>false
def S0{t:bQ}{i:Nat}(h:i<t.rows.length)(C:i<t.counts.length):Dj t i=(aL t.rows[i] (-1) 15&&(aL t.counts[i] t.cY 100000&&((t.rows[i] != -1 || t.counts[i]==0)&&(t.rows[i] == -1 || !((t.rows.take i).any λx=>t.rows[i]==x))))):=by
 unfold Dj;rw[bZ h,bZ C]
def kI(t:bQ):Bool:=aL (t.rows.length:Int) 1 16&&((t.rows.length:Int)==(t.counts.length:Int)&&(aL t.cY 0 100000&&(List.range t.rows.length).all (Dj t)))
def Zw(t:bQ):As t=some (kI t):=by
 unfold As kI bE;simp only[dK,ak];cases D:aL (t.rows.length:Int) 1 16 with
 |false=>rfl
 | true=>
  have D:=bJ.1 D;by_cases C:(t.rows.length:Int)=(t.counts.length:Int)
  ·simp only[C,dV,dR,bB,aq,cu];cases T:aL t.cY 0 100000 with
   |false=>rfl
   | true=>
    have e:=fT (step:=Lv) (List.range t.rows.length) (Dj t) (λi=>(((),t.rows,(t.rows.length:Int),(i:Int),()),((t.rows,t.counts,t.cY,()),()))) (.inl ((false,()),())) (.inr (.inl ((),()))) aS (λk h=>by
     rw[cO]at h;have E:k<t.counts.length:=by omega
     rw[iU,S0 h E];unfold Lv av aQ xG xI;dsimp only;rw[aW,au,az ⟨by omega,by omega⟩,az ⟨by omega,by omega⟩,az ⟨by omega,by omega⟩];simp only[bC,dK,ak,SZ _ _ (show t.rows.length<1073741824 by omega)];rw[F9 (p:=λe=>t.rows[k]==e) h (by simp),bD];simp only[bne];cases aL t.rows[k] (-1) 15<;>cases aL t.counts[k] t.cY 100000<;>cases t.rows[k] == -1<;>cases t.counts[k]==0<;>cases (t.rows.take k).any (λe=>t.rows[k]==e)<;>rfl) (by
     rw[cO];unfold Lv av aQ xG xI;dsimp only;rw[aV,aq]) (by rw[cO];exact bP)
    rw[cv,C]at e;simp only[bB,aq,cu]
    refine(aY (λo=>Option.bind o _) e).trans ?_
    rw[ak];cases (List.range t.rows.length).all (Dj t)<;>rfl
  ·have L:((t.rows.length:Int)==(t.counts.length:Int))=false:=by simp[C]
   have O:((t.counts.length:Int) != (t.rows.length:Int))=true:=fO λh=>C h.symm
   rw[L,O];rfl
def aBg(t:bQ){i:Nat}(h:i<t.rows.length)(C:t.rows.length<1073741824):
  iter EU aS (((),(i:Int),(0:Int),()),((t.rows,t.counts,t.cY,()),()))=some (bif decide (t.rows[i] >= 0)&&(t.rows.take i).any (λx=>t.rows[i]==x)then .inl ((false,()),())else .inr (.inl (((),(i:Int),()),((t.rows,t.counts,t.cY,()),())))):=by
 have hlen:(t.rows.take i).length=i:=by rw[fJ];omega
 have e:=fT (step:=EU) (t.rows.take i) (λx=>!(decide (t.rows[i] >= 0)&&t.rows[i]==x)) (λj=>(((),(i:Int),(j:Int),()),((t.rows,t.counts,t.cY,()),()))) _ _ aS (λk D=>by
  unfold EU av aQ xG xI;dsimp only;rw[aW,au,az ⟨by omega,by omega⟩,az ⟨by omega,by omega⟩,az ⟨by omega,by omega⟩];simp only[bC,List.getElem_take];rw[bD,BEq.comm (a:=t.rows[k])];cases decide (t.rows[i] >= 0)<;>cases t.rows[i]==t.rows[k]<;>rfl) (by
  rw[hlen];unfold EU av aQ xG xI;dsimp only;rw[aV,aq]) (bP)
 grind
def Zx(t:bQ):CA t=some (kI t):=by
 unfold CA kI bE;simp only[eJ,ak];cases D:aL (t.rows.length:Int) 1 16 with
 |false=>rfl
 | true=>
  have D:=bJ.1 D;by_cases C:(t.rows.length:Int)=(t.counts.length:Int)
  ·simp only[C,dV,dR,bB,aq,cu];cases Y:aL t.cY 0 100000 with
   |false=>rfl
   | true=>
    have e:=fT (step:=J1) (List.range t.rows.length) (Dj t) (λi=>(((),(i:Int),()),((t.rows,t.counts,t.cY,()),()))) (.inl ((false,()),())) (.inr (.inl ((),()))) aS (λk h=>by
     rw[cO]at h;have O:k<t.counts.length:=by omega
     have T:=aBg t h (by omega);rw[iU,S0 h O];unfold J1 av aQ xG xI bE;dsimp only;rw[aW,au,az ⟨by omega,by omega⟩,az ⟨by omega,by omega⟩,az ⟨by omega,by omega⟩,az ⟨by omega,by omega⟩];simp only[bC,eJ,ak];rw[T,ak];cases E:aL t.rows[k] (-1) 15 with
     |false=>rfl
     | true=>
      have E:=bJ.1 E;cases aL t.counts[k] t.cY 100000 with
      |false=>rfl
      | true=>
       simp only[bB,aq,cu,bne];by_cases L:t.rows[k] = -1
       ·rw[aW (show t.rows[k]<0 by omega),aV (show ¬ t.rows[k] >= 0 by omega),show (t.rows[k] == -1)=true by simp[L]];simp;rw[bD]
        grind
       ·rw[aV (show ¬ t.rows[k]<0 by omega),aW (show t.rows[k] >= 0 by omega),show (t.rows[k] == -1)=false by simp[L]];simp only[au,aq,cu];cases (t.rows.take k).any λx=>t.rows[k]==x with
        |true=>rfl
        | false=>
         simp;rw[bD];rfl) (by
     rw[cO];unfold J1 av aQ xG xI bE;dsimp only;rw[aV,aq]) (by rw[cO];exact bP)
    rw[cv]at e;simp only[bB,aq,cu]
    refine(aY (λo=>Option.bind o _) e).trans ?_
    rw[ak];cases (List.range t.rows.length).all (Dj t)<;>rfl
  ·have U:((t.rows.length:Int)==(t.counts.length:Int))=false:=by simp[C]
   rw[U,fO C];rfl
def w9(g:aU):W6 ((9:Int)*(W6 (bf g+(1:Int))))=9*(bf g+1):=by
 have:=fG g;rw[aO (n:=bf g+1),aO]
def Mx(k:Int):x5 k=some (aL k 1 5):=by
 unfold x5;rw[dK];rfl
def aBh(n:Int)(u:Bool)(k:Int):C2 n u k=some (bif u then aL n 0 (W6 (k-1))else n==0):=by
 unfold C2;rw[dK];cases u<;>rfl
def om(g:aU)(i:Nat):Bool:=decide ((i:Int) / 9<bf g)==decide ((i:Int) % 9+1<=5)
def aBi(g:aU){i:Nat}(hi:i<1000):Qt g (i:Int)=some (om g i):=by
 unfold Qt om;rw[sB,ak,rH (by omega),rI (by omega),aO,aO,BEq.comm]
def aBj(g:aU){i:Nat}(hi:i<1000):∃ c,CT g (i:Int)=some (c,om g i):=by
 unfold CT om;rw[oa,ak,rH (by omega),rI (by omega),aO,aO,Mx];have:aL (i % 9+1) 1 5=decide ((i:Int) % 9+1 <= 5):=by
  simp[aL];omega
 rw[this];cases decide (i / 9<bf g)<;>exact⟨_,rfl⟩
def Dk(g:aU)(l:aa Int)(i:Nat):Bool:=match l[i]? with
 |some e=>aL e (-1) 1000000&&(om g i ||e == -1)
 |none=>false
def My{g:aU}{l:aa Int}{i:Nat}(h:i<l.length):Dk g l i=(aL l[i] (-1) 1000000&&(om g i || l[i] == -1)):=by
 unfold Dk;rw[bZ h]
def oq(l:aa Int)(i:Nat):Bool:=match l[i]? with
 |some e=>aL e 0 1000000&&(i==0 ||(match l[i-1]? with|some x=>!(decide (x >= e))|none=>false))
 |none=>false
def Mz{l:aa Int}(h:0<l.length):oq l 0=aL l[0] 0 1000000:=by
 unfold oq;rw[bZ h];simp
def Gb{l:aa Int}{i:Nat}(h:i+1<l.length):oq l (i+1)=(aL l[i+1] 0 1000000 && !(decide (l[i] >= l[i+1]))):=by
 unfold oq
 grind
def kW(g:aU)(r:dn):Bool:=cI g&&((r.last.length:Int)==9*(bf g+1)&&(!(decide ((r.bx.length:Int) > 4))&&((List.range r.last.length).all (Dk g r.last)&&(List.range r.bx.length).all (oq r.bx))))
def Zy(g:aU)(r:dn):Fx g r=some (kW g r):=by
 unfold Fx kW bE;rw[yd,ak,oa];cases T:cI g with
 |false=>rfl
 | true=>
  simp only[bB,aq,ak,cu,w9];by_cases C:(r.last.length:Int)=9*(bf g+1)
  ·have U:=fG g;rw[C,dV,aq,dR,cu,<-C];cases D:decide ((r.bx.length:Int) > 4)with
   |true=>rfl
   | false=>
    have D:=of_decide_eq_false D;have l1:=fT (step:=Lj) (List.range r.last.length) (Dk g r.last) (λi=>(((),(),r.last,(r.last.length:Int),(i:Int),()),((g.cF,g.aB,g.rows,g.aT,()),(r.last,r.bx,()),()))) (.inl ((false,()),())) (.inr (.inl (((),()),((r.last,r.bx,()),())))) aS (λk h=>by
     rw[cO]at h;obtain⟨c,E⟩:=aBj g (i:=k) (by omega);rw[iU,My h];unfold Lj av aQ xG xI;dsimp only;rw[aW,au,az ⟨by omega,by omega⟩];simp only[bC,dK,ak,sF,E,bne];rw[bD];cases aL r.last[k] (-1) 1000000<;>cases om g k<;>cases r.last[k] == -1<;>rfl) (by
     rw[cO];unfold Lj av aQ xG xI;dsimp only;rw[aV,aq]) (by rw[cO];exact bP)
    have l2:=fT (step:=Lk) (List.range r.bx.length) (oq r.bx) (λi=>(((),r.bx,(r.bx.length:Int),(i:Int),()),((r.last,r.bx,()),()))) (.inl ((false,()),())) (.inr (.inl ((),()))) aS (λk h=>by
     rw[cO]at h;rw[iU];unfold Lk av aQ xG xI;dsimp only;rw[aW,au,az ⟨by omega,by omega⟩];simp only[bC,dK,ak];cases k with
     | zero=>
      rw[Mz h];cases aL r.bx[0] 0 1000000 with
      |false=>rfl
      | true=>
       rw[aV];rfl
     | succ k=>
      rw[Gb h];have L:W6 (((k+1:Nat):Int)-1)=(k:Int):=by rw[aO];omega
      simp only[L,bC];rw[aW (show ((k+1:Nat):Int) > 0 by omega),az ⟨by omega,by omega⟩,bD];cases aL r.bx[k+1] 0 1000000<;>cases decide (r.bx[k] >= r.bx[k+1])<;>rfl) (by
     rw[cO];unfold Lk av aQ xG xI;dsimp only;rw[aV,aq]) (by rw[cO];exact bP)
    rw[cv]at l1 l2;simp only[iX,aq,cu]
    refine(aY (λo=>Option.bind o _) l1).trans ?_
    rw[ak];cases (List.range r.last.length).all (Dk g r.last)with
    |false=>rfl
    | true=>
     simp only[au,Sum.elim_inr,eH,cu]
     refine(aY (λo=>Option.bind o _) l2).trans ?_
     rw[ak];cases (List.range r.bx.length).all (oq r.bx)<;>rfl
  ·have O:((r.last.length:Int)==9*(bf g+1))=false:=by simp[C]
   rw[fO C,O];rfl
def akK(g:aU)(r:dn):JU g r=some (kW g r):=by
 unfold JU kW bE;rw[F7,ak,sB];cases O:cI g with
 |false=>rfl
 | true=>
  simp only[bB,aq,ak,cu,w9];by_cases C:(r.last.length:Int)=9*(bf g+1)
  ·have T:=fG g;rw[C,dV,aq,dR,cu];cases D:decide ((r.bx.length:Int) > 4)with
   |true=>rfl
   | false=>
    have D:=of_decide_eq_false D;have l1:=fT (step:=JS) (List.range r.last.length) (Dk g r.last) (λi=>(((),(),(i:Int),()),((g.cF,g.aB,g.rows,g.aT,()),(r.last,r.bx,()),()))) (.inl ((false,()),())) (.inr (.inl (((),()),((r.last,r.bx,()),())))) aS (λk h=>by
     rw[cO]at h;rw[iU,My h];unfold JS av aQ xG xI;dsimp only;rw[aW,au,az ⟨by omega,by omega⟩,az ⟨by omega,by omega⟩];simp only[bC,eJ,ak,sF,aBi g (show k<1000 by omega),bne];rw[bD];cases aL r.last[k] (-1) 1000000<;>cases om g k<;>cases r.last[k] == -1<;>rfl) (by
     rw[cO];unfold JS av aQ xG xI;dsimp only;rw[aV,aq]) (by rw[cO];exact bP)
    have l2:=fT (step:=JT) (List.range r.bx.length) (oq r.bx) (λi=>(((),(i:Int),()),((r.last,r.bx,()),()))) (.inl ((false,()),())) (.inr (.inl ((),()))) aS (λk h=>by
     rw[cO]at h;rw[iU];unfold JT av aQ xG xI;dsimp only;rw[aW,au,az ⟨by omega,by omega⟩];simp only[bC,eJ,ak];cases k with
     | zero=>
      rw[Mz h];cases aL r.bx[0] 0 1000000 with
      |false=>rfl
      | true=>
       rw[aV];rfl
     | succ k=>
      rw[Gb h];have E:W6 (((k+1:Nat):Int)-1)=(k:Int):=by rw[aO];omega
      simp only[E,bC];rw[aW (show ((k+1:Nat):Int) > 0 by omega),az ⟨by omega,by omega⟩,az ⟨by omega,by omega⟩,bD];cases aL r.bx[k+1] 0 1000000<;>cases decide (r.bx[k] >= r.bx[k+1])<;>rfl) (by
     rw[cO];unfold JT av aQ xG xI;dsimp only;rw[aV,aq]) (by rw[cO];exact bP)
    rw[cv]at l1 l2;simp only[iX,aq,cu]
    refine(aY (λo=>Option.bind o _) l1).trans ?_
    rw[ak];cases (List.range r.last.length).all (Dk g r.last)with
    |false=>rfl
    | true=>
     simp only[au,Sum.elim_inr,eH,cu]
     refine(aY (λo=>Option.bind o _) l2).trans ?_
     rw[ak];cases (List.range r.bx.length).all (oq r.bx)<;>rfl
  ·have L:((r.last.length:Int)==9*(bf g+1))=false:=by simp[C]
   rw[fO C,L];rfl
def aBk(l:aa Int)(x:Int)(C:l.length<1073741824):Qx l x=some (l.any λe=>e==x):=by
 unfold Qx bE;have e:=fT (step:=JX) l (λe=>!(e==x)) (λi=>((l,x,i,()),())) _ _ aS (λk h=>by
  unfold JX av aQ xG xI;dsimp only;rw[aW,au,az ⟨by omega,by omega⟩];simp only[bC];rw[bD];cases l[k]==x<;>rfl) (by
  unfold JX av aQ xG xI;dsimp only;rw[aV,aq]) (bP C)
 rw[cv]at e;rw[e];have:l.all (λe=>!(e==x)) = !l.any λe=>e==x:=by rw[List.any_eq_not_all_not,Bool.not_not]
 rw[this];cases l.any λe=>e==x<;>rfl
def aBl(l:aa Int)(x:Int)(C:l.length<1073741824):RG l x=some (l.count x:Int):=by
 unfold RG bk;have e:=cH (step:=Lp) _ (λi=>((x,((l.take i).count x),l,l.length,i,()),())) _ aS (λk h=>by
  unfold Lp av xG xI;have D:(l.take k).count x <= k:=Nat.le_trans List.count_le_length (by rw[fJ];omega);dsimp only;rw[aW,au,az ⟨by omega,by omega⟩];simp only[bC];rw[List.take_succ_eq_append_getElem h,List.count_append,List.count_singleton,bD,bD];cases l[k]==x<;>rfl) (by
  unfold Lp av xG xI;dsimp only;rw[aV,aq,iW]) (bP C)
 simp_all
def akL{x:Int}:∀ (l:aa Int),(∀ j (h:j<l.length),l[j]=x -> x ∉ l.take j) -> l.count x <= 1
 |[],_=>by simp
 | y :: ys,h=>by
  rw[List.count_cons];by_cases e:y=x
  ·have:x ∉ ys:=by
    intro C;have⟨j,E,D⟩:=jh.1 C;refine h (j+1) (by simp;omega) (by simpa using D) ?_;simp_all
   grind
  ·have:=akL ys λj E D C=>h (j+1) (by simp;omega) (by simpa using D) (by rw[List.take_succ_cons];exact List.mem_cons_of_mem _ C)
   simp_all
def aBm{x:Int}:∀ (l:aa Int) (j:Nat) (h:j<l.length),l[j]=x -> x∈l.take j -> 2 <= l.count x:=by
 intro l j h e C;have D:=List.count_pos_iff.2 C;have E:1 <= (l.drop j).count x:=List.count_pos_iff.2 (by rw[<- e];exact jh.2 ⟨0,by simp;omega,by simp⟩);have:l.count x=(l.take j).count x+(l.drop j).count x:=by rw[<- List.count_append,List.take_append_drop]
 omega
def rj(R M:Int)(L:aa Int)(j:Nat):Bool:=match L[j]? with
 |some e=>e==(j:Int) ||(aL e R M && !(decide ((L.count e:Int) > 1)))
 |none=>false
def AH(R M:Int)(L:aa Int)(j:Nat):Bool:=match L[j]? with
 |some e=>e==(j:Int) ||(aL e R M && !((L.take j).any λx=>x==e))
 |none=>false
def aBn(R M:Int)(L:aa Int)(Z:(L.length:Int)=R):(List.range L.length).all (rj R M L)=(List.range L.length).all (AH R M L):=by
 rw[Bool.eq_iff_iff,cw,cw];simp only[gk];constructor
 ·intro h j C;have:=h j C;unfold rj at this;unfold AH;rw[bZ C]at *
  simp only[eB,aN,hU,qw]at *
  rcases this with D|⟨D,Y⟩
  ·simp_all
  ·refine .inr ⟨D,?_⟩;rw[List.any_eq_false];intro x T O;have O:x=L[j]:=by simpa using O
   have:=aBm L j C rfl (O ▸ T);omega
 ·intro h j C;have:=h j C;unfold AH at this;unfold rj;rw[bZ C]at *
  simp only[eB,aN,hU,qw]at *
  rcases this with D|⟨D,Y⟩
  ·simp_all
  ·refine .inr ⟨D,?_⟩;have hle:=(bJ.1 D).1;have:=akL (x:=L[j]) L λk U e T=>by
    have E:=h k U;unfold AH at E;rw[bZ U]at E;simp only[eB,aN,hU]at E;rcases E with h3|⟨_,h4⟩
    ·grind
    ·grind
   omega
def jA(m:aa Int)(R b:Nat):aa Int:=(m.take ((b+1)*R)).drop (b*R)
def MA(m:aa Int)(R b:Nat):jA m R b=(m.drop (b*R)).take R:=by
 unfold jA;rw[List.drop_take,Nat.succ_mul,Nat.add_sub_cancel_left]
def Zz{m:aa Int}{R b:Nat}(h:(b+1)*R<=m.length):(jA m R b).length=R:=by
 rw[MA,fJ,List.length_drop];rw[Nat.succ_mul]at h;omega
def Dl{C R b j:Nat}(D:b<C)(E:j <= R):b*R+j <= C*R:=by
 have:=jD R D
 grind
def MB(R:Nat)(M:Int)(m:aa Int)(i:Nat):Bool:=match m[i]? with
 |some e=>e==((i % R:Nat):Int) ||(aL e (R:Int) M && !(((m.take i).drop (i / R*R)).any λx=>x==e))
 |none=>false
def akM{R:Nat}{M:Int}{m:aa Int}{b j:Nat}(C:j<R):MB R M m (b*R+j)=AH (R:Int) M (jA m R b) j:=by
 unfold MB AH;have D:(b*R+j) % R=j:=by rw[Nat.mul_comm,Nat.mul_add_mod,Nat.mod_eq_of_lt C]
 have E:(b*R+j) / R=b:=by rw[Nat.mul_comm,Nat.mul_add_div (by omega),Nat.div_eq_of_lt C,Nat.add_zero]
 have L:(jA m R b)[j]?=m[b*R+j]?:=by rw[MA,List.getElem?_take_of_lt C,List.getElem?_drop]
 have O:(jA m R b).take j=(m.take (b*R+j)).drop (b*R):=by rw[MA,List.take_take,List.drop_take,Nat.add_sub_cancel_left,Nat.min_eq_left (Nat.le_of_lt C)]
 simp_all
def akN{n:Nat}(h:n<4611686018427387904):W6 (n:Int)=(n:Int):=aO
def aBo(R D:Nat)(L:0<R)(M:Int)(m:aa Int):(List.range (D*R)).all (MB R M m)=(List.range D).all λb=>(List.range R).all (AH (R:Int) M (jA m R b)):=by
 rw[Bool.eq_iff_iff,cw];simp;constructor
 ·intro h b E j C;rw[<- akM C];refine h _ ?_;have:=Dl E (show j+1 <= R from C);omega
 ·intro h i hi;have E:i / R<D:=Nat.div_lt_of_lt_mul (by rw[Nat.mul_comm];exact hi);have C:i % R<R:=Nat.mod_lt _ L;have e:i / R*R+i % R=i:=by rw[Nat.mul_comm];exact Nat.div_add_mod i R
  have:=h _ E _ C;rw[<- akM C,e]at this;exact this
def nt(g:aU)(s:eZ):Bool:=jW g s.cr&&((s.map.length:Int)==((bf g).toNat*(g.rows-s.cr).toNat:Nat)&&(List.range (bf g).toNat).all λb=>(List.range (g.rows-s.cr).toNat).all (rj (g.rows-s.cr) (g.rows-1) (jA s.map (g.rows-s.cr).toNat b)))
def akO{g:aU}{s:eZ}{R C b:Nat}(D:g.rows-s.cr=(R:Int))(E:R<=16)(L:C<=8)(O:b<C)(Z:s.map.length=C*R):Fz g s (b:Int)=some (b*R,(b+1)*R):=by
 have hm:C*R<=8*16:=Nat.mul_le_mul L E;have h1:b*R+R<=C*R:=Dl O (dM R);have T:W6 (g.rows-s.cr)=(R:Int):=by rw[D];exact aO
 have U:W6 ((b:Int)*(R:Int))=((b*R:Nat):Int):=by rw[<-Int.natCast_mul];exact aO
 have Y:W6 (((b+1:Nat):Int)*(R:Int))=(((b+1)*R:Nat):Int):=by
  rw[<-Int.natCast_mul];exact aO (by omega) (by rw[Nat.succ_mul];omega)
 unfold Fz;rw[T,bD,U,Y,Nat.succ_mul,bL ⟨by omega,by omega,by omega⟩];simp only[bC]
def aBp{g:aU}{s:eZ}(R b:Int)(L:aa Int)(C:cI g=true)(D:L.length<1073741824):
  iter FA aS (((),(),R,b,L,L,(L.length:Int),(0:Int),()),((g.cF,g.aB,g.rows,g.aT,()),(s.cr,s.map,()),()))=some (bif (List.range L.length).all (rj R (g.rows-1) L)then .inr (.inl (((),(),R,b,()),((g.cF,g.aB,g.rows,g.aT,()),(s.cr,s.map,()),())))else .inl ((false,()),())):=by
 have E:=fF C;have e:=fT (step:=FA) (List.range L.length) (rj R _ L) (λi=>(((),(),R,b,L,L,L.length,i,()),((g.cF,g.aB,g.rows,g.aT,()),(s.cr,s.map,()),()))) _ _ aS (λk h=>by
  rw[cO]at h;rw[iU];unfold FA rj av aQ xG xI;dsimp only;rw[aW,au,az ⟨by omega,by omega⟩,bZ h];simp only[bC,dK,ak,aBl _ _ D,bne];rw[bD,aO (n:=g.rows-1)];cases L[k]==(k:Int)<;>cases aL L[k] R (g.rows-1)<;>cases decide ((L.count L[k]:Int) > 1)<;>rfl) (by
  rw[cO];unfold FA av aQ xG xI;dsimp only;rw[aV,aq]) (by rw[cO];exact bP)
 simp_all
def akP(g:aU)(s:eZ):Lr g s=some (nt g s):=by
 unfold Lr nt bE;rw[akw,ak,SQ];cases L:jW g s.cr with
 |false=>rfl
 | true=>
  obtain⟨U,s0,s2,DO,aBq⟩:=SP L;have Y:=fG g;have Z:((AE g s.cr).1.map.length:Int)=(((bf g).toNat*(g.rows-s.cr).toNat:Nat):Int):=by
   unfold AE;rw[L,au,Zk]
  rw[Z];obtain⟨C,D⟩:=iw Y.1;obtain⟨R,O⟩:=iw (show 0<=g.rows-s.cr by omega);rw[D,O];simp only[bC,bB,aq,cu];by_cases E:(s.map.length:Int)=((C*R:Nat):Int)
  ·have T:s.map.length=C*R:=by omega
   rw[E,dV,aq,dR,cu];have hw:W6 (R:Int)=(R:Int):=aO;have e:=fT (step:=Lq) (List.range C) (λb=>(List.range R).all (rj (R:Int) (g.rows-1) (jA s.map R b))) (λi=>(((),(),(R:Int),(i:Int),()),((g.cF,g.aB,g.rows,g.aT,()),(s.cr,s.map,()),()))) (.inl ((false,()),())) (.inr (.inl ((),()))) aS (λk h=>by
    rw[cO]at h;rw[iU];have hk:=Dl (R:=R) h (dM R);have hlen:(jA s.map R k).length=R:=Zz (by rw[Nat.succ_mul,T];exact hk);have wP:=aBp (g:=g) (s:=s) (R:Int) (k:Int) (jA s.map R k) U (by omega);unfold Lq av aQ xG bE;dsimp only;rw[sF,oa,ak,D,aW,au];have hbr:Fz g (⟨s.cr,s.map⟩:eZ) (k:Int)=some (k*R,(k+1)*R):=akO (s:=⟨s.cr,s.map⟩) O (by omega) (by omega) h T;rw[hbr,ak];have hc:(Nat.ble (k*R) ((k+1)*R)&&Nat.ble ((k+1)*R) s.map.length)=true:=by
     rw[aN];exact⟨js (by rw[Nat.succ_mul];omega),js (by rw[Nat.succ_mul];omega)⟩
    rw[hc,au]
    refine(aY (λo=>Option.bind o _) wP).trans ?_
    rw[ak,hlen];cases (List.range R).all (rj (R:Int) (g.rows-1) (jA s.map R k))with
    |false=>rfl
    | true=>
     simp only[au,Sum.elim_inr,eH];rw[bD]) (by
    rw[cO];unfold Lq av aQ xG bE;dsimp only;rw[sF,oa,ak,D,aV,aq]) (by rw[cO];exact bP)
   rw[cv]at e;rw[hw]
   refine(aY (λo=>Option.bind o _) e).trans ?_
   rw[ak];cases (List.range C).all λb=>(List.range R).all (rj (R:Int) (g.rows-1) (jA s.map R b))<;>rfl
  ·have e2:((s.map.length:Int)==((C*R:Nat):Int))=false:=by simp only[beq_eq_false_iff_ne];exact E
   rw[fO E,e2];rfl
def akQ(g:aU)(s:eZ):JZ g s=some (nt g s):=by
 unfold JZ nt bE;rw[akv,ak,SQ];cases O:jW g s.cr with
 |false=>rfl
 | true=>
  obtain⟨T,s0,s2,DO,aBq⟩:=SP O;have U:=fG g;have gb:=fF T;obtain⟨C,Y⟩:=iw U.1;obtain⟨R,Z⟩:=iw (show 0<=g.rows-s.cr by omega);have hm:C*R<=8*16:=Nat.mul_le_mul (by omega) (by omega);have hw:W6 (R:Int)=(R:Int):=aO;have hmul:W6 ((C:Int)*(R:Int))=((C*R:Nat):Int):=by rw[<-Int.natCast_mul];exact aO
  rw[sB,ak,Y,Z,hw,hmul];simp only[bC,bB,aq,cu];by_cases D:(s.map.length:Int)=((C*R:Nat):Int)
  ·have wY:s.map.length=C*R:=by omega
   rw[D,dV,aq,dR,cu];have e:=fT (step:=JY) (List.range (C*R)) (MB R (g.rows-1) s.map) (λi=>(((),(),(R:Int),(i:Int),()),((g.cF,g.aB,g.rows,g.aT,()),(s.cr,s.map,()),()))) (.inl ((false,()),())) (.inr (.inl ((),()))) aS (λk h=>by
    rw[cO]at h;rw[iU];have h':k<s.map.length:=by omega
    have ht:(k:Int).tmod (R:Int)=((k % R:Nat):Int):=(Int.ofNat_tmod k R).symm;have hd:(k:Int).tdiv (R:Int)=((k / R:Nat):Int):=(Int.ofNat_tdiv k R).symm;have Gc:k / R<=k:=Nat.div_le_self k R;have L:k / R*R<=k:=Nat.div_mul_le_self k R;have w1:W6 (((k / R:Nat):Int))=((k / R:Nat):Int):=akN (Nat.lt_of_le_of_lt Gc (by omega));have w2:W6 (((k / R:Nat):Int)*(R:Int))=((k / R*R:Nat):Int):=by rw[<-Int.natCast_mul];exact akN (Nat.lt_of_le_of_lt L (by omega))
    unfold JY MB av aQ xG xI;rw[bZ h'];dsimp only;rw[aW,au,az ⟨by omega,by omega⟩,bX,az ⟨by omega,by omega⟩,bX,ht,hd,w1,w2,bL ⟨Int.natCast_nonneg _,Int.ofNat_le.2 L,by omega⟩,az ⟨by omega,by omega⟩];simp only[bC,eJ,ak];rw[aBk _ _ (by rw[List.length_drop,fJ];omega),ak,bD,aO (n:=g.rows-1)];cases s.map[k]==((k % R:Nat):Int)<;>cases aL s.map[k] (R:Int) (g.rows-1)<;>cases ((s.map.take k).drop (k / R*R)).any (λx=>x==s.map[k])<;>rfl) (by
    rw[cO];unfold JY av aQ xG xI;dsimp only;rw[aV,aq]) (by rw[cO];exact bP)
   rw[cv]at e
   refine(aY (λo=>Option.bind o _) e).trans ?_
   rw[ak,aBo R C (by omega)];have hAB:((List.range C).all λb=>(List.range R).all (AH (R:Int) (g.rows-1) (jA s.map R b)))=(List.range C).all λb=>(List.range R).all (rj (R:Int) (g.rows-1) (jA s.map R b)):=by
    rw[Bool.eq_iff_iff,cw,cw]
    refine forall_congr' λb=>?_
    refine imp_congr_right λE=>?_
    have E:=gk.1 E;have hk:=Dl (R:=R) E (dM R);have hlen:(jA s.map R b).length=R:=Zz (by rw[Nat.succ_mul,wY];exact hk);have:=aBn (R:Int) (g.rows-1) (jA s.map R b) (by rw[hlen]);rw[hlen]at this;rw[this]
   rw[hAB];cases (List.range C).all λb=>(List.range R).all (rj (R:Int) (g.rows-1) (jA s.map R b))<;>rfl
  ·have e2:((s.map.length:Int)==((C*R:Nat):Int))=false:=by simp only[beq_eq_false_iff_ne];exact D
   rw[fO D,e2];rfl
def jq(g:aU)(s:eZ):aU:=bif nt g s then ⟨g.cF,g.aB,W6 (g.rows-s.cr),g.aT⟩else ⟨0,0,0,0⟩
def ZA(g:aU)(s:eZ):FD g s=some (jq g s):=by
 unfold FD jq;rw[akP,ak];cases nt g s<;>rfl
def aBr(g:aU)(s:eZ):QE g s=some (jq g s):=by
 unfold QE jq;rw[akQ,ak];cases nt g s<;>rfl
def ot(c:ax):ax:=c
def gx(a x:aI):Bool:=x.ay==a.ay&&(x.row==a.row&&(x.bR==a.bR&&true))
def ZB(l:aa aI)(a:aI)(C:l.length<1073741824):CB l a=some (gw (gx a) l):=by
 unfold CB gw bE;have e:=sG (step:=J2) l (gx a) (λi=>((l,(),i,()),((a.ay,a.row,a.bR,()),()))) _ _ aS (λk h=>by
  unfold J2 gx av aQ xG xI;dsimp only;rw[aW,au,az ⟨by omega,by omega⟩];simp only[bC];rw[bD];cases (l[k].ay==a.ay&&(l[k].row==a.row&&(l[k].bR==a.bR&&true)))<;>rfl) (by
  unfold J2 av aQ xG xI;dsimp only;rw[aV,aq]) (bP C)
 rw[cv]at e;rw[e];cases l.findIdx? _<;>rfl
def akR(l:aa aI)(a:aI)(C:l.length<1073741824):FB l a=some (gw (gx a) l):=by
 unfold FB gw;have e:=sG (step:=Lw) l (gx a) (λi=>((l,(),l.length,i,()),((a.ay,a.row,a.bR,()),()))) _ _ aS (λk h=>by
  unfold Lw gx av aQ xG xI;dsimp only;rw[aW,au,az ⟨by omega,by omega⟩];simp only[bC];rw[bD,BEq.comm (a:=a.ay),BEq.comm (a:=a.row),BEq.comm (a:=a.bR)];cases (l[k].ay==a.ay&&(l[k].row==a.row&&(l[k].bR==a.bR&&true)))<;>rfl) (by
  unfold Lw av aQ xG xI;dsimp only;rw[aV,aq]) (bP C)
 rw[cv]at e;rw[e];cases l.findIdx? _<;>rfl
def partAt(c:ax)(i:Nat):Bool:=match c.bH[i]?,c.guard[i]? with
 |some t,some x=>kI t&&aL x 3 1000
 |_,_=>false
def ue(c:ax)(i:Nat):Bool:=match c.pending[i]? with
 |some a=>fj c.config.aE a&&(a.bR==0 && !((c.pending.take i).any (gx a)))
 |none=>false
def sH(c:ax):Bool:=(c.aP.aH.length:Int)==bf c.config.aE&&((c.bH.length:Int)==bf c.config.aE&&((c.guard.length:Int)==bf c.config.aE&&(!(decide ((c.pending.length:Int) > 128))&&((List.range c.bH.length).all (partAt c)&&(List.range c.pending.length).all (ue c)))))
def akS(c:ax)(n i:Int):Qz (((),n,i,()),(ot c,()))=(bif (decide (i<n))then if C:0<=i/\i.toNat<c.bH.length then (CA (c.bH[i.toNat]'C.2)).bind λD=>bif (!D)then some (.inr (.inl ((false,()),())))else if E:0<=i/\i.toNat<c.guard.length then (cG (c.guard[i.toNat]'E.2) (3:Int) (1000:Int)).bind λL=>bif (!L)then some (.inr (.inl ((false,()),())))else some (.inl (((),n,(W6 (i+(1:Int))),()),(ot c,())))else none else none else some (.inr (.inr (.inl (((),()),(ot c,())))))):=rfl
def akT(c:ax)(i:Int):QA (((),i,()),(ot c,()))=(bif (decide (i<(c.pending.length:Int)))then if C:0<=i/\i.toNat<c.pending.length then (Cz c.config.aE (c.pending[i.toNat]'C.2)).bind λD=>bif (!D)then some (.inr (.inl ((false,()),())))else bif ((c.pending[i.toNat]'C.2).bR != (0:Int))then some (.inr (.inl ((false,()),())))else (CB c.pending (c.pending[i.toNat]'C.2)).bind λE=>bif (E != i)then some (.inr (.inl ((false,()),())))else some (.inl (((),(W6 (i+(1:Int))),()),(ot c,())))else none else some (.inr (.inr (.inl ((),()))))):=rfl
def akU(c:ax)(G:(Int×Int×Int×Int×af))(n i:Int):RH (((),(),n,i,()),(ot c,G,()))=(bif (decide (i<n))then if C:0<=i/\i.toNat<c.bH.length then (As (c.bH[i.toNat]'C.2)).bind λD=>bif (!D)then some (.inr (.inl ((false,()),())))else if E:0<=i/\i.toNat<c.guard.length then (cA (c.guard[i.toNat]'E.2) (3:Int) (1000:Int)).bind λL=>bif (!L)then some (.inr (.inl ((false,()),())))else some (.inl (((),(),n,(W6 (i+(1:Int))),()),(ot c,G,())))else none else none else some (.inr (.inr (.inl (((),(),()),(ot c,G,())))))):=rfl
def akV(c:ax)(g:aU)(l:aa aI)(n i:Int):RI (((),(),l,n,i,()),(ot c,(g.cF,g.aB,g.rows,g.aT,()),()))=(bif (decide (i<n))then if C:0<=i/\i.toNat<l.length then (CV g (l[i.toNat]'C.2)).bind λD=>bif (!D)then some (.inr (.inl ((false,()),())))else bif ((l[i.toNat]'C.2).bR != (0:Int))then some (.inr (.inl ((false,()),())))else (FB c.pending (l[i.toNat]'C.2)).bind λE=>bif (E != i)then some (.inr (.inl ((false,()),())))else some (.inl (((),(),l,n,(W6 (i+(1:Int))),()),(ot c,(g.cF,g.aB,g.rows,g.aT,()),())))else none else some (.inr (.inr (.inl ((),()))))):=rfl
def aBs(c:ax):QB c=some (sH c):=by
 unfold QB sH bE;rw[sB,ak];have T:=fG c.config.aE;by_cases C:(c.aP.aH.length:Int)=bf c.config.aE
 ·by_cases D:(c.bH.length:Int)=bf c.config.aE
  ·by_cases E:(c.guard.length:Int)=bf c.config.aE
   ·rw[C,D,E,dV,dR,aq,cu,cu,cu,aq,aq];cases L:decide ((c.pending.length:Int) > 128)with
    |true=>rfl
    | false=>
     have L:=of_decide_eq_false L;have l1:=fT (step:=Qz) (List.range c.bH.length) (partAt c) (λi=>(((),bf c.config.aE,(i:Int),()),(ot c,()))) (.inl ((false,()),())) (.inr (.inl (((),()),(ot c,())))) aS (λk h=>by
      rw[cO]at h;rw[iU,akS,aW,au,az ⟨by omega,by omega⟩,az ⟨by omega,by omega⟩];simp only[bC,Zx,eJ,ak];unfold partAt;rw[bZ h,bZ (show k<c.guard.length by omega),bD];simp only;cases kI c.bH[k]<;>cases aL (c.guard[k]'(by omega)) 3 1000<;>rfl) (by
      rw[cO,akS,aV,aq]) (by rw[cO];exact bP)
     have l2:=fT (step:=QA) (List.range c.pending.length) (ue c) (λi=>(((),(i:Int),()),(ot c,()))) (.inl ((false,()),())) (.inr (.inl ((),()))) aS (λk h=>by
      rw[cO]at h;rw[iU,akT,aW,au,az ⟨by omega,by omega⟩];simp only[bC,Za,ak,ZB _ _ (show c.pending.length<1073741824 by omega),bne];have O:=F9 (p:=gx c.pending[k]) h (by simp[gx]);rw[bne]at O;rw[O];unfold ue;rw[bZ h,bD];simp only;cases fj c.config.aE c.pending[k]<;>cases c.pending[k].bR==0<;>cases (c.pending.take k).any (gx c.pending[k])<;>rfl) (by
      rw[cO,akT,aV,aq]) (by rw[cO];exact bP)
     rw[cv]at l1 l2;simp only[iX,aq,cu]
     refine(aY (λo=>Option.bind o _) l1).trans ?_
     rw[ak];cases (List.range c.bH.length).all (partAt c)with
     |false=>rfl
     | true=>
      simp only[au,Sum.elim_inr,eH,cu]
      refine(aY (λo=>Option.bind o _) l2).trans ?_
      rw[ak];cases (List.range c.pending.length).all (ue c)<;>rfl
   ·simp[C,D,fO E,E]
  ·simp[C,fO D,D]
 ·simp[fO C,C]
def aBt(c:ax)(T:c.aP.aH.length<1073741824):RJ c=some (fB c.aP&&sH c):=by
 unfold RJ sH bE;rw[oa,ak,Mv _ T,ak];cases fB c.aP with
 |false=>rfl
 |true=>
 simp only[bB,aq,cu];have b1:=fG c.config.aE;by_cases C:(c.aP.aH.length:Int)=bf c.config.aE
 ·by_cases D:(c.bH.length:Int)=bf c.config.aE
  ·by_cases E:(c.guard.length:Int)=bf c.config.aE
   ·have U:((c.aP.aH.length:Int) != bf c.config.aE)=false:=by simp[C]
    have Y:((c.bH.length:Int) != bf c.config.aE)=false:=by simp[D]
    have Z:((c.guard.length:Int) != bf c.config.aE)=false:=by simp[E]
    have q1:((c.aP.aH.length:Int)==bf c.config.aE)=true:=by simp[C]
    have q2:((c.bH.length:Int)==bf c.config.aE)=true:=by simp[D]
    have q3:((c.guard.length:Int)==bf c.config.aE)=true:=by simp[E]
    rw[U,Y,Z,q1,q2,q3];simp only[aq,cu];cases L:decide ((c.pending.length:Int) > 128)with
    |true=>rfl
    | false=>
     have L:=of_decide_eq_false L;have l1:=fT (step:=RH) (List.range c.bH.length) (partAt c) (λi=>(((),(),(c.bH.length:Int),(i:Int),()),(ot c,(c.config.aE.cF,c.config.aE.aB,c.config.aE.rows,c.config.aE.aT,()),()))) (.inl ((false,()),())) (.inr (.inl (((),(),()),(ot c,(c.config.aE.cF,c.config.aE.aB,c.config.aE.rows,c.config.aE.aT,()),())))) aS (λk h=>by
      rw[cO]at h;rw[iU,akU,aW,au,az ⟨by omega,by omega⟩,az ⟨by omega,by omega⟩];simp only[bC,Zw,dK,ak];unfold partAt;rw[bZ h,bZ (show k<c.guard.length by omega),bD];simp only;cases kI c.bH[k]<;>cases aL (c.guard[k]'(by omega)) 3 1000<;>rfl) (by
      rw[cO,akU,aV,aq]) (by rw[cO];exact bP)
     have l2:=fT (step:=RI) (List.range c.pending.length) (ue c) (λi=>(((),(),c.pending,(c.pending.length:Int),(i:Int),()),(ot c,(c.config.aE.cF,c.config.aE.aB,c.config.aE.rows,c.config.aE.aT,()),()))) (.inl ((false,()),())) (.inr (.inl ((),()))) aS (λk h=>by
      rw[cO]at h;rw[iU,akV,aW,au,az ⟨by omega,by omega⟩];simp only[bC,Y9,ak,akR _ _ (show c.pending.length<1073741824 by omega),bne];have O:=F9 (p:=gx c.pending[k]) h (by simp[gx]);rw[bne]at O;rw[O];unfold ue;rw[bZ h,bD];simp only;cases fj c.config.aE c.pending[k]<;>cases c.pending[k].bR==0<;>cases (c.pending.take k).any (gx c.pending[k])<;>rfl) (by
      rw[cO,akV,aV,aq]) (by rw[cO];exact bP)
     rw[cv]at l1 l2;simp only[iX,aq,cu]
     refine(aY (λo=>Option.bind o _) l1).trans ?_
     rw[ak];cases (List.range c.bH.length).all (partAt c)with
     |false=>rfl
     | true=>
      simp only[au,Sum.elim_inr,eH,cu]
      refine(aY (λo=>Option.bind o _) l2).trans ?_
      rw[ak];cases (List.range c.pending.length).all (ue c)<;>rfl
   ·simp[C,D,fO E,E]
  ·simp[C,fO D,D]
 ·simp[fO C,C]
def sI(n:Int)(u:Bool)(k:Int):Bool:=bif u then aL n 0 (k-1)else n==0
def dL(g:aU)(c:aG):Bool:=cI g&&(aL c.kind 1 9&&(sI c.ay (aL c.kind 1 5) (bf g)&&(sI c.row (c.kind==1) g.rows&&sI c.bR (c.kind==2 ||c.kind==3) g.aT)))
def aBu(k:Int):RZ k=some (k==1):=by
 unfold RZ;rfl
def aBv(k:Int):R0 k=some (k==2 || k==3):=by
 unfold R0;cases k==2<;>rfl
def ZC{n k:Int}(u:Bool)(h:-1000<k/\k<1000):C2 n u k=some (sI n u k):=by
 rw[aBh,aO];rfl
def ZD(g:aU)(c:aG):FL g c=some (dL g c):=by
 unfold FL dL;rw[yd];cases C:cI g with
 |false=>rfl
 | true=>
  have D:=fG g;have E:=fF C;unfold YN;simp only[au,oa,ak,dK,Mx,aBu,aBv,ZC _ (show -1000<bf g/\bf g<1000 by omega),ZC _ (show -1000<g.rows/\g.rows<1000 by omega),ZC _ (show -1000<g.aT/\g.aT<1000 by omega),cu]
  grind
def aBw(k:Int):Rb k=some (aL k 1 5,k==1,(k==2 || k==3)):=by
 obtain⟨y,e,h⟩:=aAW k;rw[e,h]
def MC(c:aG):Bool:=(aL c.kind 1 5 ||c.ay==0)&&((c.kind==1 ||c.row==0)&&(((c.kind==2 ||c.kind==3) ||c.bR==0)&&(aL c.kind 1 9&&(aL c.ay 0 7&&(aL c.row 0 15&&aL c.bR 0 7)))))
def aBx(c:aG):Rc c=some (MC c):=by
 unfold Rc MC;simp only[aBw,ak,eJ,bne]
 grind
def akW(g:aU)(c:aG):KP g c=some (dL g c):=by
 unfold KP;rw[aBx,ak,Za,ak];have key:(MC c&&fj g ⟨c.ay,c.row,c.bR⟩)=dL g c:=by
  unfold dL fj;cases D:cI g with
  |false=>simp
  | true=>
   have L:=fG g;have O:=fF D;rw[Bool.eq_iff_iff];simp only[MC,sI,aN,eB,gA,bJ,cu];constructor
   ·rintro⟨⟨h1,h2,h3,C,T,U,Y⟩,⟨Z,h9⟩,Gd⟩;refine⟨C,?_,?_,?_⟩
    ·cases hu:aL c.kind 1 5 with
     |true=>simp[au,bJ];omega
     | false=>simp only[aq,gA];rcases h1 with h1 | h1
              ·exact absurd (bJ.2 h1) (by rw[hu];simp)
              ·exact h1
    ·cases hu:c.kind==1 with
     |true=>simp[au,bJ];omega
     | false=>simp only[aq,gA];rcases h2 with h2 | h2
              ·simp_all
              ·exact h2
    ·cases hu:(c.kind==2 || c.kind==3)with
     |true=>simp[au,bJ];omega
     | false=>simp only[aq,gA];rcases h3 with (h3 | h3) | h3
              ·simp_all
              ·simp_all
              ·exact h3
   ·rintro⟨h1,h2,h3,C⟩;have f1:(1 <= c.kind/\c.kind <= 5 \/ c.ay=0)/\0 <= c.ay/\c.ay <= bf g-1:=by
     cases hu:aL c.kind 1 5 with
     |true=>rw[hu,au,bJ]at h2;exact⟨.inl (bJ.1 hu),h2⟩
     |false=>rw[hu,aq,gA]at h2;have:=akc D;exact⟨.inr h2,by omega⟩
    have f2:(c.kind=1 \/ c.row=0)/\0 <= c.row/\c.row <= g.rows-1:=by
     cases hu:c.kind==1 with
     |true=>rw[hu,au,bJ]at h3;exact⟨.inl (by simpa using hu),h3⟩
     |false=>grind
    have E:((c.kind=2 \/ c.kind=3) \/ c.bR=0)/\0 <= c.bR/\c.bR <= g.aT-1:=by
     cases hu:(c.kind==2 ||c.kind==3)with
     |true=>rw[hu,au,bJ]at C;exact⟨.inl (by simpa using hu),C⟩
     |false=>simp_all
    exact⟨⟨f1.1,f2.1,E.1,h1,by omega,by omega,by omega⟩,⟨by omega,by omega⟩,by omega⟩
 rw[<- key];cases MC c<;>rfl
def Dm{g:aU}{c:aG}(h:dL g c=true):cI g=true/\(1 <= c.kind/\c.kind <= 9)/\(c.kind <= 5 -> 0 <= c.ay/\c.ay<bf g)/\(5<c.kind -> c.ay=0):=by
 simp[dL,aN,bJ]at h
 refine⟨h.1,h.2.1,λD=>?_,λD=>?_⟩
 ·have:=h.2.2.1;rw[sI,show aL _ 1 5=true from bJ.2 ⟨h.2.1.1,D⟩,au,bJ]at this;omega
 ·have:=h.2.2.1;have C:aL c.kind 1 5=false:=by
   cases C:aL _ 1 5 with
   |false=>rfl
   |true=>have:=bJ.1 C;omega
  rwa [sI,C,aq,gA]at this
def kinds{k:Int}(h:1<=k/\k<=9):k=1\/k=2\/k=3\/k=4\/k=5\/k=6\/k=7\/k=8\/k=9:=by omega
def jf(r:cy)(b:Int):cR:=r.aB.getD b.toNat ⟨false,0⟩
def o9(r:cy)(c:aG):Bool:=
 bif c.kind==1 ||c.kind==5 then r.aZ==0 && !(jf r c.ay).open_ else
 bif c.kind==2 ||c.kind==3 ||c.kind==4 then r.aZ==0&&(jf r c.ay).open_ else
 bif c.kind==6 then r.aZ==0 else
 bif c.kind==8 then r.aZ==0&&r.aB.all (λb=>!b.open_)else
 bif c.kind==7 then r.aZ==1 else r.aZ==2
def fU(r:cy)(c:aG):cy:=
 bif c.kind==1 then ⟨r.aB.set c.ay.toNat ⟨true,c.row⟩,r.aZ⟩else
 bif c.kind==4 then ⟨r.aB.set c.ay.toNat ⟨false,0⟩,r.aZ⟩else
 bif c.kind==6 then ⟨r.aB,1⟩else
 bif c.kind==8 then ⟨r.aB,2⟩else
 bif c.kind==7 ||c.kind==9 then ⟨r.aB,0⟩else r
def akX{r:cy}{b:Int}(h:b.toNat<r.aB.length):r.aB[b.toNat]=jf r b:=by
 simp[jf,h]
def akY(r:cy):(((opens 0 r.aB).length:Int)==0)=r.aB.all λb=>!b.open_:=by
 rw[<-akE 0 r.aB,Bool.eq_iff_iff];simp only[gA];omega
def akZ(r:cy)(h:r.aB.length<1073741823):Kn r=some (opens 0 r.aB):=by
 unfold Kn bk;have e:=vV (step:=E3) (λi=>(((),(),(i:Int),()),((r.aB,r.aZ,()),opens 0 (r.aB.take i),()))) (z:=.inl (((),()),(opens 0 r.aB,()))) r.aB.length 0 aS (λk _ C=>?_) ?_ (by unfold aS;omega)
 ·have e:iter E3 aS (((),(),0,()),((r.aB,r.aZ,()),([]),()))=_:=e;simp_all
 ·have C:k<r.aB.length:=by omega
  unfold E3 av xG xI;dsimp only;have D:decide ((k:Int)<(r.aB.length:Int))=true:=aW;have E:0 <= (k:Int)/\(k:Int).toNat<r.aB.length:=⟨by omega,by simpa using C⟩
  have L:=SJ 0 (r.aB.take k);rw[fJ]at L;have O:bO ((opens 0 (r.aB.take k)).length+([(k:Int)]:aa Int).length)=true:=by
   unfold bO;simp;omega
  rw[D,au,az E,AA,qZ C,Zd];simp only[bC,opens,fJ,fk,Nat.min_eq_left (Nat.le_of_lt C)];cases r.aB[k].open_ with
  |true=>grind
  |false=>grind
 ·rw[fk];unfold E3 av xG xI;simp_all
def aBy{r:cy}{c:aG}(D:1 <= c.kind/\c.kind <= 9)(C:c.kind <= 5 -> 0 <= c.ay/\c.ay.toNat<r.aB.length)(E:r.aB.length<1073741823):QS r c=some (o9 r c):=by
 unfold QS o9 xI;rcases kinds D with h|h|h|h|h|h|h|h|h
 case inr.inr.inr.inr.inr.inr.inr.inl=>simp[h,akZ r E,akY];cases r.aZ==0<;>rfl
 all_goals (try (have C:=C _))<;>simp[h,C,akX]<;>(cases r.aZ==0<;>rfl)
def ZE(g:aU)(r:cy)(c:aG):LN g r c=some (lP g r&&(dL g c&&o9 r c)):=by
 unfold LN xI;rw[akF,ak];cases D:lP g r with
 |false=>rfl
 | true=>
  rw[ZD,ak];cases E:dL g c with
  |false=>rfl
  | true=>
   have⟨T,L,C,_⟩:=Dm E;have hlen:(r.aB.length:Int)=bf g:=by
    simp[lP,aN,gA]at D;simp_all
   have U:=fG g;have C:c.kind <= 5 -> 0 <= c.ay/\c.ay.toNat<r.aB.length:=λh=>by have:=C h;omega
   have O:r.aB.length<1073741823:=by omega
   simp only[bB,aq,cu];unfold o9;rcases kinds L with h|h|h|h|h|h|h|h|h
   case inr.inr.inr.inr.inr.inr.inr.inl=>simp[h,SK r O,akY];cases r.aZ==0<;>rfl
   all_goals (try (have C:=C (by omega)))<;>simp[h,C,akX]<;>(cases r.aZ==0<;>rfl)
def mB(g:aU)(r:cy)(c:aG):Bool:=lP g r&&(dL g c&&o9 r c)
def ZF(g:aU)(r:cy)(c:aG):cy×Bool:=bif mB g r c then (fU r c,true)else (r,false)
def MD{g:aU}{r:cy}{c:aG}(h:mB g r c=true):cI g=true/\(r.aB.length:Int)=bf g/\(1 <= c.kind/\c.kind <= 9)/\(c.kind <= 5 -> 0 <= c.ay/\c.ay.toNat<r.aB.length):=by
 simp[mB,aN]at h;have⟨D,E,L,_⟩:=Dm h.2.1;have C:=h.1;simp[lP,aN,gA]at C;simp_all
def aBz(r:cy)(h:r.aB.length<1073741824):Fj r=some r:=by
 unfold Fj xA xZ;rw[show ([]).length+r.aB.length=r.aB.length by simp,di h];rfl
def aBA(g:aU)(r:cy)(c:aG)(h:r.aB.length<1073741824):L1 g r c=some (ZF g r c):=by
 unfold L1 ZF xL;rw[aBz r h,ZE];change (bif !(mB g r c)then _ else _)=_;cases C:mB g r c with
 |false=>rfl
 | true=>
  have⟨D,hlen,E,L⟩:=MD C;unfold fU
  grind
def ak0(r:cy)(c:aG):(fU r c).aB.length=r.aB.length:=by
 unfold fU
 grind
def Dn(t:c9)(a b:Int):Int:=
 bif a==1 then (bif b==2 ||b==3 then t.jF else bif b==4 then t.gH else bif b==1 ||b==5 then W6 (t.gH+t.rp)else 0)else
 bif a==2 then (bif b==4 then t.ji else bif b==1 ||b==5 then W6 (t.ji+t.rp)else 0)else
 bif a==3 then (bif b==4 then t.wr else bif b==1 ||b==5 then W6 (t.wr+t.rp)else 0)else
 bif a==4 then (bif b==1 ||b==5 then t.rp else 0)else
 bif a==5 then (bif b==1 ||b==5 then t.mN else 0)else 0
def Dp(t:c9)(a b:Int)(C:Bool):Int:=
 bif a==7 then t.xp else bif a==9 then t.xs else
 bif (a==6&&b==7) ||(a==8&&b==9)then t.nJ else
 bif a==1&&b==1 then (bif C then t.jG else t.mI)else
 bif (a==2&&b==2) ||(a==3&&b==3)then (bif C then t.mK else t.mJ)else
 bif a==3&&b==2 then (bif C then t.mM else t.mL)else
 bif a==2&&b==3 then t.pH else
 bif a==5&&b==5 then t.jG else
 bif a==2&&b==6 then t.ji else bif a==3&&b==6 then t.wr else
 bif b==8 then Dn t a 1 else 0
def aBB(t:c9){a b:Int}(C:1<=a/\a<=9)(D:1<=b/\b<=9):R1 t a b=some (Dn t a b):=by
 rcases kinds C with rfl|rfl|rfl|rfl|rfl|rfl|rfl|rfl|rfl<;>rcases kinds D with rfl|rfl|rfl|rfl|rfl|rfl|rfl|rfl|rfl<;>kernel_rfl
def ZG(t:c9){a b:Int}(C:Bool)(D:1<=a/\a<=9)(E:1<=b/\b<=9):R2 t a b C=some (Dp t a b C):=by
 cases C<;>rcases kinds D with rfl|rfl|rfl|rfl|rfl|rfl|rfl|rfl|rfl<;>rcases kinds E with rfl|rfl|rfl|rfl|rfl|rfl|rfl|rfl|rfl<;>kernel_rfl
def ak1{t:c9}(C:iP t=true){a b:Int}(D:1 <= a/\a <= 9)(E:1 <= b/\b <= 9):Ko t a b=some (Dn t a b):=by
 unfold Ko;rw[SO,ak,C,bB];rcases kinds D with rfl|rfl|rfl|rfl|rfl|rfl|rfl|rfl|rfl<;>rcases kinds E with rfl|rfl|rfl|rfl|rfl|rfl|rfl|rfl|rfl<;>kernel_rfl
def ZH{t:c9}(E:iP t=true){a b:Int}(D:Bool)(C:1 <= a/\a <= 9)(L:1 <= b/\b <= 9):Kp t a b D=some (Dp t a b D):=by
 unfold Kp;rw[SO,ak,E,bB,aq,eJ,ak,bJ.2 C,bB,aq,eJ,ak,bJ.2 L,bB];by_cases O:b=8/\a≠7/\a≠9
 ·obtain⟨rfl,T,U⟩:=O;have e:=ak1 E C (b:=1) (by omega);rcases kinds C with rfl|rfl|rfl|rfl|rfl|rfl|rfl|rfl|rfl<;>first|exact absurd rfl T|exact absurd rfl U|simp[e,Dp]
 ·cases D<;>rcases kinds C with rfl|rfl|rfl|rfl|rfl|rfl|rfl|rfl|rfl<;>rcases kinds L with rfl|rfl|rfl|rfl|rfl|rfl|rfl|rfl|rfl<;>first|exact absurd ⟨rfl,by omega,by omega⟩ O|kernel_rfl
def S1(a b:aG):Bool:=aL a.kind 1 5&&aL b.kind 1 5
def ME(g:aU)(a b:aG):Bool:=S1 a b&&(W6 (a.ay.tdiv g.aB)==W6 (b.ay.tdiv g.aB))
def vZ(g:aU)(t:c9)(a b:aG):Int:=
 bif S1 a b&&a.ay==b.ay then max (max 1 (Dp t a.kind b.kind (ME g a b))) (Dn t a.kind b.kind)else max 1 (Dp t a.kind b.kind (ME g a b))
def S2(x y:Int):(if x > y then x else y)=max x y:=by
 rw[Int.max_def];split<;>split<;>omega
def ak2{g:aU}{b:Int}(h:0<=b/\b<bf g)(C:cI g=true):LP g b=some (W6 (b.tdiv g.aB)):=by
 have D:=fG g;have E:=fF C;unfold LP;rw[oa,ak,dK,ak,aO,bJ.2 ⟨h.1,by omega⟩,bB,aq,bX]
def MF{k:Int}(h:1<=k/\k<=9):aL k 1 5=decide (k<=5):=by
 unfold aL;rw[aW h.1,cu]
def aBC{g:aU}(t:c9){a b:aG}(E:cI g=true)(C:1 <= a.kind/\a.kind <= 9)(D:1 <= b.kind/\b.kind <= 9)(L:a.kind <= 5 -> 0 <= a.ay/\a.ay<bf g)(O:b.kind <= 5 -> 0 <= b.ay/\b.ay<bf g):LQ g t a b=some (vZ g t a b):=by
 unfold LQ vZ ME S1;simp only[Mx,ak];cases T:aL a.kind 1 5 with
 | false=>
  simp;rw[ZG t false C D,ak,S2,Int.max_comm]
 | true=>
  cases U:aL b.kind 1 5 with
  | false=>
   simp;rw[ZG t false C D,ak,S2,Int.max_comm]
  | true=>
   have Y:=bJ.1 T;have Z:=bJ.1 U;simp only[au,cu];rw[ak2 (L Y.2) E,ak,ak2 (O Z.2) E,ak,ZG t _ C D,ak,aBB t C D];cases a.ay==b.ay with
   |false=>grind
   |true =>grind
def aBD{g:aU}{t:c9}{a b:aG}(L:cI g=true)(E:iP t=true)(C:1 <= a.kind/\a.kind <= 9)(D:1 <= b.kind/\b.kind <= 9):Ae g t a b=some (vZ g t a b):=by
 have O:=fF L;unfold Ae vZ ME S1;rw[MF C,MF D];cases decide (a.kind <= 5)with
 | false=>
  simp;rw[ZH E false C D,ak,S2]
 | true=>
  cases decide (b.kind <= 5)with
  | false=>
   simp;rw[ZH E false C D,ak,S2]
  | true=>
   simp only[au,cu,Bool.and_self];rw[bX,bX,ZH E _ C D,ak,ak1 E C D]
   grind
def ZI{t:c9}(h:iP t=true):∀ x∈oe t,1 <= x/\x <= 64:=by
 simp[iP,aN,cw]at h;exact λx C=>bJ.1 (h.1 x C)
def ak3{t:c9}(h:iP t=true)(a b:Int):0 <= Dn t a b/\Dn t a b <= 128:=by
 have C:=ZI h;simp only[oe,gW,List.not_mem_nil,or_false,forall_eq_or_imp,forall_eq]at C;have⟨D,E,L,O,T,U,Y,Z,h9,Gd,AI,tG,uf,AJ,AK,zO,Dq⟩:=C;unfold Dn;rw[aO (n:=t.gH+t.rp),aO (n:=t.ji+t.rp),aO (n:=t.wr+t.rp)]
 grind
def aBE{c:Bool}{x y a b:Int}(C:a<=x/\x<=b)(D:a<=y/\y<=b):a<=(bif c then x else y)/\(bif c then x else y)<=b:=by
 cases c
 ·exact D
 ·exact C
def aBF{t:c9}(h:iP t=true)(a b:Int)(n:Bool):0 <= Dp t a b n/\Dp t a b n <= 128:=by
 have C:=ZI h;simp[oe,gW,forall_eq_or_imp,forall_eq]at C;have D:=ak3 h a 1
 repeat' (first|exact D|refine aBE ?_ ?_|omega)
def jg(g:aU)(c:aG):Int:=9*(bif aL c.kind 1 5 then c.ay else bf g)+c.kind-1
def ZJ{g:aU}{c:aG}(h:dL g c=true):0 <= jg g c/\jg g c<9*(bf g+1):=by
 have⟨C,D,E,_⟩:=Dm h;have L:=fG g;unfold jg
 grind
def aBG{g:aU}{c:aG}(h:dL g c=true):Si g c=some (jg g c):=by
 have⟨C,D,E,_⟩:=Dm h;have L:=fG g;unfold Si jg;simp[oa,ak,Mx];cases hu:aL _ 1 5 with
 | true=>
  have:=bJ.1 hu;simp;rw[aO (n:=9*c.ay),aO (n:=9*c.ay+c.kind),aO]
 | false=>
  simp;rw[aO (n:=9*bf g),aO (n:=9*bf g+c.kind),aO]
def ak4(r:dn)(C:r.last.length<1073741824)(D:r.bx.length<1073741824):Fk r=some r:=by
 unfold Fk xA xZ;rw[show ([]).length+r.last.length=r.last.length by simp,di C,show ([]).length+r.bx.length=r.bx.length by simp,di D];rfl
def ak5(r:dn)(C:r.last.length<1073741824)(D:r.bx.length<1073741824):tR r=some r:=ak4 r C D
def Dr(r:dn)(x:Int):Bool:=match r.bx.getLast? with
 |some y=>decide (x<=y)
 |none=>false
def Ds(l:aa Int)(x:Int):aa Int:=(l++[x]).drop (l.length+1-4)
def ug(g:aU)(r:dn)(e:cP):dn:=
 bif kW g r&&(dL g e.cmd&&(aL e.at_ 0 1000000 && !(e.cmd.kind==1&&Dr r e.at_)))then ⟨r.last.set (jg g e.cmd).toNat e.at_,bif e.cmd.kind==1 then Ds r.bx e.at_ else r.bx⟩else r
def S3{g:aU}{r:dn}(h:kW g r=true):cI g=true/\(r.last.length:Int)=9*(bf g+1)/\r.bx.length <= 4:=by
 simp[kW,aN,gA,hU,qw]at h
 grind
def ak6{l:aa Int}(h:0<l.length)(C:(W6 ((l.length:Int)-1)).toNat<l.length)(D:l.length<1073741824):l.getLast?=some (l[(W6 ((l.length:Int)-1)).toNat]'C):=by
 have e:(W6 ((l.length:Int)-1)).toNat=l.length-1:=by rw[aO];omega
 simp only[e];rw[List.getLast?_eq_getElem?,bZ (by omega)]
def aBH(g:aU)(r:dn)(e:cP)(T:r.last.length<1073741824)(U:r.bx.length<1073741824):Sj g r e=some (ug g r e):=by
 unfold Sj ug xA xI xL xZ;rw[ak4 r T U,ak,Zy,ak];cases Y:kW g r with
 |false=>rfl
 | true=>
  simp only[bB,aq,cu];rw[ZD,ak];cases D:dL g e.cmd with
  |false=>rfl
  | true=>
   simp only[bB,aq,cu];rw[dK,ak];cases ha:aL e.at_ 0 1000000 with
   |false=>rfl
   | true=>
    obtain⟨hg,hl,h4⟩:=S3 Y;have E:=ZJ D;have b1:=fG g;simp only[bB,aq,cu,aBG D,ak];cases hk:(e.cmd.kind==1)with
    | false=>
     simp only[aq,Bool.false_and,iX,au];rw[az ⟨E.1,by omega⟩,az]
    | true=>
     have tl:∀ (A B:ah dn),(if tG:0<=jg g e.cmd/\(jg g e.cmd).toNat<r.last.length then if uf:(jg g e.cmd).toNat<r.last.length then (bif bO (r.bx.length+([e.at_]:aa Int).length)then if 0<=(if W6 (((r.bx++[e.at_]).length:Int)-4) > 0 then W6 (((r.bx++[e.at_]).length:Int)-4)else 0)/\(if W6 (((r.bx++[e.at_]).length:Int)-4) > 0 then W6 (((r.bx++[e.at_]).length:Int)-4)else 0)<=((r.bx++[e.at_]).length:Int)/\((r.bx++[e.at_]).length:Int)<=((r.bx++[e.at_]).length:Int)then bif bO (([]:aa Int).length+(((r.bx++[e.at_]).take (((r.bx++[e.at_]).length:Int).toNat)).drop ((if W6 (((r.bx++[e.at_]).length:Int)-4) > 0 then W6 (((r.bx++[e.at_]).length:Int)-4)else 0).toNat)).length)then some (⟨(r.last.set (jg g e.cmd).toNat e.at_),(([]:aa Int)++(((r.bx++[e.at_]).take (((r.bx++[e.at_]).length:Int).toNat)).drop ((if W6 (((r.bx++[e.at_]).length:Int)-4) > 0 then W6 (((r.bx++[e.at_]).length:Int)-4)else 0).toNat)))⟩:dn)else none else none else none)else A else B)=some ⟨r.last.set (jg g e.cmd).toNat e.at_,Ds r.bx e.at_⟩:=by
      intro A B;have L:(r.bx++[e.at_]).length=r.bx.length+1:=by simp
      have Z:(if W6 (((r.bx.length+1:Nat):Int)-4) > 0 then W6 (((r.bx.length+1:Nat):Int)-4)else 0)=((r.bx.length+1-4:Nat):Int):=by
       rw[aO];split<;>omega
      rw[az ⟨E.1,by omega⟩,az,di (by simp;omega),au,L,Z,bL ⟨by omega,by omega,by omega⟩,di (by simp;omega),au];unfold Ds;simp only[bC,List.nil_append];rw[<-L,iW]
     simp only[au,cu];unfold Dr;by_cases C:0<r.bx.length
     ·have O:(W6 ((r.bx.length:Int)-1))=((r.bx.length-1:Nat):Int):=by rw[aO];omega
      have hi:(W6 ((r.bx.length:Int)-1)).toNat<r.bx.length:=by rw[O];omega
      rw[aW (show (r.bx.length:Int) > 0 by omega),au,az ⟨by rw[O];omega,hi⟩,ak6 C hi (by omega)];dsimp only;cases decide (e.at_<=r.bx[(W6 ((r.bx.length:Int)-1)).toNat])with
      |true=>rfl
      | false=>
       simp only[aq,iX,au];exact tl _ _
     ·have C:r.bx=[]:=List.eq_nil_of_length_eq_zero (by omega);rw[aV (by rw[C];simp),aq];rw[show r.bx.getLast?=none by rw[C];rfl];simp only[iX,au];exact tl _ _
def aBI(g:aU)(r:dn)(e:cP)(h1:r.last.length<1073741824)(h2:r.bx.length<1073741824):Rd g r e=some (ug g r e):=by
 unfold Rd ug xA xI xL xZ;rw[ak5 r h1 h2,ak,akK,ak];cases hr:kW g r with
 |false=>rfl
 | true=>
  simp only[bB,aq,cu];rw[akW,ak];cases O:dL g e.cmd with
  |false=>rfl
  | true=>
   simp only[bB,aq,cu];rw[eJ,ak];cases ha:aL e.at_ 0 1000000 with
   |false=>rfl
   | true=>
    obtain⟨hg,hl,h4⟩:=S3 hr;obtain⟨_,hk9,hb,_⟩:=Dm O;have hp:=ZJ O;have b1:=fG g;have pl:jg g e.cmd=bif decide (e.cmd.kind<=5)then 9*e.cmd.ay+e.cmd.kind-1 else 9*bf g+e.cmd.kind-1:=by
     unfold jg;rw[MF hk9];cases decide (e.cmd.kind<=5)<;>rfl
    have T:decide (e.cmd.kind<=5)=true->W6 (W6 (W6 (9*e.cmd.ay)+e.cmd.kind)-1)=jg g e.cmd:=by
     intro C;have:=hb (of_decide_eq_true C);rw[aO (n:=9*e.cmd.ay),aO (n:=9*e.cmd.ay+e.cmd.kind),aO,pl,C];rfl
    have hW2:decide (e.cmd.kind<=5)=false->W6 (W6 (W6 (9*bf g)+e.cmd.kind)-1)=jg g e.cmd:=by
     intro C;rw[aO (n:=9*bf g),aO (n:=9*bf g+e.cmd.kind),aO,pl,C];rfl
    have E:∀l:aa Int,l.length<1073741824->tR ⟨r.last.set (jg g e.cmd).toNat e.at_,l⟩=some ⟨r.last.set (jg g e.cmd).toNat e.at_,l⟩:=λl wY=>ak5 _ (by simp;omega) wY
    have D:0<=jg g e.cmd/\(jg g e.cmd).toNat<r.last.length:=⟨hp.1,by omega⟩
    have o1:bO (([]:aa Int).length+r.bx.length)=true:=di (by simp;omega);have o2:bO ((([]:aa Int)++r.bx).length+([e.at_]:aa Int).length)=true:=di (by simp;omega);have U:((([]:aa Int)++r.bx)++([e.at_]:aa Int)).length=r.bx.length+1:=by simp
    have Y:(bif decide ((((r.bx.length+1:Nat):Int)) > 4)then if 0<=(1:Int)/\(1:Int)<=((r.bx.length+1:Nat):Int)/\((r.bx.length+1:Nat):Int)<=((r.bx.length+1:Nat):Int)then (tR (⟨r.last.set (jg g e.cmd).toNat e.at_,(((([]:aa Int)++r.bx)++([e.at_]:aa Int)).take (((r.bx.length+1:Nat):Int).toNat)).drop ((1:Int).toNat)⟩:dn)).bind λeM=>some eM else none else (tR (⟨r.last.set (jg g e.cmd).toNat e.at_,((([]:aa Int)++r.bx)++([e.at_]:aa Int))⟩:dn)).bind λgD=>some gD)=some ⟨r.last.set (jg g e.cmd).toNat e.at_,Ds r.bx e.at_⟩:=by
     have et:((([]:aa Int)++r.bx)++([e.at_]:aa Int)).take (((r.bx.length+1:Nat):Int).toNat)=r.bx++[e.at_]:=by
      rw[bC,<-U,iW,List.nil_append]
     rw[et];unfold Ds;by_cases h5:4<=r.bx.length
     ·rw[aW,au,bL ⟨by omega,by omega,by omega⟩,E _ (by simp;omega),ak,show r.bx.length+1-4=1 by omega];rfl
     ·rw[aV,aq,E _ (by simp;omega),ak,show r.bx.length+1-4=0 by omega];rfl
    simp only[bB,aq,cu,sB,ak];cases hk:(e.cmd.kind==1)with
    | false=>
     cases C:decide (e.cmd.kind<=5)with
     | true=>
      simp only[aq,Bool.false_and,iX,au,T C];rw[az D,az D.2,E _ (by omega),ak]
     | false=>
      simp only[aq,Bool.false_and,iX,au,hW2 C];rw[az D,az D.2,E _ (by omega),ak]
    | true=>
     have C:decide (e.cmd.kind<=5)=true:=by
      have:e.cmd.kind=1:=by simpa using hk
      exact aW
     simp only[au,cu,C,T C,o1,o2,U];unfold Dr;by_cases L:0<r.bx.length
     ·have Z:(W6 ((r.bx.length:Int)-1))=((r.bx.length-1:Nat):Int):=by rw[aO];omega
      have hi:(W6 ((r.bx.length:Int)-1)).toNat<r.bx.length:=by rw[Z];omega
      rw[aW (show (r.bx.length:Int) > 0 by omega),au,az ⟨by rw[Z];omega,hi⟩,ak6 L hi (by omega)];dsimp only;rw[show decide (r.bx[(W6 ((r.bx.length:Int)-1)).toNat] >= e.at_)=decide (e.at_<=r.bx[(W6 ((r.bx.length:Int)-1)).toNat])from rfl];cases decide (e.at_<=r.bx[(W6 ((r.bx.length:Int)-1)).toNat])with
      |true=>rfl
      | false=>
       simp only[aq,iX,au];rw[az D,az D.2];exact Y
     ·have L:r.bx=[]:=List.eq_nil_of_length_eq_zero (by omega);rw[aV (by rw[L];simp),aq];rw[show r.bx.getLast?=none by rw[L];rfl];simp only[iX,au];rw[az D,az D.2];exact Y
def ZK{t:c9}(C:iP t=true)(g:aU)(a b:aG):1 <= vZ g t a b/\vZ g t a b <= 128:=by
 have D:=aBF C a.kind b.kind (ME g a b);have E:=ak3 C a.kind b.kind;unfold vZ
 grind
def ak7{t:c9}(C:iP t=true):1<=t.jH/\t.jH<=64:=ZI C _ (by simp[oe])
def ZL{T:Type}{p:T -> Bool}{l:aa T}{i:Nat}{x:T}(h:l.all p=true)(C:p x=true):(l.set i x).all p=true:=by grind
def Ge{g:aU}{r:cy}(h:lP g r=true):cI g=true/\(r.aB.length:Int)=bf g/\(0 <= r.aZ/\r.aZ <= 2)/\r.aB.all (q8 g)=true/\(r.aZ=2 -> (r.aB.all λb=>!b.open_)=true):=by
 simp only[lP,aN,gA,bJ,eB,bne_iff_ne]at h
 grind
def Gf{g:aU}{r:cy}(C:cI g=true)(D:(r.aB.length:Int)=bf g)(E:0 <= r.aZ/\r.aZ <= 2)(L:r.aB.all (q8 g)=true)(O:r.aZ=2 -> (r.aB.all λb=>!b.open_)=true):lP g r=true:=by
 simp only[lP,aN,gA,bJ,eB,bne_iff_ne]
 grind
def ak8{g:aU}{r:cy}{c:aG}(O:lP g r=true)(L:dL g c=true)(D:o9 r c=true):lP g (fU r c)=true:=by
 have⟨C,hlen,Z,E,hz⟩:=Ge O;have⟨_,T,hb,_⟩:=Dm L;have gb:=fF C;have U:c.kind=1 -> 0 <= c.row/\c.row <= g.rows-1:=by
  intro h;simp[dL,aN]at L;have:=L.2.2.2.1;rw[sI,h]at this
  simpa [bJ]using this
 rcases kinds T with h|h|h|h|h|h|h|h|h
 ·have e:fU r c=⟨r.aB.set c.ay.toNat ⟨true,c.row⟩,r.aZ⟩:=by simp[fU,h]
  have Y:r.aZ=0:=by simp[o9,h]at D;exact D.1
  rw[e];exact Gf C (by simpa using hlen) (by omega) (ZL E (by simp only[q8,aN,bJ];exact⟨U h,by simp⟩)) (λe=>by simp only at e;omega)
 ·have e:fU r c=r:=by simp[fU,h]
  simp_all
 ·have e:fU r c=r:=by simp[fU,h]
  simp_all
 ·have e:fU r c=⟨r.aB.set c.ay.toNat ⟨false,0⟩,r.aZ⟩:=by simp[fU,h]
  have Y:r.aZ=0:=by simp[o9,h]at D;exact D.1
  rw[e];exact Gf C (by simpa using hlen) (by omega) (ZL E (by simp only[q8,aN,bJ];exact⟨by omega,by simp⟩)) (λe=>by simp only at e;omega)
 ·have e:fU r c=r:=by simp[fU,h]
  simp_all
 ·have e:fU r c=⟨r.aB,1⟩:=by simp[fU,h]
  rw[e];exact Gf C hlen (by simp) E (λe=>by simp at e)
 ·have e:fU r c=⟨r.aB,0⟩:=by simp[fU,h]
  rw[e];exact Gf C hlen (by simp) E (λe=>by simp at e)
 ·have e:fU r c=⟨r.aB,2⟩:=by simp[fU,h]
  rw[e];exact Gf C hlen (by simp) E (λ_=>by simp[o9,h]at D;simpa using D.2)
 ·have e:fU r c=⟨r.aB,0⟩:=by simp[fU,h]
  rw[e];exact Gf C hlen (by simp) E (λe=>by simp at e)
def v5(n k:Nat):aa Int:=List.replicate k (-1)++List.replicate (n-k) 0
def aBJ{n k:Nat}(h:k<=n):(v5 n k).length=n:=by
 unfold v5;simp;omega
def aBK{n k:Nat}(h:k<n):(v5 n k).set k (-1)=v5 n (k+1):=by
 obtain⟨m,rfl⟩:∃m,n=k+1+m:=⟨n-k-1,by omega⟩
 unfold v5;rw[show k+1+m-k=m+1 by omega,show k+1+m-(k+1)=m by omega,List.set_append_right _ _ (by simp),List.length_replicate,Nat.sub_self,List.replicate_succ,List.replicate_succ',List.append_assoc];rfl
def aBL(n:Nat):v5 n 0=List.replicate n 0:=by simp[v5]
def aBM(n:Nat):v5 n n=List.replicate n (-1):=by simp[v5]
def aBN(n:Nat)(C:n<1073741824):Ri (n:Int)=some (List.replicate n (-1)):=by
 have e:=cH (step:=KW) n (λi=>((n,(),i,()),(v5 n i,()))) _ aS (λk h=>by
  have D:=aBJ (show k <= n by omega);unfold KW av xG xL;dsimp only;rw[aW,au,az ⟨by omega,by omega⟩,az,bD,bC,aBK h]) (by
  unfold KW av xG xL;dsimp only;rw[aV,aq]) (bP)
 unfold Ri bk;rw[bL ⟨by omega,by omega,by omega⟩];rw[aBL,aBM]at e;simp_all
def aBO(g:aU)(r:dn)(e:cP):(ug g r e).last.length=r.last.length/\(r.bx.length <= 4 -> (ug g r e).bx.length <= 4):=by
 unfold ug;cases (kW g r&&(dL g e.cmd&&(aL e.at_ 0 1000000 && !(e.cmd.kind==1&&Dr r e.at_))))with
 |false=>simp_all
 | true=>
  refine⟨by simp,λh=>?_⟩
  cases e.cmd.kind==1 with
  |false=>exact h
  | true=>
   simp[au,Ds,List.length_drop,List.length_append,lT];omega
def aBP{α:Type}{cs:aa α}(o k:Nat):cs.drop o=(cs.drop o).take k++cs.drop (o+k):=by
 rw[<-List.drop_drop];exact(List.take_append_drop k _).symm
def iG{w:World}{B:Nat}{cs:aa Value}{n:Nat}(h:cs.length=n):bN w B [] (cs.drop n):=by
 rw[List.drop_of_length_le (by omega)];exact .nil
def bN.cut{w:World}{B:Nat}{C D:aa V}{cs:aa Value}{o k:Nat}(h:bN w B C ((cs.drop o).take k))(E:bN w B D (cs.drop (o+k))):bN w B (C++D) (cs.drop o):=by
 rw[aBP o k];exact bN.append h E
def oI{H:Type}{cW:TypeId×Value->H}{w:World}:aX cW Tryz.prog w 3 .int cx:=aX.int Tryz.underlying3
def ZM(x:bA):Prop:=cx x.id/\cx x.dN/\cx x.line/\True/\cx x.data/\cx x.at_
def aBQ{H:Type}{cW:TypeId×Value->H}{w:World}:aX cW Tryz.prog w 121 .dw ZM:=λn cs x C=>by
 have D:=Tryz.underlying121;obtain⟨L,i0,O⟩:=aX.part D C (i:=0) rfl oI (off:=0) (k:=1) rfl (by kernel_rfl);obtain⟨T,U,Y⟩:=aX.part D C (i:=1) rfl oI (off:=1) (k:=1) rfl (by kernel_rfl);obtain⟨Z,i2,r2⟩:=aX.part D C (i:=2) rfl oI (off:=2) (k:=1) rfl (by kernel_rfl);obtain⟨a3,i3,r3⟩:=aX.part D C (i:=3) rfl (aX.bool Tryz.underlying4) (off:=3) (k:=1) rfl (by kernel_rfl);obtain⟨a4,i4,r4⟩:=aX.part D C (i:=4) rfl oI (off:=4) (k:=1) rfl (by kernel_rfl);obtain⟨a5,i5,r5⟩:=aX.part D C (i:=5) rfl oI (off:=5) (k:=1) rfl (by kernel_rfl);have E:=aX.len D C;have hc:Tryz.prog.cellsOf 121=6:=by kernel_rfl
 rw[hc]at E;exact⟨⟨L,T,Z,a3,a4,a5⟩,⟨i0,U,i2,i3,i4,i5⟩,bN.cut O (bN.cut Y (bN.cut r2 (bN.cut r3 (bN.cut r4 (bN.cut r5 ((iG E)))))))⟩
def ZN(x:aI):Prop:=cx x.ay/\cx x.row/\cx x.bR
def aBR{H:Type}{cW:TypeId×Value->H}{w:World}:aX cW Tryz.prog w 123 .Addr ZN:=λn cs x C=>by
 have D:=Tryz.underlying123;obtain⟨L,i0,O⟩:=aX.part D C (i:=0) rfl oI (off:=0) (k:=1) rfl (by kernel_rfl);obtain⟨T,U,Y⟩:=aX.part D C (i:=1) rfl oI (off:=1) (k:=1) rfl (by kernel_rfl);obtain⟨Z,i2,r2⟩:=aX.part D C (i:=2) rfl oI (off:=2) (k:=1) rfl (by kernel_rfl);have E:=aX.len D C;have hc:Tryz.prog.cellsOf 123=3:=by kernel_rfl
 rw[hc]at E;exact⟨⟨L,T,Z⟩,⟨i0,U,i2⟩,bN.cut O (bN.cut Y (bN.cut r2 ((iG E))))⟩
def ak9(x:kL):Prop:=cx x.down/\cx x.sleep
def aBS{H:Type}{cW:TypeId×Value->H}{w:World}:aX cW Tryz.prog w 34 .nL ak9:=λn cs x C=>by
 have D:=Tryz.underlying34;obtain⟨L,i0,O⟩:=aX.part D C (i:=0) rfl oI (off:=0) (k:=1) rfl (by kernel_rfl);obtain⟨T,U,Y⟩:=aX.part D C (i:=1) rfl oI (off:=1) (k:=1) rfl (by kernel_rfl);have E:=aX.len D C;have Z:Tryz.prog.cellsOf 34=2:=by kernel_rfl
 rw[Z]at E;exact⟨⟨L,T⟩,⟨i0,U⟩,bN.cut O (bN.cut Y ((iG E)))⟩
def S4(x:fz):Prop:=cx x.eN/\cx x.cap/\cx x.fD/\cx x.low/\cx x.high/\(x.weights.length<=maxLen/\∀y∈x.weights,cx y)/\ak9 x.eI
def ala{H:Type}{cW:TypeId×Value->H}{w:World}:aX cW Tryz.prog w 36 .lU S4:=λn cs x C=>by
 have D:=Tryz.underlying36;obtain⟨L,i0,O⟩:=aX.part D C (i:=0) rfl oI (off:=0) (k:=1) rfl (by kernel_rfl);obtain⟨T,U,Y⟩:=aX.part D C (i:=1) rfl oI (off:=1) (k:=1) rfl (by kernel_rfl);obtain⟨Z,i2,r2⟩:=aX.part D C (i:=2) rfl oI (off:=2) (k:=1) rfl (by kernel_rfl);obtain⟨a3,i3,r3⟩:=aX.part D C (i:=3) rfl oI (off:=3) (k:=1) rfl (by kernel_rfl);obtain⟨a4,i4,r4⟩:=aX.part D C (i:=4) rfl oI (off:=4) (k:=1) rfl (by kernel_rfl);obtain⟨a5,i5,r5⟩:=aX.part D C (i:=5) rfl (aX.sl Tryz.underlying32 (by kernel_rfl) oI) (off:=5) (k:=1) rfl (by kernel_rfl);obtain⟨a6,i6,r6⟩:=aX.part D C (i:=6) rfl aBS (off:=6) (k:=2) rfl (by kernel_rfl);have E:=aX.len D C;have hc:Tryz.prog.cellsOf 36=8:=by kernel_rfl
 rw[hc]at E;exact⟨⟨L,T,Z,a3,a4,a5,a6⟩,⟨i0,U,i2,i3,i4,i5,i6⟩,bN.cut O (bN.cut Y (bN.cut r2 (bN.cut r3 (bN.cut r4 (bN.cut r5 (bN.cut r6 ((iG E))))))))⟩
def v7{T:Type}(U:T)(f:T->ah T)(l:aa T)(hf:∀ x∈l,f x=some x)(hl:l.length<1073741824):
  iter (α:=((aa T×af×Int×af)×(aa T×af))) (β:=(((af×af)×(aa T×af))⊕Empty)) (λx=>bif (decide (x.1.2.2.1<(x.1.1.length:Int)))then if C:0<=x.1.2.2.1/\x.1.2.2.1.toNat<x.1.1.length then (let D:=x.1.1[x.1.2.2.1.toNat]'C.2;(f D).bind λE=>if h4:0<=x.1.2.2.1/\x.1.2.2.1.toNat<x.2.1.length then if L:x.1.2.2.1.toNat<x.2.1.length then (let e6:=x.2.1[x.1.2.2.1.toNat]'L;some (.inl ((x.1.1,(),(W6 (x.1.2.2.1+(1:Int))),()),((x.2.1.set x.1.2.2.1.toNat E),()))))else none else none)else none else some (.inr (.inl (((),()),(x.2.1,())))))
   aS ((l,(),(0:Int),()),((List.replicate (l.length:Int).toNat U),()))=some (.inl (((),()),(l,()))):=by
 obtain⟨z,C,h2⟩:=Y8 (step:=(λx:((aa T×af×Int×af)×(aa T×af))=>(bif (decide (x.1.2.2.1<(x.1.1.length:Int)))then if C:0<=x.1.2.2.1/\x.1.2.2.1.toNat<x.1.1.length then (let D:=x.1.1[x.1.2.2.1.toNat]'C.2;(f D).bind λE=>if h4:0<=x.1.2.2.1/\x.1.2.2.1.toNat<x.2.1.length then if L:x.1.2.2.1.toNat<x.2.1.length then (let e6:=x.2.1[x.1.2.2.1.toNat]'L;some (.inl ((x.1.1,(),(W6 (x.1.2.2.1+(1:Int))),()),((x.2.1.set x.1.2.2.1.toNat E),()))))else none else none)else none else some (.inr (.inl (((),()),(x.2.1,())))):ah (((aa T×af×Int×af)×(aa T×af))⊕(((af×af)×(aa T×af))⊕Empty)))))
  (λx=>∃(i:Nat) (a:aa T),x=((l,(),(i:Int),()),(a,()))/\i<=l.length/\a.length=l.length/\∀j,j<i->a[j]?=l[j]?)
  (λx=>l.length-x.1.2.2.1.toNat) (λz=>z = .inl (((),()),(l,()))) (by
   rintro x ⟨i,a,rfl,hi,Y,Z⟩;dsimp only;by_cases h:i<l.length
   ·left;have O:decide ((i:Int)<(l.length:Int))=true:=by simpa using h
    have c2:0<=(i:Int)/\(i:Int).toNat<l.length:=⟨by omega,by simpa using h⟩
    have c3:0<=(i:Int)/\(i:Int).toNat<a.length:=⟨by omega,by rw[Y];simpa using h⟩
    rw[O,au,az c2,hf _ (cV _),ak,az c3,az c3.2]
    refine⟨_,rfl,⟨i+1,a.set i (l[i]'h),?_,by omega,by simpa using Y,λj nO=>?_⟩,?_⟩
    ·rw[aO];simp
    ·rw[List.getElem?_set];by_cases e:i=j
     ·subst e;rw[bL rfl,bL,bZ h]
     ·rw[bX e];exact Z j (by omega)
    ·dsimp only;rw[aO];omega
   ·right;have O:decide ((i:Int)<(l.length:Int))=false:=by simpa using h
    rw[O,aq];refine⟨_,rfl,?_⟩;have:a=l:=List.ext_getElem? λj=>by
     by_cases Bd:j<l.length
     ·exact Z j (by omega)
     ·rw[List.getElem?_eq_none (by omega),List.getElem?_eq_none (by omega)]
    rw[this])
  aS ((l,(),(0:Int),()),((List.replicate (l.length:Int).toNat U),())) ⟨0,_,rfl,by omega,by simp,λj h=>by omega⟩ (by dsimp only;unfold aS;omega)
 rw[C,h2]
def v8{T:Type}(f:T->T->ah Bool)(l:aa T)(Z:∀ x∈l,f x x=some true)(hl:l.length<1073741824):
  iter (α:=((aa T×aa T×Int×af)×af)) (β:=(((Bool×af)×af)⊕((af×af)⊕Empty))) (λx=>bif (decide (x.1.2.2.1<(x.1.1.length:Int)))then if C:0<=x.1.2.2.1/\x.1.2.2.1.toNat<x.1.1.length then (let D:=x.1.1[x.1.2.2.1.toNat]'C.2;if E:0<=x.1.2.2.1/\x.1.2.2.1.toNat<x.1.2.1.length then (let L:=x.1.2.1[x.1.2.2.1.toNat]'E.2;(f D L).bind λO=>bif (!O)then some (.inr (.inl ((false,()),())))else some (.inl ((x.1.1,x.1.2.1,(W6 (x.1.2.2.1+(1:Int))),()),())))else none)else none else some (.inr (.inr (.inl ((),())))))
   aS ((l,l,(0:Int),()),())=some (.inr (.inl ((),()))):=by
 obtain⟨z,C,h2⟩:=Y8 (step:=(λx:((aa T×aa T×Int×af)×af)=>(bif (decide (x.1.2.2.1<(x.1.1.length:Int)))then if C:0<=x.1.2.2.1/\x.1.2.2.1.toNat<x.1.1.length then (let D:=x.1.1[x.1.2.2.1.toNat]'C.2;if E:0<=x.1.2.2.1/\x.1.2.2.1.toNat<x.1.2.1.length then (let L:=x.1.2.1[x.1.2.2.1.toNat]'E.2;(f D L).bind λO=>bif (!O)then some (.inr (.inl ((false,()),())))else some (.inl ((x.1.1,x.1.2.1,(W6 (x.1.2.2.1+(1:Int))),()),())))else none)else none else some (.inr (.inr (.inl ((),())))):ah (((aa T×aa T×Int×af)×af)⊕(((Bool×af)×af)⊕((af×af)⊕Empty))))))
  (λx=>∃(i:Nat),x=((l,l,(i:Int),()),())/\i<=l.length)
  (λx=>l.length-x.1.2.2.1.toNat) (λz=>z = .inr (.inl ((),()))) (by
   rintro x ⟨i,rfl,hi⟩;dsimp only;by_cases h:i<l.length
   ·left;have U:decide ((i:Int)<(l.length:Int))=true:=by simpa using h
    have Y:0<=(i:Int)/\(i:Int).toNat<l.length:=⟨by omega,by simpa using h⟩
    rw[U,au,az Y,az Y,Z _ (cV _),ak];refine⟨_,rfl,⟨i+1,?_,by omega⟩,?_⟩
    ·rw[aO];simp
    ·dsimp only;rw[aO];omega
   ·right;have U:decide ((i:Int)<(l.length:Int))=false:=by simpa using h
    rw[U,aq];exact⟨_,rfl,rfl⟩)
  aS ((l,l,(0:Int),()),()) ⟨0,rfl,by omega⟩ (by dsimp only;unfold aS;omega)
 rw[C,h2]
def Sz(n:Int)(Q:Prop)(o:ah Int):Prop:=∃y,o=some y/\(y<0\/0<=y/\y<=n/\Q)
def Sz.bind{n:Int}{Q R:Prop}{o:ah Int}{g:Int->ah Int}(h:Sz n Q o)(C:∀ y,0<=y->y<=n->Q->Sz n R (g y)):Sz n R (o.bind λy=>bif (decide (y<(0:Int)))then some (-1:Int)else g y):=by
 obtain⟨y,rfl,h|⟨D,E,L⟩⟩:=h
 ·rw[ak,aW h];exact⟨-1,rfl,.inl (by omega)⟩
 ·rw[ak,aV];exact C y D E L
def Sz.done{n:Int}{Q:Prop}{y:Int}(C:0<=y)(D:y<=n)(E:Q):Sz n Q (some y):=⟨y,rfl,.inr ⟨C,D,E⟩⟩
def Sz.le{n m:Int}{Q:Prop}{o:ah Int}(h:Sz n Q o)(E:n<=m):Sz m Q o:=by
 obtain⟨y,e,h|⟨C,L,D⟩⟩:=h
 ·exact⟨y,e,.inl h⟩
 ·exact⟨y,e,.inr ⟨C,by omega,D⟩⟩
def Sz.imp{n:Int}{Q R:Prop}{o:ah Int}(h:Sz n Q o)(C:Q->R):Sz n R o:=by
 obtain⟨y,e,h|⟨D,E,L⟩⟩:=h
 ·exact⟨y,e,.inl h⟩
 ·exact⟨y,e,.inr ⟨D,E,C L⟩⟩
def AL{α:Type}{l:aa α}{n:Int}(C:l.length<=maxLen)(D:0<=n)(E:n<=1048576):Sz n (l.length<=1048576) (bif (decide ((W6 (n-(l.length:Int)))<(0:Int)))then some (-1:Int)else some (W6 (n-(l.length:Int)))):=by
 unfold maxLen at C;rw[aO];by_cases c:n-(l.length:Int)<0
 ·rw[aW c];exact⟨-1,rfl,.inl (by omega)⟩
 ·rw[aV c];exact⟨_,rfl,.inr ⟨by omega,by omega,by omega⟩⟩
def alb{T:Type}(f:T->Int->ah Int)(l:aa T){Q:T->Prop}(hl:l.length<=1048576)(hf:∀ x∈l,∀ n:Int,0<=n->n<=1048576->Sz n (Q x) (f x n)){n:Int}(h0:0<=n)(C:n<=1048576):
  Sz n (∀x∈l,Q x) ((iter (α:=((aa T×Int×Int×af)×af)) (β:=(((Int×af)×af)⊕(((Int×af)×af)⊕Empty))) (λx=>bif (decide (x.1.2.2.1<(x.1.1.length:Int)))then if C:0<=x.1.2.2.1/\x.1.2.2.1.toNat<x.1.1.length then (let L:=x.1.1[x.1.2.2.1.toNat]'C.2;(f L x.1.2.1).bind λD=>bif (decide (D<(0:Int)))then some (.inr (.inl (((-1:Int),()),())))else some (.inl ((x.1.1,D,(W6 (x.1.2.2.1+(1:Int))),()),())))else none else some (.inr (.inr (.inl ((x.1.2.1,()),()))))) aS ((l,n,(0:Int),()),())).bind (Sum.elim (λz4=>some z4.1.1) (Sum.elim (λz5=>some z5.1.1) (λz=>nomatch z)))):=by
 obtain⟨z,e,hz⟩:=aAm (step:=(λx:((aa T×Int×Int×af)×af)=>(bif (decide (x.1.2.2.1<(x.1.1.length:Int)))then if C:0<=x.1.2.2.1/\x.1.2.2.1.toNat<x.1.1.length then (let L:=x.1.1[x.1.2.2.1.toNat]'C.2;(f L x.1.2.1).bind λD=>bif (decide (D<(0:Int)))then some (.inr (.inl (((-1:Int),()),())))else some (.inl ((x.1.1,D,(W6 (x.1.2.2.1+(1:Int))),()),())))else none else some (.inr (.inr (.inl ((x.1.2.1,()),())))):ah (((aa T×Int×Int×af)×af)⊕(((Int×af)×af)⊕(((Int×af)×af)⊕Empty))))))
  l.length (λi x=>i<=l.length/\∃m:Int,x=((l,m,(i:Int),()),())/\0<=m/\m<=n/\∀j (E:j<l.length),j<i->Q l[j]) (λz=>(∃y:Int,y<0/\z = .inl ((y,()),()))\/∃y:Int,0<=y/\y<=n/\z = .inr (.inl ((y,()),()))/\∀x∈l,Q x) (x:=((l,n,(0:Int),()),())) aS ⟨by omega,n,rfl,h0,by omega,λj _ h=>by omega⟩ (by
  rintro k hk x ⟨_,m,rfl,O,Z,U⟩;dsimp only;rw[aW,au,az ⟨by omega,by omega⟩];simp only[bC];obtain⟨y,e,h⟩:=hf l[k] (cV hk) m O (by omega);rw[e,ak];rcases h with h|⟨C,h2,Y⟩
  ·right;rw[aW h,au];exact⟨_,rfl,.inl ⟨-1,by omega,rfl⟩⟩
  ·left;rw[aV,aq,bD]
   refine⟨_,rfl,by omega,y,rfl,C,by omega,λj E hjk=>?_⟩
   by_cases e:j=k
   ·subst e;exact Y
   ·exact U j E (by omega)) (by
  rintro x ⟨_,m,rfl,O,Z,U⟩;dsimp only;rw[aV,aq]
  refine⟨_,rfl,.inr ⟨m,O,Z,rfl,λx hx=>?_⟩⟩
  obtain⟨j,E,rfl⟩:=jh.1 hx;exact U j E E) (bP)
 rw[e,ak];rcases hz with ⟨y,h,rfl⟩|⟨y,h2,Y,rfl,h4⟩
 ·exact⟨y,rfl,.inl h⟩
 ·exact⟨y,rfl,.inr ⟨h2,Y,h4⟩⟩
def AM(x:fz):Prop:=(x.weights.length<=1048576)
def aBT(x:bA):IS x=some x:=by
 unfold IS;rfl
def aBU(x:bA):I2 x x=some true:=by
 unfold I2;simp only[ak,dV,dR,bB,aq]
def aBV(x:aI):IQ x=some x:=by
 unfold IQ;rfl
def aBW(x:aI):I1 x x=some true:=by
 unfold I1;simp only[ak,dV,dR,bB,aq]
def uh(x:aa Int)(h:(x.length<=maxLen/\∀ y∈x,cx y)){n:Int}(C:0<=n)(D:n<=1048576):Sz n (x.length<=1048576) (qV x n):=by
 exact AL h.1 C D
def uj(x:aa Int)(C:(x.length<=1048576)):qb x=some x:=by
 have E:=C;have D:=v7 ((0:Int):Int) some x (λy L=>rfl) (by omega);unfold qb bk;rw[bL ⟨by omega,by omega,by omega⟩]
 refine(aY (λo=>Option.bind o _) D).trans ?_
 rfl
def uk(x:aa Int)(C:(x.length<=1048576)):qc x x=some true:=by
 have E:=C;have D:=v8 (λa b:Int=>some (a==b)) x (λy L=>by simp) (by omega);unfold qc bE;rw[show ((x.length:Int) != (x.length:Int))=false by simp,aq]
 refine(aY (λo=>Option.bind o _) D).trans ?_
 rfl
def aBX(x:kL):Pj x=some x:=by
 unfold Pj;rfl
def aBY(x:kL):PT x x=some true:=by
 unfold PT;simp only[ak,dV,dR,bB,aq]
def alc(x:fz)(h:S4 x){n:Int}(C:0<=n)(D:n<=1048576):Sz n (AM x) (II x n):=by
 obtain⟨i0,U,Y,Z,i4,E,i6⟩:=h;unfold II
 refine Sz.bind (uh x.weights E C D) λy5 L O T=>?_
 exact Sz.done L O T
def ald(x:fz)(C:AM x):IL x=some x:=by
 have D:=C;unfold IL;rw[uj x.weights D,ak,aBX x.eI,ak]
def ale(x:fz)(C:AM x):IX x x=some true:=by
 have D:=C;unfold IX;simp only[uk x.weights D,aBY x.eI,ak,dV,dR,bB,aq]
def place(l:aa bA)(id:Int):Int:=match l.findIdx? (λr=>r.id==id)with
 |some i=>(i:Int)
 |none=>-1
def aBZ(l:aa (Int×Bool))(k j:Int):mc (mY l k true) j=(j==k || mc l j):=by
 induction l with
 |nil =>rfl
 | cons p ps D=>
  simp only[mY];cases C:(k==p.1)with
  | true=>
   have e:k=p.1:=by simpa using C
   rw[au];simp[mc]
   grind
  | false=>
   rw[aq];simp only[mc]
   grind
def aB0(g:aU)(a:cZ)(L:∀ c∈a.cells,c.symbols.length<1073741824):Qv g a=some (mz g a):=by
 unfold Qv mz bE;rw[F7,ak,Mi,sB];cases O:cI g with
 |false=>rfl
 | true=>
  have Z:=oc g;have b2:=qg g;have er:bf g*g.rows=gu g:=by simp[gu,O]
  simp only[bB,aq,ak,cu,er];rw[aO];by_cases C:(a.cells.length:Int)=fH g
  ·by_cases D:(a.bz.length:Int)=gu g
   ·by_cases E:(a.bu.length:Int)=gu g
    ·have T:a.bz.length=a.bu.length:=by omega
     have l1:=fT (step:=JV) a.cells AB (λi=>(((),(i:Int),()),((a.cells,a.bz,a.bu,()),()))) (.inl ((false,()),())) (.inr (.inl (((),()),((a.cells,a.bz,a.bu,()),())))) aS (λk h=>by
      unfold JV av aQ xG xI;simp (disch:=omega) [h,bD,Mm _ 11 (L _ (cV h)),AB];cases q7 a.cells[k].symbols 11<;>rfl) (by unfold JV av aQ xG xI;simp) (bP)
     have l2:=fT (step:=JW) (a.bz.zip a.bu) sE (λi=>(((),(i:Int),()),((a.cells,a.bz,a.bu,()),()))) (.inl ((false,()),())) (.inr (.inl ((),()))) aS (λk h=>by
      have U:k<a.bz.length:=by simp at h;omega
      have Y:k<a.bu.length:=by omega
      unfold JW av aQ xG xI;simp (disch:=omega) [U,Y,bD,eJ,sE];cases aL a.bz[k] 0 100000<;>cases aL a.bu[k] 0 100000<;>rfl) (by unfold JW av aQ xG xI;simp[T]) (bP (by simp;omega))
     rw[cv]at l1 l2;simp only[C,D,E,dV,aq,decide_true,cu];rw[l1];cases h1:a.cells.all AB with
     |false=>simp
     | true=>
      simp only[au,Option.bind_some,Sum.elim_inr,eH];rw[l2];cases (a.bz.zip a.bu).all sE<;>simp
    ·simp[C,D,fO E,E]
   ·have e4:¬ (a.bu.length:Int)=(a.bz.length:Int)\/True:=.inr trivial;simp[C,fO D,D]
  ·simp[fO C,C]
def rm(g:aU)(a:aI):Nat:=(qh g a).toNat
def aB1{g:aU}{a:aI}(h:fj g a=true):qh g a=(rm g a:Int)/\(rm g a:Int)<fH g:=by
 have:=Zb h;unfold rm;omega
def eX.MG{g:aU}{B:Int}{a:cZ}(C:eX g B a)(k:Nat){c:bK}(D:Sy c.symbols):eX g B ⟨a.cells.set k c,a.bz,a.bu⟩:=
 ⟨by simp[C.cells],Sy.cc C.syms D,C.bz,C.bu,C.Dg,C.iO⟩
def lQ(R row:Int):aa Int:=(bif decide (0<row)then [row-1]else [])++(bif decide (row<R-1)then [row+1]else [])
def ZO{R row:Int}(O:2<=R)(T:R<=16)(U:0<=row)(Y:row<R):FY R row=some (lQ R row):=by
 unfold FY lQ xA xZ;have C:aL R 2 16=true:=by rw[bJ];omega
 have D:aL row 0 (R-1)=true:=by rw[bJ];omega
 rw[dK,ak,C,aO (n:=R-1),dK,aO (n:=row-1),aO (n:=row+1)];by_cases E:0<row<;>by_cases L:row<R-1<;>simp[D,E,L,bO]
def alf{R row:Int}(D:0 <= row)(E:row<R):∀ n∈lQ R row,0 <= n/\n<R:=by
 intro n C;unfold lQ at C
 grind
def aB2(R row:Int):(lQ R row).length <= 2:=by
 unfold lQ
 grind
def aB3{R row k:Int}{i:Nat}(hi:k+row=(i:Int))(C:0 <= k)(D:0 <= row)(H:aa Int):(lQ R row).foldl (λh n=>oZ (k+n).toNat h) (H.set i 0)=vX R row i H:=by
 unfold lQ vX AD
 grind
def alg(k:Int):∀ (l:aa Int) (H:aa Int),(l.foldl (λh n=>oZ (k+n).toNat h) H).length=H.length
 |[],H=>rfl
 |x::l,H=>by rw[List.foldl_cons,alg k l,Mp]
def alh(k:Int):∀ (l:aa Int) (H:aa Int),(∀ x∈H,0<=x/\x<=100000)->∀ x∈l.foldl (λh n=>oZ (k+n).toNat h) H,0<=x/\x<=100000
 |[],H,h=>h
 |x::l,H,h=>by rw[List.foldl_cons];exact alh k l _ (SN h)
def aB4{g:aU}(D:cI g=true){B:Int}{a:cZ}(C:eX g B a)(hB:B <= 100000){n:Int}(O:0 <= n)(T:n <= 100000):FF g a n=some ⟨a.cells,a.bz.map (mA n),a.bu⟩:=by
 have U:=qg g;have Y:=C.bz;have E:aL n 0 100000=true:=by rw[bJ];omega
 unfold FF bk;rw[C.copy,ak,C.ok D hB,ak,dK,ak,E];have e:=cH (step:=LC) _ (λi=>((n,(),(),(a.bz.length:Int),(i:Int),()),(((),(),(),()),((),(),(),()),([]:aa bK),([]:aa Int),([]:aa Int),a.cells,upto (mA n) a.bz i,a.bu,()))) (.inl (((),(),()),(((),(),(),()),((),(),(),()),([]:aa bK),([]:aa Int),([]),a.cells,a.bz.map (mA n),a.bu,()))) aS (λk h=>by
  unfold LC av xG xL;have Z:=C.Dg _ (cV h);have L:=F6 (mA n) a.bz k h;have D:=F5 (mA n) a.bz k h (by rw[Az];exact h);simp (disch:=omega) [Az,h,D,aO];rw[<- L];rfl) (by unfold LC av xG xL;simp[F4]) (bP)
 rw[cv,SH]at e;simp_all
def aB5(y:Int):0 <= bits .and .i64 y 15/\bits .and .i64 y 15 <= 15:=by
 have e:bits .and .i64 y 15=IntKind.wrap .i64 ((BitVec.ofInt 64 y &&& BitVec.ofInt 64 15).toNat):=rfl;have h:(BitVec.ofInt 64 y &&& BitVec.ofInt 64 15).toNat <= 15:=by
  exact Nat.le_trans Nat.and_le_right (by decide)
 rw[e,IntKind.wrap_i64];omega
def ali{n:Int}(C:0 <= n)(D:n<18446744073709551616):IntKind.u64.wrap n=n:=by
 have:IntKind.u64.wrap n=n % 18446744073709551616:=rfl
 grind
def r9(x:Int):Prop:=0<=x/\x<=1000000000
def i0:cx 0:=⟨by decide,by decide⟩
def lg(a:Nat):Nat:=(14688061253356765440 / 2 ^ (4*a)) % 16
def okB(C s1 s2 i:Nat):Bool:=!Nat.beq C 0&&(Nat.beq (gm C (pw i)) s1&&Nat.beq (gm s1 (pw i)) s2)
def loc(C s1 s2:Nat):ah Nat:=(List.range 11).find? (okB C s1 s2)
def Gg:ah Nat->Nat
 |some n=>n
 |none=>99
def aB6:(je λa=>Nat.beq a 0 ||RR (Int.ofNat a)==some (Int.ofNat (lg a)))=true:=by kernel_rfl
def alj:(je λC=>je λs1=>je λs2=>bif Nat.beq C 0 || Nat.beq s1 0 then Nat.beq (Gg (loc C s1 s2)) 99 else
  (λx=>!Nat.beq x 0&&Nat.beq (Gg (loc C s1 s2)) (bif Nat.blt (lg x) 11&&Nat.beq (gm s1 x) s2 then lg x else 99)) (gm s1 (iv C)))=true:=by kernel_rfl
def aB7:((List.range 11).all λn=>EW 2 (Int.ofNat n)==some (Int.ofNat (pw n)))=true:=by kernel_rfl
def MI{n:Nat}(h:n<11):EW 2 (n:Int)=some (pw n:Int):=eq_of_beq (cw.1 aB7 n (gk.2 h))
def aB8:((List.range 11).all λi=>(List.range 3).all λj=>Nat.beq (gm (pw (i*j)) (pw i)) (pw (i*(j+1))))=true:=by kernel_rfl
def aB9{i j:Nat}(hi:i<11)(C:j<3):gm (pw (i*j)) (pw i)=pw (i*(j+1)):=cD (cw.1 (cw.1 aB8 i (gk.2 hi)) j (gk.2 C))
def um(w:aa Nat)(i:Nat):aa Int:=[(bW w 0 i:Int),(bW w 1 i:Int),(bW w 2 i:Int)]
def ZP(w:aa Nat)(i:Nat):Nat->aa Int
 |0=>[(bW w 0 i:Int),(bW w 1 i:Int),(bW w 2 i:Int)]
 |1=>[(bW w 0 (i+1):Int),(bW w 1 i:Int),(bW w 2 i:Int)]
 |2=>[(bW w 0 (i+1):Int),(bW w 1 (i+1):Int),(bW w 2 i:Int)]
 |_=>[(bW w 0 (i+1):Int),(bW w 1 (i+1):Int),(bW w 2 (i+1):Int)]
def aCa{w:aa Nat}(T:dJ w)(hl:w.length=11){i:Nat}(hi:i<11):iter EX aS ((bw w,(),(i:Int),(1:Int),(pw i:Int),(0:Int),()),(um w i,()))=some (.inl ((bw w,(),(i:Int),()),(um w (i+1),()))):=by
 have O:i<(bw w).length:=by rw[gT];omega
 have U:(bw w)[i]=((w.getD i 0:Nat):Int):=uc O;have Y:=T.get i;have C:∀ j,bits .xor .i64 ((bW w j i:Nat):Int) ((gm (w.getD i 0) (pw (i*j)):Nat):Int)=((bW w j (i+1):Nat):Int):=λj=>by
  rw[q5 (q6 w j i) (gj _ _)];rfl
 have D:=λj=>Mj Y (ua (i*j))
 have E:∀ j,j<3 -> tV ((pw (i*j):Nat):Int) ((pw i:Nat):Int)=some ((pw (i*(j+1)):Nat):Int):=λj L=>by
  rw[Mj (ua (i*j)) (ua i),aB9 hi L]
 generalize bw w=W at *
 generalize w.getD i 0=c at *
 have e:=cH (step:=EX) 3 (λj=>((W,(),(i:Int),(pw (i*j):Int),(pw i:Int),(j:Int),()),(ZP w i j,()))) (.inl ((W,(),(i:Int),()),(um w (i+1),()))) aS (λj L=>by
  have D:=D j;have E:=E j L;have C:=C j;generalize pw (i*j)=d at D E C ⊢;unfold EX av xG xI xL;rcases(by omega:j=0 \/ j=1 \/ j=2)with rfl|rfl|rfl<;>simp[ZP,O,U,D,E,C]<;>rfl) (by unfold EX av xG xI xL;simp[ZP,um]) (bP)
 have Z:pw (i*0)=1:=by rw[Nat.mul_zero];rfl
 rw[cv,Z]at e;exact e
def aCb{w:aa Nat}(D:dJ w)(C:w.length=11):QH (bw w)=some (um w 11):=by
 have E:=(Mn D C).ok;unfold QH bk;rw[Mm _ _ (by rw[gT];omega),E,ak];have e:=cH (step:=Kj) 11 (λi=>((bw w,(),(i:Int),()),(um w i,()))) (.inl (((),()),(um w 11,()))) aS (λi hi=>by
  have L:i<w.length:=by omega
  unfold Kj av xG bk;simp (disch:=omega) [gT,L,MI hi,aCa D C hi,bD]) (by unfold Kj av xG bk;simp[ C]) (bP)
 rw[cv]at e;have O:(List.replicate (3:Int).toNat (0:Int))=um w 0:=rfl;simp_all
def nu(w:aa Nat):Bool:=Nat.beq (bW w 0 11) 0&&(Nat.beq (bW w 1 11) 0&&Nat.beq (bW w 2 11) 0)
def ga(w:aa Nat):aa Nat×Int×Int:=bif nu w then (w,0,-1)else match loc (bW w 0 11) (bW w 1 11) (bW w 2 11)with
 |some k=>(w.set k (w.getD k 0 ^^^ bW w 0 11),1,(k:Int))
 |none=>(w,2,-1)
def Gh(n m:Nat):((n:Int)==(m:Int))=Nat.beq n m:=by
 cases h:Nat.beq n m with
 |true=>simp_all
 | false=>
  have:n≠m:=by rintro rfl;simp at h
  grind
def aCc{C s1 s2:Nat}(h:loc C s1 s2=none):∀ i,i<11 -> okB C s1 s2 i=false:=by
 intro i hi;have:=List.find?_eq_none.1 h i (gk.2 hi);simp_all
def S5{D s1 s2 k:Nat}(h:loc D s1 s2=some k):k<11/\okB D s1 s2 k=true /\ ∀ i,i<k -> okB D s1 s2 i=false:=by
 refine⟨gk.1 (List.mem_of_find?_eq_some h),List.find?_some h,λi hi=>?_⟩
 have⟨O,l1,l2,E,T⟩:=List.find?_eq_some_iff_append.1 h;have U:l1.length=k/\l1=List.range k:=by
  have C:(List.range 11)[l1.length]?=some k:=by rw[E];simp
  have L:l1.length<11:=by have:=aY List.length E;simp at this;omega
  rw[List.getElem?_range L]at C;injection C with C;refine⟨C,?_⟩;have Y:(List.range 11).take l1.length=l1:=by rw[E];simp
  grind
 simp_all
def aCd{w:aa Nat}(U:dJ w)(Y:w.length=11):QI (bw w)=some (bw (ga w).1,(ga w).2.1,(ga w).2.2):=by
 have hs:=(Mn U Y).ok;have ho:bO w.length=true:=di;have h0:∀n:Nat,((n:Int)==(0:Int))=Nat.beq n 0:=λn=>Gh n 0
 have US:=q6 w 0 11;have oN:=q6 w 1 11;unfold QI EY xA bE xZ xI;rw[Mm _ _ (by rw[gT];omega),hs,ak,aCb U Y];have e0:EY (um w 11)=some (nu w):=by
  unfold EY nu xI;cases h1:Nat.beq (bW w 0 11) 0<;>cases h2:Nat.beq (bW w 1 11) 0<;>simp[um,h0,h1,h2]
 have E:∀i (h:i<(bw w).length),(bw w)[i]=((w.getD i 0:Nat):Int):=λi h=>uc h
 have D:∀ k,(bw w).set k (bits .xor .i64 ((w.getD k 0:Nat):Int) ((bW w 0 11:Nat):Int))=bw (w.set k (w.getD k 0 ^^^ bW w 0 11)):=λk=>by
  rw[q5 (U.get k) US,SM]
 have hlen:(bw w).length=11:=by rw[gT,Y]
 unfold EY xI at e0;unfold ga nu at *
 simp only[bB,aq,ak];rw[e0,ak,di (by simp[hlen])];cases hz:(Nat.beq (bW w 0 11) 0&&(Nat.beq (bW w 1 11) 0&&Nat.beq (bW w 2 11) 0))with
 |true=>simp
 | false=>
  simp only[aq,au,List.nil_append];unfold um;generalize hW:bw w=W at E D hlen ⊢;generalize hg0:bW w 0 11=C at *
  generalize Xp:bW w 1 11=s1 at *
  generalize yS:bW w 2 11=s2 at *
  have step:∀ i:Nat,i<11->CE (((),(),(i:Int),()),(W,[(C:Int),(s1:Int),(s2:Int)],()))=some (bif okB C s1 s2 i then .inr (.inl (((),1,(i:Int),()),(bw (w.set i (w.getD i 0 ^^^ C)),())))else .inl (((),(),((i+1:Nat):Int),()),(W,[(C:Int),(s1:Int),(s2:Int)],()))):=by
   intro i hi;have dA:i<W.length:=by omega
   have L:(i:Int)<11:=by omega
   have Z:=Mj US (ua i);have m2:=Mj oN (ua i);have E:=E i dA;have D:=D i;generalize w.getD i 0=c at E D ⊢;generalize bw (w.set i (c ^^^ C))=R at D ⊢;unfold CE okB av aQ xG xL;have O:((C:Int) != (0:Int)) = !Nat.beq C 0:=by rw[bne,h0]
   cases T:Nat.beq C 0 with
   |true=>simp (disch:=omega) [L,MI hi,O,T,bD]
   | false=>
    cases q1:Nat.beq (gm C (pw i)) s1 with
    |false=>simp (disch:=omega) [L,MI hi,O,T,Z,Gh,q1,bD]
    | true=>
     cases q2:Nat.beq (gm s1 (pw i)) s2 with
     |false=>simp (disch:=omega) [L,MI hi,O,T,Z,m2,Gh,q1,q2,bD]
     |true=>simp (disch:=omega) [L,MI hi,O,T,Z,m2,Gh,q1,q2,dA,E,D]
  cases D8:loc C s1 s2 with
  | none=>
   have hn:=aCc D8;have e:=cH (step:=CE) 11 (λi=>(((),(),(i:Int),()),(W,[(C:Int),(s1:Int),(s2:Int)],()))) (.inr (.inl (((),()),(W,())))) aS (λi hi=>by rw[step i hi,hn i hi];rfl) (by unfold CE av aQ xG xL;simp) (bP);rw[cv]at e;rw[e];simp only[Option.bind_some,Sum.elim_inr,eH];rw[hW]
  | some k=>
   obtain⟨hk,fo,hlo⟩:=S5 D8;have e:=cH (step:=CE) k (λi=>(((),(),(i:Int),()),(W,[(C:Int),(s1:Int),(s2:Int)],()))) (.inl (((),1,(k:Int),()),(bw (w.set k (w.getD k 0 ^^^ C)),()))) aS (λi hi=>by rw[step i (by omega),hlo i hi];rfl) (by rw[step k hk,fo];rfl) (bP);rw[cv]at e;rw[e];rfl
def alk{C s1 s2:Nat}(E:C<16)(L:s1<16)(O:s2<16)(h:C=0 \/ s1=0):loc C s1 s2=none:=by
 have t:=gv (gv (gv alj E) L) O;have T:(Nat.beq C 0 ||Nat.beq s1 0)=true:=by rcases h with rfl|rfl<;>simp
 rw[T]at t;have t:=cD t;cases D:loc C s1 s2 with
 |none=>rfl
 | some k=>
  rw[D]at t;have:=(S5 D).1;simp[Gg]at t;omega
def aCe{C s1 s2:Nat}(O:C<16)(T:s1<16)(U:s2<16)(Y:C≠0)(Z:s1≠0):gm s1 (iv C)≠0/\loc C s1 s2=bif Nat.blt (lg (gm s1 (iv C))) 11&&Nat.beq (gm s1 (gm s1 (iv C))) s2 then some (lg (gm s1 (iv C)))else none:=by
 have t:=gv (gv (gv alj O) T) U;have c0:Nat.beq C 0=false:=by cases h:Nat.beq C 0 with|false=>rfl|true=>exact absurd (cD h) Y
 have c1:Nat.beq s1 0=false:=by cases h:Nat.beq s1 0 with|false=>rfl|true=>exact absurd (cD h) Z
 dsimp only at t;rw[c0,c1,Bool.or_false,aq,aN]at t;have⟨t1,D⟩:=t;have D:=cD D;refine⟨(by rintro e;rw[e]at t1;cases t1),?_⟩;cases L:(Nat.blt (lg (gm s1 (iv C))) 11&&Nat.beq (gm s1 (gm s1 (iv C))) s2)with
 | true=>
  rw[L,au]at D;rw[aN]at L;have dA:lg (gm s1 (iv C))<11:=cQ L.1;cases E:loc C s1 s2 with
  |none=>rw[E]at D;simp[Gg]at D;omega
  |some k=>rw[E]at D;simp[Gg]at D;rw[D];rfl
 | false=>
  rw[L,aq]at D;cases E:loc C s1 s2 with
  |none=>rfl
  | some k=>
   have:=(S5 E).1;rw[E]at D;simp[Gg]at D;omega
def aCf{a:Nat}(h:a<16)(C:a≠0):C1 (a:Int)=some (iv a:Int):=by
 have t:=gv aAD h;simp_all
def aCg{a:Nat}(h:a<16)(C:a≠0):RR (a:Int)=some (lg a:Int):=by
 have t:=gv aB6 h;simp_all
def alm{w:aa Nat}(Y:dJ w)(O:w.length=11):LJ (bw w)=some (bw (ga w).1,(ga w).2.1,(ga w).2.2):=by
 have ho:bO (([]:aa Int).length+(bw w).length)=true:=di (by simp[gT,O]);have h0:∀n:Nat,((n:Int)==(0:Int))=Nat.beq n 0:=λn=>Gh n 0
 have C:=q6 w 0 11;have D:=q6 w 1 11;have Z:=q6 w 2 11;have T:∀i (h:i<(bw w).length),(bw w)[i]=((w.getD i 0:Nat):Int):=λi h=>uc h
 have U:∀ k,(bw w).set k (bits .xor .i64 ((w.getD k 0:Nat):Int) ((bW w 0 11:Nat):Int))=bw (w.set k (w.getD k 0 ^^^ bW w 0 11)):=λk=>by
  rw[q5 (Y.get k) C,SM]
 have hlen:(bw w).length=11:=by rw[gT,O]
 unfold LJ xA xC xL xZ;rw[Zf Y O,ak,aAz Y O,ho];have aCh:jt [((bW w 0 11:Nat):Int),((bW w 1 11:Nat):Int),((bW w 2 11:Nat):Int)]=false:=rfl;rw[aCh,aq,au,ak];unfold ga nu;cases hz:(Nat.beq (bW w 0 11) 0&&(Nat.beq (bW w 1 11) 0&&Nat.beq (bW w 2 11) 0))with
 |true=>simp
 | false=>
  simp only[aq,List.nil_append];generalize hW:bw w=W at T U hlen ⊢;generalize hg0:bW w 0 11=E at *
  generalize Xp:bW w 1 11=s1 at *
  generalize yS:bW w 2 11=s2 at *
  have dc:∀n:Nat,((n:Int) != (0:Int)) = !Nat.beq n 0:=λn=>by rw[bne,h0]
  by_cases L:E=0
  ·rw[alk C D Z (.inl L)];subst L;simp[hW]
  ·have c0:Nat.beq E 0=false:=by cases h:Nat.beq E 0 with | false=>rfl | true=>exact absurd (cD h) L
   by_cases n1:s1=0
   ·rw[alk C D Z (.inr n1)];simp_all
   ·have c1:Nat.beq s1 0=false:=by cases h:Nat.beq s1 0 with | false=>rfl | true=>exact absurd (cD h) n1
    have⟨nx,D8⟩:=aCe C D Z L n1;have e1:=aCf C L;have e2:=Dd D (aAC E);rw[D8];generalize hx:gm s1 (iv E)=x at *
    have aln:x<16:=by rw[<- hx];exact gj _ _
    have e3:=aCg aln nx;have e4:=Dd D aln;generalize hn:lg x=n at *
    by_cases q1:n<11
    ·have d1:Nat.blt n 11=true:=js q1;have d2:(n:Int)<11:=by omega
     have dA:n<W.length:=by omega
     have T:=T n dA;have U:=U n;cases q2:Nat.beq (gm s1 x) s2 with
     | true=>
      simp only[d1,cu,au];generalize w.getD n 0=c at T U ⊢;simp_all
     | false=>
      simp[ e1,e2,e3,e4,Gh,q2,hW]
    ·have d1:Nat.blt n 11=false:=by
      cases h:Nat.blt n 11 with
      |false=>rfl
      |true=>exact absurd (cQ h) (by omega)
     have d2:¬ (n:Int)<11:=by omega
     simp only[d1,Bool.false_and,aq];simp[dc,c0,c1,e1,e2,e3,d2,hW]
def Dt{w:aa Nat}(C:dJ w)(D:w.length=11):(ga w).1.length=11/\dJ (ga w).1/\((ga w).2.1=0 \/ (ga w).2.1=1 \/ (ga w).2.1=2):=by
 have E:=q6 w 0 11;unfold ga;cases nu w with
 |true=>simp_all
 | false=>
  cases loc _ _ _ with
  |none=>simp_all
  |some k=>exact⟨by simp[D],C.set (lN (C.get k) E),.inr (.inl rfl)⟩
def aCi:(je λa=>(List.range 11).all λk=>Nat.beq (gm (gm a (pw k)) (pw k)) (gm a (pw (k*2))))=true:=by kernel_rfl
def aCj{w:aa Nat}(O:dJ w)(T:w.length=11)(h:(ga w).2.1≠2):nu (ga w).1=true:=by
 unfold ga at h ⊢;cases U:nu w with
 |true=>grind
 | false=>
  rw[U,aq]at h;simp only[aq];cases Y:loc (bW w 0 11) (bW w 1 11) (bW w 2 11)with
  |none=>grind
  | some k=>
   have⟨E,C,_⟩:=S5 Y;have D:=q6 w 0 11;simp only[okB,aN]at C;have L:=cD C.2.1;have Z:=cD C.2.2;have u:=λj=>akl O T D E j
   have p0:gm (bW w 0 11) (pw (k*0))=bW w 0 11:=by rw[Nat.mul_zero];exact aAx D
   have p2:gm (bW w 0 11) (pw (k*2))=bW w 2 11:=by
    rw[<- cD (cw.1 (gv aCi D) k (gk.2 E)),L,Z]
   simp only[nu,aN];rw[u 0,u 1,u 2,p0,Nat.mul_one,L,p2,Nat.xor_self,Nat.xor_self,Nat.xor_self];exact⟨rfl,rfl,rfl⟩
def aCk{w:aa Nat}(D:dJ w)(C:w.length=11):RT (bw w)=some (bw (w.drop 3)):=by
 unfold RT xA xZ;have c0:((w.length:Int)==(11:Int))=true:=by rw[C];rfl
 have E:(bw w).length=11:=by rw[gT,C]
 rw[Ze D (by omega),ak,c0,show (!true)=false from rfl,aq,E];have e:((bw w).take ((11:Nat):Int).toNat).drop (3:Int).toNat=bw (w.drop 3):=by
  rw[List.take_of_length_le (by omega)];simp_all
 have L:bO (([]:aa Int).length+(bw (w.drop 3)).length)=true:=by
  rw[gT,List.length_drop,C];rfl
 simp_all
def alo(x:aU):Prop:=cx x.cF/\cx x.aB/\cx x.rows/\cx x.aT
def aCl{H:Type}{cW:TypeId×Value->H}{w:World}:aX cW Tryz.prog w 23 .fe alo:=λn cs x C=>by
 have D:=Tryz.underlying23;obtain⟨L,i0,O⟩:=aX.part D C (i:=0) rfl oI (off:=0) (k:=1) rfl (by kernel_rfl);obtain⟨T,U,Y⟩:=aX.part D C (i:=1) rfl oI (off:=1) (k:=1) rfl (by kernel_rfl);obtain⟨Z,i2,r2⟩:=aX.part D C (i:=2) rfl oI (off:=2) (k:=1) rfl (by kernel_rfl);obtain⟨a3,i3,r3⟩:=aX.part D C (i:=3) rfl oI (off:=3) (k:=1) rfl (by kernel_rfl);have E:=aX.len D C;have hc:Tryz.prog.cellsOf 23=4:=by kernel_rfl
 rw[hc]at E;exact⟨⟨L,T,Z,a3⟩,⟨i0,U,i2,i3⟩,bN.cut O (bN.cut Y (bN.cut r2 (bN.cut r3 ((iG E)))))⟩
def alp(x:c9):Prop:=cx x.jF/\cx x.rp/\cx x.gH/\cx x.mI/\cx x.jG/\cx x.jH/\cx x.mJ/\cx x.mK/\cx x.ji/\cx x.wr/\cx x.mL/\cx x.mM/\cx x.pH/\cx x.mN/\cx x.nJ/\cx x.xp/\cx x.xs
def aCm{H:Type}{cW:TypeId×Value->H}{w:World}:aX cW Tryz.prog w 25 .jI alp:=λn cs x C=>by
 have D:=Tryz.underlying25;obtain⟨L,i0,O⟩:=aX.part D C (i:=0) rfl oI (off:=0) (k:=1) rfl (by kernel_rfl);obtain⟨T,U,Y⟩:=aX.part D C (i:=1) rfl oI (off:=1) (k:=1) rfl (by kernel_rfl);obtain⟨Z,i2,r2⟩:=aX.part D C (i:=2) rfl oI (off:=2) (k:=1) rfl (by kernel_rfl);obtain⟨a3,i3,r3⟩:=aX.part D C (i:=3) rfl oI (off:=3) (k:=1) rfl (by kernel_rfl);obtain⟨a4,i4,r4⟩:=aX.part D C (i:=4) rfl oI (off:=4) (k:=1) rfl (by kernel_rfl);obtain⟨a5,i5,r5⟩:=aX.part D C (i:=5) rfl oI (off:=5) (k:=1) rfl (by kernel_rfl);obtain⟨a6,i6,r6⟩:=aX.part D C (i:=6) rfl oI (off:=6) (k:=1) rfl (by kernel_rfl);obtain⟨a7,i7,r7⟩:=aX.part D C (i:=7) rfl oI (off:=7) (k:=1) rfl (by kernel_rfl);obtain⟨a8,i8,r8⟩:=aX.part D C (i:=8) rfl oI (off:=8) (k:=1) rfl (by kernel_rfl);obtain⟨a9,i9,r9⟩:=aX.part D C (i:=9) rfl oI (off:=9) (k:=1) rfl (by kernel_rfl);obtain⟨Gi,i10,uq⟩:=aX.part D C (i:=10) rfl oI (off:=10) (k:=1) rfl (by kernel_rfl);obtain⟨Gj,i11,ur⟩:=aX.part D C (i:=11) rfl oI (off:=11) (k:=1) rfl (by kernel_rfl);obtain⟨Gk,i12,uv⟩:=aX.part D C (i:=12) rfl oI (off:=12) (k:=1) rfl (by kernel_rfl);obtain⟨S6,i13,uw⟩:=aX.part D C (i:=13) rfl oI (off:=13) (k:=1) rfl (by kernel_rfl);obtain⟨S7,i14,uy⟩:=aX.part D C (i:=14) rfl oI (off:=14) (k:=1) rfl (by kernel_rfl);obtain⟨Mq,i15,uz⟩:=aX.part D C (i:=15) rfl oI (off:=15) (k:=1) rfl (by kernel_rfl);obtain⟨Gl,i16,uA⟩:=aX.part D C (i:=16) rfl oI (off:=16) (k:=1) rfl (by kernel_rfl);have E:=aX.len D C;have hc:Tryz.prog.cellsOf 25=17:=by kernel_rfl
 rw[hc]at E;exact⟨⟨L,T,Z,a3,a4,a5,a6,a7,a8,a9,Gi,Gj,Gk,S6,S7,Mq,Gl⟩,⟨i0,U,i2,i3,i4,i5,i6,i7,i8,i9,i10,i11,i12,i13,i14,i15,i16⟩,bN.cut O (bN.cut Y (bN.cut r2 (bN.cut r3 (bN.cut r4 (bN.cut r5 (bN.cut r6 (bN.cut r7 (bN.cut r8 (bN.cut r9 (bN.cut uq (bN.cut ur (bN.cut uv (bN.cut uw (bN.cut uy (bN.cut uz (bN.cut uA ((iG E))))))))))))))))))⟩
def alq(x:jE):Prop:=cx x.order/\True
def aCn{H:Type}{cW:TypeId×Value->H}{w:World}:aX cW Tryz.prog w 27 .nK alq:=λn cs x C=>by
 have D:=Tryz.underlying27;obtain⟨L,i0,O⟩:=aX.part D C (i:=0) rfl oI (off:=0) (k:=1) rfl (by kernel_rfl);obtain⟨T,U,Y⟩:=aX.part D C (i:=1) rfl (aX.bool Tryz.underlying4) (off:=1) (k:=1) rfl (by kernel_rfl);have E:=aX.len D C;have Z:Tryz.prog.cellsOf 27=2:=by kernel_rfl
 rw[Z]at E;exact⟨⟨L,T⟩,⟨i0,U⟩,bN.cut O (bN.cut Y ((iG E)))⟩
def alr(x:iY):Prop:=cx x.bz/\cx x.bu
def aCo{H:Type}{cW:TypeId×Value->H}{w:World}:aX cW Tryz.prog w 29 .mO alr:=λn cs x C=>by
 have D:=Tryz.underlying29;obtain⟨L,i0,O⟩:=aX.part D C (i:=0) rfl oI (off:=0) (k:=1) rfl (by kernel_rfl);obtain⟨T,U,Y⟩:=aX.part D C (i:=1) rfl oI (off:=1) (k:=1) rfl (by kernel_rfl);have E:=aX.len D C;have Z:Tryz.prog.cellsOf 29=2:=by kernel_rfl
 rw[Z]at E;exact⟨⟨L,T⟩,⟨i0,U⟩,bN.cut O (bN.cut Y ((iG E)))⟩
def als(x:ia):Prop:=alo x.aE/\alp x.ck/\alq x.mapping/\cx x.cr/\cx x.interval/\cx x.iz/\alr x.dO
def aCp{H:Type}{cW:TypeId×Value->H}{w:World}:aX cW Tryz.prog w 31 .Config als:=λn cs x C=>by
 have D:=Tryz.underlying31;obtain⟨L,i0,O⟩:=aX.part D C (i:=0) rfl aCl (off:=0) (k:=4) rfl (by kernel_rfl);obtain⟨T,U,Y⟩:=aX.part D C (i:=1) rfl aCm (off:=4) (k:=17) rfl (by kernel_rfl);obtain⟨Z,i2,r2⟩:=aX.part D C (i:=2) rfl aCn (off:=21) (k:=2) rfl (by kernel_rfl);obtain⟨a3,i3,r3⟩:=aX.part D C (i:=3) rfl oI (off:=23) (k:=1) rfl (by kernel_rfl);obtain⟨a4,i4,r4⟩:=aX.part D C (i:=4) rfl oI (off:=24) (k:=1) rfl (by kernel_rfl);obtain⟨a5,i5,r5⟩:=aX.part D C (i:=5) rfl oI (off:=25) (k:=1) rfl (by kernel_rfl);obtain⟨a6,i6,r6⟩:=aX.part D C (i:=6) rfl aCo (off:=26) (k:=2) rfl (by kernel_rfl);have E:=aX.len D C;have hc:Tryz.prog.cellsOf 31=28:=by kernel_rfl
 rw[hc]at E;exact⟨⟨L,T,Z,a3,a4,a5,a6⟩,⟨i0,U,i2,i3,i4,i5,i6⟩,bN.cut O (bN.cut Y (bN.cut r2 (bN.cut r3 (bN.cut r4 (bN.cut r5 (bN.cut r6 ((iG E))))))))⟩
def ZQ(x:gI):Prop:=S4 x.bI/\S4 x.next/\True
def aCq{H:Type}{cW:TypeId×Value->H}{w:World}:aX cW Tryz.prog w 38 .jJ ZQ:=λn cs x C=>by
 have D:=Tryz.underlying38;obtain⟨L,i0,O⟩:=aX.part D C (i:=0) rfl ala (off:=0) (k:=8) rfl (by kernel_rfl);obtain⟨T,U,Y⟩:=aX.part D C (i:=1) rfl ala (off:=8) (k:=8) rfl (by kernel_rfl);obtain⟨Z,i2,r2⟩:=aX.part D C (i:=2) rfl (aX.bool Tryz.underlying4) (off:=16) (k:=1) rfl (by kernel_rfl);have E:=aX.len D C;have hc:Tryz.prog.cellsOf 38=17:=by kernel_rfl
 rw[hc]at E;exact⟨⟨L,T,Z⟩,⟨i0,U,i2⟩,bN.cut O (bN.cut Y (bN.cut r2 ((iG E))))⟩
def ZR(x:cR):Prop:=True/\cx x.row
def aCr{H:Type}{cW:TypeId×Value->H}{w:World}:aX cW Tryz.prog w 386 .fQ ZR:=λn cs x C=>by
 have D:=Tryz.underlying386;obtain⟨L,i0,O⟩:=aX.part D C (i:=0) rfl (aX.bool Tryz.underlying4) (off:=0) (k:=1) rfl (by kernel_rfl);obtain⟨T,U,Y⟩:=aX.part D C (i:=1) rfl oI (off:=1) (k:=1) rfl (by kernel_rfl);have E:=aX.len D C;have Z:Tryz.prog.cellsOf 386=2:=by kernel_rfl
 rw[Z]at E;exact⟨⟨L,T⟩,⟨i0,U⟩,bN.cut O (bN.cut Y ((iG E)))⟩
def ZS(x:cy):Prop:=(x.aB.length<=maxLen/\∀y∈x.aB,ZR y)/\cx x.aZ
def aCs{H:Type}{cW:TypeId×Value->H}{w:World}:aX cW Tryz.prog w 41 .iI ZS:=λn cs x C=>by
 have D:=Tryz.underlying41;obtain⟨L,i0,O⟩:=aX.part D C (i:=0) rfl (aX.sl Tryz.underlying39 (by kernel_rfl) aCr) (off:=0) (k:=1) rfl (by kernel_rfl);obtain⟨T,U,Y⟩:=aX.part D C (i:=1) rfl oI (off:=1) (k:=1) rfl (by kernel_rfl);have E:=aX.len D C;have Z:Tryz.prog.cellsOf 41=2:=by kernel_rfl
 rw[Z]at E;exact⟨⟨L,T⟩,⟨i0,U⟩,bN.cut O (bN.cut Y ((iG E)))⟩
def ZT(x:dn):Prop:=(x.last.length<=maxLen/\∀y∈x.last,cx y)/\(x.bx.length<=maxLen/\∀y∈x.bx,cx y)
def aCt{H:Type}{cW:TypeId×Value->H}{w:World}:aX cW Tryz.prog w 43 .ki ZT:=λn cs x C=>by
 have D:=Tryz.underlying43;obtain⟨L,i0,O⟩:=aX.part D C (i:=0) rfl (aX.sl Tryz.underlying32 (by kernel_rfl) oI) (off:=0) (k:=1) rfl (by kernel_rfl);obtain⟨T,U,Y⟩:=aX.part D C (i:=1) rfl (aX.sl Tryz.underlying32 (by kernel_rfl) oI) (off:=1) (k:=1) rfl (by kernel_rfl);have E:=aX.len D C;have Z:Tryz.prog.cellsOf 43=2:=by kernel_rfl
 rw[Z]at E;exact⟨⟨L,T⟩,⟨i0,U⟩,bN.cut O (bN.cut Y ((iG E)))⟩
def S8(x:bK):Prop:=(x.symbols.length<=maxLen/\∀y∈x.symbols,cx y)/\True
def aCu{H:Type}{cW:TypeId×Value->H}{w:World}:aX cW Tryz.prog w 359 .Cell S8:=λn cs x C=>by
 have D:=Tryz.underlying359;obtain⟨L,i0,O⟩:=aX.part D C (i:=0) rfl (aX.sl Tryz.underlying32 (by kernel_rfl) oI) (off:=0) (k:=1) rfl (by kernel_rfl);obtain⟨T,U,Y⟩:=aX.part D C (i:=1) rfl (aX.bool Tryz.underlying4) (off:=1) (k:=1) rfl (by kernel_rfl);have E:=aX.len D C;have Z:Tryz.prog.cellsOf 359=2:=by kernel_rfl
 rw[Z]at E;exact⟨⟨L,T⟩,⟨i0,U⟩,bN.cut O (bN.cut Y ((iG E)))⟩
def ZU(x:cZ):Prop:=(x.cells.length<=maxLen/\∀y∈x.cells,S8 y)/\(x.bz.length<=maxLen/\∀y∈x.bz,cx y)/\(x.bu.length<=maxLen/\∀y∈x.bu,cx y)
def aCv{H:Type}{cW:TypeId×Value->H}{w:World}:aX cW Tryz.prog w 46 .Array ZU:=λn cs x C=>by
 have D:=Tryz.underlying46;obtain⟨L,i0,O⟩:=aX.part D C (i:=0) rfl (aX.sl Tryz.underlying44 (by kernel_rfl) aCu) (off:=0) (k:=1) rfl (by kernel_rfl);obtain⟨T,U,Y⟩:=aX.part D C (i:=1) rfl (aX.sl Tryz.underlying32 (by kernel_rfl) oI) (off:=1) (k:=1) rfl (by kernel_rfl);obtain⟨Z,i2,r2⟩:=aX.part D C (i:=2) rfl (aX.sl Tryz.underlying32 (by kernel_rfl) oI) (off:=2) (k:=1) rfl (by kernel_rfl);have E:=aX.len D C;have hc:Tryz.prog.cellsOf 46=3:=by kernel_rfl
 rw[hc]at E;exact⟨⟨L,T,Z⟩,⟨i0,U,i2⟩,bN.cut O (bN.cut Y (bN.cut r2 ((iG E))))⟩
def ZV(x:eZ):Prop:=cx x.cr/\(x.map.length<=maxLen/\∀y∈x.map,cx y)
def aCw{H:Type}{cW:TypeId×Value->H}{w:World}:aX cW Tryz.prog w 48 .kj ZV:=λn cs x C=>by
 have D:=Tryz.underlying48;obtain⟨L,i0,O⟩:=aX.part D C (i:=0) rfl oI (off:=0) (k:=1) rfl (by kernel_rfl);obtain⟨T,U,Y⟩:=aX.part D C (i:=1) rfl (aX.sl Tryz.underlying32 (by kernel_rfl) oI) (off:=1) (k:=1) rfl (by kernel_rfl);have E:=aX.len D C;have Z:Tryz.prog.cellsOf 48=2:=by kernel_rfl
 rw[Z]at E;exact⟨⟨L,T⟩,⟨i0,U⟩,bN.cut O (bN.cut Y ((iG E)))⟩
def ZW(x:de):Prop:=(x.aH.length<=maxLen/\∀y∈x.aH,cx y)/\cx x.wait/\True
def aCx{H:Type}{cW:TypeId×Value->H}{w:World}:aX cW Tryz.prog w 50 .kM ZW:=λn cs x C=>by
 have D:=Tryz.underlying50;obtain⟨L,i0,O⟩:=aX.part D C (i:=0) rfl (aX.sl Tryz.underlying32 (by kernel_rfl) oI) (off:=0) (k:=1) rfl (by kernel_rfl);obtain⟨T,U,Y⟩:=aX.part D C (i:=1) rfl oI (off:=1) (k:=1) rfl (by kernel_rfl);obtain⟨Z,i2,r2⟩:=aX.part D C (i:=2) rfl (aX.bool Tryz.underlying4) (off:=2) (k:=1) rfl (by kernel_rfl);have E:=aX.len D C;have hc:Tryz.prog.cellsOf 50=3:=by kernel_rfl
 rw[hc]at E;exact⟨⟨L,T,Z⟩,⟨i0,U,i2⟩,bN.cut O (bN.cut Y (bN.cut r2 ((iG E))))⟩
def S9(x:bQ):Prop:=(x.rows.length<=maxLen/\∀y∈x.rows,cx y)/\(x.counts.length<=maxLen/\∀y∈x.counts,cx y)/\cx x.cY
def aCy{H:Type}{cW:TypeId×Value->H}{w:World}:aX cW Tryz.prog w 248 .eR S9:=λn cs x C=>by
 have D:=Tryz.underlying248;obtain⟨L,i0,O⟩:=aX.part D C (i:=0) rfl (aX.sl Tryz.underlying32 (by kernel_rfl) oI) (off:=0) (k:=1) rfl (by kernel_rfl);obtain⟨T,U,Y⟩:=aX.part D C (i:=1) rfl (aX.sl Tryz.underlying32 (by kernel_rfl) oI) (off:=1) (k:=1) rfl (by kernel_rfl);obtain⟨Z,i2,r2⟩:=aX.part D C (i:=2) rfl oI (off:=2) (k:=1) rfl (by kernel_rfl);have E:=aX.len D C;have hc:Tryz.prog.cellsOf 248=3:=by kernel_rfl
 rw[hc]at E;exact⟨⟨L,T,Z⟩,⟨i0,U,i2⟩,bN.cut O (bN.cut Y (bN.cut r2 ((iG E))))⟩
def ZX(x:bV):Prop:=cx x.weight/\cx x.eP
def aCz{H:Type}{cW:TypeId×Value->H}{w:World}:aX cW Tryz.prog w 281 .ef ZX:=λn cs x C=>by
 have D:=Tryz.underlying281;obtain⟨L,i0,O⟩:=aX.part D C (i:=0) rfl oI (off:=0) (k:=1) rfl (by kernel_rfl);obtain⟨T,U,Y⟩:=aX.part D C (i:=1) rfl oI (off:=1) (k:=1) rfl (by kernel_rfl);have E:=aX.len D C;have Z:Tryz.prog.cellsOf 281=2:=by kernel_rfl
 rw[Z]at E;exact⟨⟨L,T⟩,⟨i0,U⟩,bN.cut O (bN.cut Y ((iG E)))⟩
def alu(x:gB):Prop:=True/\cx x.low/\cx x.high
def aCA{H:Type}{cW:TypeId×Value->H}{w:World}:aX cW Tryz.prog w 56 .kN alu:=λn cs x C=>by
 have D:=Tryz.underlying56;obtain⟨L,i0,O⟩:=aX.part D C (i:=0) rfl (aX.bool Tryz.underlying4) (off:=0) (k:=1) rfl (by kernel_rfl);obtain⟨T,U,Y⟩:=aX.part D C (i:=1) rfl oI (off:=1) (k:=1) rfl (by kernel_rfl);obtain⟨Z,i2,r2⟩:=aX.part D C (i:=2) rfl oI (off:=2) (k:=1) rfl (by kernel_rfl);have E:=aX.len D C;have hc:Tryz.prog.cellsOf 56=3:=by kernel_rfl
 rw[hc]at E;exact⟨⟨L,T,Z⟩,⟨i0,U,i2⟩,bN.cut O (bN.cut Y (bN.cut r2 ((iG E))))⟩
def alv(x:eC):Prop:=cx x.state/\cx x.since/\cx x.idle
def aCB{H:Type}{cW:TypeId×Value->H}{w:World}:aX cW Tryz.prog w 58 .Power alv:=λn cs x C=>by
 have D:=Tryz.underlying58;obtain⟨L,i0,O⟩:=aX.part D C (i:=0) rfl oI (off:=0) (k:=1) rfl (by kernel_rfl);obtain⟨T,U,Y⟩:=aX.part D C (i:=1) rfl oI (off:=1) (k:=1) rfl (by kernel_rfl);obtain⟨Z,i2,r2⟩:=aX.part D C (i:=2) rfl oI (off:=2) (k:=1) rfl (by kernel_rfl);have E:=aX.len D C;have hc:Tryz.prog.cellsOf 58=3:=by kernel_rfl
 rw[hc]at E;exact⟨⟨L,T,Z⟩,⟨i0,U,i2⟩,bN.cut O (bN.cut Y (bN.cut r2 ((iG E))))⟩
def alw(x:kZ):Prop:=cx x.next/\cx x.every/\cx x.wait
def aCC{H:Type}{cW:TypeId×Value->H}{w:World}:aX cW Tryz.prog w 60 .nM alw:=λn cs x C=>by
 have D:=Tryz.underlying60;obtain⟨L,i0,O⟩:=aX.part D C (i:=0) rfl oI (off:=0) (k:=1) rfl (by kernel_rfl);obtain⟨T,U,Y⟩:=aX.part D C (i:=1) rfl oI (off:=1) (k:=1) rfl (by kernel_rfl);obtain⟨Z,i2,r2⟩:=aX.part D C (i:=2) rfl oI (off:=2) (k:=1) rfl (by kernel_rfl);have E:=aX.len D C;have hc:Tryz.prog.cellsOf 60=3:=by kernel_rfl
 rw[hc]at E;exact⟨⟨L,T,Z⟩,⟨i0,U,i2⟩,bN.cut O (bN.cut Y (bN.cut r2 ((iG E))))⟩
def ZY(x:bU):Prop:=cx x.line/\cx x.code/\cx x.times
def aCD{H:Type}{cW:TypeId×Value->H}{w:World}:aX cW Tryz.prog w 285 .eo ZY:=λn cs x C=>by
 have D:=Tryz.underlying285;obtain⟨L,i0,O⟩:=aX.part D C (i:=0) rfl oI (off:=0) (k:=1) rfl (by kernel_rfl);obtain⟨T,U,Y⟩:=aX.part D C (i:=1) rfl oI (off:=1) (k:=1) rfl (by kernel_rfl);obtain⟨Z,i2,r2⟩:=aX.part D C (i:=2) rfl oI (off:=2) (k:=1) rfl (by kernel_rfl);have E:=aX.len D C;have hc:Tryz.prog.cellsOf 285=3:=by kernel_rfl
 rw[hc]at E;exact⟨⟨L,T,Z⟩,⟨i0,U,i2⟩,bN.cut O (bN.cut Y (bN.cut r2 ((iG E))))⟩
def alx(x:aG):Prop:=cx x.kind/\cx x.ay/\cx x.row/\cx x.bR
def aCE{H:Type}{cW:TypeId×Value->H}{w:World}:aX cW Tryz.prog w 289 .Command alx:=λn cs x C=>by
 have D:=Tryz.underlying289;obtain⟨L,i0,O⟩:=aX.part D C (i:=0) rfl oI (off:=0) (k:=1) rfl (by kernel_rfl);obtain⟨T,U,Y⟩:=aX.part D C (i:=1) rfl oI (off:=1) (k:=1) rfl (by kernel_rfl);obtain⟨Z,i2,r2⟩:=aX.part D C (i:=2) rfl oI (off:=2) (k:=1) rfl (by kernel_rfl);obtain⟨a3,i3,r3⟩:=aX.part D C (i:=3) rfl oI (off:=3) (k:=1) rfl (by kernel_rfl);have E:=aX.len D C;have hc:Tryz.prog.cellsOf 289=4:=by kernel_rfl
 rw[hc]at E;exact⟨⟨L,T,Z,a3⟩,⟨i0,U,i2,i3⟩,bN.cut O (bN.cut Y (bN.cut r2 (bN.cut r3 ((iG E)))))⟩
def ZZ(x:cP):Prop:=cx x.at_/\alx x.cmd
def aCF{H:Type}{cW:TypeId×Value->H}{w:World}:aX cW Tryz.prog w 291 .Event ZZ:=λn cs x C=>by
 have D:=Tryz.underlying291;obtain⟨L,i0,O⟩:=aX.part D C (i:=0) rfl oI (off:=0) (k:=1) rfl (by kernel_rfl);obtain⟨T,U,Y⟩:=aX.part D C (i:=1) rfl aCE (off:=1) (k:=4) rfl (by kernel_rfl);have E:=aX.len D C;have Z:Tryz.prog.cellsOf 291=5:=by kernel_rfl
 rw[Z]at E;exact⟨⟨L,T⟩,⟨i0,U⟩,bN.cut O (bN.cut Y ((iG E)))⟩
def Z0(x:cX):Prop:=cx x.id/\cx x.at_/\cx x.data/\cx x.code
def aCG{H:Type}{cW:TypeId×Value->H}{w:World}:aX cW Tryz.prog w 295 .gd Z0:=λn cs x C=>by
 have D:=Tryz.underlying295;obtain⟨L,i0,O⟩:=aX.part D C (i:=0) rfl oI (off:=0) (k:=1) rfl (by kernel_rfl);obtain⟨T,U,Y⟩:=aX.part D C (i:=1) rfl oI (off:=1) (k:=1) rfl (by kernel_rfl);obtain⟨Z,i2,r2⟩:=aX.part D C (i:=2) rfl oI (off:=2) (k:=1) rfl (by kernel_rfl);obtain⟨a3,i3,r3⟩:=aX.part D C (i:=3) rfl oI (off:=3) (k:=1) rfl (by kernel_rfl);have E:=aX.len D C;have hc:Tryz.prog.cellsOf 295=4:=by kernel_rfl
 rw[hc]at E;exact⟨⟨L,T,Z,a3⟩,⟨i0,U,i2,i3⟩,bN.cut O (bN.cut Y (bN.cut r2 (bN.cut r3 ((iG E)))))⟩
def MJ(x:ax):Prop:=als x.config/\ZQ x.box/\cx x.now/\ZS x.bq/\ZT x.ready/\ZU x.array/\ZV x.spare/\ZW x.aP/\(x.bH.length<=maxLen/\∀y∈x.bH,S9 y)/\(x.guard.length<=maxLen/\∀y∈x.guard,cx y)/\(x.pending.length<=maxLen/\∀y∈x.pending,ZN y)/\(x.queue.length<=maxLen/\∀y∈x.queue,ZM y)/\(x.shares.length<=maxLen/\∀y∈x.shares,ZX y)/\alu x.drain/\alv x.aZ/\alw x.cK/\(x.errors.length<=maxLen/\∀y∈x.errors,ZY y)/\(x.trace.length<=maxLen/\∀y∈x.trace,ZZ y)/\(x.cT.length<=maxLen/\∀y∈x.cT,Z0 y)
def aCH{H:Type}{cW:TypeId×Value->H}{w:World}:aX cW Tryz.prog w 65 .cN MJ:=λn cs x C=>by
 have D:=Tryz.underlying65;obtain⟨L,i0,O⟩:=aX.part D C (i:=0) rfl aCp (off:=0) (k:=28) rfl (by kernel_rfl);obtain⟨T,U,Y⟩:=aX.part D C (i:=1) rfl aCq (off:=28) (k:=17) rfl (by kernel_rfl);obtain⟨Z,i2,r2⟩:=aX.part D C (i:=2) rfl oI (off:=45) (k:=1) rfl (by kernel_rfl);obtain⟨a3,i3,r3⟩:=aX.part D C (i:=3) rfl aCs (off:=46) (k:=2) rfl (by kernel_rfl);obtain⟨a4,i4,r4⟩:=aX.part D C (i:=4) rfl aCt (off:=48) (k:=2) rfl (by kernel_rfl);obtain⟨a5,i5,r5⟩:=aX.part D C (i:=5) rfl aCv (off:=50) (k:=3) rfl (by kernel_rfl);obtain⟨a6,i6,r6⟩:=aX.part D C (i:=6) rfl aCw (off:=53) (k:=2) rfl (by kernel_rfl);obtain⟨a7,i7,r7⟩:=aX.part D C (i:=7) rfl aCx (off:=55) (k:=3) rfl (by kernel_rfl);obtain⟨a8,i8,r8⟩:=aX.part D C (i:=8) rfl (aX.sl Tryz.underlying51 (by kernel_rfl) aCy) (off:=58) (k:=1) rfl (by kernel_rfl);obtain⟨a9,i9,r9⟩:=aX.part D C (i:=9) rfl (aX.sl Tryz.underlying32 (by kernel_rfl) oI) (off:=59) (k:=1) rfl (by kernel_rfl);obtain⟨Gi,i10,uq⟩:=aX.part D C (i:=10) rfl (aX.sl Tryz.underlying52 (by kernel_rfl) aBR) (off:=60) (k:=1) rfl (by kernel_rfl);obtain⟨Gj,i11,ur⟩:=aX.part D C (i:=11) rfl (aX.sl Tryz.underlying53 (by kernel_rfl) aBQ) (off:=61) (k:=1) rfl (by kernel_rfl);obtain⟨Gk,i12,uv⟩:=aX.part D C (i:=12) rfl (aX.sl Tryz.underlying54 (by kernel_rfl) aCz) (off:=62) (k:=1) rfl (by kernel_rfl);obtain⟨S6,i13,uw⟩:=aX.part D C (i:=13) rfl aCA (off:=63) (k:=3) rfl (by kernel_rfl);obtain⟨S7,i14,uy⟩:=aX.part D C (i:=14) rfl aCB (off:=66) (k:=3) rfl (by kernel_rfl);obtain⟨Mq,i15,uz⟩:=aX.part D C (i:=15) rfl aCC (off:=69) (k:=3) rfl (by kernel_rfl);obtain⟨Gl,i16,uA⟩:=aX.part D C (i:=16) rfl (aX.sl Tryz.underlying61 (by kernel_rfl) aCD) (off:=72) (k:=1) rfl (by kernel_rfl);obtain⟨Ta,i17,Z1⟩:=aX.part D C (i:=17) rfl (aX.sl Tryz.underlying62 (by kernel_rfl) aCF) (off:=73) (k:=1) rfl (by kernel_rfl);obtain⟨Z2,i18,r18⟩:=aX.part D C (i:=18) rfl (aX.sl Tryz.underlying63 (by kernel_rfl) aCG) (off:=74) (k:=1) rfl (by kernel_rfl);have E:=aX.len D C;have hc:Tryz.prog.cellsOf 65=75:=by kernel_rfl
 rw[hc]at E;exact⟨⟨L,T,Z,a3,a4,a5,a6,a7,a8,a9,Gi,Gj,Gk,S6,S7,Mq,Gl,Ta,Z2⟩,⟨i0,U,i2,i3,i4,i5,i6,i7,i8,i9,i10,i11,i12,i13,i14,i15,i16,i17,i18⟩,bN.cut O (bN.cut Y (bN.cut r2 (bN.cut r3 (bN.cut r4 (bN.cut r5 (bN.cut r6 (bN.cut r7 (bN.cut r8 (bN.cut r9 (bN.cut uq (bN.cut ur (bN.cut uv (bN.cut uw (bN.cut uy (bN.cut uz (bN.cut uA (bN.cut Z1 (bN.cut r18 ((iG E))))))))))))))))))))⟩
def AN(x:gI):Prop:=AM x.bI/\AM x.next
def MK(x:cy):Prop:=(x.aB.length<=1048576)
def Tb(x:dn):Prop:=(x.last.length<=1048576)/\(x.bx.length<=1048576)
def uB(x:bK):Prop:=(x.symbols.length<=1048576)
def Du(x:cZ):Prop:=(x.cells.length<=1048576/\∀y∈x.cells,uB y)/\(x.bz.length<=1048576)/\(x.bu.length<=1048576)
def Tc(x:eZ):Prop:=(x.map.length<=1048576)
def v9(x:de):Prop:=(x.aH.length<=1048576)
def hD(x:bQ):Prop:=(x.rows.length<=1048576)/\(x.counts.length<=1048576)
def eK(x:ax):Prop:=AN x.box/\MK x.bq/\Tb x.ready/\Du x.array/\Tc x.spare/\v9 x.aP/\(x.bH.length<=1048576/\∀y∈x.bH,hD y)/\(x.guard.length<=1048576)/\(x.pending.length<=1048576)/\(x.queue.length<=1048576)/\(x.shares.length<=1048576)/\(x.errors.length<=1048576)/\(x.trace.length<=1048576)/\(x.cT.length<=1048576)
def aCI(x:aU):Pd x=some x:=by
 unfold Pd;rfl
def aCJ(x:aU):PL x x=some true:=by
 unfold PL;simp only[ak,dV,dR,bB,aq]
def aCK(x:c9):Pe x=some x:=by
 unfold Pe;rfl
def aCL(x:c9):PN x x=some true:=by
 unfold PN;simp only[ak,dV,dR,bB,aq]
def aCM(x:jE):Pf x=some x:=by
 unfold Pf;rfl
def aCN(x:jE):PO x x=some true:=by
 unfold PO;simp only[ak,dV,dR,bB,aq]
def aCO(x:iY):Pg x=some x:=by
 unfold Pg;rfl
def aCP(x:iY):PR x x=some true:=by
 unfold PR;simp only[ak,dV,dR,bB,aq]
def toConfig(x:ia):Ph x=some x:=by
 unfold Ph;rw[aCI x.aE,ak,aCK x.ck,ak,aCM x.mapping,ak,aCO x.dO,ak]
def aCQ(x:ia):PS x x=some true:=by
 unfold PS;simp only[aCJ x.aE,aCL x.ck,aCN x.mapping,aCP x.dO,ak,dV,dR,bB,aq]
def aCR(x:gI)(h:ZQ x){n:Int}(C:0<=n)(D:n<=1048576):Sz n (AN x) (O4 x n):=by
 obtain⟨i0,E,i2⟩:=h;unfold O4
 refine Sz.bind (alc x.bI i0 C D) λL O b0 T=>?_
 refine Sz.bind (Sz.le (alc x.next E (n:=L) O (by omega)) (by omega)) λy1 U Y Z=>?_
 exact Sz.done U Y ⟨T,Z⟩
def aCS(x:gI)(C:AN x):Pm x=some x:=by
 obtain⟨D,E⟩:=C;unfold Pm;rw[ald x.bI D,ak,ald x.next E,ak]
def aCT(x:gI)(C:AN x):PU x x=some true:=by
 obtain⟨D,E⟩:=C;unfold PU;simp only[ale x.bI D,ale x.next E,ak,dV,dR,bB,aq]
def aCU(x:cR):IM x=some x:=by
 unfold IM;rfl
def aCV(x:cR):IY x x=some true:=by
 unfold IY;simp only[ak,dV,dR,bB,aq]
def aCW(x:aa cR)(h:(x.length<=maxLen/\∀ y∈x,ZR y)){n:Int}(C:0<=n)(D:n<=1048576):Sz n (x.length<=1048576) (XK x n):=by
 exact AL h.1 C D
def aCX(x:aa cR)(C:(x.length<=1048576)):Pn x=some x:=by
 have E:=C;have D:=v7 (⟨false,(0:Int)⟩:cR) IM x (λy L=>aCU y) (by omega);unfold Pn bk;rw[bL ⟨by omega,by omega,by omega⟩]
 refine(aY (λo=>Option.bind o _) D).trans ?_
 rfl
def aCY(x:aa cR)(C:(x.length<=1048576)):PW x x=some true:=by
 have E:=C;have D:=v8 IY x (λy L=>aCV y) (by omega);unfold PW bE;rw[show ((x.length:Int) != (x.length:Int))=false by simp,aq]
 refine(aY (λo=>Option.bind o _) D).trans ?_
 rfl
def aCZ(x:cy)(h:ZS x){n:Int}(C:0<=n)(D:n<=1048576):Sz n (MK x) (O5 x n):=by
 obtain⟨i0,T⟩:=h;unfold O5
 refine Sz.bind (aCW x.aB i0 C D) λU E L O=>?_
 exact Sz.done E L O
def aC0(x:cy)(C:MK x):Po x=some x:=by
 have D:=C;unfold Po;rw[aCX x.aB D,ak]
def aC1(x:cy)(C:MK x):PX x x=some true:=by
 have D:=C;unfold PX;simp only[aCY x.aB D,ak,dV,dR,bB,aq]
def aC2(x:dn)(h:ZT x){n:Int}(C:0<=n)(D:n<=1048576):Sz n (Tb x) (O6 x n):=by
 obtain⟨i0,E⟩:=h;unfold O6
 refine Sz.bind (uh x.last i0 C D) λL O b0 T=>?_
 refine Sz.bind (Sz.le (uh x.bx E (n:=L) O (by omega)) (by omega)) λy1 U Y Z=>?_
 exact Sz.done U Y ⟨T,Z⟩
def aC3(x:dn)(C:Tb x):Pp x=some x:=by
 obtain⟨D,E⟩:=C;unfold Pp;rw[uj x.last D,ak,uj x.bx E,ak]
def aC4(x:dn)(C:Tb x):PY x x=some true:=by
 obtain⟨D,E⟩:=C;unfold PY;simp only[uk x.last D,uk x.bx E,ak,dV,dR,bB,aq]
def aC5(x:bK)(h:S8 x){n:Int}(C:0<=n)(D:n<=1048576):Sz n (uB x) (IJ x n):=by
 obtain⟨i0,T⟩:=h;unfold IJ
 refine Sz.bind (uh x.symbols i0 C D) λU E L O=>?_
 exact Sz.done E L O
def toCell(x:bK)(C:uB x):IN x=some x:=by
 have D:=C;unfold IN;rw[uj x.symbols D,ak]
def aC6(x:bK)(C:uB x):IZ x x=some true:=by
 have D:=C;unfold IZ;simp only[uk x.symbols D,ak,dV,dR,bB,aq]
def aC7(x:aa bK)(h:(x.length<=maxLen/\∀ y∈x,S8 y)){n:Int}(O:0<=n)(T:n<=1048576):Sz n (x.length<=1048576/\∀ y∈x,uB y) (O7 x n):=by
 have C:=h.1;unfold maxLen at C;unfold O7 bE;rw[aO];by_cases c:n-(x.length:Int)<0
 ·rw[aW c];exact⟨-1,rfl,.inl (by omega)⟩
 ·rw[aV c,aq];exact Sz.imp (Sz.le (alb IJ x (Q:=λx=>uB x) (by omega) (λy D m E L=>aC5 y (h.2 y D) E L) (n:=n-(x.length:Int)) (by omega) (by omega)) (by omega)) λq=>⟨by omega,q⟩
def aC8(x:aa bK)(C:(x.length<=1048576/\∀ y∈x,uB y)):Pr x=some x:=by
 have L:=C.1;have D:=v7 (⟨[],false⟩:bK) IN x (λy E=>toCell y (C.2 y E)) (by omega);unfold Pr bk;rw[bL ⟨by omega,by omega,by omega⟩]
 refine(aY (λo=>Option.bind o _) D).trans ?_
 rfl
def aC9(x:aa bK)(C:(x.length<=1048576/\∀ y∈x,uB y)):PZ x x=some true:=by
 have L:=C.1;have D:=v8 IZ x (λy E=>aC6 y (C.2 y E)) (by omega);unfold PZ bE;rw[show ((x.length:Int) != (x.length:Int))=false by simp,aq]
 refine(aY (λo=>Option.bind o _) D).trans ?_
 rfl
def aDa(x:cZ)(h:ZU x){n:Int}(C:0<=n)(D:n<=1048576):Sz n (Du x) (O8 x n):=by
 obtain⟨i0,E,L⟩:=h;unfold O8
 refine Sz.bind (aC7 x.cells i0 C D) λO T b0 U=>?_
 refine Sz.bind (Sz.le (uh x.bz E (n:=O) T (by omega)) (by omega)) λY Z b1 z1=>?_
 refine Sz.bind (Sz.le (uh x.bu L (n:=Y) Z (by omega)) (by omega)) λy2 a2 b2 z2=>?_
 exact Sz.done a2 b2 ⟨U,z1,z2⟩
def toArray(x:cZ)(C:Du x):Pu x=some x:=by
 obtain⟨D,E,L⟩:=C;unfold Pu;rw[aC8 x.cells D,ak,uj x.bz E,ak,uj x.bu L,ak]
def aDb(x:cZ)(C:Du x):P0 x x=some true:=by
 obtain⟨D,E,L⟩:=C;unfold P0;simp only[aC9 x.cells D,uk x.bz E,uk x.bu L,ak,dV,dR,bB,aq]
def aDc(x:eZ)(h:ZV x){n:Int}(C:0<=n)(D:n<=1048576):Sz n (Tc x) (O9 x n):=by
 obtain⟨i0,E⟩:=h;unfold O9
 refine Sz.bind (uh x.map E C D) λU L O T=>?_
 exact Sz.done L O T
def aDd(x:eZ)(C:Tc x):Pv x=some x:=by
 have D:=C;unfold Pv;rw[uj x.map D,ak]
def aDe(x:eZ)(C:Tc x):P1 x x=some true:=by
 have D:=C;unfold P1;simp only[uk x.map D,ak,dV,dR,bB,aq]
def aDf(x:de)(h:ZW x){n:Int}(C:0<=n)(D:n<=1048576):Sz n (v9 x) (Pa x n):=by
 obtain⟨i0,T,U⟩:=h;unfold Pa
 refine Sz.bind (uh x.aH i0 C D) λY E L O=>?_
 exact Sz.done E L O
def aDg(x:de)(C:v9 x):Pw x=some x:=by
 have D:=C;unfold Pw;rw[uj x.aH D,ak]
def aDh(x:de)(C:v9 x):P2 x x=some true:=by
 have D:=C;unfold P2;simp only[uk x.aH D,ak,dV,dR,bB,aq]
def aDi(x:bQ)(h:S9 x){n:Int}(C:0<=n)(D:n<=1048576):Sz n (hD x) (IK x n):=by
 obtain⟨i0,E,i2⟩:=h;unfold IK
 refine Sz.bind (uh x.rows i0 C D) λL O b0 T=>?_
 refine Sz.bind (Sz.le (uh x.counts E (n:=L) O (by omega)) (by omega)) λy1 U Y Z=>?_
 exact Sz.done U Y ⟨T,Z⟩
def aDj(x:bQ)(C:hD x):IP x=some x:=by
 obtain⟨D,E⟩:=C;unfold IP;rw[uj x.rows D,ak,uj x.counts E,ak]
def aDk(x:bQ)(C:hD x):I0 x x=some true:=by
 obtain⟨D,E⟩:=C;unfold I0;simp only[uk x.rows D,uk x.counts E,ak,dV,dR,bB,aq]
def aDl(x:aa bQ)(h:(x.length<=maxLen/\∀ y∈x,S9 y)){n:Int}(O:0<=n)(T:n<=1048576):Sz n (x.length<=1048576/\∀ y∈x,hD y) (Pb x n):=by
 have C:=h.1;unfold maxLen at C;unfold Pb bE;rw[aO];by_cases c:n-(x.length:Int)<0
 ·rw[aW c];exact⟨-1,rfl,.inl (by omega)⟩
 ·rw[aV c,aq];exact Sz.imp (Sz.le (alb IK x (Q:=λx=>hD x) (by omega) (λy D m E L=>aDi y (h.2 y D) E L) (n:=n-(x.length:Int)) (by omega) (by omega)) (by omega)) λq=>⟨by omega,q⟩
def aDm(x:aa bQ)(C:(x.length<=1048576/\∀ y∈x,hD y)):Px x=some x:=by
 have L:=C.1;have D:=v7 (⟨[],[],(0:Int)⟩:bQ) IP x (λy E=>aDj y (C.2 y E)) (by omega);unfold Px bk;rw[bL ⟨by omega,by omega,by omega⟩]
 refine(aY (λo=>Option.bind o _) D).trans ?_
 rfl
def aDn(x:aa bQ)(C:(x.length<=1048576/\∀ y∈x,hD y)):P3 x x=some true:=by
 have L:=C.1;have D:=v8 I0 x (λy E=>aDk y (C.2 y E)) (by omega);unfold P3 bE;rw[show ((x.length:Int) != (x.length:Int))=false by simp,aq]
 refine(aY (λo=>Option.bind o _) D).trans ?_
 rfl
def aDo(x:aa aI)(h:(x.length<=maxLen/\∀ y∈x,ZN y)){n:Int}(C:0<=n)(D:n<=1048576):Sz n (x.length<=1048576) (XL x n):=by
 exact AL h.1 C D
def aDp(x:aa aI)(C:(x.length<=1048576)):Py x=some x:=by
 have E:=C;have D:=v7 (⟨(0:Int),(0:Int),(0:Int)⟩:aI) IQ x (λy L=>aBV y) (by omega);unfold Py bk;rw[bL ⟨by omega,by omega,by omega⟩]
 refine(aY (λo=>Option.bind o _) D).trans ?_
 rfl
def aDq(x:aa aI)(C:(x.length<=1048576)):P4 x x=some true:=by
 have E:=C;have D:=v8 I1 x (λy L=>aBW y) (by omega);unfold P4 bE;rw[show ((x.length:Int) != (x.length:Int))=false by simp,aq]
 refine(aY (λo=>Option.bind o _) D).trans ?_
 rfl
def aDr(x:aa bA)(h:(x.length<=maxLen/\∀ y∈x,ZM y)){n:Int}(C:0<=n)(D:n<=1048576):Sz n (x.length<=1048576) (XM x n):=by
 exact AL h.1 C D
def aDs(x:aa bA)(C:(x.length<=1048576)):Pz x=some x:=by
 have E:=C;have D:=v7 (⟨(0:Int),(0:Int),(0:Int),false,(0:Int),(0:Int)⟩:bA) IS x (λy L=>aBT y) (by omega);unfold Pz bk;rw[bL ⟨by omega,by omega,by omega⟩]
 refine(aY (λo=>Option.bind o _) D).trans ?_
 rfl
def aDt(x:aa bA)(C:(x.length<=1048576)):P5 x x=some true:=by
 have E:=C;have D:=v8 I2 x (λy L=>aBU y) (by omega);unfold P5 bE;rw[show ((x.length:Int) != (x.length:Int))=false by simp,aq]
 refine(aY (λo=>Option.bind o _) D).trans ?_
 rfl
def aDu(x:bV):IT x=some x:=by
 unfold IT;rfl
def aDv(x:bV):I3 x x=some true:=by
 unfold I3;simp only[ak,dV,dR,bB,aq]
def aDw(x:aa bV)(h:(x.length<=maxLen/\∀ y∈x,ZX y)){n:Int}(C:0<=n)(D:n<=1048576):Sz n (x.length<=1048576) (XN x n):=by
 exact AL h.1 C D
def aDx(x:aa bV)(C:(x.length<=1048576)):PB x=some x:=by
 have E:=C;have D:=v7 (⟨(0:Int),(0:Int)⟩:bV) IT x (λy L=>aDu y) (by omega);unfold PB bk;rw[bL ⟨by omega,by omega,by omega⟩]
 refine(aY (λo=>Option.bind o _) D).trans ?_
 rfl
def aDy(x:aa bV)(C:(x.length<=1048576)):P6 x x=some true:=by
 have E:=C;have D:=v8 I3 x (λy L=>aDv y) (by omega);unfold P6 bE;rw[show ((x.length:Int) != (x.length:Int))=false by simp,aq]
 refine(aY (λo=>Option.bind o _) D).trans ?_
 rfl
def aDz(x:gB):PC x=some x:=by
 unfold PC;rfl
def aDA(x:gB):P7 x x=some true:=by
 unfold P7;simp only[ak,dV,dR,bB,aq]
def aDB(x:eC):PD x=some x:=by
 unfold PD;rfl
def aDC(x:eC):P8 x x=some true:=by
 unfold P8;simp only[ak,dV,dR,bB,aq]
def aDD(x:kZ):PE x=some x:=by
 unfold PE;rfl
def aDE(x:kZ):P9 x x=some true:=by
 unfold P9;simp only[ak,dV,dR,bB,aq]
def aDF(x:bU):IU x=some x:=by
 unfold IU;rfl
def aDG(x:bU):I4 x x=some true:=by
 unfold I4;simp only[ak,dV,dR,bB,aq]
def aDH(x:aa bU)(h:(x.length<=maxLen/\∀ y∈x,ZY y)){n:Int}(C:0<=n)(D:n<=1048576):Sz n (x.length<=1048576) (XO x n):=by
 exact AL h.1 C D
def aDI(x:aa bU)(C:(x.length<=1048576)):PF x=some x:=by
 have E:=C;have D:=v7 (⟨(0:Int),(0:Int),(0:Int)⟩:bU) IU x (λy L=>aDF y) (by omega);unfold PF bk;rw[bL ⟨by omega,by omega,by omega⟩]
 refine(aY (λo=>Option.bind o _) D).trans ?_
 rfl
def aDJ(x:aa bU)(C:(x.length<=1048576)):Qa x x=some true:=by
 have E:=C;have D:=v8 I4 x (λy L=>aDG y) (by omega);unfold Qa bE;rw[show ((x.length:Int) != (x.length:Int))=false by simp,aq]
 refine(aY (λo=>Option.bind o _) D).trans ?_
 rfl
def aDK(x:aG):PG x=some x:=by
 unfold PG;rfl
def aDL(x:aG):Qb x x=some true:=by
 unfold Qb;simp only[ak,dV,dR,bB,aq]
def aDM(x:cP):IV x=some x:=by
 unfold IV;rw[aDK x.cmd,ak]
def aDN(x:cP):I5 x x=some true:=by
 unfold I5;simp only[aDL x.cmd,ak,dV,dR,bB,aq]
def aDO(x:aa cP)(h:(x.length<=maxLen/\∀ y∈x,ZZ y)){n:Int}(C:0<=n)(D:n<=1048576):Sz n (x.length<=1048576) (XP x n):=by
 exact AL h.1 C D
def aDP(x:aa cP)(C:(x.length<=1048576)):PI x=some x:=by
 have E:=C;have D:=v7 (⟨(0:Int),⟨(0:Int),(0:Int),(0:Int),(0:Int)⟩⟩:cP) IV x (λy L=>aDM y) (by omega);unfold PI bk;rw[bL ⟨by omega,by omega,by omega⟩]
 refine(aY (λo=>Option.bind o _) D).trans ?_
 rfl
def aDQ(x:aa cP)(C:(x.length<=1048576)):Qc x x=some true:=by
 have E:=C;have D:=v8 I5 x (λy L=>aDN y) (by omega);unfold Qc bE;rw[show ((x.length:Int) != (x.length:Int))=false by simp,aq]
 refine(aY (λo=>Option.bind o _) D).trans ?_
 rfl
def aDR(x:cX):IW x=some x:=by
 unfold IW;rfl
def aDS(x:cX):I6 x x=some true:=by
 unfold I6;simp only[ak,dV,dR,bB,aq]
def aDT(x:aa cX)(h:(x.length<=maxLen/\∀ y∈x,Z0 y)){n:Int}(C:0<=n)(D:n<=1048576):Sz n (x.length<=1048576) (XQ x n):=by
 exact AL h.1 C D
def aDU(x:aa cX)(C:(x.length<=1048576)):PJ x=some x:=by
 have E:=C;have D:=v7 (⟨(0:Int),(0:Int),(0:Int),(0:Int)⟩:cX) IW x (λy L=>aDR y) (by omega);unfold PJ bk;rw[bL ⟨by omega,by omega,by omega⟩]
 refine(aY (λo=>Option.bind o _) D).trans ?_
 rfl
def aDV(x:aa cX)(C:(x.length<=1048576)):Qd x x=some true:=by
 have E:=C;have D:=v8 I6 x (λy L=>aDS y) (by omega);unfold Qd bE;rw[show ((x.length:Int) != (x.length:Int))=false by simp,aq]
 refine(aY (λo=>Option.bind o _) D).trans ?_
 rfl
def aDW(x:ax)(h:MJ x){n:Int}(C:0<=n)(D:n<=1048576):Sz n (eK x) (Pc x n):=by
 obtain⟨i0,E,i2,L,O,T,U,Y,Z,i9,i10,i11,i12,i13,i14,i15,i16,i17,i18⟩:=h;unfold Pc
 refine Sz.bind (aCR x.box E C D) λy1 a1 b1 z1=>?_
 refine Sz.bind (Sz.le (aCZ x.bq L (n:=y1) a1 (by omega)) (by omega)) λy3 a3 b3 z3=>?_
 refine Sz.bind (Sz.le (aC2 x.ready O (n:=y3) a3 (by omega)) (by omega)) λy4 a4 b4 z4=>?_
 refine Sz.bind (Sz.le (aDa x.array T (n:=y4) a4 (by omega)) (by omega)) λy5 a5 b5 z5=>?_
 refine Sz.bind (Sz.le (aDc x.spare U (n:=y5) a5 (by omega)) (by omega)) λy6 a6 b6 z6=>?_
 refine Sz.bind (Sz.le (aDf x.aP Y (n:=y6) a6 (by omega)) (by omega)) λy7 a7 b7 z7=>?_
 refine Sz.bind (Sz.le (aDl x.bH Z (n:=y7) a7 (by omega)) (by omega)) λy8 a8 b8 z8=>?_
 refine Sz.bind (Sz.le (uh x.guard i9 (n:=y8) a8 (by omega)) (by omega)) λy9 a9 b9 z9=>?_
 refine Sz.bind (Sz.le (aDo x.pending i10 (n:=y9) a9 (by omega)) (by omega)) λgR Gi b10 jd=>?_
 refine Sz.bind (Sz.le (aDr x.queue i11 (n:=gR) Gi (by omega)) (by omega)) λeM Gj b11 lR=>?_
 refine Sz.bind (Sz.le (aDw x.shares i12 (n:=eM) Gj (by omega)) (by omega)) λgD Gk b12 mC=>?_
 refine Sz.bind (Sz.le (aDH x.errors i16 (n:=gD) Gk (by omega)) (by omega)) λkF Gl b16 ML=>?_
 refine Sz.bind (Sz.le (aDO x.trace i17 (n:=kF) Gl (by omega)) (by omega)) λgM Ta b17 CQ=>?_
 refine Sz.bind (Sz.le (aDT x.cT i18 (n:=gM) Ta (by omega)) (by omega)) λjT Z2 b18 MM=>?_
 exact Sz.done Z2 b18 ⟨z1,z3,z4,z5,z6,z7,z8,z9,jd,lR,mC,ML,CQ,MM⟩
def aDX(x:ax)(C:eK x):Ci x=some x:=by
 obtain⟨D,E,L,O,T,U,Y,Z,Z3,Z4,Z5,Z6,Z7,Z8⟩:=C;unfold Ci;rw[toConfig x.config,ak,aCS x.box D,ak,aC0 x.bq E,ak,aC3 x.ready L,ak,toArray x.array O,ak,aDd x.spare T,ak,aDg x.aP U,ak,aDm x.bH Y,ak,uj x.guard Z,ak,aDp x.pending Z3,ak,aDs x.queue Z4,ak,aDx x.shares Z5,ak,aDz x.drain,ak,aDB x.aZ,ak,aDD x.cK,ak,aDI x.errors Z6,ak,aDP x.trace Z7,ak,aDU x.cT Z8,ak]
def aly(x:ax)(C:eK x):Cj x x=some true:=by
 obtain⟨D,E,L,O,T,U,Y,Z,Z3,Z4,Z5,Z6,Z7,Z8⟩:=C;unfold Cj;simp only[aCQ x.config,aCT x.box D,aC1 x.bq E,aC4 x.ready L,aDb x.array O,aDe x.spare T,aDh x.aP U,aDn x.bH Y,uk x.guard Z,aDq x.pending Z3,aDt x.queue Z4,aDy x.shares Z5,aDA x.drain,aDC x.aZ,aDE x.cK,aDJ x.errors Z6,aDQ x.trace Z7,aDV x.cT Z8,ak,dV,dR,bB,aq]
def pg(c:ia)(p:fz):Bool:=(vQ c p).getD false
def Td(c:ia)(p:fz)(C:p.weights.length<1073741823):vQ c p=some (pg c p):=by
 obtain⟨b,e,_⟩:=Zt c p C;unfold pg;rw[e];rfl
def alz(c:ia)(p:fz)(C:p.weights.length<1073741823):ES c p=some (pg c p):=by
 have⟨b,e,D,_⟩:=aA7 c p C;unfold pg;simp_all
def ba1(a x:Bool):(bif a then some x else some false)=some (a&&x):=by cases a<;>rfl
def ba2(a x:Bool):(bif !a then some false else some x)=some (a&&x):=by cases a<;>rfl
def ba3(a b:Int)(x:Bool):(bif a != b then some false else some x)=some (a==b&&x):=by
 rw[bne];cases a==b<;>rfl
theorem ba4(p:Prop)[Decidable p](x:Bool):(bif decide p then some false else some x)=some (!decide p&&x):=by cases decide p<;>rfl
def hG(c:ax):Bool:=
 pg c.config c.box.bI&&(pg c.config c.box.next&&(aL c.now 0 1000000&&(lP c.config.aE c.bq&&(kW c.config.aE c.ready&&(mz c.config.aE c.array&&(nt c.config.aE c.spare&&(c.spare.cr==c.config.cr&&((fB c.aP&&sH c)&&(o8 (fH (jq c.config.aE c.spare)) c.queue&&(iQ c.shares&&((c.shares.length:Int)==4&&(o6 c.drain&&(jX c.aZ&&(c.aZ.state==c.bq.aZ&&(!decide (c.aZ.since > c.now)&&(aL c.cK.every 1 100000&&(aL c.cK.wait 1 c.cK.every&&(aL c.cK.next 0 (W6 (fH c.config.aE-1))&&(kH c.errors&&(decide ((c.trace.length:Int)<=2000)&&decide ((c.cT.length:Int)<=400)))))))))))))))))))))
def Te(c:ax)(C:eK c):CZ c=some (hG c):=by
 have⟨⟨D,E⟩,Y,⟨Z,z5⟩,⟨⟨z6,L⟩,z7,z8⟩,z9,O,⟨lR,Z9⟩,mC,ou,ny,pn,ML,CQ,MM⟩:=C;unfold AM at D E;have T:∀ x∈c.array.cells,x.symbols.length<1073741824:=λx U=>by
  have:=L x U;unfold uB at this;omega
 unfold v9 at O;unfold CZ hG;simp only[Td _ _ (show c.box.bI.weights.length<1073741823 by omega),Td _ _ (show c.box.next.weights.length<1073741823 by omega),dK,akF,Zy,akt _ _ T,akP,aBt _ (show c.aP.aH.length<1073741824 by omega),ZA,Mh,aBe _ _ (show c.queue.length<1073741824 by omega),Mt _ (show c.shares.length<1073741824 by omega),SR,SW,akJ _ (show c.errors.length<1073741824 by omega),ak,ba1,ba2,ba3,ba4]
def aDY(c:ax)(C:eK c):QG c=some (hG c):=by
 obtain⟨⟨D,E⟩,Y,⟨Z,z5⟩,⟨⟨z6,L⟩,z7,z8⟩,z9,O,⟨lR,Z9⟩,mC,ou,ny,pn,ML,CQ,MM⟩:=C;unfold AM at D E;have T:∀ x∈c.array.cells,x.symbols.length<1073741824:=λx U=>by
  have:=L x U;unfold uB at this;omega
 unfold v9 at O;unfold QG hG;simp only[alz _ _ (show c.box.bI.weights.length<1073741823 by omega),alz _ _ (show c.box.next.weights.length<1073741823 by omega),eJ,aA8,akK,aB0 _ _ T,akQ,SU _ (show c.aP.aH.length<1073741824 by omega),aBs,aBr,Mi,aBc,Zq _ (show c.shares.length<1073741824 by omega),SS,SX,akI,ak,ba1,ba2,ba3,ba4,Bool.and_assoc]
def aDZ{H:Type}{cW:TypeId×Value->H}{w:World}{base:Nat}{v:Value}{d:DataW H}{p:aa MemPlace}(C:Value.okWide Tryz.prog w .any base 65 v)(h:DataW.Trod cW Tryz.prog w 0 (λ_=>true) true 65 v d p):Xn .cN MJ w v:=
 aru aCH Tryz.underlying65 C h
def aaa{g:aU}{a:cZ}(h:mz g a=true):cI g=true/\(a.bz.length:Int)=gu g/\(a.bu.length:Int)=gu g:=by
 simp[mz,aN,iV]at h;simp_all
def aD0{n:Int}{l:aa bA}(h:o8 n l=true){i j:Nat}(E:i<j)(D:j<l.length):(l[i].id==l[j].id)=false:=by
 unfold o8 at h;rw[aN,cw]at h;have C:=h.1 j (gk.2 D);unfold ri at C;rw[bZ D]at C;simp at C;have:=C.2.2 l[i] (jh.2 ⟨i,by simp;omega,by simp⟩);simp_all
abbrev aD1:=((af×af×af×Int×af)×(ax×(Int×Int×Int×Int×Int×Int×Int×Int×Int×Int×Int×Int×Int×Int×Int×Int×Int×Int×Int×Int×Int×Int×Bool×Int×Int×Int×Int×Int×Int×Int×Int×Int×Int×af×Int×Int×Int×Int×Int×Int×Int×af×Int×Int×Bool×Int×af×Int×af×af×af×af×af×Int×af×af×Int×Bool×(aa bQ)×(aa Int)×(aa aI)×(aa bA)×(aa bV)×Bool×Int×Int×Int×Int×Int×Int×Int×Int×(aa bU)×(aa cP)×(aa cX)×af)×(aa bQ)×(aa Int)×(aa Int)×(aa cR)×(aa Int)×(aa Int)×(aa bK)×(aa Int)×(aa Int)×(aa Int)×(aa Int)×af))
abbrev aD2:=((af×af×af×(aa bQ)×Int×Int×af)×(ax×ax×(Int×Int×Int×Int×Int×Int×Int×Int×Int×Int×Int×Int×Int×Int×Int×Int×Int×Int×Int×Int×Int×Int×Bool×Int×Int×Int×Int×Int×Int×Int×Int×Int×Int×af×Int×Int×Int×Int×Int×Int×Int×af×Int×Int×Bool×Int×af×Int×af×af×af×af×af×Int×af×af×Int×Bool×af×(aa Int)×(aa aI)×(aa bA)×(aa bV)×Bool×Int×Int×Int×Int×Int×Int×Int×Int×(aa bU)×(aa cP)×(aa cX)×af)×(aa Int)×(aa Int)×(aa cR)×(aa Int)×(aa Int)×(aa bK)×(aa Int)×(aa Int)×(aa Int)×(aa Int)×(aa bQ)×af))
def iq{α:Type}(l:aa α)(h:l.length<=1048577:=by omega):bO (([]:aa α).length+l.length)=true:=di (by simp;omega)
def aab(t:bQ)(h:hD t):Fm t=some t:=by
 unfold Fm xA xZ;have C:=h.1;have D:=h.2;rw[iq _,iq _];rfl
def alA(t:bQ)(h:hD t):JJ t=some t:=aab t h
def aD3(s:aD1)(T:aa bQ)(C:s.1.2.2.2.1=0)(D:s.2.2.2.1=[])(E:s.2.2.1.2.2.2.2.2.2.2.2.2.2.2.2.2.2.2.2.2.2.2.2.2.2.2.2.2.2.2.2.2.2.2.2.2.2.2.2.2.2.2.2.2.2.2.2.2.2.2.2.2.2.2.2.2.2.2.2.2.2.1=T)(L:T.length<=1048576/\∀ y∈T,hD y):iter EM aS s=some (.inl (((),(),(),()),(s.2.1,s.2.2.1,T,s.2.2.2.2))):=by
 subst E;have e:=cH (step:=EM) (s.2.2.1.2.2.2.2.2.2.2.2.2.2.2.2.2.2.2.2.2.2.2.2.2.2.2.2.2.2.2.2.2.2.2.2.2.2.2.2.2.2.2.2.2.2.2.2.2.2.2.2.2.2.2.2.2.2.2.2.2.2.1).length (λi=>(((),(),(),(i:Int),()),(s.2.1,s.2.2.1,(s.2.2.1.2.2.2.2.2.2.2.2.2.2.2.2.2.2.2.2.2.2.2.2.2.2.2.2.2.2.2.2.2.2.2.2.2.2.2.2.2.2.2.2.2.2.2.2.2.2.2.2.2.2.2.2.2.2.2.2.2.2.1).take i,s.2.2.2.2))) (.inl (((),(),(),()),(s.2.1,s.2.2.1,s.2.2.1.2.2.2.2.2.2.2.2.2.2.2.2.2.2.2.2.2.2.2.2.2.2.2.2.2.2.2.2.2.2.2.2.2.2.2.2.2.2.2.2.2.2.2.2.2.2.2.2.2.2.2.2.2.2.2.2.2.2.1,s.2.2.2.2))) aS (λk h=>by
  unfold EM av xG xI;dsimp only;rw[aW,au,az ⟨by omega,by omega⟩];simp only[bC];rw[alA _ (L.2 _ (cV _)),ak,di (by simp;omega),au,bD,qZ h]) (by
  unfold EM av xG xI;dsimp only;rw[aV,aq,iW]) (bP)
 have O:s=(((),(),(),((0:Nat):Int),()),(s.2.1,s.2.2.1,(s.2.2.1.2.2.2.2.2.2.2.2.2.2.2.2.2.2.2.2.2.2.2.2.2.2.2.2.2.2.2.2.2.2.2.2.2.2.2.2.2.2.2.2.2.2.2.2.2.2.2.2.2.2.2.2.2.2.2.2.2.2.1).take 0,s.2.2.2.2)):=by
  rw[List.take_zero,<-D,cv,<-C]
 rw[<-e,<-O]
def aD4(s:aD2)(D:s.1.2.2.2.2.2.1=0)(E:s.1.2.2.2.2.1=(s.1.2.2.2.1.length:Int))(L:s.2.2.2.2.2.2.2.2.2.2.2.2.2.2.1=[])(C:s.1.2.2.2.1.length <= 1048576 /\ ∀ y∈s.1.2.2.2.1,hD y):iter Fo aS s=some (.inl (((),(),(),()),(s.2.1,s.2.2.1,s.2.2.2.1,s.2.2.2.2.1,s.2.2.2.2.2.1,s.2.2.2.2.2.2.1,s.2.2.2.2.2.2.2.1,s.2.2.2.2.2.2.2.2.1,s.2.2.2.2.2.2.2.2.2.1,s.2.2.2.2.2.2.2.2.2.2.1,s.2.2.2.2.2.2.2.2.2.2.2.1,s.2.2.2.2.2.2.2.2.2.2.2.2.1,s.2.2.2.2.2.2.2.2.2.2.2.2.2.1,s.1.2.2.2.1,s.2.2.2.2.2.2.2.2.2.2.2.2.2.2.2))):=by
 have e:=cH (step:=Fo) s.1.2.2.2.1.length (λi=>(((),(),(),s.1.2.2.2.1,s.1.2.2.2.1.length,i,()),(s.2.1,s.2.2.1,s.2.2.2.1,s.2.2.2.2.1,s.2.2.2.2.2.1,s.2.2.2.2.2.2.1,s.2.2.2.2.2.2.2.1,s.2.2.2.2.2.2.2.2.1,s.2.2.2.2.2.2.2.2.2.1,s.2.2.2.2.2.2.2.2.2.2.1,s.2.2.2.2.2.2.2.2.2.2.2.1,s.2.2.2.2.2.2.2.2.2.2.2.2.1,s.2.2.2.2.2.2.2.2.2.2.2.2.2.1,s.1.2.2.2.1.take i,s.2.2.2.2.2.2.2.2.2.2.2.2.2.2.2))) _ aS (λk h=>by
  unfold Fo av xG xI;dsimp only;rw[aW,au,az ⟨by omega,by omega⟩];simp only[bC];rw[aab _ (C.2 _ (cV _)),ak,di (by simp;omega),au,bD,qZ h]) (by
  unfold Fo av xG xI;dsimp only;rw[aV,aq,iW]) (bP)
 grind
def alB(l:aa Int)(h:l.length <= 1048577):Rx l=some l:=by
 cases l with
 |nil=>rfl
 | cons a l=>
  show (bif bO _ then some _ else none)=_;rw[iq _ h];rfl
def aD5(l:aa aI)(h:l.length <= 1048577):Yu l=some l:=by
 cases l with
 |nil=>rfl
 | cons a l=>
  show (bif bO _ then some _ else none)=_;rw[iq _ h];rfl
def aD6(l:aa bA)(h:l.length <= 1048577):Yv l=some l:=by
 cases l with
 |nil=>rfl
 | cons a l=>
  show (bif bO _ then some _ else none)=_;rw[iq _ h];rfl
def aD7(l:aa bV)(h:l.length <= 1048577):Yw l=some l:=by
 cases l with
 |nil=>rfl
 | cons a l=>
  show (bif bO _ then some _ else none)=_;rw[iq _ h];rfl
def aD8(l:aa bU)(h:l.length <= 1048577):Yx l=some l:=by
 cases l with
 |nil=>rfl
 | cons a l=>
  show (bif bO _ then some _ else none)=_;rw[iq _ h];rfl
def aD9(l:aa cP)(h:l.length <= 1048577):Yy l=some l:=by
 cases l with
 |nil=>rfl
 | cons a l=>
  show (bif bO _ then some _ else none)=_;rw[iq _ h];rfl
def aEa(l:aa cX)(h:l.length <= 1048577):Yz l=some l:=by
 cases l with
 |nil=>rfl
 | cons a l=>
  show (bif bO _ then some _ else none)=_;rw[iq _ h];rfl
def aac(b:gI)(h:AN b):K8 b=some b:=by
 have C:b.bI.weights.length <= 1048576:=h.1;have D:b.next.weights.length <= 1048576:=h.2
 unfold K8 Fi xA xZ;rw[iq _,au,iq _];rfl
def alC(b:gI)(h:AN b):Qi b=some b:=aac b h
def alD(c:ax)(D:eK c):JK c=some c:=by
 obtain⟨E,L,O,C,T,U,Y,z8,z9,jd,lR,mC,ou,ny⟩:=D;have y2:c.bq.aB.length<=1048576:=L;obtain⟨y3,y3'⟩:=O;have y5:c.spare.map.length<=1048576:=T;have y6:c.aP.aH.length<=1048576:=U;unfold JK xA bk xZ;rw[alC _ E,ak];unfold XX tR XY JI xA xZ;rw[iq _,au,ak,iq _,au,iq _,au,ak,aAO _ (by have:=C.1.1;omega) (by have:=C.2.1;omega) (by have:=C.2.2;omega) (λx Z=>by have:x.symbols.length<=1048576:=C.1.2 x Z;omega),ak,iq _,au,ak,iq _,au,ak]
 refine(aY (λo=>Option.bind o _) (aD3 _ c.bH rfl rfl rfl Y)).trans ?_
 rw[ak];simp only[eH];rw[iq c.guard,au,iq c.pending,au,iq c.queue,au,iq c.shares,au,iq c.errors,au,iq c.trace,au,iq c.cT,au];rfl
def aad(c:ax)(D:eK c):Fp c=some c:=by
 obtain⟨E,L,O,C,T,U,Y,z8,z9,jd,lR,mC,ou,ny⟩:=D;have y2:c.bq.aB.length<=1048576:=L;obtain⟨y3,y3'⟩:=O;have y5:c.spare.map.length<=1048576:=T;have y6:c.aP.aH.length<=1048576:=U;unfold Fp bk;rw[aac _ E,ak];unfold Fj Fk CR xA xZ;rw[iq _,au,ak,iq _,au,iq _,au,ak,aks _ (by have:=C.1.1;omega) (by have:=C.2.1;omega) (by have:=C.2.2;omega) (λx Z=>by have:x.symbols.length<=1048576:=C.1.2 x Z;omega),ak,alB _ (by omega),ak,iq _,au,ak]
 refine(aY (λo=>Option.bind o _) (aD4 _ rfl rfl rfl Y)).trans ?_
 rw[ak];simp only[eH];rw[alB c.guard (by omega),ak,aD5 c.pending (by omega),ak,aD6 c.queue (by omega),ak,aD7 c.shares (by omega),ak,aD8 c.errors (by omega),ak,aD9 c.trace (by omega),ak,aEa c.cT (by omega),ak];rfl
def dx{α:Type}(p:α->Bool)(q:aa α):Nat:=(q.findIdx? p).getD q.length
def we{α:Type}(p:α -> Bool)(q:aa α):dx p q <= q.length:=by
 unfold dx;cases h:q.findIdx? p with
 |none=>simp_all
 | some k=>
  have⟨C,_⟩:=pG.1 h
  grind
def nA{α:Type}{p:α -> Bool}{q:aa α}{i:Nat}(h:i<dx p q)(hi:i<q.length):p q[i]=false:=by
 unfold dx at h;cases C:q.findIdx? p with
 |none =>simp_all
 | some k=>
  rw[C]at h;have⟨_,_,D⟩:=pG.1 C;simp_all
def rq{α:Type}{p:α -> Bool}{q:aa α}(h:dx p q<q.length):p q[dx p q]=true:=by
 unfold dx at h;cases C:q.findIdx? p with
 |none=>grind
 | some k=>
  have⟨D,E,_⟩:=pG.1 C;have e:dx p q=k:=by unfold dx;rw[C];rfl
  simp_all
def Tf{α:Type}(p:α -> Bool)(q:aa α):q.any p=decide (dx p q<q.length):=by
 by_cases c:dx p q<q.length
 ·rw[aW c,List.any_eq_true];exact⟨_,cV c,rq c⟩
 ·rw[aV c,List.any_eq_false];intro x C;obtain⟨i,hi,rfl⟩:=jh.1 C;rw[nA (p:=p) (by omega) hi];simp
def cg{T:Type}(g:T->Int->T×Int):aa T->Int->aa T×Int
 |[],k=>([],k)
 |x::l,k=>((g x k).1::(cg g l (g x k).2).1,(cg g l (g x k).2).2)
def alE{T:Type}(g:T->Int->T×Int)(x:T):∀ (l:aa T) (k:Int),cg g (l++[x]) k=((cg g l k).1++[(g x (cg g l k).2).1],(g x (cg g l k).2).2)
 |[],k=>rfl
 | y :: l,k=>by
  rw[List.cons_append];unfold cg;rw[alE g x l];rfl
def Gm{T:Type}(g:T->Int->T×Int):∀ (l:aa T) (k:Int),(cg g l k).1.length=l.length
 |[],k=>rfl
 | y :: l,k=>by
  unfold cg;rw[List.length_cons,List.length_cons,Gm g l]
def MN{T:Type}(g:T->Int->T×Int)(s:Nat):∀ (l:aa T) (k:Int),(∀ x∈l,∀ k,k<=(g x k).2/\(g x k).2<=k+s)->k<=(cg g l k).2/\(cg g l k).2<=k+((s*l.length:Nat):Int)
 |[],k,_=>by simp[cg]
 | y :: l,k,h=>by
  have E:=h y (.head _) k;have L:=MN g s l (g y k).2 λx C=>h x (.tail _ C)
  have D:s*(y::l).length=s*l.length+s:=by rw[List.length_cons,Nat.mul_succ]
  show k<=(cg g l (g y k).2).2/\(cg g l (g y k).2).2<=_;rw[D];omega
def alF{T:Type}(g:T->Int->T×Int)(l:aa T)(k:Int){i:Nat}(hi:i<l.length):cg g (l.take (i+1)) k=((cg g (l.take i) k).1++[(g l[i] (cg g (l.take i) k).2).1],(g l[i] (cg g (l.take i) k).2).2):=by
 rw[qZ hi,alE]
def alG{T:Type}(g:T->Int->T×Int):∀ (l:aa T) (k:Int) (i:Nat) (hi:i<l.length) (C:i<(cg g l k).1.length),(cg g l k).1[i]=(g l[i] (cg g (l.take i) k).2).1
 |[],k,i,hi,C=>by simp at hi
 |y::l,k,0,hi,C=>rfl
 |y::l,k,i+1,hi,C=>alG g l (g y k).2 i (by simpa using hi) (by rw[Gm];simpa using hi)
def aae{s n i:Nat}(C:s<=2097154)(hi:i<=n)(D:n<=1048576):s*i<=2199025352704:=Nat.le_trans (Nat.mul_le_mul C (Nat.le_trans hi D)) (by decide)
def wg{T:Type}(g:T->Int->T×Int)(s:Nat)(B:Int)(st:((af×Int×Int×af)×(aa T×af))->ah (((af×Int×Int×af)×(aa T×af))⊕(((Int×af)×(aa T×af))⊕Empty)))(l:aa T)(O:l.length<=1048576)(U:s<=2097154)(Y:∀ x∈l,∀ k,k<=(g x k).2/\(g x k).2<=k+s)
  (Z:∀(a:aa T) (i:Nat) (k:Int) (h:i<a.length),i<1048576->a[i]∈l->0<=k->k<=B+2199025352704->st (((),k,(i:Int),()),(a,()))=some (.inl (((),(g a[i] k).2,((i+1:Nat):Int),()),(a.set i (g a[i] k).1,()))))
  (ng:∀(a:aa T) (k:Int),st (((),k,(a.length:Int),()),(a,()))=some (.inr (.inl ((k,()),(a,()))))) (k:Int) (h0:0<=k) (h1:k<=B):iter st aS (((),k,(0:Int),()),(l,()))=some (.inl (((cg g l k).2,()),((cg g l k).1,()))):=by
 have e:=cH (step:=st) l.length (λi=>(((),(cg g (l.take i) k).2,(i:Int),()),((cg g (l.take i) k).1++l.drop i,()))) (.inl (((cg g l k).2,()),((cg g l k).1,()))) aS (λi hi=>by
  have wX:=MN g s (l.take i) k λx D=>Y x (List.mem_of_mem_take D)
  have hm:=aae U (Nat.le_of_lt hi) O;have E:(l.take i).length=i:=by rw[fJ];omega
  have L:(cg g (l.take i) k).1.length=i:=by rw[Gm,E]
  rw[E]at wX;have ha:((cg g (l.take i) k).1++l.drop i).length=l.length:=by rw[List.length_append,L,List.length_drop];omega
  have D:((cg g (l.take i) k).1++l.drop i)[i]'(by omega)=l[i]:=by
   rw[List.getElem_append_right (by omega),List.getElem_drop];congr 1;omega
  have C:=Z _ i (cg g (l.take i) k).2 (by omega:i<((cg g (l.take i) k).1++l.drop i).length) (by omega) (by rw[D];exact cV _) (by omega) (by omega);rw[D]at C;refine C.trans ?_;rw[alF g l k hi,List.set_append_right _ _ (by omega),L,Nat.sub_self,List.drop_eq_getElem_cons hi,List.set_cons_zero,List.append_assoc];rfl) (by
  have C:=ng (cg g l k).1 (cg g l k).2;rw[Gm]at C;rw[iW,List.drop_length,List.append_nil];exact C) (bP)
 exact e
def wh{T:Type}(g:T->Int->T×Int)(s:Nat)(B:Int)(st:((aa T×Int×Int×af)×af)->ah (((aa T×Int×Int×af)×af)⊕(((Int×af)×af)⊕(((Int×af)×af)⊕Empty))))(l:aa T)(D:l.length<=1048576)(E:s<=2097154)(L:∀ x∈l,∀ k,k<=(g x k).2/\(g x k).2<=k+s)
  (O:∀(a:aa T) (x:T) (i:Nat) (k:Int) (h:i<a.length),i<1048576->x∈l->a[i]=(g x k).1->0<=k->k<=B+2199025352704->st ((a,k,(i:Int),()),())=some (.inl ((a,(g x k).2,((i+1:Nat):Int),()),())))
  (U:∀(a:aa T) (k:Int),st ((a,k,(a.length:Int),()),())=some (.inr (.inr (.inl ((k,()),()))))) (k:Int) (h0:0<=k) (h1:k<=B):iter st aS (((cg g l k).1,k,(0:Int),()),())=some (.inr (.inl (((cg g l k).2,()),()))):=by
 have e:=cH (step:=st) l.length (λi=>(((cg g l k).1,(cg g (l.take i) k).2,(i:Int),()),())) (.inr (.inl (((cg g l k).2,()),()))) aS (λi hi=>by
  have Y:=MN g s (l.take i) k λx Z=>L x (List.mem_of_mem_take Z)
  have hm:=aae E (Nat.le_of_lt hi) D;have ht:(l.take i).length=i:=by rw[fJ];omega
  rw[ht]at Y;have hg:=Gm g l k;have C:=O (cg g l k).1 l[i] i (cg g (l.take i) k).2 (by omega) (by omega) (cV _) (alG g l k i hi (by omega)) (by omega) (by omega);rw[alF g l k hi];exact C) (by
  have C:=U (cg g l k).1 (cg g l k).2;rw[Gm]at C;rw[iW];exact C) (bP)
 exact e
def MH{T:Type}(mark:aa T->Int->ah (Int×(aa T×af)))(held:aa T->Int->ah Int)(l:aa T):Prop:=∀k:Int,0<=k->k<=1152921504606846976->∃m C,mark l k=some (m,(C,()))/\held C k=some m/\k<=m/\m<=k+2199025352704
def wj{T:Type}{mark:aa T->Int->ah (Int×(aa T×af))}{held:aa T->Int->ah Int}{l:aa T}(g:T->Int->T×Int)(s:Nat)(E:l.length<=1048576)(L:s<=2097154)(O:∀ x∈l,∀ k,k<=(g x k).2/\(g x k).2<=k+s)(U:∀ k:Int,0<=k->k<=1152921504606846976->mark l k=some ((cg g l k).2,((cg g l k).1,())))(Y:∀ k:Int,0<=k->k<=1152921504606846976->held (cg g l k).1 k=some (cg g l k).2):MH mark held l:=λk C D=>by
 have:=MN g s l k O;have:=aae L (dM _) E;exact⟨_,_,U k C D,Y k C D,by omega,by omega⟩
def fP(_ k:Int):Int×Int:=(k,k+1)
def Tg(x k:Int):k<=(fP x k).2/\(fP x k).2<=k+(1:Nat):=by
 unfold fP;dsimp only;omega
def Th(l:aa Int)(E:l.length<=1048576)(k:Int)(C:0<=k)(D:k<=2305843009213693952):gi l k=some ((cg fP l k).2,((cg fP l k).1,())):=by
 unfold gi bk;rw[wg fP 1 2305843009213693952 I7 l E (by omega) (λx _=>Tg x) (λa i k h hi _ C D=>by
  have L:0<=(i:Int):=by omega
  unfold I7 av xG xL;dsimp only[jc];rw[aW,au];simp only[gz,bC,L,h,and_self,dite_true,mH,List.set_set];rw[bD,aO (n:=k+1)];rfl) (λa k=>by
  unfold I7 av xG xL;dsimp only[jc];rw[aV,aq]) k C D]
 rfl
def Ti(l:aa Int)(E:l.length<=1048576)(k:Int)(C:0<=k)(D:k<=2305843009213693952):oW (cg fP l k).1 k=some (cg fP l k).2:=by
 unfold oW bE;rw[wh fP 1 2305843009213693952 Jp l E (by omega) (λx _=>Tg x) (λa x i k h hi _ L C D=>by
  have O:0<=(i:Int):=by omega
  unfold Jp av aQ xG xI;dsimp only;rw[aW,au];simp only[bC,O,h,and_self,dite_true,L];rw[bD,aO (n:=k+1)];simp only[fP,dV,dR,bB,aq]) (λa k=>by
  unfold Jp av aQ xG xI;dsimp only;rw[aV,aq]) k C D]
 rfl
def yh(l:aa Int)(C:l.length<=1048576):MH gi oW l:=wj fP 1 C (by omega) (λx _=>Tg x) (λk D E=>Th l C k D (by omega)) (λk D E=>Ti l C k D (by omega))
def uC(_:cR)(k:Int):cR×Int:=(⟨((k).tmod 3==0),k+1⟩,k+1+1)
def aaf(x:cR)(k:Int):k<=(uC x k).2/\(uC x k).2<=k+(2:Nat):=by
 unfold uC;dsimp only;omega
def aEb(l:aa cR)(E:l.length<=1048576)(k:Int)(C:0<=k)(D:k<=1152921504606846976):Cl l k=some ((cg uC l k).2,((cg uC l k).1,())):=by
 unfold Cl bk;rw[wg uC 2 1152921504606846976 I8 l E (by omega) (λx _=>aaf x) (λa i k h hi _ C D=>by
  have L:0<=(i:Int):=by omega
  unfold I8 av xG xL;dsimp only[jc];rw[aW,au];simp only[gz,bC,L,h,and_self,dite_true,mH,List.set_set];rw[bD,aO (n:=k+1),aO (n:=k+1+1)];rfl) (λa k=>by
  unfold I8 av xG xL;dsimp only[jc];rw[aV,aq]) k C D]
 rfl
def aEc(l:aa cR)(E:l.length<=1048576)(k:Int)(C:0<=k)(D:k<=1152921504606846976):Jr (cg uC l k).1 k=some (cg uC l k).2:=by
 unfold Jr bE;rw[wh uC 2 1152921504606846976 Jq l E (by omega) (λx _=>aaf x) (λa x i k h hi _ L C D=>by
  have O:0<=(i:Int):=by omega
  unfold Jq av aQ xG xI;dsimp only;rw[aW,au];simp only[bC,O,h,and_self,dite_true,L];rw[bD,aO (n:=k+1),aO (n:=k+1+1)];simp only[uC,dV,dR,bB,aq]) (λa k=>by
  unfold Jq av aQ xG xI;dsimp only;rw[aV,aq]) k C D]
 rfl
def aEd(l:aa cR)(C:l.length<=1048576):MH Cl Jr l:=wj uC 2 C (by omega) (λx _=>aaf x) (λk D E=>aEb l C k D (by omega)) (λk D E=>aEc l C k D (by omega))
def uD(_:aI)(k:Int):aI×Int:=(⟨k,k+1,k+1+1⟩,k+1+1+1)
def aag(x:aI)(k:Int):k<=(uD x k).2/\(uD x k).2<=k+(3:Nat):=by
 unfold uD;dsimp only;omega
def aEe(l:aa aI)(E:l.length<=1048576)(k:Int)(C:0<=k)(D:k<=1152921504606846976):Cm l k=some ((cg uD l k).2,((cg uD l k).1,())):=by
 unfold Cm bk;rw[wg uD 3 1152921504606846976 Jc l E (by omega) (λx _=>aag x) (λa i k h hi _ C D=>by
  have L:0<=(i:Int):=by omega
  unfold Jc av xG xL;dsimp only[jc];rw[aW,au];simp only[gz,bC,L,h,and_self,dite_true,mH,List.set_set];rw[bD,aO (n:=k+1),aO (n:=k+1+1),aO (n:=k+1+1+1)];rfl) (λa k=>by
  unfold Jc av xG xL;dsimp only[jc];rw[aV,aq]) k C D]
 rfl
def aEf(l:aa aI)(E:l.length<=1048576)(k:Int)(C:0<=k)(D:k<=1152921504606846976):Jv (cg uD l k).1 k=some (cg uD l k).2:=by
 unfold Jv bE;rw[wh uD 3 1152921504606846976 Ju l E (by omega) (λx _=>aag x) (λa x i k h hi _ L C D=>by
  have O:0<=(i:Int):=by omega
  unfold Ju av aQ xG xI;dsimp only;rw[aW,au];simp only[bC,O,h,and_self,dite_true,L];rw[bD,aO (n:=k+1),aO (n:=k+1+1),aO (n:=k+1+1+1)];simp only[uD,dV,dR,bB,aq]) (λa k=>by
  unfold Ju av aQ xG xI;dsimp only;rw[aV,aq]) k C D]
 rfl
def aEg(l:aa aI)(C:l.length<=1048576):MH Cm Jv l:=wj uD 3 C (by omega) (λx _=>aag x) (λk D E=>aEe l C k D (by omega)) (λk D E=>aEf l C k D (by omega))
def uE(_:bA)(k:Int):bA×Int:=(⟨k,k+1,k+1+1,((k+1+1+1).tmod 3==0),k+1+1+1+1,k+1+1+1+1+1⟩,k+1+1+1+1+1+1)
def aah(x:bA)(k:Int):k<=(uE x k).2/\(uE x k).2<=k+(6:Nat):=by
 unfold uE;dsimp only;omega
def aEh(l:aa bA)(E:l.length<=1048576)(k:Int)(C:0<=k)(D:k<=1152921504606846976):Co l k=some ((cg uE l k).2,((cg uE l k).1,())):=by
 unfold Co bk;rw[wg uE 6 1152921504606846976 Je l E (by omega) (λx _=>aah x) (λa i k h hi _ C D=>by
  have L:0<=(i:Int):=by omega
  unfold Je av xG xL;dsimp only[jc];rw[aW,au];simp only[gz,bC,L,h,and_self,dite_true,mH,List.set_set];rw[bD,aO (n:=k+1),aO (n:=k+1+1),aO (n:=k+1+1+1),aO (n:=k+1+1+1+1),aO (n:=k+1+1+1+1+1),aO (n:=k+1+1+1+1+1+1)];rfl) (λa k=>by
  unfold Je av xG xL;dsimp only[jc];rw[aV,aq]) k C D]
 rfl
def aEi(l:aa bA)(E:l.length<=1048576)(k:Int)(C:0<=k)(D:k<=1152921504606846976):Jx (cg uE l k).1 k=some (cg uE l k).2:=by
 unfold Jx bE;rw[wh uE 6 1152921504606846976 Jw l E (by omega) (λx _=>aah x) (λa x i k h hi _ L C D=>by
  have O:0<=(i:Int):=by omega
  unfold Jw av aQ xG xI;dsimp only;rw[aW,au];simp only[bC,O,h,and_self,dite_true,L];rw[bD,aO (n:=k+1),aO (n:=k+1+1),aO (n:=k+1+1+1),aO (n:=k+1+1+1+1),aO (n:=k+1+1+1+1+1),aO (n:=k+1+1+1+1+1+1)];simp only[uE,dV,dR,bB,aq]) (λa k=>by
  unfold Jw av aQ xG xI;dsimp only;rw[aV,aq]) k C D]
 rfl
def aEj(l:aa bA)(C:l.length<=1048576):MH Co Jx l:=wj uE 6 C (by omega) (λx _=>aah x) (λk D E=>aEh l C k D (by omega)) (λk D E=>aEi l C k D (by omega))
def uF(_:bV)(k:Int):bV×Int:=(⟨k,k+1⟩,k+1+1)
def aai(x:bV)(k:Int):k<=(uF x k).2/\(uF x k).2<=k+(2:Nat):=by
 unfold uF;dsimp only;omega
def aEk(l:aa bV)(E:l.length<=1048576)(k:Int)(C:0<=k)(D:k<=1152921504606846976):Cp l k=some ((cg uF l k).2,((cg uF l k).1,())):=by
 unfold Cp bk;rw[wg uF 2 1152921504606846976 Jg l E (by omega) (λx _=>aai x) (λa i k h hi _ C D=>by
  have L:0<=(i:Int):=by omega
  unfold Jg av xG xL;dsimp only[jc];rw[aW,au];simp only[gz,bC,L,h,and_self,dite_true,mH,List.set_set];rw[bD,aO (n:=k+1),aO (n:=k+1+1)];rfl) (λa k=>by
  unfold Jg av xG xL;dsimp only[jc];rw[aV,aq]) k C D]
 rfl
def aEl(l:aa bV)(E:l.length<=1048576)(k:Int)(C:0<=k)(D:k<=1152921504606846976):Jz (cg uF l k).1 k=some (cg uF l k).2:=by
 unfold Jz bE;rw[wh uF 2 1152921504606846976 Jy l E (by omega) (λx _=>aai x) (λa x i k h hi _ L C D=>by
  have O:0<=(i:Int):=by omega
  unfold Jy av aQ xG xI;dsimp only;rw[aW,au];simp only[bC,O,h,and_self,dite_true,L];rw[bD,aO (n:=k+1),aO (n:=k+1+1)];simp only[uF,dV,dR,bB,aq]) (λa k=>by
  unfold Jy av aQ xG xI;dsimp only;rw[aV,aq]) k C D]
 rfl
def aEm(l:aa bV)(C:l.length<=1048576):MH Cp Jz l:=wj uF 2 C (by omega) (λx _=>aai x) (λk D E=>aEk l C k D (by omega)) (λk D E=>aEl l C k D (by omega))
def uG(_:bU)(k:Int):bU×Int:=(⟨k,k+1,k+1+1⟩,k+1+1+1)
def aaj(x:bU)(k:Int):k<=(uG x k).2/\(uG x k).2<=k+(3:Nat):=by
 unfold uG;dsimp only;omega
def aEn(l:aa bU)(E:l.length<=1048576)(k:Int)(C:0<=k)(D:k<=1152921504606846976):Cq l k=some ((cg uG l k).2,((cg uG l k).1,())):=by
 unfold Cq bk;rw[wg uG 3 1152921504606846976 Ji l E (by omega) (λx _=>aaj x) (λa i k h hi _ C D=>by
  have L:0<=(i:Int):=by omega
  unfold Ji av xG xL;dsimp only[jc];rw[aW,au];simp only[gz,bC,L,h,and_self,dite_true,mH,List.set_set];rw[bD,aO (n:=k+1),aO (n:=k+1+1),aO (n:=k+1+1+1)];rfl) (λa k=>by
  unfold Ji av xG xL;dsimp only[jc];rw[aV,aq]) k C D]
 rfl
def aEo(l:aa bU)(E:l.length<=1048576)(k:Int)(C:0<=k)(D:k<=1152921504606846976):JB (cg uG l k).1 k=some (cg uG l k).2:=by
 unfold JB bE;rw[wh uG 3 1152921504606846976 JA l E (by omega) (λx _=>aaj x) (λa x i k h hi _ L C D=>by
  have O:0<=(i:Int):=by omega
  unfold JA av aQ xG xI;dsimp only;rw[aW,au];simp only[bC,O,h,and_self,dite_true,L];rw[bD,aO (n:=k+1),aO (n:=k+1+1),aO (n:=k+1+1+1)];simp only[uG,dV,dR,bB,aq]) (λa k=>by
  unfold JA av aQ xG xI;dsimp only;rw[aV,aq]) k C D]
 rfl
def aEp(l:aa bU)(C:l.length<=1048576):MH Cq JB l:=wj uG 3 C (by omega) (λx _=>aaj x) (λk D E=>aEn l C k D (by omega)) (λk D E=>aEo l C k D (by omega))
def uH(_:cP)(k:Int):cP×Int:=(⟨k,⟨k+1,k+1+1,k+1+1+1,k+1+1+1+1⟩⟩,k+1+1+1+1+1)
def aak(x:cP)(k:Int):k<=(uH x k).2/\(uH x k).2<=k+(5:Nat):=by
 unfold uH;dsimp only;omega
def aEq(l:aa cP)(E:l.length<=1048576)(k:Int)(C:0<=k)(D:k<=1152921504606846976):Cr l k=some ((cg uH l k).2,((cg uH l k).1,())):=by
 unfold Cr bk;rw[wg uH 5 1152921504606846976 Jk l E (by omega) (λx _=>aak x) (λa i k h hi _ C D=>by
  have L:0<=(i:Int):=by omega
  unfold Jk av xG xL;dsimp only[jc];rw[aW,au];simp only[gz,bC,L,h,and_self,dite_true,mH,List.set_set];rw[bD,aO (n:=k+1),aO (n:=k+1+1),aO (n:=k+1+1+1),aO (n:=k+1+1+1+1),aO (n:=k+1+1+1+1+1)];rfl) (λa k=>by
  unfold Jk av xG xL;dsimp only[jc];rw[aV,aq]) k C D]
 rfl
def aEr(l:aa cP)(E:l.length<=1048576)(k:Int)(C:0<=k)(D:k<=1152921504606846976):JD (cg uH l k).1 k=some (cg uH l k).2:=by
 unfold JD bE;rw[wh uH 5 1152921504606846976 JC l E (by omega) (λx _=>aak x) (λa x i k h hi _ L C D=>by
  have O:0<=(i:Int):=by omega
  unfold JC av aQ xG xI;dsimp only;rw[aW,au];simp only[bC,O,h,and_self,dite_true,L];rw[bD,aO (n:=k+1),aO (n:=k+1+1),aO (n:=k+1+1+1),aO (n:=k+1+1+1+1),aO (n:=k+1+1+1+1+1)];simp only[uH,dV,dR,bB,aq]) (λa k=>by
  unfold JC av aQ xG xI;dsimp only;rw[aV,aq]) k C D]
 rfl
def aEs(l:aa cP)(C:l.length<=1048576):MH Cr JD l:=wj uH 5 C (by omega) (λx _=>aak x) (λk D E=>aEq l C k D (by omega)) (λk D E=>aEr l C k D (by omega))
def uI(_:cX)(k:Int):cX×Int:=(⟨k,k+1,k+1+1,k+1+1+1⟩,k+1+1+1+1)
def aal(x:cX)(k:Int):k<=(uI x k).2/\(uI x k).2<=k+(4:Nat):=by
 unfold uI;dsimp only;omega
def aEt(l:aa cX)(E:l.length<=1048576)(k:Int)(C:0<=k)(D:k<=1152921504606846976):Cs l k=some ((cg uI l k).2,((cg uI l k).1,())):=by
 unfold Cs bk;rw[wg uI 4 1152921504606846976 Jm l E (by omega) (λx _=>aal x) (λa i k h hi _ C D=>by
  have L:0<=(i:Int):=by omega
  unfold Jm av xG xL;dsimp only[jc];rw[aW,au];simp only[gz,bC,L,h,and_self,dite_true,mH,List.set_set];rw[bD,aO (n:=k+1),aO (n:=k+1+1),aO (n:=k+1+1+1),aO (n:=k+1+1+1+1)];rfl) (λa k=>by
  unfold Jm av xG xL;dsimp only[jc];rw[aV,aq]) k C D]
 rfl
def aEu(l:aa cX)(E:l.length<=1048576)(k:Int)(C:0<=k)(D:k<=1152921504606846976):JF (cg uI l k).1 k=some (cg uI l k).2:=by
 unfold JF bE;rw[wh uI 4 1152921504606846976 JE l E (by omega) (λx _=>aal x) (λa x i k h hi _ L C D=>by
  have O:0<=(i:Int):=by omega
  unfold JE av aQ xG xI;dsimp only;rw[aW,au];simp only[bC,O,h,and_self,dite_true,L];rw[bD,aO (n:=k+1),aO (n:=k+1+1),aO (n:=k+1+1+1),aO (n:=k+1+1+1+1)];simp only[uI,dV,dR,bB,aq]) (λa k=>by
  unfold JE av aQ xG xI;dsimp only;rw[aV,aq]) k C D]
 rfl
def aEv(l:aa cX)(C:l.length<=1048576):MH Cs JF l:=wj uI 4 C (by omega) (λx _=>aal x) (λk D E=>aEt l C k D (by omega)) (λk D E=>aEu l C k D (by omega))
def yj(l:aa Int)(h:l.length<=1048576)(k:Int):k<=(cg fP l k).2/\(cg fP l k).2<=k+1048576:=by
 have:=MN fP 1 l k λx _=>Tg x
 omega
def AO(x:bK)(k:Int):bK×Int:=(⟨(cg fP x.symbols k).1,((cg fP x.symbols k).2.tmod 3==0)⟩,(cg fP x.symbols k).2+1)
def aam(x:bK)(h:x.symbols.length<=1048576)(k:Int):k<=(AO x k).2/\(AO x k).2<=k+(1048577:Nat):=by
 have:=yj x.symbols h k;unfold AO;dsimp only;omega
def aEw(l:aa bK)(O:l.length<=1048576)(D:∀ y∈l,y.symbols.length<=1048576):MH EK Qf l:=wj AO 1048577 O (by omega) (λx C=>aam x (D x C)) (λk E L=>by
 unfold EK bk;rw[wg AO 1048577 1152921504606846976 I9 l O (by omega) (λx C=>aam x (D x C)) (λa i k h hi C E L=>by
  have T:0<=(i:Int):=by omega
  have Y:=yj a[i].symbols (D _ C) k;unfold I9 av xG xL xM;dsimp only[jc];rw[aW,au];simp only[gz,bC,T,h,and_self,dite_true];rw[Th _ (D _ C) k E (by omega),ak];simp only[mH,List.set_set];rw[bD,aO (n:=(cg fP a[i].symbols k).2+1)];rfl) (λa k=>by
  unfold I9 av xG xL xM;dsimp only[jc];rw[aV,aq]) k E L]
 rfl) (λk E L=>by
 unfold Qf bE;rw[wh AO 1048577 1152921504606846976 Js l O (by omega) (λx C=>aam x (D x C)) (λa x i k h hi U C E L=>by
  have T:0<=(i:Int):=by omega
  have Y:=yj x.symbols (D _ U) k;unfold Js av aQ xG xI;dsimp only;rw[aW,au];simp only[bC,T,h,and_self,dite_true,C];rw[show (AO x k).1.symbols=(cg fP x.symbols k).1 from rfl,Ti _ (D _ U) k E (by omega),ak,aV,bD,aO (n:=(cg fP x.symbols k).2+1)];simp only[AO,dR,bB,aq]) (λa k=>by
  unfold Js av aQ xG xI;dsimp only;rw[aV,aq]) k E L]
 rfl)
def yl(x:bQ)(k:Int):bQ×Int:=(⟨(cg fP x.rows k).1,(cg fP x.counts (cg fP x.rows k).2).1,(cg fP x.counts (cg fP x.rows k).2).2⟩,(cg fP x.counts (cg fP x.rows k).2).2+1)
def aan(x:bQ)(h:x.rows.length<=1048576/\x.counts.length<=1048576)(k:Int):k<=(yl x k).2/\(yl x k).2<=k+(2097153:Nat):=by
 have:=yj x.rows h.1 k;have:=yj x.counts h.2 (cg fP x.rows k).2;unfold yl;dsimp only;omega
def aEx(l:aa bQ)(T:l.length<=1048576)(D:∀ y∈l,y.rows.length<=1048576/\y.counts.length<=1048576):MH EL Qg l:=wj yl 2097153 T (by omega) (λx C=>aan x (D x C)) (λk E L=>by
 unfold EL bk;rw[wg yl 2097153 1152921504606846976 Ja l T (by omega) (λx C=>aan x (D x C)) (λa i k h hi C E L=>by
  have U:0<=(i:Int):=by omega
  have Y:=yj a[i].rows (D _ C).1 k;have Z:=yj a[i].counts (D _ C).2 (cg fP a[i].rows k).2;unfold Ja av xG xL xM;dsimp only[jc];rw[aW,au];simp only[gz,bC,U,h,and_self,dite_true];rw[Th _ (D _ C).1 k E (by omega),ak];simp only[mH,List.set_set];rw[Th _ (D _ C).2 _ (by omega) (by omega),ak];simp only[mH,List.set_set];rw[bD,aO (n:=(cg fP a[i].counts (cg fP a[i].rows k).2).2+1)];rfl) (λa k=>by
  unfold Ja av xG xL xM;dsimp only[jc];rw[aV,aq]) k E L]
 rfl) (λk E L=>by
 unfold Qg bE;rw[wh yl 2097153 1152921504606846976 Jt l T (by omega) (λx C=>aan x (D x C)) (λa x i k h hi O C E L=>by
  have U:0<=(i:Int):=by omega
  have Y:=yj x.rows (D _ O).1 k;have Z:=yj x.counts (D _ O).2 (cg fP x.rows k).2;unfold Jt av aQ xG xI;dsimp only;rw[aW,au];simp only[bC,U,h,and_self,dite_true,C];rw[show (yl x k).1.rows=(cg fP x.rows k).1 from rfl,Ti _ (D _ O).1 k E (by omega),ak,aV,aq,show (yl x k).1.counts=(cg fP x.counts (cg fP x.rows k).2).1 from rfl,Ti _ (D _ O).2 _ (by omega) (by omega),ak,aV,bD,aO (n:=(cg fP x.counts (cg fP x.rows k).2).2+1)];simp only[yl,dV,aq]) (λa k=>by
  unfold Jt av aQ xG xI;dsimp only;rw[aV,aq]) k E L]
 rfl)
def alH{β:Type}(c:ax)(hz:eK c)(B:(Int×(aa Int×af))->(Int×(aa Int×af))->(Int×(aa cR×af))->(Int×(aa Int×af))->(Int×(aa Int×af))->(Int×(aa bK×af))->(Int×(aa Int×af))->(Int×(aa Int×af))->(Int×(aa Int×af))->(Int×(aa Int×af))->(Int×(aa bQ×af))->(Int×(aa Int×af))->(Int×(aa aI×af))->(Int×(aa bA×af))->(Int×(aa bV×af))->(Int×(aa bU×af))->(Int×(aa cP×af))->(Int×(aa cX×af))->ah β)(z:ah β)(h:∀ D E L O T U Y Z r8 r9 uq ur uv uw uy uz uA C,0<=C.1/\C.1<=100000000000000->Qh (⟨c.config,⟨⟨c.box.bI.eN,c.box.bI.cap,c.box.bI.fD,c.box.bI.low,c.box.bI.high,D.2.1,c.box.bI.eI⟩,⟨c.box.next.eN,c.box.next.cap,c.box.next.fD,c.box.next.low,c.box.next.high,E.2.1,c.box.next.eI⟩,c.box.waits⟩,c.now,⟨L.2.1,c.bq.aZ⟩,⟨O.2.1,T.2.1⟩,⟨U.2.1,Y.2.1,Z.2.1⟩,⟨c.spare.cr,r8.2.1⟩,⟨r9.2.1,c.aP.wait,c.aP.dS⟩,uq.2.1,ur.2.1,uv.2.1,uw.2.1,uy.2.1,c.drain,c.aZ,c.cK,uz.2.1,uA.2.1,C.2.1⟩:ax) (1:Int)=some C.1->B D E L O T U Y Z r8 r9 uq ur uv uw uy uz uA C=z):((gi c.box.bI.weights (1:Int)).bind λD=>(gi c.box.next.weights D.1).bind λE=>(Cl c.bq.aB E.1).bind λL=>(gi c.ready.last L.1).bind λO=>(gi c.ready.bx O.1).bind λT=>(EK c.array.cells T.1).bind λU=>(gi c.array.bz U.1).bind λY=>(gi c.array.bu Y.1).bind λZ=>(gi c.spare.map Z.1).bind λr8=>(gi c.aP.aH r8.1).bind λr9=>(EL c.bH r9.1).bind λuq=>(gi c.guard uq.1).bind λur=>(Cm c.pending ur.1).bind λuv=>(Co c.queue uv.1).bind λuw=>(Cp c.shares uw.1).bind λuy=>(Cq c.errors uy.1).bind λuz=>(Cr c.trace uz.1).bind λuA=>(Cs c.cT uA.1).bind λC=>B D E L O T U Y Z r8 r9 uq ur uv uw uy uz uA C)=z:=by
 obtain⟨⟨z1,z2⟩,z3,⟨z4,z5⟩,⟨⟨z6,z6'⟩,z7,z8⟩,z9,jd,⟨lR,Z9⟩,mC,ou,ny,pn,ML,CQ,MM⟩:=hz;obtain⟨m0,l0,e0,d0,a0,b0⟩:=yh c.box.bI.weights z1 1 (by omega) (by omega);obtain⟨m1,l1,e1,d1,a1,b1⟩:=yh c.box.next.weights z2 m0 (by omega) (by omega)
 obtain⟨m2,l2,e2,d2,a2,b2⟩:=aEd c.bq.aB z3 m1 (by omega) (by omega);obtain⟨m3,l3,e3,d3,a3,b3⟩:=yh c.ready.last z4 m2 (by omega) (by omega);obtain⟨m4,l4,e4,d4,a4,b4⟩:=yh c.ready.bx z5 m3 (by omega) (by omega);obtain⟨m5,l5,e5,d5,a5,b5⟩:=aEw c.array.cells z6 z6' m4 (by omega) (by omega);obtain⟨m6,l6,e6,d6,a6,b6⟩:=yh c.array.bz z7 m5 (by omega) (by omega);obtain⟨m7,l7,e7,d7,a7,b7⟩:=yh c.array.bu z8 m6 (by omega) (by omega);obtain⟨m8,l8,e8,d8,a8,b8⟩:=yh c.spare.map z9 m7 (by omega) (by omega);obtain⟨m9,l9,e9,d9,a9,b9⟩:=yh c.aP.aH jd m8 (by omega) (by omega);obtain⟨m10,l10,jU,d10,Gi,b10⟩:=aEx c.bH lR Z9 m9 (by omega) (by omega);obtain⟨m11,l11,vN,d11,Gj,b11⟩:=yh c.guard mC m10 (by omega) (by omega);obtain⟨m12,l12,ni,d12,Gk,b12⟩:=aEg c.pending ou m11 (by omega) (by omega);obtain⟨F8,l13,Yr,d13,S6,b13⟩:=aEj c.queue ny m12 (by omega) (by omega);obtain⟨m14,l14,oY,d14,S7,b14⟩:=aEm c.shares pn F8 (by omega) (by omega);obtain⟨m15,l15,Re,d15,Mq,b15⟩:=aEp c.errors ML m14 (by omega) (by omega);obtain⟨m16,l16,qW,d16,Gl,b16⟩:=aEs c.trace CQ m15 (by omega) (by omega);obtain⟨m17,l17,KE,d17,Ta,b17⟩:=aEv c.cT MM m16 (by omega) (by omega)
 refine(aY (λo=>Option.bind o _) e0).trans ?_
 rw[ak]
 refine(aY (λo=>Option.bind o _) e1).trans ?_
 rw[ak]
 refine(aY (λo=>Option.bind o _) e2).trans ?_
 rw[ak]
 refine(aY (λo=>Option.bind o _) e3).trans ?_
 rw[ak]
 refine(aY (λo=>Option.bind o _) e4).trans ?_
 rw[ak]
 refine(aY (λo=>Option.bind o _) e5).trans ?_
 rw[ak]
 refine(aY (λo=>Option.bind o _) e6).trans ?_
 rw[ak]
 refine(aY (λo=>Option.bind o _) e7).trans ?_
 rw[ak]
 refine(aY (λo=>Option.bind o _) e8).trans ?_
 rw[ak]
 refine(aY (λo=>Option.bind o _) e9).trans ?_
 rw[ak]
 refine(aY (λo=>Option.bind o _) jU).trans ?_
 rw[ak]
 refine(aY (λo=>Option.bind o _) vN).trans ?_
 rw[ak]
 refine(aY (λo=>Option.bind o _) ni).trans ?_
 rw[ak]
 refine(aY (λo=>Option.bind o _) Yr).trans ?_
 rw[ak]
 refine(aY (λo=>Option.bind o _) oY).trans ?_
 rw[ak]
 refine(aY (λo=>Option.bind o _) Re).trans ?_
 rw[ak]
 refine(aY (λo=>Option.bind o _) qW).trans ?_
 rw[ak]
 refine(aY (λo=>Option.bind o _) KE).trans ?_
 rw[ak];refine h (m0,(l0,())) (m1,(l1,())) (m2,(l2,())) (m3,(l3,())) (m4,(l4,())) (m5,(l5,())) (m6,(l6,())) (m7,(l7,())) (m8,(l8,())) (m9,(l9,())) (m10,(l10,())) (m11,(l11,())) (m12,(l12,())) (F8,(l13,())) (m14,(l14,())) (m15,(l15,())) (m16,(l16,())) (m17,(l17,())) (by dsimp only;omega) ?_;unfold Qh XR Qe XS XT XU XV XW;simp only[d0,d1,d2,d3,d4,d5,d6,d7,d8,d9,d10,d11,d12,d13,d14,d15,d16,d17,ak,aV (show ¬ m0<0 by omega),aV (show ¬ m1<0 by omega),aV (show ¬ m2<0 by omega),aV (show ¬ m3<0 by omega),aV (show ¬ m4<0 by omega),aV (show ¬ m5<0 by omega),aV (show ¬ m6<0 by omega),aV (show ¬ m7<0 by omega),aV (show ¬ m8<0 by omega),aV (show ¬ m9<0 by omega),aV (show ¬ m10<0 by omega),aV (show ¬ m11<0 by omega),aV (show ¬ m12<0 by omega),aV (show ¬ F8<0 by omega),aV (show ¬ m14<0 by omega),aV (show ¬ m15<0 by omega),aV (show ¬ m16<0 by omega),aV (show ¬ m17<0 by omega),aq]
def nb(l:aa UInt8):aa Int:=l.map λb=>(b.toNat:Int)
def dm(c:ax)(a:cZ):ax:=⟨c.config,c.box,c.now,c.bq,c.ready,a,c.spare,c.aP,c.bH,c.guard,c.pending,c.queue,c.shares,c.drain,c.aZ,c.cK,c.errors,c.trace,c.cT⟩
def wm:bK:=⟨[],false⟩
def Dv(d:bK):bK:=⟨(d.symbols.set 0 (bits .xor .i64 (d.symbols.getD 0 0) 5)).set 1 (bits .xor .i64 (d.symbols.getD 1 0) 10),d.iy⟩
def jY(base:Nat):Nat->aa bK->aa bK
 |0,cs=>cs
 |n+1,cs=>(jY base n cs).set (base+n) (Dv ((jY base n cs).getD (base+n) wm))
def MO(base:Nat):∀ (n:Nat) (cs:aa bK),(jY base n cs).length=cs.length
 |0,_=>rfl
 | n+1,cs=>by
  show ((jY base n cs).set _ _).length=_;rw[gz,MO]
def aEy{d:bK}(h:Sy d.symbols):Sy (Dv d).symbols:=by
 have C:0<d.symbols.length:=by rw[h.1];omega
 have l1:1<d.symbols.length:=by rw[h.1];omega
 have L:d.symbols.getD 0 0=d.symbols[0]:=by rw[eY,bZ C];rfl
 have O:d.symbols.getD 1 0=d.symbols[1]:=by rw[eY,bZ l1];rfl
 have D:=akr (h.get (k:=0) C) (b:=5) ⟨by omega,by omega⟩;have E:=akr (h.get l1) (b:=10) ⟨by omega,by omega⟩;unfold Dv;rw[L,O];exact(h.set ⟨D.1,D.2.1⟩).set ⟨E.1,E.2.1⟩
def Tj{base:Nat}:∀ (n:Nat) {cs:aa bK},base+n <= cs.length -> (∀ c∈cs,Sy c.symbols) -> ∀ c∈jY base n cs,Sy c.symbols
 |0,cs,_,h=>h
 | n+1,cs,D,h=>by
  have C:=Tj (base:=base) n (by omega) h;have hlen:=MO base n cs;refine Sy.cc C (aEy ?_)
  grind
def uJ(g:aU)(l:iY)(a:cZ)(b r:Int):cZ:=
 ⟨bif ye l a (b*g.rows+r).toNat then jY ((b*g.rows+r)*g.aT).toNat g.aT.toNat a.cells else a.cells,a.bz.set (b*g.rows+r).toNat 0,vX g.rows r (b*g.rows+r).toNat a.bu⟩
def MP{g:aU}(C:cI g=true){b r k:Int}(E:0 <= b)(L:b<bf g)(O:0 <= r)(T:r<g.rows)(U:0 <= k)(Y:k<g.aT):0 <= (b*g.rows+r)*g.aT/\(b*g.rows+r)*g.aT+k<fH g/\0 <= b*g.rows+r/\b*g.rows+r<gu g:=by
 have er:bf g*g.rows=gu g:=by simp[gu,C]
 have⟨r0,Z,D⟩:=vU E L O T;rw[er]at D;have⟨q0,q1,q2⟩:=vU Z D U Y;have el:gu g*g.aT=fH g:=by simp[gu,fH,C]
 simp_all
def aEz{g:aU}(C:cI g=true)(c:ax){b r:Int}(hc:(c.array.cells.length:Int)=fH g)(Y:∀ x∈c.array.cells,Sy x.symbols)(E:0<=b)(L:b<bf g)(O:0<=r)(T:r<g.rows):
  iter Da aS (((),b,r,(),(0:Int),()),(c,(g.cF,g.aB,g.rows,g.aT,()),()))=some (.inl (((),b,r,(),()),(dm c ⟨jY ((b*g.rows+r)*g.aT).toNat g.aT.toNat c.array.cells,c.array.bz,c.array.bu⟩,(g.cF,g.aB,g.rows,g.aT,()),()))):=by
 obtain⟨_,_,_,_,g5,g6,g7,g8⟩:=fF C;have b1:=oc g;obtain⟨n,Z⟩:=iw (show 0<=g.aT by omega);obtain⟨B,hB⟩:∃B,B=((b*g.rows+r)*g.aT).toNat:=⟨_,rfl⟩
 have pJ:g.aT.toNat=n:=by omega
 rw[<-hB,pJ];have lz:B+n<=c.array.cells.length:=by
  have:=MP C E L O T (show 0<=g.aT-1 by omega) (by omega);omega
 have e:=cH (step:=Da) n (λk=>(((),b,r,(),(k:Int),()),(dm c ⟨jY B k c.array.cells,c.array.bz,c.array.bu⟩,(g.cF,g.aB,g.rows,g.aT,()),()))) (.inl (((),b,r,(),()),(dm c ⟨jY B n c.array.cells,c.array.bz,c.array.bu⟩,(g.cF,g.aB,g.rows,g.aT,()),()))) aS (λk hk=>by
  have OO:fj g ⟨b,r,(k:Int)⟩=true:=Dc C E L O T (by dsimp only;omega) (by dsimp only;omega);have hix:qh g ⟨b,r,(k:Int)⟩=((B+k:Nat):Int):=by
   have:=MP C E L O T (show 0<=(k:Int) by omega) (by omega);unfold qh;rw[OO,au];dsimp only;omega
  have hlen:=MO B k c.array.cells;have U:=Tj k (by omega:B+k<=c.array.cells.length) Y;show Da (((),b,r,(),(k:Int),()),(dm c ⟨jY B k c.array.cells,c.array.bz,c.array.bu⟩,(g.cF,g.aB,g.rows,g.aT,()),()))=some (.inl (((),b,r,(),((k+1:Nat):Int),()),(dm c ⟨(jY B k c.array.cells).set (B+k) (Dv ((jY B k c.array.cells).getD (B+k) wm)),c.array.bz,c.array.bu⟩,(g.cF,g.aB,g.rows,g.aT,()),())));generalize jY B k c.array.cells=cs at hlen U;have D:B+k<cs.length:=by omega
  have s1:=Sy.mem U D;have l1:(0:Nat)<cs[B+k].symbols.length:=by rw[s1.1];omega
  have l2:(1:Nat)<cs[B+k].symbols.length:=by rw[s1.1];omega
  have c2:decide ((k:Int)<g.aT)=true:=aW;have BZ:cs.getD (B+k) wm=cs[B+k]:=by rw[eY,bZ D];rfl
  have f0:cs[B+k].symbols.getD 0 0=cs[B+k].symbols[0]:=by rw[eY,bZ l1];rfl
  have f1:cs[B+k].symbols.getD 1 0=cs[B+k].symbols[1]:=by rw[eY,bZ l2];rfl
  rw[BZ];unfold Dv;rw[f0,f1];unfold Da dm xC av xG xL xM;dsimp only;rw[c2,au,sF g,Zc,ak,hix];generalize B+k=j at D s1 l1 l2;simp (disch:=omega) [D,bD,l1,l2]) (by unfold Da xC av xG xL xM;simp[Z]) (bP)
 exact e
def aEA(c:ax){R k:Int}{nb:aa Int}(Y:nb.length<1000)(E:∀ n∈nb,0<=n/\n<R)(Z:0<=k)(hk:k+R<=(c.array.bu.length:Int))(hH:c.array.bu.length<1000000)(L:∀ x∈c.array.bu,0<=x/\x<=100000):
  iter Ay aS (((),k,(),(nb.length:Int),(0:Int),()),(c,nb,()))=some (.inl ((),(dm c ⟨c.array.cells,c.array.bz,nb.foldl (λh n=>oZ (k+n).toNat h) c.array.bu⟩,()))):=by
 have e:=cH (step:=Ay) nb.length (λi=>(((),k,(),(nb.length:Int),(i:Int),()),(dm c ⟨c.array.cells,c.array.bz,(nb.take i).foldl (λh n=>oZ (k+n).toNat h) c.array.bu⟩,nb,()))) (.inl ((),(dm c ⟨c.array.cells,c.array.bz,nb.foldl (λh n=>oZ (k+n).toNat h) c.array.bu⟩,()))) aS (λj h=>by
  have hx:=E _ (cV h);have O:=alg k (nb.take j) c.array.bu;have hB:=alh k (nb.take j) c.array.bu L;rw[List.take_succ_eq_append_getElem h,List.foldl_append];simp only[List.foldl_cons,List.foldl_nil];generalize (nb.take j).foldl (λh n=>oZ (k+n).toNat h) c.array.bu=G at O hB;obtain⟨q,D⟩:=iw (show 0<=k+nb[j] by omega);have C:q<G.length:=by omega
  have hg:=hB _ (cV C);have T:W6 (k+nb[j])=(q:Int):=by rw[D];exact aO
  have U:W6 (G[q]+1)=G[q]+1:=aO;rw[D,bC,Zj C];unfold Ay dm av xG xL;simp (disch:=omega) [h,T,C,U,bD,mA]) (by unfold Ay av xG xL;simp) (bP)
 rw[cv,List.take_zero,List.foldl_nil]at e;exact e
def aao{g:aU}(D:cI g=true)(l:iY){B:Int}(hB:0 <= B){a:cZ}(C:eX g B a){b r:Int}(E:0 <= b)(L:b<bf g)(O:0 <= r)(T:r<g.rows):eX g B (uJ g l a b r):=by
 have⟨_,_,_,_,Y,Z,g7,g8⟩:=fF D;have U:((b*g.rows+r)*g.aT).toNat+g.aT.toNat <= a.cells.length:=by
  have:=MP D E L O T (show 0 <= g.aT-1 by omega) (by omega);have:=C.cells;omega
 unfold uJ;refine⟨?_,?_,by simp[C.bz],by simp[aAS,C.bu],Mo C.Dg ⟨by omega,by omega⟩,aAU C.iO⟩
 ·dsimp only;cases ye l a (b*g.rows+r).toNat with
  |false=>exact C.cells
  |true=>rw[au,MO];exact C.cells
 ·dsimp only;cases ye l a (b*g.rows+r).toNat with
  |false=>exact C.syms
  |true=>rw[au];exact Tj _ U C.syms
def alI{g:aU}(Y:cI g=true)(l:iY){B:Int}(c:ax)(C:eX g B c.array){b r:Int}(Z:0<=b)(h2:b<bf g)(D:0<=r)(E:r<g.rows):L3 g l c b r=some ((),(dm c (uJ g l c.array b r),())):=by
 obtain⟨_,_,_,_,g5,g6,g7,g8⟩:=fF Y;have b2:=qg g;have er:bf g*g.rows=gu g:=by simp[gu,Y]
 obtain⟨r0,r1,r2⟩:=vU Z h2 D E;rw[er]at r2;have hk:b*g.rows+g.rows<=gu g:=by
  have:=(vU Z h2 (show 0<=g.rows-1 by omega) (show g.rows-1<g.rows by omega)).2.2;omega
 have a1:=C.bz;have a2:=C.bu;have L:W6 (b*g.rows)=b*g.rows:=aO;have e2:W6 (b*g.rows+r)=b*g.rows+r:=aO;have eL:=aEz Y c C.cells C.syms Z h2 D E;unfold uJ;generalize jY ((b*g.rows+r)*g.aT).toNat g.aT.toNat c.array.cells=cs at eL;obtain⟨i,hi⟩:=iw r1;obtain⟨k,O⟩:∃k,k=b*g.rows:=⟨_,rfl⟩
 rw[<-O]at hi hk L e2 r0 r1 r2;unfold L3 bk xL;rw[<-O,L,e2];rw[hi]at r2;rw[hi,bC];have T:i<c.array.bz.length:=by omega
 have U:i<c.array.bu.length:=by omega
 have VH:Sk g l c.array b r=some (ye l c.array i):=by
  unfold Sk xI;have e2':W6 (i:Int)=i:=aO;simp only[<-O,L,hi,e2'];unfold ye;simp only[eY,bZ T,bZ U,Option.getD_some];by_cases h:c.array.bz[i] > l.bz<;>simp[T,U,h]
 rw[VH,ak];have b1:=Mo C.iO (k:=i) (v:=0) ⟨by omega,by omega⟩;have Ee:=ZO g5 g6 D E;have qG:=aB2 g.rows r;have aap:∀ cells:aa bK,iter Ay aS (((),k,(),((lQ g.rows r).length:Int),(0:Int),()),(dm c ⟨cells,c.array.bz.set i 0,c.array.bu.set i 0⟩,lQ g.rows r,()))=some (.inl ((),(dm c ⟨cells,c.array.bz.set i 0,vX g.rows r i c.array.bu⟩,()))):=λcells=>by
  have:=aEA (dm c ⟨cells,c.array.bz.set i 0,c.array.bu.set i 0⟩) (R:=g.rows) (k:=k) (nb:=lQ g.rows r) (by omega) (alf D E) r0 (by simp[dm];omega) (by simp[dm];omega) b1;simp only[dm]at this ⊢;rw[aB3 hi r0 D]at this;exact this
 have h2x:Y4=Ay:=rfl;unfold dm at aap eL ⊢;cases ye l c.array i with
 | false=>
  simp[T,U,Ee,h2x,aap]
 | true=>
  rw[au,eL];have e2':W6 (i:Int)=i:=aO;simp[<-O,L,e2',hi,T,U,Ee,aap]
def aEB{g:aU}(C:cI g=true)(c:ax){b r:Int}(hc:(c.array.cells.length:Int)=fH g)(Y:∀ x∈c.array.cells,Sy x.symbols)(E:0<=b)(L:b<bf g)(O:0<=r)(T:r<g.rows):
  iter Ai aS (((),r,(),b*g.rows+r,(0:Int),()),(c,(g.cF,g.aB,g.rows,g.aT,()),()))=some (.inl (((),r,(),b*g.rows+r,()),(dm c ⟨jY ((b*g.rows+r)*g.aT).toNat g.aT.toNat c.array.cells,c.array.bz,c.array.bu⟩,(g.cF,g.aB,g.rows,g.aT,()),()))):=by
 obtain⟨_,_,_,_,g5,g6,g7,g8⟩:=fF C;have b1:=oc g;have b2:=qg g;obtain⟨n,Z⟩:=iw (show 0<=g.aT by omega);obtain⟨B,hB⟩:∃B,B=((b*g.rows+r)*g.aT).toNat:=⟨_,rfl⟩
 have pJ:g.aT.toNat=n:=by omega
 rw[<-hB,pJ];have lz:B+n<=c.array.cells.length:=by
  have:=MP C E L O T (show 0<=g.aT-1 by omega) (by omega);omega
 have e:=cH (step:=Ai) n (λk=>(((),r,(),b*g.rows+r,(k:Int),()),(dm c ⟨jY B k c.array.cells,c.array.bz,c.array.bu⟩,(g.cF,g.aB,g.rows,g.aT,()),()))) (.inl (((),r,(),b*g.rows+r,()),(dm c ⟨jY B n c.array.cells,c.array.bz,c.array.bu⟩,(g.cF,g.aB,g.rows,g.aT,()),()))) aS (λk hk=>by
  have OO:=MP C E L O T (show 0<=(k:Int) by omega) (by omega);have e1:W6 ((b*g.rows+r)*g.aT)=(b*g.rows+r)*g.aT:=aO;have e2:W6 ((b*g.rows+r)*g.aT+(k:Int))=((B+k:Nat):Int):=by rw[aO];omega
  have hlen:=MO B k c.array.cells;have U:=Tj k (by omega:B+k<=c.array.cells.length) Y;show Ai (((),r,(),b*g.rows+r,(k:Int),()),(dm c ⟨jY B k c.array.cells,c.array.bz,c.array.bu⟩,(g.cF,g.aB,g.rows,g.aT,()),()))=some (.inl (((),r,(),b*g.rows+r,((k+1:Nat):Int),()),(dm c ⟨(jY B k c.array.cells).set (B+k) (Dv ((jY B k c.array.cells).getD (B+k) wm)),c.array.bz,c.array.bu⟩,(g.cF,g.aB,g.rows,g.aT,()),())));generalize jY B k c.array.cells=cs at hlen U;have D:B+k<cs.length:=by omega
  have s1:=Sy.mem U D;have l1:(0:Nat)<cs[B+k].symbols.length:=by rw[s1.1];omega
  have l2:(1:Nat)<cs[B+k].symbols.length:=by rw[s1.1];omega
  have c2:decide ((k:Int)<g.aT)=true:=aW;have BZ:cs.getD (B+k) wm=cs[B+k]:=by rw[eY,bZ D];rfl
  have f0:cs[B+k].symbols.getD 0 0=cs[B+k].symbols[0]:=by rw[eY,bZ l1];rfl
  have f1:cs[B+k].symbols.getD 1 0=cs[B+k].symbols[1]:=by rw[eY,bZ l2];rfl
  rw[BZ];unfold Dv;rw[f0,f1];unfold Ai dm xC av xG xL xM;dsimp only;have t0:(0:Int).toNat=0:=rfl;have t1:(1:Int).toNat=1:=rfl;have p0:(0:Int)<=0:=Int.le_refl 0;have p1:(0:Int)<=1:=by omega
  rw[c2,au];simp only[e1,e2,bC];have cj:(0:Int)<=((B+k:Nat):Int):=by omega
  simp only[cj,D,p0,p1,t0,t1,l1,l2,and_self,dite_true,gz,mH,List.set_set,jc];have w:=bD (i:=k);simp only[w,List.getElem_set_ne (show (0:Nat)≠1 by decide)]) (by unfold Ai xC av xG xL xM;simp[Z]) (bP)
 exact e
end Go.Proofs.YtnilicojgkhpnaaGreat
