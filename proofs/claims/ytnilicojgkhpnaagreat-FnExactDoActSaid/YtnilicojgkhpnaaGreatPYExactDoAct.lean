/-
  Plain laws. Nothing here is a claim.
-/
import Derived.Test.YtnilicojgkhpnaaGreatVZ
import Derived.Test.YtnilicojgkhpnaaGreatOpenV
import Derived.Test.YtnilicojgkhpnaaGreatG1
import Derived.Test.YtnilicojgkhpnaaGreatG2
import Derived.Test.YtnilicojgkhpnaaGreatG3
import Derived.Test.YtnilicojgkhpnaaGreatG4
import Derived.Test.YtnilicojgkhpnaaGreatG5
import Derived.Test.YtnilicojgkhpnaaGreatG6
import Derived.Test.YtnilicojgkhpnaaGreatG7
import Derived.Test.YtnilicojgkhpnaaGreatG8
import Derived.Test.YtnilicojgkhpnaaGreatG9
import Derived.Test.YtnilicojgkhpnaaGreatG10
import Derived.Test.YtnilicojgkhpnaaGreatG11
import Derived.Test.YtnilicojgkhpnaaGreatGX
namespace Go.Proofs.YtnilicojgkhpnaaGreat
set_option linter.defProp false
open Go.RowKit
set_option linter.unusedVariables false
set_option linter.unusedSimpArgs false
set_option maxRecDepth 100000
def aR{n:Int}(C:-9223372036854775808<=n:=by omega)(D:n<9223372036854775808:=by omega):W6 n=n:=by
 exact(IntKind.wrap_i64 n).trans (by omega)
def aaD{α β:Type}{step:α -> ah (α⊕β)}(I:α -> Prop)(m:α -> Nat)(Q:β -> Prop)
  (h:∀x,I x -> (∃y,step x=some (.inl y)/\I y/\m y<m x) \/ ∃z,step x=some (.inr z)/\Q z):
  ∀(n:Nat) (x:α),I x -> m x<n -> ∃z,iter step n x=some z/\Q z
 |0,x,_,E=>by omega
 | n+1,x,L,E=>by
  unfold iter;rcases h x L with ⟨y,C,D,O⟩|⟨z,C,D⟩
  ·rw[C];exact aaD I m Q h n y D (by omega)
  ·simp_all
def ak{α β:Type}(x:α)(f:α->ah β):(some x).bind f=f x:=rfl
def gk{α β T:Type}{step:α -> ah (α⊕β)}(l:aa T)(q:T -> Bool)(S:Nat -> α)(D z:β)(fuel:Nat)(L:∀ k (h:k<l.length),step (S k)=some (bif q l[k]then .inl (S (k+1))else .inr D))(O:step (S l.length)=some (.inr z))(C:l.length<fuel):
  iter step fuel (S 0)=some (bif l.all q then z else D):=by
 have key:∀ (n i fuel:Nat),i+n=l.length -> n<fuel -> iter step fuel (S i)=some (bif (l.drop i).all q then z else D):=by
  intro n
  induction n with
  | zero=>
   intro i fuel hi C
   match fuel,C with
   | f+1,_=>
    have:i=l.length:=by omega
    subst this;unfold iter;simp_all
  | succ n U=>
   intro i fuel hi C
   match fuel,C with
   | f+1,C=>
    have E:i<l.length:=by omega
    unfold iter;rw[L i E,List.drop_eq_getElem_cons E,List.all_cons];cases q l[i]with
    |true=>grind
    |false=>rfl
 exact key l.length 0 fuel (by omega) C
def cB{α β:Type}{step:α -> ah (α⊕β)}(n:Nat)(S:Nat -> α)(z:β)(fuel:Nat)(E:∀ k,k<n -> step (S k)=some (.inl (S (k+1))))(D:step (S n)=some (.inr z))(C:n<fuel):iter step fuel (S 0)=some z:=by
 have key:∀ (m i fuel),i+m=n -> m<fuel -> iter step fuel (S i)=some z:=by
  intro m
  induction m with
  | zero=>
   intro i fuel hi C
   match fuel,C with
   | f+1,_=>
    have:i=n:=by omega
    subst this;unfold iter;rw[D]
  | succ m L=>
   intro i fuel hi C
   match fuel,C with
   | f+1,C=>
    unfold iter
    grind
 simp_all
def amb{α β:Type}{step:α -> ah (α⊕β)}(n:Nat)(I:Nat -> α -> Prop)(Q:β -> Prop){x:α}(fuel:Nat)(E:I 0 x)(O:∀ k,k<n -> ∀ x,I k x -> (∃ y,step x=some (.inl y)/\I (k+1) y) \/ ∃ z,step x=some (.inr z)/\Q z)(L:∀ x,I n x -> ∃ z,step x=some (.inr z)/\Q z)(C:n<fuel):∃ z,iter step fuel x=some z/\Q z:=by
 have key:∀ (m i fuel:Nat) (x:α),i+m=n -> m<fuel -> I i x -> ∃ z,iter step fuel x=some z/\Q z:=by
  intro m
  induction m with
  | zero=>
   intro i fuel x hi C D
   match fuel,C with
   | f+1,_=>
    have:i=n:=by omega
    subst this;have⟨z,T,U⟩:=L x D;unfold iter;simp_all
  | succ m Y=>
   intro i fuel x hi C D
   match fuel,C with
   | f+1,C=>
    unfold iter
    grind
 exact key n 0 fuel x (by omega) C E
def upto{α:Type}(f:α->α)(l:aa α)(i:Nat):aa α:=(l.take i).map f++l.drop i
def A1{α:Type}(f:α->α)(l:aa α)(i:Nat):(upto f l i).length=l.length:=by
 simp[upto];omega
def T9{α:Type}(f:α->α)(l:aa α):upto f l 0=l:=by simp[upto]
def G1{α:Type}(f:α->α)(l:aa α):upto f l l.length=l.map f:=by simp[upto]
def G2{α:Type}(f:α -> α)(l:aa α)(i:Nat)(h:i<l.length)(C:i<(upto f l i).length):(upto f l i)[i]=l[i]:=by
 simp[upto]
 grind
def G3{α:Type}(f:α -> α)(l:aa α)(i:Nat)(h:i<l.length):(upto f l i).set i (f l[i])=upto f l (i+1):=by
 have C:min i l.length=i:=by omega
 have e:=List.drop_eq_getElem_cons h;simp only[upto];rw[List.set_append_right _ _ (by simp;omega),e,List.take_succ_eq_append_getElem h];simp only[List.map_append,List.map_cons,List.map_nil,eS,fT,C,Nat.sub_self,List.set_cons_zero,List.append_assoc,List.cons_append,lT]
def kG{x y:Int}(h:¬ x=y):(x==y)=false:=by simp[h]
def ga{x y:Int}(h:¬ x=y):(x != y)=true:=by simp[h]
def cX{n:Nat}(h:n<1073741824:=by omega):bM n=true:=aS h
def bD{i:Nat}(h:i<4611686018427387904:=by omega):W6 ((i:Int)+1)=((i+1:Nat):Int):=by
 rw[aR];simp
def bN{n:Nat}(h:n<1073741824:=by omega):n<aX:=by unfold aX;omega
def aN(x a b:Int):Bool:=decide (a<=x)&&decide (x<=b)
def bF{x a b:Int}:aN x a b=true ↔ a<=x/\x<=b:=by simp[aN]
def dx(x a b:Int):cA x a b=some (aN x a b):=by
 unfold cA aN;by_cases h:a<=x<;>simp[h]
def ei(x a b:Int):cD x a b=some (aN x a b):=dx x a b
def cG(g:aM):Bool:=aN g.cu 1 2&&aN g.aC 1 4&&aN g.rows 2 16&&aN g.aO 1 8
def yG(g:aM):sQ g=some (cG g):=by
 unfold sQ cG;simp[dx]
 grind
def G4(g:aM):ye g=some (cG g):=by
 unfold ye cG;simp[ei]
 grind
def fG{g:aM}(h:cG g=true):1<=g.cu/\g.cu<=2/\1<=g.aC/\g.aC<=4/\2<=g.rows/\g.rows<=16/\1<=g.aO/\g.aO<=8:=by
 simp only[cG,aN,aU,iZ]at h;omega
def bg(g:aM):Int:=bif cG g then g.cu*g.aC else 0
def fH(g:aM):0 <= bg g/\bg g <= 8:=by
 unfold bg;cases h:cG g with
 |false=>simp
 | true=>
  have⟨C,D,E,L,_⟩:=fG h;simp;rcases(by omega:g.cu=1 \/ g.cu=2)with e|e<;>rw[e]<;>omega
def amc{g:aM}(h:cG g=true):1 <= bg g:=by
 have⟨C,D,E,L,_⟩:=fG h;simp[bg,h,au];rcases(by omega:g.cu=1 \/ g.cu=2)with e|e<;>rw[e]<;>omega
def oE(g:aM):oD g=some (bg g):=by
 have hb:=fH g;unfold oD;rw[yG,ak];unfold bg at hb ⊢;cases h:cG g with
 |false=>rfl
 | true=>
  rw[h]at hb;simp at hb;simp;rw[aR]
def rJ(g:aM):pR g=some (bg g):=by
 have hb:=fH g;unfold pR;rw[G4,ak];unfold bg at hb ⊢;cases h:cG g with
 |false=>rfl
 | true=>
  rw[h]at hb;simp at hb;simp;rw[aR]
def gK(g:aM):Int:=bif cG g then bg g*g.rows else 0
def fy(g:aM):Int:=bif cG g then bg g*g.rows*g.aO else 0
def Ua{a b A B:Int}(D:0<=a)(E:a<=A)(C:0<=b)(L:b<=B):0<=a*b/\a*b<=A*B:=
 ⟨Int.mul_nonneg D C,Int.le_trans (Int.mul_le_mul_of_nonneg_right E C) (Int.mul_le_mul_of_nonneg_left L (by omega))⟩
def qE(g:aM):0 <= gK g/\gK g <= 128:=by
 unfold gK;cases h:cG g with
 |false=>simp
 | true=>
  have⟨_,_,_,_,D,C,_⟩:=fG h;have:=fH g;exact Ua this.1 this.2 (by omega) C
def oF(g:aM):0 <= fy g/\fy g <= 1024:=by
 have C:=qE g;unfold fy gK at *
 cases h:cG g with
 |false=>simp
 | true=>
  rw[h]at C;have⟨_,_,_,_,E,L,O,D⟩:=fG h;exact Ua C.1 C.2 (by omega) D
def G5(g:aM):uy g=some (fy g):=by
 have C:=oF g;have D:=qE g;unfold uy;rw[oE,ak];unfold fy gK at *
 cases h:cG g with
 |false=>simp only[bg,h,aq,Int.zero_mul];rw[show W6 0=0 from rfl,Int.zero_mul];rfl
 | true=>
  rw[h]at C D;simp only[au]at C D;simp only[au];rw[aR (n:=bg g*g.rows),aR]
def G6(g:aM):sO g=some (fy g):=by
 have C:=oF g;have D:=qE g;unfold sO;rw[G4,ak,rJ,ak];unfold fy gK at *
 cases h:cG g with
 |false=>rfl
 | true=>
  rw[h]at C D;simp at C D;simp;rw[aR (n:=bg g*g.rows),aR]
def dA(g:aM)(a:aJ):Bool:=cG g&&aN a.ay 0 (bg g-1)&&aN a.row 0 (g.rows-1)&&aN a.bT 0 (g.aO-1)
def qF{g:aM}{a:aJ}(h:dA g a=true):cG g=true/\0 <= a.ay/\a.ay<bg g/\0 <= a.row/\a.row<g.rows/\0 <= a.bT/\a.bT<g.aO:=by
 simp[dA,aN,aU,iZ]at h
 grind
def yH{g:aM}{a:aJ}(h:cG g=true)(C:0 <= a.ay)(D:a.ay<bg g)(E:0 <= a.row)(L:a.row<g.rows)(O:0 <= a.bT)(T:a.bT<g.aO):dA g a=true:=by
 simp[dA,aN,aU,iZ]
 grind
def DR(g:aM)(a:aJ):yx g a=some (dA g a):=by
 unfold yx dA;simp[yG,oE,dx,ak];have hb:=fH g;cases h:cG g with
 |false=>rfl
 | true=>
  have⟨_,_,_,_,C,D,E,L⟩:=fG h;rw[aR,aR,aR]
  grind
def Ub(g:aM)(a:aJ):Au g a=some (dA g a):=by
 unfold Au dA;simp only[rJ,ei,ak];have hb:=fH g;rw[aR];cases h:cG g with
 | false=>
  have:aN a.ay 0 (bg g-1)=false:=by
   simp[bg,h,aN]
   grind
  simp_all
 | true=>
  have⟨_,_,_,_,C,D,E,L⟩:=fG h;rw[aR,aR]
  grind
def wq{b n r R:Int}(C:0 <= b)(D:b<n)(E:0 <= r)(L:r<R):0 <= b*R/\0 <= b*R+r/\b*R+r<n*R:=by
 have O:0 <= b*R:=Int.mul_nonneg C (by omega);have T:(b+1)*R <= n*R:=Int.mul_le_mul_of_nonneg_right (by omega) (by omega)
 grind
def qG(g:aM)(a:aJ):Int:=bif dA g a then (a.ay*g.rows+a.row)*g.aO+a.bT else -1
def aaE{g:aM}{a:aJ}(h:dA g a=true):0 <= qG g a/\qG g a<fy g/\0 <= a.ay*g.rows/\0 <= a.ay*g.rows+a.row/\a.ay*g.rows+a.row<gK g/\0 <= (a.ay*g.rows+a.row)*g.aO:=by
 have⟨C,D,E,L,O,T,U⟩:=qF h;have⟨r0,Y,Z⟩:=wq D E L O;have⟨l0,l1,l2⟩:=wq Y Z T U;simp[qG,h,fy,gK,C,au];omega
def G7(g:aM)(a:aJ):AZ g a=some (qG g a):=by
 unfold AZ;rw[DR,ak];cases h:dA g a with
 |false=>simp[qG,h]
 | true=>
  have hb:=aaE h;have D:=oF g;have E:=qE g;have⟨C,L,O,T,U,Y,Z⟩:=qF h;have⟨_,_,_,_,g5,g6,g7,g8⟩:=fG C;simp only[qG,h,au]at hb ⊢;simp only[bA,aq];rw[aR (n:=a.ay*g.rows),aR (n:=a.ay*g.rows+a.row),aR (n:=(a.ay*g.rows+a.row)*g.aO),aR]
def Uc(g:aM)(a:aJ):Dm g a=some (qG g a):=by
 unfold Dm;rw[Ub,ak];cases h:dA g a with
 |false=>simp[qG,h]
 | true=>
  have hb:=aaE h;have D:=oF g;have E:=qE g;have⟨C,L,O,T,U,Y,Z⟩:=qF h;have⟨_,_,_,_,g5,g6,g7,g8⟩:=fG C;simp only[qG,h,au]at hb ⊢;simp only[bA,aq];rw[aR (n:=a.ay*g.rows),aR (n:=a.ay*g.rows+a.row),aR (n:=(a.ay*g.rows+a.row)*g.aO),aR]
def wu{α β:Type}{step:α -> ah (α⊕β)}(S:Nat -> α){z:β}:∀ (n i fuel:Nat),(∀ k,i <= k -> k<i+n -> step (S k)=some (.inl (S (k+1)))) -> step (S (i+n))=some (.inr z) -> n<fuel -> iter step fuel (S i)=some z
 | 0,i,fuel,_,C,D=>by
  match fuel,D with
  |f+1,_=>unfold iter;rw[Nat.add_zero]at C;rw[C]
 | n+1,i,fuel,E,C,D=>by
  match fuel,D with
  | f+1,D=>
   unfold iter;rw[E i (dQ _) (by omega)];exact wu S n _ f (λk L O=>E k (by omega) (by omega)) (by rw[show i+1+n=i+(n+1) by omega];exact C) (by omega)
def A3{i:Nat}(h:i<4611686018427387904:=by omega):W6 ((i:Int)+1)=((i+1:Nat):Int):=by
 rw[aR];simp
def aCL(x a b:Int):cA x a b=some (decide (a <= x)&&decide (x <= b)):=by
 unfold cA
 grind
def amd{x a b:Int}(h:a<=x)(C:x<=b):cA x a b=some true:=by
 rw[aCL,aS h,aS C];rfl
def aCM{x a b:Int}(h:a<=x)(C:x<=b):cD x a b=some true:=amd h C
def opens:Nat->aa c9->aa Int
 |_,[]=>[]
 |i,b::bs=>bif b.open_ then (i:Int)::opens (i+1) bs else opens (i+1) bs
def aaF(i:Nat)(a b:aa c9):opens i (a++b)=opens i a++opens (i+a.length) b:=by
 induction a generalizing i with
 |nil=>simp[opens]
 | cons x a C=>
  simp[List.cons_append,opens]
  grind
def Ud(i:Nat)(l:aa c9):(opens i l).length <= l.length:=by
 induction l generalizing i with
 |nil=>simp[opens]
 | cons x a C=>
  have:=C (i+1);simp[opens]
  grind
def oG{α:Type}{l:aa α}{i:Nat}(h:i<l.length):l.take (i+1)=l.take i++[l[i]]:=by
 rw[List.take_succ_eq_append_getElem h]
def Ue(r:cC)(h:r.aC.length<1073741823):AP r=some (opens 0 r.aC):=by
 unfold AP bk;have e:=wu (step:=Gq) (λi=>(((),r.aC,(r.aC.length:Int),(i:Int),()),(opens 0 (r.aC.take i),()))) (z:=.inl (((),()),(opens 0 r.aC,()))) r.aC.length 0 aX (λk _ C=>?_) ?_ (by unfold aX;omega)
 ·have e:iter Gq aX (((),r.aC,r.aC.length,0,()),(([]),()))=_:=e;simp_all
 ·have C:k<r.aC.length:=by omega
  unfold Gq av xG xI;dsimp only;have D:decide ((k:Int)<(r.aC.length:Int))=true:=aS;have E:0 <= (k:Int)/\(k:Int).toNat<r.aC.length:=⟨by omega,by simpa using C⟩
  have hl:=Ud 0 (r.aC.take k);rw[fT]at hl;have L:bM ((opens 0 (r.aC.take k)).length+([(k:Int)]:aa Int).length)=true:=by
   unfold bM;simp;omega
  rw[D,au,aA E,A3,oG C,aaF];simp only[bz,opens,fT,fD,Nat.min_eq_left (Nat.le_of_lt C)];cases r.aC[k].open_ with
  |true=>grind
  |false=>grind
 ·rw[fD];unfold Gq av xG xI;simp_all
def gmT:Nat:=116196760129267793630862849262464326346044543732748708940920453221664288556434379745879494961270582141731748813355742142288220638766218855867759359510984593843506004200114943278699875244065120512813025380665946106619127097398772031257643617143689515450995722003729973585221105779229319991106539050771048038400
def gm(a b:Nat):Nat:=(gmT / 2 ^ (4*(16*a+b))) % 16
def pwT:Nat:=44684875893970114885940500792407720993
def pw(n:Nat):Nat:=(pwT / 2 ^ (4*n)) % 16
def jv(f:Nat->Bool):Bool:=(List.range 16).all f
def gL{f:Nat->Bool}(h:jv f=true){a:Nat}(C:a<16):f a=true:=by
 have:=cx.1 h a (fK.2 C);exact this
def gE(a b:Nat):gm a b<16:=Nat.mod_lt _ (by decide)
def uC(n:Nat):pw n<16:=Nat.mod_lt _ (by decide)
def aCN:(jv λa=>jv λb=>jI (Int.ofNat a) (Int.ofNat b)==some (Int.ofNat (gm a b)))=true:=by kernel_rfl
def aCO:((List.range 31).all λn=>MT 2 (Int.ofNat n)==some (Int.ofNat (pw n)))=true:=by kernel_rfl
def ame:(jv λa=>jv λb=>decide (bits .xor .i64 (Int.ofNat a) (Int.ofNat b)=Int.ofNat (a ^^^ b))&&Nat.blt (a ^^^ b) 16)=true:=by kernel_rfl
def aCP:(jv λa=>jv λb=>jv λc=>Nat.beq (gm (a ^^^ b) c) (gm a c ^^^ gm b c))=true:=by kernel_rfl
def amf:(jv λa=>Nat.beq (gm a 1) a&&Nat.beq (gm 0 a) 0)=true:=by kernel_rfl
def aCQ:(jv λC=>jv λs1=>jv λs2=>
  (λy z=>(λx=>Nat.beq (gm x 1 ^^^ (gm y 1 ^^^ (gm z 1 ^^^ C))) 0&&Nat.beq (gm x 1 ^^^ (gm y 2 ^^^ (gm z 4 ^^^ s1))) 0&&Nat.beq (gm x 1 ^^^ (gm y 4 ^^^ (gm z 3 ^^^ s2))) 0) (C ^^^ y ^^^ z))
   (gm (gm 2 (C ^^^ s1) ^^^ gm 5 (C ^^^ s2)) 13) (gm (gm 3 (C ^^^ s2) ^^^ gm 5 (C ^^^ s1)) 13))=true:=by kernel_rfl
def aCR:DD 4=some 13:=by kernel_rfl
def DS{a b:Nat}(C:a<16)(hb:b<16):jI (a:Int) (b:Int)=some (gm a b:Int):=by
 have h:=gL (gL aCN C) hb;exact eq_of_beq h
def aCS{n:Nat}(h:n<31):MT 2 (n:Int)=some (pw n:Int):=eq_of_beq (cx.1 aCO n (fK.2 h))
def rK{a b:Nat}(C:a<16)(hb:b<16):bits .xor .i64 (a:Int) (b:Int)=((a ^^^ b:Nat):Int):=by
 have h:=gL (gL ame C) hb;simp_all
def mC{a b:Nat}(C:a<16)(hb:b<16):a ^^^ b<16:=by
 have h:=gL (gL ame C) hb;simp_all
def aCT{a b c:Nat}(C:a<16)(hb:b<16)(D:c<16):gm (a ^^^ b) c=gm a c ^^^ gm b c:=cK (gL (gL (gL aCP C) hb) D)
def aCU{a:Nat}(C:a<16):gm a 1=a:=by
 have h:=gL amf C;rw[aU]at h;exact cK h.1
def Uf{a:Nat}(C:a<16):gm 0 a=0:=by
 have h:=gL amf C;rw[aU]at h;exact cK h.2
abbrev bB (w:aa Nat):aa Int:=w.map λ(n:Nat)=>(n:Int)
def dO(w:aa Nat):Prop:=∀x∈w,x<16
def ij(w:aa Nat):(bB w).length=w.length:=by simp[bB]
def uD{w:aa Nat}{k:Nat}(h:k<(bB w).length):(bB w)[k]=((w.getD k 0:Nat):Int):=by grind
def dO.get{w:aa Nat}(h:dO w)(k:Nat):w.getD k 0<16:=by
 by_cases C:k<w.length
 ·simp[fz,bZ C];exact h _ (cT C)
 ·simp_all
def aaG{w:aa Nat}(E:dO w)(hl:w.length<1000)(n:Int):wj (bB w) n=some ((w.length:Int)==n):=by
 unfold wj bE;have e:=wu (step:=AQ) (λi=>((bB w,n,bB w,((bB w).length),i,()),())) (z:=.inr (.inl ((bB w,n,()),()))) w.length 0 aX (λk _ C=>?_) ?_ (by unfold aX;omega)
 ·simp_all
 ·have C:k<(bB w).length:=by rw[ij];omega
  unfold AQ av aQ xG xI;dsimp only;have L:decide ((k:Int)<((bB w).length:Int))=true:=aS;have D:0 <= (k:Int)/\(k:Int).toNat<(bB w).length:=⟨by omega,by simpa using C⟩
  rw[L,au,aA D];have O:(bB w)[(k:Int).toNat]'D.2=((w.getD k 0:Nat):Int):=uD C;rw[O];have:=E.get k;unfold sR;rw[amd (by omega) (by omega),ak,ak,A3];rfl
 ·unfold AQ av aQ xG xI;simp_all
def bX(w:aa Nat)(j:Nat):Nat->Nat
 |0=>0
 |i+1=>bX w j i ^^^ gm (w.getD i 0) (pw (i*j))
def rL(w:aa Nat)(j:Nat):∀ i,bX w j i<16
 |0=>Nat.zero_lt_succ _
 |i+1=>mC (rL w j i) (gE _ _)
def aCV{w:aa Nat}(O:dO w)(hl:w.length=11)(j:Nat)(hj:j<3)(a b:Int)(o:aa Int)(T:j<o.length)(U:o.set j 0=o):
  iter DC aX ((bB w,(),(j:Int),a,b,bB w,((bB w).length:Int),(0:Int),()),(o,()))=some (.inl ((bB w,(),a,b,()),(o.set j (bX w j 11:Int),()))):=by
 have e:=wu (step:=DC) (λi=>((bB w,(),(j:Int),a,b,bB w,((bB w).length:Int),(i:Int),()),(o.set j (bX w j i:Int),()))) (z:=.inl ((bB w,(),a,b,()),(o.set j (bX w j 11:Int),()))) 11 0 aX (λk _ D=>?_) ?_ (by unfold aX;omega)
 ·have e:iter DC aX ((bB w,(),(j:Int),a,b,bB w,((bB w).length:Int),(0:Int),()),(o.set j 0,()))=_:=e;rw[U]at e;exact e
 ·have D:k<(bB w).length:=by rw[ij];omega
  unfold DC av xG xI xL;dsimp only;have E:decide ((k:Int)<((bB w).length:Int))=true:=aS;have L:0<=(k:Int)/\(k:Int).toNat<(bB w).length:=⟨by omega,by simpa using D⟩
  have C:0<=(j:Int)/\(j:Int).toNat<(o.set j (bX w j k:Int)).length:=⟨by omega,by simpa using T⟩
  have Y:(bB w)[(k:Int).toNat]'L.2=((w.getD k 0:Nat):Int):=uD D;have Z:(o.set j (bX w j k:Int))[(j:Int).toNat]'C.2=(bX w j k:Int):=nq _;rw[E,au,aA L,aA C,aA C.2,Y,Z];have hkj:k*j<=20:=Nat.le_trans (Nat.mul_le_mul (show k<=10 by omega) (show j<=2 by omega)) (by decide);have c6:W6 ((k:Int)*(j:Int))=((k*j:Nat):Int):=by
   rw[<-Int.natCast_mul,aR]
  rw[c6,aCS (by omega),ak,DS (O.get k) (uC _),ak,aA C,aA C.2,rK (rL _ _ _) (gE _ _),A3];have c7:(o.set j (bX w j k:Int)).set (j:Int).toNat ((bX w j k ^^^ gm (w.getD k 0) (pw (k*j)):Nat):Int)=o.set j (bX w j (k+1):Int):=List.set_set ..;rw[c7]
 ·unfold DC av xG xI xL;dsimp only;have E:decide (((0+11:Nat):Int)<((bB w).length:Int))=false:=aT (by rw[ij];omega);rw[E,aq]
def sU(w:aa Nat):Nat->aa Int
 |0=>[0,0,0]
 |1=>[(bX w 0 11:Int),0,0]
 |2=>[(bX w 0 11:Int),(bX w 1 11:Int),0]
 |_=>[(bX w 0 11:Int),(bX w 1 11:Int),(bX w 2 11:Int)]
def aaH{w:aa Nat}(D:dO w)(hl:w.length=11):AU (bB w)=some [(bX w 0 11:Int),(bX w 1 11:Int),(bX w 2 11:Int)]:=by
 unfold AU bk;have c0:((w.length:Int)==(11:Int))=true:=by rw[hl];rfl
 rw[aaG D (by omega),c0,ak];have e:=wu (step:=GF) (λj=>((bB w,(),(3:Int),(j:Int),()),(sU w j,()))) (z:=.inl (((),()),(sU w 3,()))) 3 0 aX (λk _ L=>?_) ?_ (by unfold aX;omega)
 ·have e:iter GF aX ((bB w,(),((List.replicate (3:Int).toNat (0:Int)).length:Int),(0:Int),()),(List.replicate (3:Int).toNat (0:Int),()))=_:=e;rw[show (!true)=false from rfl,aq,bI (by decide),e];rfl
 ·unfold GF av xG bk;dsimp only;have E:decide ((k:Int)<(3:Int))=true:=aS;have C:sU w k=(sU w k).set k 0/\k<(sU w k).length/\(sU w k).set k (bX w k 11:Int)=sU w (k+1):=by
   have:k=0\/k=1\/k=2:=by omega
   rcases this with rfl|rfl|rfl
   ·exact⟨rfl,by simp[sU],rfl⟩
   ·exact⟨rfl,by simp[sU],rfl⟩
   ·exact⟨rfl,by simp[sU],rfl⟩
  rw[E,au,aCV D hl k (by omega) (3:Int) (k:Int) (sU w k) C.2.1 C.1.symm,C.2.2];show some (Sum.inl ((bB w,(),(3:Int),W6 ((k:Int)+1),()),(sU w (k+1),())))=_;rw[A3]
 ·unfold GF av xG bk;dsimp only;rfl
def aCW{w:aa Nat}(C:dO w)(hl:w.length=11):Tc (bB w)=some (Nat.beq (bX w 0 11) 0&&(Nat.beq (bX w 1 11) 0&&Nat.beq (bX w 2 11) 0)):=by
 unfold Tc xL;rw[aaH C hl,ak];generalize bX w 0 11=a;generalize bX w 1 11=b;generalize bX w 2 11=c;have q:∀ n:Nat,((n:Int)==(0:Int))=Nat.beq n 0:=by
  intro n;cases n with
  |zero=>rfl
  |succ n=>rfl
 show (bif ((a:Int)==(0:Int))then (bif ((b:Int)==(0:Int))then some ((c:Int)==(0:Int))else some false)else some false)=_
 grind
def aCX(C D E:Nat)(L:C<16)(O:D<16)(T:E<16):
  (λy z=>(λx=>(gm x 1 ^^^ (gm y 1 ^^^ (gm z 1 ^^^ C)))=0/\(gm x 1 ^^^ (gm y 2 ^^^ (gm z 4 ^^^ D)))=0/\(gm x 1 ^^^ (gm y 4 ^^^ (gm z 3 ^^^ E)))=0) (C ^^^ y ^^^ z))
   (gm (gm 2 (C ^^^ D) ^^^ gm 5 (C ^^^ E)) 13) (gm (gm 3 (C ^^^ E) ^^^ gm 5 (C ^^^ D)) 13):=by
 have h:=gL (gL (gL aCQ L) O) T;simp_all
def aCY{d:aa Nat}(U:dO d)(hl:d.length=8):∃ w,Nj (bB d)=some (bB w)/\w.length=11/\dO w/\w.drop 3=d/\bX w 0 11=0/\bX w 1 11=0/\bX w 2 11=0:=by
 have Z:dO (0 :: 0 :: 0 :: d):=by
  intro x hx;simp only[iw]at hx;rcases hx with rfl|rfl|rfl|hx
  ·decide
  ·decide
  ·decide
  ·exact U x hx
 have key:∀ j x y z,j<3->x<16->y<16->z<16->bX (x :: y :: z :: d) j 11=gm x (pw (0*j)) ^^^ (gm y (pw (1*j)) ^^^ (gm z (pw (2*j)) ^^^ bX (0 :: 0 :: 0 :: d) j 11)):=by
  intro j x y z hj hx hy Z;simp only[bX,List.getD_cons_zero,List.getD_cons_succ,Nat.xor_assoc,Nat.zero_xor,Uf (uC _)]
 have e0:∀ C E L:Nat,C<16->E<16->L<16->AU (bB (0 :: 0 :: 0 :: d))=some [(C:Int),(E:Int),(L:Int)]->
   Nj (bB d)=some (bB ((C ^^^ gm (gm 2 (C ^^^ E) ^^^ gm 5 (C ^^^ L)) 13 ^^^ gm (gm 3 (C ^^^ L) ^^^ gm 5 (C ^^^ E)) 13)::gm (gm 2 (C ^^^ E) ^^^ gm 5 (C ^^^ L)) 13::gm (gm 3 (C ^^^ L) ^^^ gm 5 (C ^^^ E)) 13::d)):=by
  intro C E L D O T hs;unfold Nj xL;have c0:((d.length:Int)==(8:Int))=true:=by rw[hl];rfl
  have c1:bM ((List.replicate (3:Int).toNat (0:Int)).length+(bB d).length)=true:=by
   rw[ij,hl];rfl
  rw[aaG U (by omega),ak,c0,show (!true)=false from rfl,aq,bI (by decide),c1,au];have Y:AU (List.replicate (3:Int).toNat (0:Int)++bB d)=some [(C:Int),(E:Int),(L:Int)]:=hs;rw[Y,ak];show (DD (4:Int)).bind (λig=>(jI (2:Int) (bits .xor .i64 (C:Int) (E:Int))).bind λjH=>(jI (5:Int) (bits .xor .i64 (C:Int) (L:Int))).bind λhG=>(jI (bits .xor .i64 jH hG) ig).bind λkD=>(jI (3:Int) (bits .xor .i64 (C:Int) (L:Int))).bind λkF=>(jI (5:Int) (bits .xor .i64 (C:Int) (E:Int))).bind λrI=>(jI (bits .xor .i64 kF rI) ig).bind λqC=>some (bits .xor .i64 (bits .xor .i64 (C:Int) kD) qC::kD::qC::bB d))=_;have m2:∀b:Nat,b<16->jI (2:Int) (b:Int)=some (gm 2 b:Int):=λb hb=>DS (a:=2) (by decide) hb
  have m3:∀b:Nat,b<16->jI (3:Int) (b:Int)=some (gm 3 b:Int):=λb hb=>DS (a:=3) (by decide) hb
  have m5:∀b:Nat,b<16->jI (5:Int) (b:Int)=some (gm 5 b:Int):=λb hb=>DS (a:=5) (by decide) hb
  have G8:∀b:Nat,b<16->jI (b:Int) (13:Int)=some (gm b 13:Int):=λb hb=>DS (b:=13) hb (by decide)
  rw[aCR,ak,rK D O,rK D T,m2 _ (mC D O),ak,m5 _ (mC D T),ak,rK (gE _ _) (gE _ _),G8 _ (mC (gE _ _) (gE _ _)),ak,m3 _ (mC D T),ak,m5 _ (mC D O),ak,rK (gE _ _) (gE _ _),G8 _ (mC (gE _ _) (gE _ _)),ak,rK D (gE _ _),rK (mC D (gE _ _)) (gE _ _)];rfl
 have D:=rL (0::0::0::d) 0 11;have O:=rL (0::0::0::d) 1 11;have T:=rL (0::0::0::d) 2 11;have Y:=e0 _ _ _ D O T (aaH Z (by simp[hl]));have f:=aCX _ _ _ D O T;dsimp only at f;refine⟨_,Y,by simp[hl],?_,rfl,?_,?_,?_⟩
 ·intro x hx;simp only[iw]at hx;rcases hx with rfl | rfl | rfl | hx
  ·exact mC (mC D (gE _ _)) (gE _ _)
  ·exact gE _ _
  ·exact gE _ _
  ·exact U x hx
 ·rw[key 0 _ _ _ (by decide) (mC (mC D (gE _ _)) (gE _ _)) (gE _ _) (gE _ _)];exact f.1
 ·rw[key 1 _ _ _ (by decide) (mC (mC D (gE _ _)) (gE _ _)) (gE _ _) (gE _ _)];exact f.2.1
 ·rw[key 2 _ _ _ (by decide) (mC (mC D (gE _ _)) (gE _ _)) (gE _ _) (gE _ _)];exact f.2.2
def amg{w:aa Nat}(C:dO w){k e:Nat}(D:e<16)(L:k<w.length)(j:Nat):∀ i,bX (w.set k (w.getD k 0 ^^^ e)) j i=if i <= k then bX w j i else bX w j i ^^^ gm e (pw (k*j))
 |0=>by rw[bI (Nat.zero_le _)];rfl
 | i+1=>by
  have O:=amg C D L j i;have T:(w.set k (w.getD k 0 ^^^ e)).getD i 0=if i=k then w.getD k 0 ^^^ e else w.getD i 0:=by
   grind
  show bX _ j i ^^^ gm _ (pw (i*j))=_;rw[O,T];by_cases U:i<k
  ·rw[bI,bU,bI];rfl
  ·by_cases E:i=k
   ·subst E;rw[bI (dQ _),bI rfl,bU,aCT (C.get _) D (uC _),<- Nat.xor_assoc];rfl
   ·rw[bU,bU E,bU];show _=bX w j i ^^^ gm _ _ ^^^ gm e _
    grind
def dO.set{w:aa Nat}(h:dO w){k v:Nat}(D:v<16):dO (w.set k v):=by
 intro x C;rcases List.mem_or_eq_of_mem_set C with C|rfl
 ·exact h x C
 ·exact D
def ivT:Nat:=9460475325918865680
def iv(a:Nat):Nat:=(ivT / 2 ^ (4*a)) % 16
def aCZ(a:Nat):iv a<16:=Nat.mod_lt _ (by decide)
def aC0:(jv λa=>Nat.beq a 0 ||DD (Int.ofNat a)==some (Int.ofNat (iv a)))=true:=by kernel_rfl
def oH:aa Nat:=[8,14,7,1]
def aC1:((List.range 8).all λm=>jv λf=>(List.range 3).all λj=>
  Nat.beq (gm (gm 8 f) (pw (m*j)) ^^^ (gm (gm 14 f) (pw ((m+1)*j)) ^^^ (gm (gm 7 f) (pw ((m+2)*j)) ^^^ gm f (pw ((m+3)*j))))) 0)=true:=by kernel_rfl
def aC2:(jv λa=>jv λb=>um (Int.ofNat a) (Int.ofNat b)==some (Int.ofNat (gm a b)))=true:=by kernel_rfl
def Nx{a b:Nat}(C:a<16)(hb:b<16):um (a:Int) (b:Int)=some (gm a b:Int):=by
 have h:=gL (gL aC2 C) hb;exact eq_of_beq h
def amh(W:aa Int):iter ZL aX (((),(),(1:Int),()),(W,([(1:Int),(1:Int)]:aa Int),()))=some (.inl (((),(),()),(W,bB oH,()))):=by kernel_rfl
def ami{w:aa Nat}(E:dO w)(hl:w.length<1000)(n:Int):uj (bB w) n=some ((w.length:Int)==n):=by
 unfold uj bE;have e:=wu (step:=As) (λi=>((bB w,n,i,()),())) (z:=.inr (.inl ((bB w,n,()),()))) w.length 0 aX (λk _ C=>?_) ?_ (by unfold aX;omega)
 ·simp_all
 ·have C:k<(bB w).length:=by rw[ij];omega
  unfold As av aQ xG xI;dsimp only;have L:decide ((k:Int)<((bB w).length:Int))=true:=aS;have D:0 <= (k:Int)/\(k:Int).toNat<(bB w).length:=⟨by omega,by simpa using C⟩
  rw[L,au,aA D];have O:(bB w)[(k:Int).toNat]'D.2=((w.getD k 0:Nat):Int):=uD C;rw[O];have:=E.get k;unfold yf;rw[aCM (by omega) (by omega),ak,ak,A3];rfl
 ·unfold As av aQ xG xI;simp_all
def uE(k:Nat):Nat:=oH.getD k 0
def aC3(k:Nat):uE k<16:=by
 have:dO oH:=by
  intro x C;simp[oH,iw,List.not_mem_nil,or_false]at C;omega
 exact this.get k
def kV(r:aa Nat)(m f:Nat):Nat->aa Nat
 |0=>r
 |k+1=>(kV r m f k).set (m+k) ((kV r m f k).getD (m+k) 0 ^^^ gm (uE k) f)
def Ny(r:aa Nat)(m f:Nat):∀ k,(kV r m f k).length=r.length
 |0=>rfl
 |k+1=>by show (List.set _ _ _).length=_;rw[gG,Ny]
def Nz{r:aa Nat}(C:dO r)(m f:Nat):∀ k,dO (kV r m f k)
 |0=>C
 |k+1=>(Nz C m f k).set (mC ((Nz C m f k).get _) (gE _ _))
def Ug(w:aa Nat)(k v:Nat):(bB w).set k (v:Int)=bB (w.set k v):=(List.map_set ..).symm
def aC4{r:aa Nat}(T:dO r)(hl:r.length=11){m f:Nat}(hm:m<8)(U:f<16)(W:aa Int):
  iter FT aX (((),(),(),((m+3:Nat):Int),(f:Int),(0:Int),()),(W,bB oH,bB r,()))=some (.inl (((),(),(),((m+3:Nat):Int),()),(W,bB oH,bB (kV r m f 4),()))):=by
 have e:=wu (step:=FT) (λk=>(((),(),(),((m+3:Nat):Int),(f:Int),(k:Int),()),(W,bB oH,bB (kV r m f k),()))) (z:=.inl (((),(),(),((m+3:Nat):Int),()),(W,bB oH,bB (kV r m f 4),()))) 4 0 aX (λk _ hk=>?_) ?_ (by unfold aX;omega)
 ·exact e
 ·unfold FT av xG xL;dsimp only;have D:decide ((k:Int)<((bB oH).length:Int))=true:=aS (by show (k:Int)<4;omega);have Y:W6 (W6 (((m+3:Nat):Int)-3)+(k:Int))=((m+k:Nat):Int):=by
   rw[aR (n:=((m+3:Nat):Int)-3),aR];omega
  have L:m+k<(bB (kV r m f k)).length:=by rw[ij,Ny,hl];omega
  have C:0<=((m+k:Nat):Int)/\((m+k:Nat):Int).toNat<(bB (kV r m f k)).length:=⟨by omega,L⟩
  have O:k<(bB oH).length:=by show k<4;omega
  have E:0<=(k:Int)/\(k:Int).toNat<(bB oH).length:=⟨by omega,O⟩
  have Z:(bB (kV r m f k))[((m+k:Nat):Int).toNat]'C.2=(((kV r m f k).getD (m+k) 0:Nat):Int):=uD L;have c6:(bB oH)[(k:Int).toNat]'E.2=((uE k:Nat):Int):=uD O;rw[D,au];simp only[Y];rw[aA C,aA C.2];rw[aA E,aA E.2,c6,Nx (aC3 k) U,ak,aA C,aA C.2,Z,rK ((Nz T m f k).get _) (gE _ _),A3];have c7:(bB (kV r m f k)).set ((m+k:Nat):Int).toNat (((kV r m f k).getD (m+k) 0 ^^^ gm (uE k) f:Nat):Int)=bB (kV r m f (k+1)):=Ug _ _ _;rw[c7]
 ·unfold FT av xG xL;dsimp only;have D:decide (((0+4:Nat):Int)<((bB oH).length:Int))=false:=rfl;rw[D,aq]
def out(r:aa Nat):Nat->aa Nat
 |0=>r
 |t+1=>kV (out r t) (7-t) ((out r t).getD (10-t) 0) 4
def DT(r:aa Nat):∀ t,(out r t).length=r.length
 |0=>rfl
 |t+1=>by show (kV _ _ _ _).length=_;rw[Ny,DT]
def DU{r:aa Nat}(C:dO r):∀ t,dO (out r t)
 |0=>C
 |t+1=>Nz (DU C t) _ _ _
def amj{r:aa Nat}(D:dO r)(hl:r.length=11)(W:aa Int):
  iter FU aX (((),(),(),(10:Int),()),(W,bB oH,bB r,()))=some (.inl (((),(),()),(W,bB (out r 8),()))):=by
 have e:=wu (step:=FU) (λt=>(((),(),(),(10:Int)-(t:Int),()),(W,bB oH,bB (out r t),()))) (z:=.inl (((),(),()),(W,bB (out r 8),()))) 8 0 aX (λt _ T=>?_) ?_ (by unfold aX;omega)
 ·exact e
 ·unfold FU av xG bk xL;dsimp only;have hi:(10:Int)-(t:Int)=((7-t+3:Nat):Int):=by omega
  have L:decide ((10:Int)-(t:Int) >= 3)=true:=aS;have E:7-t+3<(bB (out r t)).length:=by rw[ij,DT,hl];omega
  have C:0<=((7-t+3:Nat):Int)/\((7-t+3:Nat):Int).toNat<(bB (out r t)).length:=⟨by omega,E⟩
  have O:(bB (out r t))[((7-t+3:Nat):Int).toNat]'C.2=(((out r t).getD (10-t) 0:Nat):Int):=(uD E).trans (by rw[show 7-t+3=10-t by omega]);rw[L,au];simp only[hi];rw[aA C,aA C.2,O,aC4 (DU D t) (by rw[DT,hl]) (by omega) ((DU D t).get _)];show some (Sum.inl (((),(),(),W6 (((7-t+3:Nat):Int)-1),()),(W,bB oH,bB (out r (t+1)),())))=_;rw[aR,show ((7-t+3:Nat):Int)-1=10-((t+1:Nat):Int) by omega]
 ·unfold FU av xG bk xL;dsimp only;rfl
def aC5:(jv λa=>Nat.beq (gm 1 a) a)=true:=by kernel_rfl
def amk{a:Nat}(C:a<16):gm 1 a=a:=cK (gL aC5 C)
def aml{r:aa Nat}(C:dO r)(hl:r.length=11){k e:Nat}(D:e<16)(E:k<11)(j:Nat):bX (r.set k (r.getD k 0 ^^^ e)) j 11=bX r j 11 ^^^ gm e (pw (k*j)):=by
 rw[amg C D (by omega) j 11,bU]
def aC6{r:aa Nat}(D:dO r)(hl:r.length=11){m f j:Nat}(E:m<8)(C:f<16)(L:j<3):bX (kV r m f 4) j 11=bX r j 11:=by
 have st:∀ k,k<4 -> bX (kV r m f (k+1)) j 11=bX _ j 11 ^^^ gm _ _:=λk T=>
  aml (Nz D m f k) (by rw[Ny,hl]) (gE _ _) (by omega) j
 have h:=cx.1 (gL (cx.1 aC1 m (fK.2 E)) C) j (fK.2 L);have h:gm (gm (uE 0) f) (pw ((m+0)*j)) ^^^ (gm (gm (uE 1) f) (pw ((m+1)*j)) ^^^ (gm (gm (uE 2) f) (pw ((m+2)*j)) ^^^ gm (gm (uE 3) f) (pw ((m+3)*j))))=0:=by
  have O:gm (uE 3) f=f:=amk C;rw[O];exact cK h
 rw[st 3 (by decide),st 2 (by decide),st 1 (by decide),st 0 (by decide),Nat.xor_assoc,Nat.xor_assoc,Nat.xor_assoc,h,Nat.xor_zero];rfl
def amm{r:aa Nat}(C:dO r)(hl:r.length=11){j:Nat}(D:j<3):∀ t,t<=8->bX (out r t) j 11=bX r j 11
 |0,_=>rfl
 |t+1,E=>(aC6 (DU C t) (by rw[DT,hl]) (by omega) ((DU C t).get _) D).trans (amm C hl D t (by omega))
def amn(r:aa Nat)(k v n:Nat):(r.set k v).getD n 0=if n=k/\k<r.length then v else r.getD n 0:=by grind
def aaI(r:aa Nat)(m f:Nat):∀ k n,m+k<=n->(kV r m f k).getD n 0=r.getD n 0
 |0,n,_=>rfl
 | k+1,n,h=>by
  show (List.set _ _ _).getD n 0=_;rw[amn,bU,aaI r m f k n (by omega)]
def aC7{r:aa Nat}{m f:Nat}(h:m+3<r.length):(kV r m f 4).getD (m+3) 0=r.getD (m+3) 0 ^^^ gm (uE 3) f:=by
 show (List.set _ _ _).getD _ 0=_;rw[amn,bI ⟨rfl,by rw[Ny];exact h⟩,aaI r m f 3 _ (dQ _)]
def amo{r:aa Nat}(C:dO r)(hl:r.length=11):∀ t,t <= 8 -> ∀ n,10-t<n -> n<11 -> (out r t).getD n 0=0
 |0,_,n,h,D=>by omega
 | t+1,L,n,h,D=>by
  show (kV _ _ _ 4).getD n 0=0;by_cases E:n=10-t
  ·have e:n=7-t+3:=by omega
   subst e;rw[aC7 (by rw[DT];omega),<- E];have:gm (uE 3) _=(out r t).getD (7-t+3) 0:=amk ((DU C t).get _);simp_all
  ·rw[aaI _ _ _ 4 n (by omega)];exact amo C hl t (by omega) n (by omega) D
def qH(w r:aa Nat):Nat->aa Nat
 |0=>w
 |k+1=>(qH w r k).set k (r.getD k 0)
def aaJ(w r:aa Nat):∀ k,(qH w r k).length=w.length
 |0=>rfl
 |k+1=>by show (List.set _ _ _).length=_;rw[gG,aaJ]
def amp{w r:aa Nat}(Y:w.length=11)(Z:r.length=11):
  iter Lq aX (((),(),(0:Int),()),(bB w,bB r,()))=some (.inl (((),()),(bB (qH w r 3),()))):=by
 have e:=wu (step:=Lq) (λi=>(((),(),i,()),(bB (qH w r i),bB r,()))) (z:=.inl (((),()),(bB (qH w r 3),()))) 3 0 aX (λk _ hk=>?_) ?_ (by unfold aX;omega)
 ·exact e
 ·unfold Lq av xG xL;dsimp only;have L:decide ((k:Int)<(3:Int))=true:=aS;have D:k<(bB r).length:=by rw[ij];omega
  have O:k<(bB (qH w r k)).length:=by rw[ij,aaJ];omega
  have C:0 <= (k:Int)/\(k:Int).toNat<(bB r).length:=⟨by omega,D⟩
  have E:0 <= (k:Int)/\(k:Int).toNat<(bB (qH w r k)).length:=⟨by omega,O⟩
  have T:(bB r)[(k:Int).toNat]'C.2=((r.getD k 0:Nat):Int):=uD D;rw[L,au,aA C,aA C.2,T,aA E,aA E.2,A3];have U:(bB (qH w r k)).set (k:Int).toNat ((r.getD k 0:Nat):Int)=bB (qH w r (k+1)):=Ug _ _ _;rw[U]
 ·rfl
def aC8{d:aa Nat}(T:dO d)(hl:d.length=8):∃ w,Ax (bB d)=some (bB w)/\w.length=11/\dO w/\bX w 0 11=0/\bX w 1 11=0/\bX w 2 11=0:=by
 have D:dO (0 :: 0 :: 0 :: d):=by
  intro x hx;simp only[iw]at hx;rcases hx with rfl|rfl|rfl|hx
  ·decide
  ·decide
  ·decide
  ·exact T x hx
 have C:(0::0::0::d).length=11:=by simp[hl]
 have U:Ax (bB d)=some (bB (qH (0 :: 0 :: 0 :: d) (out (0 :: 0 :: 0 :: d) 8) 3)):=by
  unfold Ax xA bk xZ;have c0:((d.length:Int)==(8:Int))=true:=by rw[hl];rfl
  have Y:bM ((List.replicate (3:Int).toNat (0:Int)).length+(bB d).length)=true:=by
   rw[ij,hl];rfl
  have Z:bM (([]:aa Int).length+(bB (0 :: 0 :: 0 :: d)).length)=true:=by
   rw[ij,C];rfl
  have c3:W6 (((bB (0 :: 0 :: 0 :: d)).length:Int)-(1:Int))=10:=by
   rw[ij,C];rfl
  have eW:List.replicate (3:Int).toNat (0:Int)++bB d=bB (0::0::0::d):=rfl;rw[ami T (by omega),ak,c0,show (!true)=false from rfl,aq,bI (by decide),Y,au,eW,amh,ak,en];dsimp only;rw[lT,Z,au,c3,amj D C,ak,en];dsimp only;rw[amp C (by rw[DT,C]),ak,en]
 have E:=DU D 8;have L:∀ j,j<3->bX (qH (0 :: 0 :: 0 :: d) (out (0 :: 0 :: 0 :: d) 8) 3) j 11=0:=by
  intro j hj;have O:=amm D C hj 8 (dQ _);have z:=amo D C 8 (dQ _);revert O z;generalize out (0 :: 0 :: 0 :: d) 8=r;intro O z;have h2:bX (qH (0 :: 0 :: 0 :: d) r 3) j 11=gm (r.getD 0 0) (pw (0*j)) ^^^ (gm (r.getD 1 0) (pw (1*j)) ^^^ (gm (r.getD 2 0) (pw (2*j)) ^^^ bX (0 :: 0 :: 0 :: d) j 11)):=by
   show bX (r.getD 0 0::r.getD 1 0::r.getD 2 0::d) j 11=_;simp only[bX,List.getD_cons_zero,List.getD_cons_succ,Nat.xor_assoc,Nat.zero_xor,Uf (uC _)]
  have h3:bX r j 11=gm (r.getD 0 0) (pw (0*j)) ^^^ (gm (r.getD 1 0) (pw (1*j)) ^^^ gm (r.getD 2 0) (pw (2*j))):=by
   simp only[bX,z 3 (by decide) (by decide),z 4 (by decide) (by decide),z 5 (by decide) (by decide),z 6 (by decide) (by decide),z 7 (by decide) (by decide),z 8 (by decide) (by decide),z 9 (by decide) (by decide),z 10 (by decide) (by decide),Nat.xor_assoc,Nat.zero_xor,Nat.xor_zero,Uf (uC _)]
  rw[h2,<-O,h3,<-Nat.xor_assoc (gm (r.getD 1 0) _) (gm (r.getD 2 0) _),<-Nat.xor_assoc (gm (r.getD 0 0) _),Nat.xor_self]
 refine⟨_,U,by rw[aaJ,C],?_,L 0 (by decide),L 1 (by decide),L 2 (by decide)⟩;exact((D.set (E.get _)).set (E.get _)).set (E.get _)
def wz(s:Int):Bool:=aN s 0 15
def rM(l:aa Int)(n:Int):Bool:=l.all wz&&decide ((l.length:Int)=n)
def amq(l:aa Int)(n:Int)(hl:l.length<1073741824):wj l n=some (rM l n):=by
 unfold wj rM bE;have e:=gk (step:=AQ) l wz (λi=>((l,n,l,l.length,i,()),())) _ (.inr (.inl ((l,n,()),()))) aX (λk h=>by
  unfold AQ sR av aQ xG xI;simp (disch:=omega) [h,bD,dx,wz];cases aN l[k] 0 15<;>rfl) (by unfold AQ av aQ xG xI;simp) (bN hl)
 rw[cr]at e;rw[e];cases l.all wz<;>simp;rfl
def NA(l:aa Int)(n:Int)(hl:l.length<1073741824):uj l n=some (rM l n):=by
 unfold uj rM bE;have e:=gk (step:=As) l wz (λi=>((l,n,i,()),())) _ (.inr (.inl ((l,n,()),()))) aX (λk h=>by
  unfold As yf av aQ xG xI;simp (disch:=omega) [h,bD,ei,wz];cases aN l[k] 0 15<;>rfl) (by unfold As av aQ xG xI;simp) (bN hl)
 rw[cr]at e;rw[e];cases l.all wz<;>simp;rfl
def Sy(l:aa Int):Prop:=l.length=11/\∀s∈l,0<=s/\s<=15
def Sy.ok{l:aa Int}(h:Sy l):rM l 11=true:=by
 simp[rM,aU,cx,wz,bF];exact⟨λx C=>h.2 x C,by rw[h.1];rfl⟩
def Sy.of{l:aa Int}(h:rM l 11=true):Sy l:=by
 simp[rM,aU,cx,iZ,wz,bF]at h;exact⟨by omega,h.1⟩
def aaK{a b:Int}(E:0 <= a/\a <= 15)(hb:0 <= b/\b <= 15):0 <= bits .xor .i64 a b/\bits .xor .i64 a b <= 15/\bits .xor .i64 (bits .xor .i64 a b) b=a:=by
 obtain⟨x,rfl⟩:=fL E.1;obtain⟨y,rfl⟩:=fL hb.1;have D:x<16:=by omega
 have C:y<16:=by omega
 have:=mC D C;rw[rK D C];rw[rK this C]
 grind
def Sy.set{l:aa Int}(h:Sy l){k:Nat}{v:Int}(D:0<=v/\v<=15):Sy (l.set k v):=by
 refine⟨by simp[h.1],λs C=>?_⟩
 rcases List.mem_or_eq_of_mem_set C with C|rfl
 ·exact h.2 s C
 ·exact D
def Sy.get{l:aa Int}(h:Sy l){k:Nat}(C:k<l.length):0<=l[k]/\l[k]<=15:=h.2 _ (cT C)
structure eA (g:aM) (B:Int) (a:cV):Prop where
 cells:(a.cells.length:Int)=fy g
 syms:∀c∈a.cells,Sy c.symbols
 bx:(a.bx.length:Int)=gK g
 bw:(a.bw.length:Int)=gK g
 DV:∀x∈a.bx,0<=x/\x<=B
 jg:∀x∈a.bw,0<=x/\x<=100000
def amr(c:bP)(h:c.symbols.length<1073741824):Me c=some c:=by
 unfold Me xA xZ;simp[bM,h]
def ams(c:bP)(h:c.symbols.length<1073741824):KE c=some c:=by
 unfold KE xA xZ;simp[bM,h]
def amt(a:cV)(T:a.cells.length<1073741823)(C:a.bx.length<1073741824)(D:a.bw.length<1073741824)(E:∀ c∈a.cells,c.symbols.length<1073741824):Dt a=some a:=by
 unfold Dt xA bk xZ;have e:=cB (step:=Mf) a.cells.length (λi=>(((),(),a.cells,(a.cells.length:Int),(i:Int),()),(((),(),(),()),((),(),(),()),([]:aa bP),([]:aa Int),([]:aa Int),a.cells.take i,(([]:aa Int)++a.bx),(([]:aa Int)++a.bw),())))
  (.inl (((),(),()),(((),(),(),()),((),(),(),()),([]:aa bP),([]:aa Int),([]:aa Int),a.cells,(([]:aa Int)++a.bx),(([]:aa Int)++a.bw),()))) aX (λk h=>by
  unfold Mf av xG xI;have L:min k a.cells.length=k:=by omega
  have O:bM (k+1)=true:=cX;simp (disch:=omega) [h,bD,amr _ (E _ (cT h)),L,O]) (by unfold Mf av xG xI;simp) (bN)
 rw[cr,List.take_zero]at e;rw[e];simp[bM,C,D]
def aC9(a:cV)(T:a.cells.length<1073741823)(C:a.bx.length<1073741824)(D:a.bw.length<1073741824)(E:∀ c∈a.cells,c.symbols.length<1073741824):RI a=some a:=by
 unfold RI xA bk xZ;have e:=cB (step:=KF) a.cells.length (λi=>(((),(),(),(i:Int),()),((a.cells,a.bx,a.bw,()),((),(),(),()),((),(),(),()),([]:aa bP),([]:aa Int),([]:aa Int),a.cells.take i,(([]:aa Int)++a.bx),(([]:aa Int)++a.bw),())))
  (.inl (((),(),()),(((),(),(),()),((),(),(),()),([]:aa bP),([]:aa Int),([]:aa Int),a.cells,(([]:aa Int)++a.bx),(([]:aa Int)++a.bw),()))) aX (λk h=>by
  unfold KF av xG xI;have L:min k a.cells.length=k:=by omega
  have O:bM (k+1)=true:=cX;simp (disch:=omega) [h,bD,ams _ (E _ (cT h)),L,O]) (by unfold KF av xG xI;simp) (bN)
 rw[cr,List.take_zero]at e;rw[e];simp[bM,C,D]
def eA.lens{g:aM}{B:Int}{a:cV}(h:eA g B a):a.cells.length<1073741823/\a.bx.length<1073741824/\a.bw.length<1073741824/\∀ c∈a.cells,c.symbols.length<1073741824:=by
 have D:=h.cells;have E:=h.bx;have L:=h.bw;have O:=oF g;have T:=qE g;exact⟨by omega,by omega,by omega,λc C=>by rw[(h.syms c C).1];omega⟩
def eA.copy{g:aM}{B:Int}{a:cV}(h:eA g B a):Dt a=some a:=
 let ⟨C,D,E,L⟩:=h.lens;amt a C D E L
def A4(c:bP):Bool:=rM c.symbols 11
def sV(p:Int×Int):Bool:=aN p.1 0 100000&&aN p.2 0 100000
def lN(g:aM)(a:cV):Bool:=cG g&&(decide ((a.cells.length:Int)=fy g)&&(decide ((a.bx.length:Int)=gK g)&&(decide ((a.bw.length:Int)=gK g)&&(a.cells.all A4&&(a.bx.zip a.bw).all sV))))
def amu(g:aM)(a:cV)(L:∀ c∈a.cells,c.symbols.length<1073741824):Dw g a=some (lN g a):=by
 unfold Dw lN bE;rw[oE,ak,yG,ak,G5];cases O:cG g with
 |false=>rfl
 | true=>
  have Y:=oF g;have Z:=qE g;have er:bg g*g.rows=gK g:=by simp[gK,O]
  simp only[bA,aq,ak,cw,er];rw[aR];by_cases C:(a.cells.length:Int)=fy g
  ·by_cases D:(a.bx.length:Int)=gK g
   ·by_cases E:(a.bw.length:Int)=gK g
    ·have hl:a.bx.length=a.bw.length:=by omega
     have l1:=gk (step:=Mw) a.cells A4 (λi=>(((),a.cells,(a.cells.length:Int),(i:Int),()),((a.cells,a.bx,a.bw,()),()))) (.inl ((false,()),())) (.inr (.inl (((),()),((a.cells,a.bx,a.bw,()),())))) aX (λk h=>by
      unfold Mw av aQ xG xI;simp (disch:=omega) [h,bD,amq _ 11 (L _ (cT h)),A4];cases rM a.cells[k].symbols 11<;>rfl) (by unfold Mw av aQ xG xI;simp) (bN)
     have l2:=gk (step:=Mx) (a.bx.zip a.bw) sV (λi=>(((),(a.bx.length:Int),(i:Int),()),((a.cells,a.bx,a.bw,()),()))) (.inl ((false,()),())) (.inr (.inl ((),()))) aX (λk h=>by
      have T:k<a.bx.length:=by simp at h;omega
      have U:k<a.bw.length:=by omega
      unfold Mx av aQ xG xI;simp (disch:=omega) [T,U,bD,dx,sV];cases aN a.bx[k] 0 100000<;>cases aN a.bw[k] 0 100000<;>rfl) (by unfold Mx av aQ xG xI;simp[hl]) (bN (by simp;omega))
     rw[cr]at l1 l2;simp only[C,D,E,dY,aq,decide_true,cw];rw[<-C,l1];cases h1:a.cells.all A4 with
     |false=>simp
     | true=>
      simp only[au,Option.bind_some,Sum.elim_inr,en];rw[l2];cases (a.bx.zip a.bw).all sV<;>simp
    ·simp[C,D,ga E,E]
   ·simp[C,ga D,D]
  ·simp[ga C,C]
def eA.ok{g:aM}{B:Int}{a:cV}(h:eA g B a)(E:cG g=true)(hB:B <= 100000):Dw g a=some true:=by
 rw[amu g a (λc C=>by rw[(h.syms c C).1];omega)];have L:=h.cells;have O:=h.bx;have T:=h.bw;have U:a.cells.all A4=true:=cx.2 λc C=>(h.syms c C).ok
 have Y:(a.bx.zip _).all sV=true:=cx.2 λp Z=>by
  obtain⟨x,y⟩:=p;have D:=List.of_mem_zip Z;have a1:=h.DV x D.1;have a2:=h.jg y D.2;simp[sV,aU,bF];omega
 simp[lN,E,L,O,T,U,Y]
def nW(g:aM):(⟨g.cu,g.aC,g.rows,g.aO⟩:aM)=g:=rfl
def mX(n x:Int):Int:=if 100000<x+n then 100000 else x+n
def aaL(l:aa Int)(h:∀ s∈l,0 <= s/\s <= 15):bB (l.map Int.toNat)=l/\dO (l.map Int.toNat):=by
 constructor
 ·induction l with
  |nil=>rfl
  | cons x l C=>
   have D:=h x (.head _);have:=C λs E=>h s (.tail _ E)
   grind
 ·intro x D
  grind
def NB{w:aa Nat}(D:dO w)(hl:w.length=11):Sy (bB w):=by
 refine⟨by rw[ij,hl],λs C=>?_⟩
 simp at C;obtain⟨x,E,rfl⟩:=C;have:=D x E;omega
def Sy.mem{l:aa bP}(h:∀c∈l,Sy c.symbols){k:Nat}(C:k<l.length):Sy l[k].symbols:=h _ (cT C)
def Sy.cg{l:aa bP}(h:∀c∈l,Sy c.symbols){k:Nat}{d:bP}(C:Sy d.symbols):∀c∈l.set k d,Sy c.symbols:=by grind
def NC{l:aa Int}{B C:Int}(h:∀x∈l,B <= x/\x <= C){k:Nat}{v:Int}(D:B <= v/\v <= C):∀x∈l.set k v,B <= x/\x <= C:=by grind
def yI(l:jq)(a:cV)(i:Nat):Bool:=decide (a.bx.getD i 0 > l.bx) ||decide (a.bw.getD i 0 > l.bw)
def aDa(g:aM)(l:jq)(a:cV)(i:Nat)(C:i<a.bx.length)(D:i<a.bw.length):F5 g l a (i:Int)=some (yI l a i):=by
 unfold F5 yI xI
 grind
def aDb{l:aa Int}{B C:Int}(h:∀ x∈l,B<=x/\x<=C)(k:Nat)(D:B<=0/\0<=C):B<=l.getD k 0/\l.getD k 0<=C:=by
 rw[fz];cases E:l[k]? with
 |none=>exact D
 |some x=>exact h x (hU E)
def amv{x:Int}(h:0<=x/\x<=100000){n:Int}(C:0<=n):0<=mX n x/\mX n x<=100000:=by
 unfold mX;split<;>omega
def pS(k:Nat)(h:aa Int):aa Int:=h.set k (mX 1 (h.getD k 0))
def ND(k:Nat)(h:aa Int):(pS k h).length=h.length:=by simp[pS]
def Uh{k:Nat}{h:aa Int}(hb:∀ x∈h,0<=x/\x<=100000):∀ x∈pS k h,0<=x/\x<=100000:=
 NC hb (amv (aDb hb k ⟨by omega,by omega⟩) (by omega))
def aaM{k:Nat}{h:aa Int}(C:k<h.length):pS k h=h.set k (mX 1 h[k]):=by
 unfold pS;rw[fz,bZ C];rfl
def A5(row:Int)(i:Nat)(h:aa Int):aa Int:=bif decide (0<row)then pS (i-1) (h.set i 0)else h.set i 0
def wA(R row:Int)(i:Nat)(h:aa Int):aa Int:=bif decide (row<R-1)then pS (i+1) (A5 row i h)else A5 row i h
def aDc(row:Int)(i:Nat)(h:aa Int):(A5 row i h).length=h.length:=by
 unfold A5;cases decide (0<row)<;>simp[ND]
def aDd(R row:Int)(i:Nat)(h:aa Int):(wA R row i h).length=h.length:=by
 unfold wA;cases decide (row<R-1)<;>simp[ND,aDc]
def aDe{row:Int}{i:Nat}{h:aa Int}(hb:∀ x∈h,0<=x/\x<=100000):∀ x∈A5 row i h,0<=x/\x<=100000:=by
 have C:=NC hb (k:=i) (v:=0) ⟨by omega,by omega⟩;unfold A5;cases decide (0<row)
 ·exact C
 ·exact Uh C
def aDf{R row:Int}{i:Nat}{h:aa Int}(hb:∀ x∈h,0<=x/\x<=100000):∀ x∈wA R row i h,0<=x/\x<=100000:=by
 have C:=aDe (row:=row) (i:=i) hb;unfold wA;cases decide (row<R-1)
 ·exact C
 ·exact Uh C
def Gv{C:Type}(P:C->Prop)(o:ah C):Prop:=∃y,o=some y/\P y
def Gv.pure{C:Type}{P:C->Prop}{y:C}(h:P y):Gv P (some y):=⟨y,rfl,h⟩
def Gv.bind{α C:Type}{Q:α->Prop}{P:C->Prop}{f:ah α}{g:α->ah C}(h:Gv Q f)(D:∀ y,Q y->Gv P (g y)):Gv P (f.bind g):=by
 obtain⟨y,rfl,E⟩:=h;exact D y E
def aDg(x a b:Int):Gv (λy=>y=aN x a b) (cD x a b):=⟨_,ei x a b,rfl⟩
def aDh(k:Int):Gv (λy=>y=(aN k 1 5,k==1,(k==2 || k==3))) (SB k):=by
 refine Gv.bind (aDg _ _ _) (λ_ h=>?_)
 subst h;cases h:k==2<;>exact Gv.pure (by simp)
def NF(y:Int):0<=bits .and .i64 y 15/\bits .and .i64 y 15<=15:=by
 have e:bits .and .i64 y 15=IntKind.wrap .i64 ((BitVec.ofInt 64 y &&& BitVec.ofInt 64 15).toNat:Int):=rfl;have h:(BitVec.ofInt 64 y &&& BitVec.ofInt 64 15).toNat<=15:=by
  rw[BitVec.toNat_and];exact Nat.le_trans Nat.and_le_right (by decide)
 rw[e,IntKind.wrap_i64];omega
def oJ(t:dj):aa Int:=[t.jY,t.rp,t.gX,t.nt,t.jZ,t.ke,t.nu,t.ny,t.jy,t.wr,t.nA,t.nB,t.p9,t.nD,t.n7,t.xp,t.xs]
def yJ(x:Int):Bool:=aN x 1 64
def jh(t:dj):Bool:=(oJ t).all yJ&&(decide (t.jY<=t.gX)&&(decide (t.nt<=t.jZ)&&(decide (t.nu<=t.ny)&&decide (t.nA<=t.nB))))
def NG(t:dj):Gl t=some (jh t):=by
 unfold Gl jh bE;change (iter Gk aX (((),(),((oJ t).length:Int),(0:Int),()),(t,oJ t,()))).bind _=_;have C:(oJ t).length=17:=rfl;generalize oJ t=l at *
 have e:=gk (step:=Gk) l yJ (λi=>(((),(),(l.length:Int),(i:Int),()),(t,l,()))) _ (.inr (.inl (((),()),(t,())))) aX (λk h=>by
  unfold Gk av aQ xG xL;simp (disch:=omega) [h,bD,dx,yJ];cases aN l[k] 1 64<;>rfl) (by unfold Gk av aQ xG xL;simp) (bN)
 rw[cr]at e;rw[e];cases l.all yJ<;>simp
 grind
def Ui(t:dj):C2 t=some (jh t):=by
 unfold C2 jh ZD bE;rw[ak];change (iter FH aX (((),(),(0:Int),()),(t,oJ t,()))).bind _=_;have C:(oJ t).length=17:=rfl;generalize oJ t=l at *
 have e:=gk (step:=FH) l yJ (λi=>(((),(),(i:Int),()),(t,l,()))) (.inl ((false,()),())) (.inr (.inl (((),()),(t,())))) aX (λk h=>by
  unfold FH av aQ xG xL;simp (disch:=omega) [h,bD,ei,yJ];cases aN l[k] 1 64<;>rfl) (by unfold FH av aQ xG xL;simp) (bN)
 rw[cr]at e;rw[e];cases l.all yJ<;>simp
 grind
def aDi(t:dj):KM t=yu t:=by
 unfold KM yu;rw[NG,Ui]
def aDj(t:dj):∃ y,yu t=some y:=by
 unfold yu;rw[NG];cases jh t<;>exact⟨_,rfl⟩
def NH(R i:Nat):Int:=((i % R:Nat):Int)
def mD(n R:Nat):aa Int:=(List.range n).map (NH R)
def aaN(n R:Nat):(mD n R).length=n:=by simp[mD]
def aDk(n R:Nat):mD (n+1) R=mD n R++[NH R n]:=by simp[mD,List.range_succ]
def jU(g:aM)(n:Int):Bool:=cG g&&(aN n 0 2&&decide (2<=g.rows-n))
def A6(g:aM)(n:Int):cQ×Bool:=bif jU g n then (⟨n,mD ((bg g).toNat*(g.rows-n).toNat) (g.rows-n).toNat⟩,true)else (⟨0,[]⟩,false)
def Uj{g:aM}{n:Int}(h:jU g n=true):cG g=true/\0 <= n/\n <= 2/\2 <= g.rows-n/\g.rows <= 16:=by
 simp[jU,aU,bF,iZ]at h;have⟨C,⟨D,E⟩,L⟩:=h;have:=fG C;simp_all
def amw(g:aM)(n:Int):KJ g n=some (A6 g n):=by
 unfold KJ A6 bk;rw[G4,ak];cases D:cG g with
 |false=>simp[jU,D]
 | true=>
  simp only[bA,aq,ei,ak];cases E:aN n 0 2 with
  |false=>simp[jU,E]
  | true=>
   have qX:=bF.1 E;have gb:=fG D;simp only[bA,aq];rw[aR];by_cases L:g.rows-n<2
   ·have:decide (2<=g.rows-n)=false:=aT;rw[aS L,au];simp[jU,this]
   ·have T:jU g n=true:=by simp[jU,D,E];omega
    rw[aT L,aq,T,au];have U:=fH g;obtain⟨C,hb⟩:=fL U.1;obtain⟨R,hR⟩:=fL (show 0<=g.rows-n by omega);have hm:C*R<=8*16:=Nat.mul_le_mul (by omega) (by omega);have hmul:W6 ((C:Int)*(R:Int))=((C*R:Nat):Int):=by
     rw[<-Int.natCast_mul];exact aR
    have O:W6 (g.rows-n)=(R:Int):=by rw[hR];exact aR
    have e:=cB (step:=KI) (C*R) (λi=>((n,(),(),(),(i:Int),()),((g.cu,g.aC,g.rows,g.aO,()),((0:Int),(),()),(n,(),()),([]:aa Int),mD i R,())))
     (.inl (((),(),()),(((0:Int),(),()),(n,(),()),([]:aa Int),mD (C*R) R,()))) aX (λk h=>by
     unfold KI av xG;have Y:bM ((mD k R).length+1)=true:=cX (by rw[aaN];omega);have Z:(k:Int).tmod (R:Int)=NH R k:=by unfold NH;exact(Int.ofNat_tmod k R).symm
     dsimp only;rw[nW,rJ,ak,O,hb,hmul,aS,au,bU,Z];simp only[List.length_cons,List.length_nil,fD];rw[Y,au,bD,aDk]) (by
     unfold KI av xG;dsimp only;rw[nW,rJ,ak,O,hb,hmul,aT,aq]) (bN)
    rw[cr]at e
    refine(aZ (λo=>Option.bind o _) e).trans ?_
    rw[hb,hR];rfl
def aDl(b R:Nat)(hR:0<R)(j:Nat)(C:j <= R):mD (b*R+j) R=mD (b*R) R++(List.range j).map (λi:Nat=>(i:Int)):=by
 unfold mD;rw[List.range_add,List.map_append,List.map_map];congr 1
 refine List.map_congr_left λi hi=>?_
 have hi:=fK.1 hi;simp only[Function.comp,NH];rw[Nat.mul_comm,Nat.mul_add_mod,Nat.mod_eq_of_lt (by omega)]
def amx(g:aM)(n:Int):Mj g n=some (A6 g n):=by
 unfold Mj A6 bk;rw[yG,ak];cases C:cG g with
 |false=>simp[jU,C]
 | true=>
  simp only[bA,aq,dx,ak];cases D:aN n 0 2 with
  |false=>simp[jU,D]
  | true=>
   have Z:=bF.1 D;have gb:=fG C;simp only[bA,aq];rw[aR];by_cases L:g.rows-n<2
   ·have:decide (2<=g.rows-n)=false:=aT;rw[aS L,au];simp[jU,this]
   ·have T:jU g n=true:=by simp[jU,C,D];omega
    rw[aT L,aq,T,au];have U:=fH g;obtain⟨E,hb⟩:=fL U.1;obtain⟨R,hR⟩:=fL (show 0<=g.rows-n by omega);have O:W6 (g.rows-n)=(R:Int):=by rw[hR];exact aR
    have inner:∀ b:Nat,b<E->iter Gj aX ((n,(),(),(),(b:Int),(0:Int),()),((g.cu,g.aC,g.rows,g.aO,()),((0:Int),(),()),(n,(),()),([]:aa Int),mD (b*R) R,()))=some (.inl ((n,(),(),(),(b:Int),()),((g.cu,g.aC,g.rows,g.aO,()),((0:Int),(),()),(n,(),()),([]:aa Int),mD ((b+1)*R) R,()))):=by
     intro b NI;have hm:b*R<=8*16:=Nat.mul_le_mul (by omega) (by omega);have e:=cB (step:=Gj) R (λj=>((n,(),(),(),(b:Int),(j:Int),()),((g.cu,g.aC,g.rows,g.aO,()),((0:Int),(),()),(n,(),()),([]:aa Int),mD (b*R) R++(List.range j).map (λi:Nat=>(i:Int)),())))
      (.inl ((n,(),(),(),(b:Int),()),((g.cu,g.aC,g.rows,g.aO,()),((0:Int),(),()),(n,(),()),([]:aa Int),mD (b*R) R++(List.range R).map (λi:Nat=>(i:Int)),()))) aX (λk h=>by
      unfold Gj av xG;have Y:bM ((mD (b*R) R++(List.range k).map (λi:Nat=>(i:Int))).length+1)=true:=cX (by simp[aaN];omega);dsimp only;rw[O,aS,au];simp only[List.length_cons,List.length_nil,fD];rw[Y,au,bD,List.range_succ,List.map_append,List.append_assoc];rfl) (by
      unfold Gj av xG;dsimp only;rw[O,aT,aq]) (bN)
     rw[cr,List.range_zero,List.map_nil,List.append_nil]at e;rw[e,<-aDl b R (by omega) R (dQ _),iN]
    have e:=cB (step:=Mi) E (λi=>((n,(),(),(),(i:Int),()),((g.cu,g.aC,g.rows,g.aO,()),((0:Int),(),()),(n,(),()),([]:aa Int),mD (i*R) R,())))
     (.inl (((),(),()),(((0:Int),(),()),(n,(),()),([]:aa Int),mD (E*R) R,()))) aX (λk h=>by
     unfold Mi av xG bk;dsimp only;rw[nW,oE,ak,hb,aS,au]
     refine(aZ (λo=>Option.bind o _) (inner k h)).trans ?_
     rw[ak];simp only[en];rw[bD]) (by
     unfold Mi av xG bk;dsimp only;rw[nW,oE,ak,hb,aT,aq]) (bN)
    rw[cr,Nat.zero_mul]at e
    refine(aZ (λo=>Option.bind o _) e).trans ?_
    rw[hb,hR];rfl
def DW(t:dj):Int:=(yu t).getD 0
def aaO(t:dj):yu t=some (DW t):=by
 obtain⟨y,e⟩:=aDj t;unfold DW;rw[e];rfl
def aDm(t:dj):KM t=some (DW t):=by rw[aDi,aaO]
def aaP(m:jX):Mk m=some (aN m.order 0 2):=by
 unfold Mk;rw[dx];rfl
def aDn(m:jX):FI m=some (aN m.order 0 2):=by
 unfold FI;rw[ei];rfl
def oK(c:iG):Bool:=cG c.az&&(jh c.cq&&(aN c.mapping.order 0 2&&(jU c.az c.bQ&&(aN c.interval (DW c.cq) 10000&&(aN c.iQ 1 16&&(aN c.dW.bx (W6 ((6:Int)*c.interval)) 100000&&aN c.dW.bw 0 100000))))))
def Uk(g:aM)(n:Int):(A6 g n).2=jU g n:=by
 unfold A6;cases jU g n<;>rfl
def aaQ(c:iG):S1 c=some (oK c):=by
 unfold S1 oK;simp only[amx,yG,NG,aaP,aaO,dx,ak,Uk];cases cG c.az<;>cases jh c.cq<;>cases aN c.mapping.order 0 2<;>cases jU c.az c.bQ<;>cases aN c.interval (DW c.cq) 10000<;>cases aN c.iQ 1 16<;>cases aN c.dW.bx (W6 ((6:Int)*c.interval)) 100000<;>rfl
def aDo(c:iG):RL c=some (oK c):=by
 unfold RL oK;simp only[amw,Ui,aDn,aDm,ei,ak,Uk];cases h:jU c.az c.bQ with
 |false=>cases cG c.az<;>cases jh c.cq<;>cases aN c.mapping.order 0 2<;>rfl
 | true=>
  rw[(Uj h).1];cases jh c.cq<;>cases aN c.mapping.order 0 2<;>cases aN c.interval (DW c.cq) 10000<;>cases aN c.iQ 1 16<;>cases aN c.dW.bx (W6 ((6:Int)*c.interval)) 100000<;>rfl
def aaR{c:iG}(h:oK c=true):cG c.az=true/\jh c.cq=true/\jU c.az c.bQ=true/\aN c.iQ 1 16=true:=by
 simp[oK,aU]at h;simp_all
def amy{t:dj}(h:jh t=true):(1 <= t.gX/\t.gX <= 64)/\1 <= t.rp/\t.rp <= 64:=by
 simp[jh,aU,cx]at h;have C:=h.1 t.gX (by simp[oJ]);have D:=h.1 t.rp (by simp[oJ]);simp[yJ,bF]at C D;simp_all
def nX(s:bY):Bool:=aN s.weight 1 9&&aN s.ff 0 s.weight
def ji(l:aa bY):Bool:=l.all nX&&aN (l.length:Int) 1 4
def NJ(l:aa bY)(hl:l.length<1073741824):Gm l=some (ji l):=by
 unfold Gm ji bE;have e:=gk (step:=Ml) l nX (λi=>((l,l,l.length,i,()),())) _ (.inr (.inl ((l,()),()))) aX (λk h=>by
  unfold Ml av aQ xG xI;simp (disch:=omega) [h,bD,dx,nX];cases aN l[k].weight 1 9<;>cases aN l[k].ff 0 l[k].weight<;>rfl) (by unfold Ml av aQ xG xI;simp) (bN hl)
 rw[cr]at e;rw[e];cases l.all nX<;>simp[dx]
def aaS(l:aa bY)(hl:l.length<1073741824):FJ l=some (ji l):=by
 unfold FJ ji bE;have e:=gk (step:=KN) l nX (λi=>((l,i,()),())) _ (.inr (.inl ((l,()),()))) aX (λk h=>by
  unfold KN av aQ xG xI;simp (disch:=omega) [h,bD,ei,nX];cases aN l[k].weight 1 9<;>cases aN l[k].ff 0 l[k].weight<;>rfl) (by unfold KN av aQ xG xI;simp) (bN hl)
 rw[cr]at e;rw[e];cases l.all nX<;>simp[ei]
def oL(w:Int):bY:=⟨w,w⟩
def DX(l:aa Int):aa bY×Bool:=bif ji (l.map oL)then (l.map oL,true)else ([],false)
def amz{l:aa Int}{k:Nat}(h:k<l.length):(l.take (k+1)).map oL=(l.take k).map oL++[⟨l[k],l[k]⟩]:=by
 rw[List.take_succ_eq_append_getElem h,List.map_append];rfl
def amA(l:aa Int)(hl:l.length<1073741823):AO l=some (DX l):=by
 unfold AO DX bk;have e:=cB (step:=Mm) l.length (λi=>(((),l,(l.length:Int),(i:Int),()),((l.take i).map oL,()))) _ aX (λk h=>by
  unfold Mm av xG xI;have C:bM (((l.take k).map oL).length+1)=true:=cX (by simp;omega);dsimp only;rw[aS,au,aA ⟨by omega,by omega⟩];simp only[List.length_cons,List.length_nil,fD,bz];rw[C,au,bD,amz h]) (by
  unfold Mm av xG xI;dsimp only;rw[aT,aq,iP]) (bN)
 refine(aZ (λo=>Option.bind o _) e).trans ?_
 rw[ak];simp only[en];rw[NJ _ (by simp;omega),ak]
 grind
def amB(l:aa Int)(hl:l.length<1073741823):C4 l=some (DX l):=by
 unfold C4 DX bk;have e:=cB (step:=KO) (min l.length 5) (λi=>((l,(),(i:Int),()),((l.take i).map oL,()))) (.inl (((),()),((l.take 5).map oL,()))) aX (λk h=>by
  have C:k<l.length:=by omega
  unfold KO av xG xI;have D:bM (((l.take k).map oL).length+1)=true:=cX (by simp;omega);dsimp only;rw[aS,au,aS,au,aA ⟨by omega,by omega⟩,aA ⟨by omega,by omega⟩];simp only[List.length_cons,List.length_nil,fD,bz];rw[D,au,bD,amz C]) (by
  unfold KO av xG xI;dsimp only;by_cases c:l.length <= 5
  ·rw[Nat.min_eq_left c,iP,List.take_of_length_le c];by_cases O:l.length=5
   ·rw[aT,aq]
   ·rw[aT,aq]
  ·rw[Nat.min_eq_right (by omega),aS,au,aT,aq]) (bN)
 rw[cr,List.take_zero,List.map_nil]at e
 refine(aZ (λo=>Option.bind o _) e).trans ?_
 rw[ak];simp only[en];rw[aaS _ (by simp;omega),ak];by_cases c:l.length <= 5
 ·rw[List.take_of_length_le c];cases ji _<;>rfl
 ·have E:ji (l.map oL)=false:=by
   unfold ji;have:aN ((l.map oL).length:Int) 1 4=false:=by
    rw[Bool.eq_false_iff];intro h;have:=(bF.1 h).2
    grind
   rw[this,Bool.and_false]
  have L:ji ((l.take 5).map oL)=false:=by
   unfold ji;have:aN (((l.take 5).map oL).length:Int) 1 4=false:=by
    rw[Bool.eq_false_iff];intro h;have:=(bF.1 h).2
    grind
   rw[this,Bool.and_false]
  rw[E,L];rfl
def amC(l:aa Int):(DX l).2=ji (l.map oL):=by
 unfold DX;cases ji (l.map oL)<;>rfl
def pT(d:gP):Bool:=decide (d.low >= 0)&&(decide (d.low<d.high)&&decide (d.high<=12))
def Ul(d:gP):Du d=some (pT d):=by
 unfold Du pT
 grind
def Um(d:gP):C3 d=some (pT d):=by
 unfold C3 pT
 grind
def A7(r:lA):Bool:=aN r.down 1 10000&&(decide (r.sleep > r.down)&&decide (r.sleep<=20000))
def amD(r:lA):Mn r=some (A7 r):=by
 unfold Mn A7;rw[dx]
 grind
def amE(r:lA):KP r=some (A7 r):=by
 unfold KP A7;rw[ei]
 grind
def oM(p:fh):Bool:=aN p.eX 0 1&&(aN p.cap 0 100000&&(aN p.fQ 3 1000&&(pT ⟨false,p.low,p.high⟩&&((p.weights.length:Int)==4&&(ji (p.weights.map oL)&&A7 p.eT)))))
def amF(p:fh)(hl:p.weights.length<1073741823):KQ p=some (oM p):=by
 unfold KQ oM;simp[amB _ hl,ak,ei,Um,amE,amC]
 grind
def aDp(x:Int):aN x 0 1=(x==0 || x==1):=by
 rw[Bool.eq_iff_iff];simp[aN];omega
def Un(p:fh)(hl:p.weights.length<1073741823):Mo p=some (oM p):=by
 unfold Mo oM;simp[amA _ hl,ak,dx,Ul,amD,amC,aDp]
 grind
def aDq(x:Int):RN x=Gn x:=by
 unfold RN Gn;rw[ei,dx]
def aaT(x:Int):∃ y,Gn x=some y:=by
 unfold Gn;rw[dx];cases aN x 3 1000<;>exact⟨_,rfl⟩
def aaU(c:iG)(p:fh)(hl:p.weights.length<1073741823):∃ b,uz c p=some b/\(b=true->oK c=true):=by
 unfold uz;obtain⟨y,e⟩:=aaT p.fQ;simp only[aaQ,Un _ hl,e,ak];cases C:oK c with
 |false=>exact⟨false,rfl,λh=>by cases h⟩
 | true=>
  have E:=amy (aaR C).2.1;have D:¬ W6 (c.cq.gX+c.cq.rp)=0:=by
   rw[aR];omega
  cases oM p with
  |false=>exact⟨false,rfl,λ_=>rfl⟩
  | true=>
   simp only[bU D,bA,aq,au];cases decide (W6 (y+2)<=c.dW.bw)<;>exact⟨_,rfl,λ_=>by first|rfl|trivial⟩
def aDr(c:iG)(p:fh)(hl:p.weights.length<1073741823):∃ b,uz c p=some b/\C5 c p=some b/\(b=true->oK c=true):=by
 unfold uz C5;obtain⟨y,e⟩:=aaT p.fQ;simp only[aaQ,aDo,Un _ hl,amF _ hl,aDq,e,ak];cases C:oK c with
 |false=>exact⟨false,rfl,rfl,λh=>by cases h⟩
 | true=>
  have E:=amy (aaR C).2.1;have D:¬ W6 (c.cq.gX+c.cq.rp)=0:=by
   rw[aR];omega
  cases oM p with
  |false=>exact⟨false,rfl,rfl,λ_=>rfl⟩
  | true=>
   simp only[bU D,bA,aq,au];cases decide (W6 (y+2)<=c.dW.bw)<;>exact⟨_,rfl,rfl,λ_=>by first|rfl|trivial⟩
def amG(i:Nat)(l:aa c9):((opens i l).length==0)=l.all λb=>!b.open_:=by
 induction l generalizing i with
 |nil=>rfl
 | cons x a C=>
  simp[opens,List.all_cons]
  grind
def rN(g:aM)(b:c9):Bool:=aN b.row 0 (g.rows-1)&&(b.open_ ||b.row==0)
def mE(g:aM)(r:cC):Bool:=cG g&&(((r.aC.length:Int)==bg g)&&(aN r.bf 0 2&&(r.aC.all (rN g)&&(r.bf != 2 ||r.aC.all λb=>!b.open_))))
def amH(g:aM)(r:cC):Mq g r=some (mE g r):=by
 unfold Mq mE bE;rw[yG,ak,oE];cases D:cG g with
 |false=>rfl
 | true=>
  simp only[bA,aq,ak,cw];by_cases C:(r.aC.length:Int)=bg g
  ·have L:=fH g;have O:=fG D;simp only[C,dY,aq,dM,cw,dx,ak];cases T:aN r.bf 0 2 with
   |false=>rfl
   | true=>
    have e:=gk (step:=Mp) r.aC (rN g) (λi=>(((),(),r.aC,(r.aC.length:Int),(i:Int),()),((g.cu,g.aC,g.rows,g.aO,()),(r.aC,r.bf,()),()))) (.inl ((false,()),())) (.inr (.inl (((),()),((r.aC,r.bf,()),())))) aX (λk h=>by
     unfold Mp av aQ xG xI;dsimp only;rw[aS,au,aA ⟨by omega,by omega⟩];simp only[bz,dx,ak];rw[aR (n:=g.rows-1),bD];unfold rN;cases aN r.aC[k].row 0 (g.rows-1)with
     |false=>rfl
     | true=>
      cases r.aC[k].open_ with
      |true=>rfl
      | false=>
       simp[bne];cases r.aC[k].row==0<;>rfl) (by
     unfold Mp av aQ xG xI;dsimp only;rw[aT,aq]) (bN)
    rw[cr,C]at e;simp only[bA,aq,cw]
    refine(aZ (λo=>Option.bind o _) e).trans ?_
    rw[ak];cases r.aC.all (rN g)with
    |false=>rfl
    | true=>
     simp only[au,Sum.elim_inr,en,cw];cases U:r.bf != 2 with
     |true=>rfl
     | false=>
      simp;rw[Ue ⟨r.aC,r.bf⟩ (by show r.aC.length<_;omega),ak,<- amG 0 r.aC];congr 1
      grind
  ·have E:((r.aC.length:Int)==bg g)=false:=by simp[C]
   rw[ga C,E];rfl
def aDs(g:aM)(r:cC):RO g r=some (mE g r):=by
 unfold RO mE bE;rw[G4,ak,rJ];cases E:cG g with
 |false=>rfl
 | true=>
  simp only[bA,aq,ak,cw];by_cases D:(r.aC.length:Int)=bg g
  ·have T:=fH g;have U:=fG E;simp only[D,dY,aq,dM,cw,ei,ak];cases Y:aN r.bf 0 2 with
   |false=>rfl
   | true=>
    have e:=gk (step:=KR) r.aC (λb=>rN g b&&(r.bf != 2 || !b.open_)) (λi=>(((),(),(i:Int),()),((g.cu,g.aC,g.rows,g.aO,()),(r.aC,r.bf,()),()))) (.inl ((false,()),())) (.inr (.inl ((),()))) aX (λk h=>by
     unfold KR av aQ xG xI;dsimp only;rw[aS,au,aA ⟨by omega,by omega⟩];simp only[bz,ei,ak];rw[aR (n:=g.rows-1),bD];unfold rN;simp only[bne];cases aN r.aC[k].row 0 (g.rows-1)with
     |false=>rfl
     |true=>cases r.aC[k].open_<;>cases r.aC[k].row==0<;>cases r.bf==2<;>rfl) (by
     unfold KR av aQ xG xI;dsimp only;rw[aT,aq]) (bN)
    rw[cr]at e;simp only[bA,aq,cw]
    refine(aZ (λo=>Option.bind o _) e).trans ?_
    rw[ak];have L:(r.aC.all λb=>rN g b&&(r.bf != 2 || !b.open_))=(r.aC.all (rN g)&&(r.bf != 2 || r.aC.all λb=>!b.open_)):=by
     cases r.bf != 2 with
     |true=>simp
     | false=>
      simp only[Bool.false_or];rw[Bool.eq_iff_iff];simp only[cx,aU];exact⟨λh=>⟨λx C=>(h x C).1,λx C=>(h x C).2⟩,λh x C=>⟨h.1 x C,h.2 x C⟩⟩
    rw[L];cases (r.aC.all (rN g)&&(r.bf != 2 ||r.aC.all λb=>!b.open_))<;>rfl
  ·have O:((r.aC.length:Int)==bg g)=false:=by simp[D]
   rw[ga D,O];rfl
def A8(d:Int):Bool:=aN d (-2) 5
def fe(r:cS):Bool:=r.aI.all A8&&(aN (r.aI.length:Int) 1 8&&aN r.wait 1 10000)
def G9(r:cS)(hl:r.aI.length<1073741824):yz r=some (fe r):=by
 unfold yz fe bE;have e:=gk (step:=MC) _ A8 (λi=>(((),r.aI,r.aI.length,i,()),((r.aI,r.wait,r.dD,()),()))) _ (.inr (.inl (((),()),((r.aI,r.wait,r.dD,()),())))) aX (λk h=>by
  unfold MC av aQ xG xI;simp (disch:=omega) [h,bD,dx,A8];cases aN r.aI[k] _ 5<;>rfl) (by unfold MC av aQ xG xI;simp) (bN hl)
 rw[cr]at e;rw[e];cases r.aI.all A8<;>simp[dx]
 grind
def NK(r:cS)(hl:r.aI.length<1073741824):At r=some (fe r):=by
 unfold At fe bE;have e:=gk (step:=K2) _ A8 (λi=>(((),i,()),((r.aI,r.wait,r.dD,()),()))) _ (.inr (.inl (((),()),((r.aI,r.wait,r.dD,()),())))) aX (λk h=>by
  unfold K2 av aQ xG xI;simp (disch:=omega) [h,bD,ei,A8];cases aN r.aI[k] _ 5<;>rfl) (by unfold K2 av aQ xG xI;simp) (bN hl)
 rw[cr]at e;rw[e];cases r.aI.all A8<;>simp[ei]
 grind
def gz{T:Type}(p:T->Bool)(l:aa T):Int:=match l.findIdx? p with
 |some i=>(i:Int)
 |none=>-1
def rO{α β T:Type}{step:α -> ah (α⊕β)}(l:aa T)(p:T -> Bool)(S:Nat -> α)(D:Nat -> β)(z:β)(fuel:Nat)(E:∀ k (h:k<l.length),step (S k)=some (bif p l[k]then .inr (D k)else .inl (S (k+1))))(L:step (S l.length)=some (.inr z))(C:l.length<fuel):
  iter step fuel (S 0)=some (match l.findIdx? p with|some i=>D i|none=>z):=by
 have key:∀ (n i fuel:Nat),i+n=l.length -> n<fuel -> (∀ j (h:j<l.length),j<i -> p l[j]=false) -> iter step fuel (S i)=some (match l.findIdx? p with | some i=>D i | none=>z):=by
  intro n
  induction n with
  | zero=>
   intro i fuel hi C O
   match fuel,C with
   | f+1,_=>
    have:i=l.length:=by omega
    subst this;have e:l.findIdx? p=none:=by
     rw[List.findIdx?_eq_none_iff];intro x U;obtain⟨j,Y,rfl⟩:=jo.1 U
     grind
    unfold iter;rw[L,e]
  | succ n Z=>
   intro i fuel hi C O
   match fuel,C with
   | f+1,C=>
    have dI:i<l.length:=by omega
    unfold iter;rw[E i dI];cases hp:p l[i]with
    | true=>
     have e:l.findIdx? p=some i:=by
      rw[mI]
      grind
     rw[e];rfl
    | false=>
     simp only[aq]
     refine Z (i+1) f (by omega) (by omega) λj Y Jl=>?_
     by_cases e:j=i
     ·grind
     ·grind
 exact key l.length 0 fuel (by omega) C λj _ h=>by omega
def He{T:Type}{p:T -> Bool}{l:aa T}{i:Nat}(h:i<l.length)(E:p l[i]=true):(gz p l != (i:Int))=(l.take i).any p:=by
 unfold gz;cases C:(l.take i).any p with
 | false=>
  have e:l.findIdx? p=some i:=by
   rw[mI]
   refine⟨h,E,λj D=>?_⟩
   have:=List.any_eq_false.1 C l[j] (jo.2 ⟨j,by simp;omega,by simp⟩);exact this
  rw[e];simp
 | true=>
  have⟨x,L,U⟩:=List.any_eq_true.1 C;obtain⟨j,D,rfl⟩:=jo.1 L;rw[fT]at D;cases O:l.findIdx? p with
  |none=>simp
  | some k=>
   have⟨Y,Z,k3⟩:=mI.1 O;have:k≠i:=by
    grind
   simp only;simp;omega
def Uo(x:Int):Bool:=aN x 0 4294967295
def pU(n:Int)(r:aK):Bool:=aN r.id 1 100000&&(aN r.dm 0 3&&(decide (r.line >= 0)&&(decide (r.line<n)&&(Uo r.data&&((r.write ||r.data==0)&&aN r.at_ 0 1000000)))))
def aDt(n:Int)(r:aK):Ta n r=some (pU n r):=by
 unfold Ta pU Dz Uo;simp[dx]
 grind
def aDu(n:Int)(r:aK):R0 n r=some (pU n r):=by
 unfold R0 pU K6 Uo;simp[ei]
 grind
def dR(x y:aK):Bool:=decide (x.at_<y.at_) ||(x.at_==y.at_&&decide (x.id<y.id))
def Up(x y:aK):MG x y=some (dR x y):=by
 unfold MG dR
 grind
def amI(x y:aK):R1 x y=some (dR x y):=Up x y
def aaV(l:aa aK)(id:Int)(hl:l.length<1073741824):K8 l id=some (gz (λr=>r.id==id) l):=by
 unfold K8 gz bE;have e:=rO (step:=K7) l (λr=>r.id==id) (λi=>((l,id,i,()),())) _ (.inr (.inl ((),()))) aX (λk h=>by
  unfold K7 av aQ xG xI;simp (disch:=omega) [h,bD];cases l[k].id==id<;>rfl) (by unfold K7 av aQ xG xI;simp) (bN hl)
 rw[cr]at e;rw[e];cases l.findIdx? _<;>rfl
def rP(n:Int)(q:aa aK)(i:Nat):Bool:=match q[i]? with
 |some r=>pU n r&&((i==0 ||(match q[i-1]? with|some x=>dR x r|none=>false)) && !((q.take i).any λx=>x.id==r.id))
 |none=>false
def aaW{n:Int}{q:aa aK}(h:0<q.length):rP n q 0=pU n q[0]:=by
 unfold rP;rw[bZ h];simp
def NL{n:Int}{q:aa aK}{i:Nat}(h:i+1<q.length):rP n q (i+1)=(pU n q[i+1]&&(dR q[i] q[i+1] && !((q.take (i+1)).any λx=>x.id==q[i+1].id))):=by
 unfold rP
 grind
def hJ(n:Int)(q:aa aK):Bool:=(List.range q.length).all (rP n q)&&decide ((q.length:Int)<=12)
def aaX(n:Int)(q:aa aK):v9 n q=some (hJ n q):=by
 unfold v9 hJ bE;by_cases c:(q.length:Int)<=12
 ·rw[aT (show ¬ (q.length:Int) > 12 by omega),aq,aS c,Bool.and_true];have e:=gk (step:=K9) (List.range q.length) (rP n q) (λi=>((n,q,(i:Int),()),())) (.inl ((false,()),())) (.inr (.inl ((),()))) aX (λk h=>by
   rw[cU]at h;rw[iY];unfold K9 av aQ xG xI;dsimp only;rw[aS,au,aA ⟨by omega,by omega⟩];simp only[bz,aDu,ak];cases k with
   | zero=>
    rw[aaW h];cases pU n q[0]with
    |false=>rfl
    | true=>
     simp only[bA,aq,au];rw[aT,aq,aA ⟨by omega,h⟩,aaV _ _ (by omega),ak,He h (by simp)];simp;rfl
   | succ k=>
    rw[NL h];cases pU n q[k+1]with
    |false=>rfl
    | true=>
     simp only[bA,aq,cw];have C:W6 (((k+1:Nat):Int)-1)=(k:Int):=by rw[aR];omega
     simp only[C,bz];rw[aS,au,aA ⟨by omega,by omega⟩,aA ⟨by omega,h⟩,amI,ak];cases dR q[k] q[k+1]with
     |false=>rfl
     | true=>
      simp only[bA,aq,cw];rw[aA ⟨by omega,h⟩,aaV _ _ (by omega),ak,He h (by simp),bD];cases (q.take (k+1)).any λx=>x.id==q[k+1].id<;>rfl) (by
   rw[cU];unfold K9 av aQ xG xI;dsimp only;rw[aT,aq]) (by rw[cU];exact bN)
  rw[cr]at e
  refine(aZ (λo=>Option.bind o _) e).trans ?_
  rw[ak];cases (List.range q.length).all (rP n q)<;>rfl
 ·rw[aS (show (q.length:Int) > 12 by omega),au,aT c,Bool.and_false]
def aDv(n:Int)(q:aa aK){i:Nat}(h:i<q.length)(hl:q.length<1073741824):
  iter Gw aX ((n,q,(),q,(q.length:Int),(i:Int),((q.take i).drop 0),(((q.take i).drop 0).length:Int),(0:Int),()),((q[i].id,q[i].dm,q[i].line,q[i].write,q[i].data,q[i].at_,()),()))=some (bif (q.take i).any (λx=>x.id==q[i].id)then .inl ((false,()),())else .inr (.inl ((n,q,q,(q.length:Int),(i:Int),()),()))):=by
 rw[List.drop_zero];have hlen:(q.take i).length=i:=by rw[fT];omega
 generalize C:q[i]=r;generalize D:q.take i=t at *
 have e:=gk (step:=Gw) t (λx=>!(x.id==r.id)) (λj=>((n,q,(),q,(q.length:Int),(i:Int),t,(t.length:Int),(j:Int),()),((r.id,r.dm,r.line,r.write,r.data,r.at_,()),()))) (.inl ((false,()),())) _ aX (λk h=>by
  unfold Gw av aQ xG xI;dsimp only;rw[aS,au,aA ⟨by omega,by omega⟩];simp only[bz];rw[bD];cases t[k].id==r.id<;>rfl) (by
  unfold Gw av aQ xG xI;dsimp only;rw[aT,aq]) (bN)
 grind
def aaY(n:Int)(q:aa aK)(hl:q.length<1073741824):DA n q=some (hJ n q):=by
 unfold DA hJ bE;have e:=gk (step:=MI) (List.range q.length) (rP n q) (λi=>((n,q,q,(q.length:Int),(i:Int),()),())) (.inl ((false,()),())) (.inr (.inl ((q,()),()))) aX (λk h=>by
   rw[cU]at h;rw[iY];unfold MI av aQ xG xI bE;dsimp only;rw[aS,au,aA ⟨by omega,by omega⟩];simp only[bz,aDt,ak];have C:=aDv n q h hl;cases k with
   | zero=>
    rw[aaW h];cases pU n q[0]with
    |false=>rfl
    | true=>
     simp only[bA,aq,au];rw[aT,aq,bI ⟨by omega,by omega,by omega⟩]
     refine(aZ (λo=>Option.bind o _) C).trans ?_
     simp;rfl
   | succ k=>
    rw[NL h];cases pU n q[k+1]with
    |false=>rfl
    | true=>
     simp only[bA,aq,cw];have D:W6 (((k+1:Nat):Int)-1)=(k:Int):=by rw[aR];omega
     simp only[D,bz];rw[aS,au,aA ⟨by omega,by omega⟩,Up,ak];cases dR q[k] q[k+1]with
     |false=>rfl
     | true=>
      simp only[bA,aq,cw];rw[bI ⟨by omega,by omega,by omega⟩]
      refine(aZ (λo=>Option.bind o _) C).trans ?_
      rw[ak];cases (q.take (k+1)).any λx=>x.id==q[k+1].id with
      |true=>rfl
      | false=>
       simp only[aq,Sum.elim_inr,en];rw[bD];rfl) (by
   rw[cU];unfold MI av aQ xG xI bE;dsimp only;rw[aT,aq]) (by rw[cU];exact bN)
 rw[cr]at e
 refine(aZ (λo=>Option.bind o _) e).trans ?_
 rw[ak];cases (List.range q.length).all (rP n q)<;>rfl
def kH(p:eN):Bool:=aN p.state 0 2&&(aN p.since 0 1000000&&aN p.idle 0 1000000)
def Uq(p:eN):DB p=some (kH p):=by
 unfold DB kH;simp[dx]
 grind
def Ur(p:eN):we p=some (kH p):=by
 unfold we kH;simp[ei]
 grind
def yK(e:bW):Bool:=aN e.line 0 1023&&((e.code==1 ||e.code==2)&&aN e.times 1 999)
def lO(e x:bW):Bool:=x.line==e.line&&x.code==e.code
def Hf(l:aa bW)(i:Nat):Bool:=match l[i]? with
 |some e=>yK e && !((l.take i).any (lO e))
 |none=>false
def Us{l:aa bW}{i:Nat}(h:i<l.length):Hf l i=(yK l[i] && !((l.take i).any (lO l[i]))):=by
 unfold Hf;rw[bZ h]
def kW(l:aa bW):Bool:=(List.range l.length).all (Hf l)&&decide ((l.length:Int)<=6)
def amJ(l:aa bW)(e:bW)(hl:l.length<1073741824):Lb l e.line e.code=some (gz (lO e) l):=by
 unfold Lb gz bE;have e:=rO (step:=La) l (lO e) (λi=>((l,e.line,e.code,i,()),())) _ _ aX (λk h=>by
  unfold La lO av aQ xG xI;dsimp only;rw[aS,au,aA ⟨by omega,by omega⟩,aA ⟨by omega,by omega⟩];simp only[bz];rw[bD];cases l[k].line==e.line<;>cases l[k].code==e.code<;>rfl) (by
  unfold La av aQ xG xI;dsimp only;rw[aT,aq]) (bN hl)
 rw[cr]at e;rw[e];cases l.findIdx? _<;>rfl
def amK(l:aa bW):Ld l=some (kW l):=by
 unfold Ld kW bE;by_cases c:(l.length:Int) <= 6
 ·rw[aT (show ¬ (l.length:Int) > 6 by omega),aq,aS c,Bool.and_true];have e:=gk (step:=Lc) _ (Hf l) (λi=>((l,(i:Int),()),())) _ _ aX (λk h=>by
   rw[cU]at h;rw[iY,Us h];unfold Lc FN yK av aQ xG xI;dsimp only;rw[aS,au,aA ⟨by omega,by omega⟩,aA ⟨by omega,by omega⟩,aA ⟨by omega,by omega⟩];simp only[bz,ei,ak];rw[amJ _ _ (by omega),ak,He h (by simp[lO]),bD];cases aN l[k].line 0 1023<;>cases l[k].code==1<;>cases l[k].code==2<;>cases aN l[k].times 1 999<;>cases (l.take k).any (lO l[k])<;>rfl) (by
   rw[cU];unfold Lc av aQ xG xI;dsimp only;rw[aT,aq]) (by rw[cU];exact bN)
  refine(aZ (λo=>Option.bind o _) e).trans ?_
  rw[ak];cases (List.range l.length).all (Hf l)<;>rfl
 ·rw[aS (show (l.length:Int) > 6 by omega),au,aT c,Bool.and_false]
def aDw(l:aa bW){i:Nat}(h:i<l.length)(hl:l.length<1073741824):
  iter Gy aX ((l,(),l,(l.length:Int),(i:Int),((l.take i).drop 0),(((l.take i).drop 0).length:Int),(0:Int),()),((l[i].line,l[i].code,l[i].times,()),()))=some (bif (l.take i).any (lO l[i])then .inl ((false,()),())else .inr (.inl ((l,l,(l.length:Int),(i:Int),()),()))):=by
 rw[List.drop_zero];have hlen:(l.take i).length=i:=by rw[fT];omega
 generalize C:l[i]=r;generalize D:l.take i=t at *
 have e:=gk (step:=Gy) t (λx=>!(lO r x)) (λj=>((l,(),l,(l.length:Int),(i:Int),t,(t.length:Int),(j:Int),()),((r.line,r.code,r.times,()),()))) _ _ aX (λk h=>by
  unfold Gy lO av aQ xG xI;dsimp only;rw[aS,au,aA ⟨by omega,by omega⟩];simp only[bz];rw[bD,BEq.comm (a:=r.line),BEq.comm (a:=r.code)];cases t[k].line==r.line<;>cases t[k].code==r.code<;>rfl) (by
  unfold Gy av aQ xG xI;dsimp only;rw[aT,aq]) (bN)
 grind
def amL(l:aa bW)(hl:l.length<1073741824):MK l=some (kW l):=by
 unfold MK kW bE;have e:=gk (step:=MJ) _ (Hf l) (λi=>((l,l,l.length,i,()),())) _ _ aX (λk h=>by
   rw[cU]at h;rw[iY,Us h];have C:=aDw l h hl;unfold MJ yK av aQ xG xI bE;dsimp only;rw[aS,au,aA ⟨by omega,by omega⟩];simp only[bz,dx,ak,bne];rw[bI ⟨by omega,by omega,by omega⟩];rw[show (0:Int).toNat=0 from rfl,C];cases aN l[k].line 0 1023<;>cases l[k].code==1<;>cases l[k].code==2<;>cases aN l[k].times 1 999<;>cases (l.take k).any (lO l[k])<;>first|rfl|(simp only[au,aq,bA,gW,ak,Sum.elim_inr,en];rw[bD];rfl)) (by
   rw[cU];unfold MJ av aQ xG xI bE;dsimp only;rw[aT,aq]) (by rw[cU];exact bN)
 refine(aZ (λo=>Option.bind o _) e).trans ?_
 cases (List.range _).all _<;>rfl
def Ut(l:aa Int)(x:Int)(hl:l.length<1073741824):Dy l x=some (gz (λe=>x==e) l):=by
 unfold Dy gz;have e:=rO (step:=MD) l (λe=>x==e) (λi=>((l,x,l.length,i,()),())) _ _ aX (λk h=>by
  unfold MD av aQ xG xI;dsimp only;rw[aS,au,aA ⟨by omega,by omega⟩];simp only[bz];rw[bD];cases x==l[k]<;>rfl) (by
  unfold MD av aQ xG xI;dsimp only;rw[aT,aq]) (bN hl)
 rw[cr]at e;rw[e];cases l.findIdx? _<;>rfl
def DY(t:bV)(i:Nat):Bool:=match t.rows[i]?,t.counts[i]? with
 |some r,some c=>aN r (-1) 15&&(aN c t.dg 100000&&((r != -1 ||c==0)&&(r == -1 ||!((t.rows.take i).any λx=>r==x))))
 |_,_=>false
def Uu{t:bV}{i:Nat}(h:i<t.rows.length)(C:i<t.counts.length):DY t i=(aN t.rows[i] (-1) 15&&(aN t.counts[i] t.dg 100000&&((t.rows[i] != -1 || t.counts[i]==0)&&(t.rows[i] == -1 || !((t.rows.take i).any λx=>t.rows[i]==x))))):=by
 unfold DY;rw[bZ h,bZ C]
def kX(t:bV):Bool:=aN (t.rows.length:Int) 1 16&&((t.rows.length:Int)==(t.counts.length:Int)&&(aN t.dg 0 100000&&(List.range t.rows.length).all (DY t)))
def aaZ(t:bV):AR t=some (kX t):=by
 unfold AR kX bE;simp only[dx,ak];cases D:aN (t.rows.length:Int) 1 16 with
 |false=>rfl
 | true=>
  have D:=bF.1 D;by_cases C:(t.rows.length:Int)=(t.counts.length:Int)
  ·simp only[C,dY,dM,bA,aq,cw];cases T:aN t.dg 0 100000 with
   |false=>rfl
   | true=>
    have e:=gk (step:=ME) (List.range t.rows.length) (DY t) (λi=>(((),t.rows,(t.rows.length:Int),(i:Int),()),((t.rows,t.counts,t.dg,()),()))) (.inl ((false,()),())) (.inr (.inl ((),()))) aX (λk h=>by
     rw[cU]at h;have E:k<t.counts.length:=by omega
     rw[iY,Uu h E];unfold ME av aQ xG xI;dsimp only;rw[aS,au,aA ⟨by omega,by omega⟩,aA ⟨by omega,by omega⟩,aA ⟨by omega,by omega⟩];simp only[bz,dx,ak,Ut _ _ (show t.rows.length<1073741824 by omega)];rw[He (p:=λe=>t.rows[k]==e) h (by simp),bD];simp only[bne];cases aN t.rows[k] (-1) 15<;>cases aN t.counts[k] t.dg 100000<;>cases t.rows[k] == -1<;>cases t.counts[k]==0<;>cases (t.rows.take k).any (λe=>t.rows[k]==e)<;>rfl) (by
     rw[cU];unfold ME av aQ xG xI;dsimp only;rw[aT,aq]) (by rw[cU];exact bN)
    rw[cr,C]at e;simp only[bA,aq,cw]
    refine(aZ (λo=>Option.bind o _) e).trans ?_
    rw[ak];cases (List.range t.rows.length).all (DY t)<;>rfl
  ·have L:((t.rows.length:Int)==(t.counts.length:Int))=false:=by simp[C]
   have O:((t.counts.length:Int) != (t.rows.length:Int))=true:=ga λh=>C h.symm
   rw[L,O];rfl
def aDx(t:bV){i:Nat}(h:i<t.rows.length)(hl:t.rows.length<1073741824):
  iter FM aX (((),(i:Int),(0:Int),()),((t.rows,t.counts,t.dg,()),()))=some (bif decide (t.rows[i] >= 0)&&(t.rows.take i).any (λx=>t.rows[i]==x)then .inl ((false,()),())else .inr (.inl (((),(i:Int),()),((t.rows,t.counts,t.dg,()),())))):=by
 have hlen:(t.rows.take i).length=i:=by rw[fT];omega
 have e:=gk (step:=FM) (t.rows.take i) (λx=>!(decide (t.rows[i] >= 0)&&t.rows[i]==x)) (λj=>(((),(i:Int),(j:Int),()),((t.rows,t.counts,t.dg,()),()))) _ _ aX (λk C=>by
  unfold FM av aQ xG xI;dsimp only;rw[aS,au,aA ⟨by omega,by omega⟩,aA ⟨by omega,by omega⟩,aA ⟨by omega,by omega⟩];simp only[bz,List.getElem_take];rw[bD,BEq.comm (a:=t.rows[k])];cases decide (t.rows[i] >= 0)<;>cases t.rows[i]==t.rows[k]<;>rfl) (by
  rw[hlen];unfold FM av aQ xG xI;dsimp only;rw[aT,aq]) (bN)
 grind
def aa0(t:bV):C6 t=some (kX t):=by
 unfold C6 kX bE;simp only[ei,ak];cases D:aN (t.rows.length:Int) 1 16 with
 |false=>rfl
 | true=>
  have D:=bF.1 D;by_cases C:(t.rows.length:Int)=(t.counts.length:Int)
  ·simp only[C,dY,dM,bA,aq,cw];cases Y:aN t.dg 0 100000 with
   |false=>rfl
   | true=>
    have e:=gk (step:=K4) (List.range t.rows.length) (DY t) (λi=>(((),(i:Int),()),((t.rows,t.counts,t.dg,()),()))) (.inl ((false,()),())) (.inr (.inl ((),()))) aX (λk h=>by
     rw[cU]at h;have O:k<t.counts.length:=by omega
     have T:=aDx t h (by omega);rw[iY,Uu h O];unfold K4 av aQ xG xI bE;dsimp only;rw[aS,au,aA ⟨by omega,by omega⟩,aA ⟨by omega,by omega⟩,aA ⟨by omega,by omega⟩,aA ⟨by omega,by omega⟩];simp only[bz,ei,ak];rw[T,ak];cases E:aN t.rows[k] (-1) 15 with
     |false=>rfl
     | true=>
      have E:=bF.1 E;cases aN t.counts[k] t.dg 100000 with
      |false=>rfl
      | true=>
       simp only[bA,aq,cw,bne];by_cases L:t.rows[k] = -1
       ·rw[aS (show t.rows[k]<0 by omega),aT (show ¬ t.rows[k] >= 0 by omega),show (t.rows[k] == -1)=true by simp[L]];simp;rw[bD]
        grind
       ·rw[aT (show ¬ t.rows[k]<0 by omega),aS (show t.rows[k] >= 0 by omega),show (t.rows[k] == -1)=false by simp[L]];simp only[au,aq,cw];cases (t.rows.take k).any λx=>t.rows[k]==x with
        |true=>rfl
        | false=>
         simp;rw[bD];rfl) (by
     rw[cU];unfold K4 av aQ xG xI bE;dsimp only;rw[aT,aq]) (by rw[cU];exact bN)
    rw[cr]at e;simp only[bA,aq,cw]
    refine(aZ (λo=>Option.bind o _) e).trans ?_
    rw[ak];cases (List.range t.rows.length).all (DY t)<;>rfl
  ·have U:((t.rows.length:Int)==(t.counts.length:Int))=false:=by simp[C]
   rw[U,ga C];rfl
def w9(g:aM):W6 ((9:Int)*(W6 (bg g+(1:Int))))=9*(bg g+1):=by
 have:=fH g;rw[aR (n:=bg g+1),aR]
def NM(k:Int):yw k=some (aN k 1 5):=by
 unfold yw;rw[dx];rfl
def aDy(n:Int)(u:Bool)(k:Int):DE n u k=some (bif u then aN n 0 (W6 (k-1))else n==0):=by
 unfold DE;rw[dx];cases u<;>rfl
def oN(g:aM)(i:Nat):Bool:=decide ((i:Int) / 9<bg g)==decide ((i:Int) % 9+1<=5)
def aDz(g:aM){i:Nat}(hi:i<1000):RQ g (i:Int)=some (oN g i):=by
 unfold RQ oN;rw[rJ,ak,qR (by omega),sg (by omega),aR,aR,BEq.comm]
def aDA(g:aM){i:Nat}(hi:i<1000):∃ c,Dv g (i:Int)=some (c,oN g i):=by
 unfold Dv oN;rw[oE,ak,qR (by omega),sg (by omega),aR,aR,NM];have:aN (i % 9+1) 1 5=decide ((i:Int) % 9+1 <= 5):=by
  simp[aN];omega
 rw[this];cases decide (i / 9<bg g)<;>exact⟨_,rfl⟩
def DZ(g:aM)(l:aa Int)(i:Nat):Bool:=match l[i]? with
 |some e=>aN e (-1) 1000000&&(oN g i ||e == -1)
 |none=>false
def NN{g:aM}{l:aa Int}{i:Nat}(h:i<l.length):DZ g l i=(aN l[i] (-1) 1000000&&(oN g i || l[i] == -1)):=by
 unfold DZ;rw[bZ h]
def oO(l:aa Int)(i:Nat):Bool:=match l[i]? with
 |some e=>aN e 0 1000000&&(i==0 ||(match l[i-1]? with|some x=>!(decide (x >= e))|none=>false))
 |none=>false
def NO{l:aa Int}(h:0<l.length):oO l 0=aN l[0] 0 1000000:=by
 unfold oO;rw[bZ h];simp
def Hg{l:aa Int}{i:Nat}(h:i+1<l.length):oO l (i+1)=(aN l[i+1] 0 1000000 && !(decide (l[i] >= l[i+1]))):=by
 unfold oO
 grind
def lP(g:aM)(r:dB):Bool:=cG g&&((r.last.length:Int)==9*(bg g+1)&&(!(decide ((r.bC.length:Int) > 4))&&((List.range r.last.length).all (DZ g r.last)&&(List.range r.bC.length).all (oO r.bC))))
def aa1(g:aM)(r:dB):Gr g r=some (lP g r):=by
 unfold Gr lP bE;rw[yG,ak,oE];cases T:cG g with
 |false=>rfl
 | true=>
  simp only[bA,aq,ak,cw,w9];by_cases C:(r.last.length:Int)=9*(bg g+1)
  ·have U:=fH g;rw[C,dY,aq,dM,cw,<-C];cases D:decide ((r.bC.length:Int) > 4)with
   |true=>rfl
   | false=>
    have D:=of_decide_eq_false D;have l1:=gk (step:=Mr) (List.range r.last.length) (DZ g r.last) (λi=>(((),(),r.last,(r.last.length:Int),(i:Int),()),((g.cu,g.aC,g.rows,g.aO,()),(r.last,r.bC,()),()))) (.inl ((false,()),())) (.inr (.inl (((),()),((r.last,r.bC,()),())))) aX (λk h=>by
     rw[cU]at h;obtain⟨c,E⟩:=aDA g (i:=k) (by omega);rw[iY,NN h];unfold Mr av aQ xG xI;dsimp only;rw[aS,au,aA ⟨by omega,by omega⟩];simp only[bz,dx,ak,nW,E,bne];rw[bD];cases aN r.last[k] (-1) 1000000<;>cases oN g k<;>cases r.last[k] == -1<;>rfl) (by
     rw[cU];unfold Mr av aQ xG xI;dsimp only;rw[aT,aq]) (by rw[cU];exact bN)
    have l2:=gk (step:=Ms) (List.range r.bC.length) (oO r.bC) (λi=>(((),r.bC,(r.bC.length:Int),(i:Int),()),((r.last,r.bC,()),()))) (.inl ((false,()),())) (.inr (.inl ((),()))) aX (λk h=>by
     rw[cU]at h;rw[iY];unfold Ms av aQ xG xI;dsimp only;rw[aS,au,aA ⟨by omega,by omega⟩];simp only[bz,dx,ak];cases k with
     | zero=>
      rw[NO h];cases aN r.bC[0] 0 1000000 with
      |false=>rfl
      | true=>
       rw[aT];rfl
     | succ k=>
      rw[Hg h];have L:W6 (((k+1:Nat):Int)-1)=(k:Int):=by rw[aR];omega
      simp only[L,bz];rw[aS (show ((k+1:Nat):Int) > 0 by omega),aA ⟨by omega,by omega⟩,bD];cases aN r.bC[k+1] 0 1000000<;>cases decide (r.bC[k] >= r.bC[k+1])<;>rfl) (by
     rw[cU];unfold Ms av aQ xG xI;dsimp only;rw[aT,aq]) (by rw[cU];exact bN)
    rw[cr]at l1 l2;simp only[gW,aq,cw]
    refine(aZ (λo=>Option.bind o _) l1).trans ?_
    rw[ak];cases (List.range r.last.length).all (DZ g r.last)with
    |false=>rfl
    | true=>
     simp only[au,Sum.elim_inr,en,cw]
     refine(aZ (λo=>Option.bind o _) l2).trans ?_
     rw[ak];cases (List.range r.bC.length).all (oO r.bC)<;>rfl
  ·have O:((r.last.length:Int)==9*(bg g+1))=false:=by simp[C]
   rw[ga C,O];rfl
def amM(g:aM)(r:dB):KU g r=some (lP g r):=by
 unfold KU lP bE;rw[G4,ak,rJ];cases O:cG g with
 |false=>rfl
 | true=>
  simp only[bA,aq,ak,cw,w9];by_cases C:(r.last.length:Int)=9*(bg g+1)
  ·have T:=fH g;rw[C,dY,aq,dM,cw];cases D:decide ((r.bC.length:Int) > 4)with
   |true=>rfl
   | false=>
    have D:=of_decide_eq_false D;have l1:=gk (step:=KS) (List.range r.last.length) (DZ g r.last) (λi=>(((),(),(i:Int),()),((g.cu,g.aC,g.rows,g.aO,()),(r.last,r.bC,()),()))) (.inl ((false,()),())) (.inr (.inl (((),()),((r.last,r.bC,()),())))) aX (λk h=>by
     rw[cU]at h;rw[iY,NN h];unfold KS av aQ xG xI;dsimp only;rw[aS,au,aA ⟨by omega,by omega⟩,aA ⟨by omega,by omega⟩];simp only[bz,ei,ak,nW,aDz g (show k<1000 by omega),bne];rw[bD];cases aN r.last[k] (-1) 1000000<;>cases oN g k<;>cases r.last[k] == -1<;>rfl) (by
     rw[cU];unfold KS av aQ xG xI;dsimp only;rw[aT,aq]) (by rw[cU];exact bN)
    have l2:=gk (step:=KT) (List.range r.bC.length) (oO r.bC) (λi=>(((),(i:Int),()),((r.last,r.bC,()),()))) (.inl ((false,()),())) (.inr (.inl ((),()))) aX (λk h=>by
     rw[cU]at h;rw[iY];unfold KT av aQ xG xI;dsimp only;rw[aS,au,aA ⟨by omega,by omega⟩];simp only[bz,ei,ak];cases k with
     | zero=>
      rw[NO h];cases aN r.bC[0] 0 1000000 with
      |false=>rfl
      | true=>
       rw[aT];rfl
     | succ k=>
      rw[Hg h];have E:W6 (((k+1:Nat):Int)-1)=(k:Int):=by rw[aR];omega
      simp only[E,bz];rw[aS (show ((k+1:Nat):Int) > 0 by omega),aA ⟨by omega,by omega⟩,aA ⟨by omega,by omega⟩,bD];cases aN r.bC[k+1] 0 1000000<;>cases decide (r.bC[k] >= r.bC[k+1])<;>rfl) (by
     rw[cU];unfold KT av aQ xG xI;dsimp only;rw[aT,aq]) (by rw[cU];exact bN)
    rw[cr]at l1 l2;simp only[gW,aq,cw]
    refine(aZ (λo=>Option.bind o _) l1).trans ?_
    rw[ak];cases (List.range r.last.length).all (DZ g r.last)with
    |false=>rfl
    | true=>
     simp only[au,Sum.elim_inr,en,cw]
     refine(aZ (λo=>Option.bind o _) l2).trans ?_
     rw[ak];cases (List.range r.bC.length).all (oO r.bC)<;>rfl
  ·have L:((r.last.length:Int)==9*(bg g+1))=false:=by simp[C]
   rw[ga C,L];rfl
def aDB(l:aa Int)(x:Int)(hl:l.length<1073741824):RT l x=some (l.any λe=>e==x):=by
 unfold RT bE;have e:=gk (step:=K0) l (λe=>!(e==x)) (λi=>((l,x,i,()),())) _ _ aX (λk h=>by
  unfold K0 av aQ xG xI;dsimp only;rw[aS,au,aA ⟨by omega,by omega⟩];simp only[bz];rw[bD];cases l[k]==x<;>rfl) (by
  unfold K0 av aQ xG xI;dsimp only;rw[aT,aq]) (bN hl)
 rw[cr]at e;rw[e];have:l.all (λe=>!(e==x)) = !l.any λe=>e==x:=by rw[List.any_eq_not_all_not,Bool.not_not]
 rw[this];cases l.any λe=>e==x<;>rfl
def aDC(l:aa Int)(x:Int)(hl:l.length<1073741824):S6 l x=some (l.count x:Int):=by
 unfold S6 bk;have e:=cB (step:=My) _ (λi=>((x,((l.take i).count x),l,l.length,i,()),())) _ aX (λk h=>by
  unfold My av xG xI;have C:(l.take k).count x <= k:=Nat.le_trans List.count_le_length (by rw[fT];omega);dsimp only;rw[aS,au,aA ⟨by omega,by omega⟩];simp only[bz];rw[List.take_succ_eq_append_getElem h,List.count_append,List.count_singleton,bD,bD];cases l[k]==x<;>rfl) (by
  unfold My av xG xI;dsimp only;rw[aT,aq,iP]) (bN hl)
 simp_all
def amN{x:Int}:∀ (l:aa Int),(∀ j (h:j<l.length),l[j]=x -> x ∉ l.take j) -> l.count x <= 1
 |[],_=>by simp
 | y :: ys,h=>by
  rw[List.count_cons];by_cases e:y=x
  ·have:x ∉ ys:=by
    intro C;have⟨j,E,D⟩:=jo.1 C;refine h (j+1) (by simp;omega) (by simpa using D) ?_;simp_all
   grind
  ·have:=amN ys λj E D C=>h (j+1) (by simp;omega) (by simpa using D) (by rw[List.take_succ_cons];exact List.mem_cons_of_mem _ C)
   simp_all
def aDD{x:Int}:∀ (l:aa Int) (j:Nat) (h:j<l.length),l[j]=x -> x∈l.take j -> 2 <= l.count x:=by
 intro l j h e C;have D:=List.count_pos_iff.2 C;have E:1 <= (l.drop j).count x:=List.count_pos_iff.2 (by rw[<- e];exact jo.2 ⟨0,by simp;omega,by simp⟩);have:l.count x=(l.take j).count x+(l.drop j).count x:=by rw[<- List.count_append,List.take_append_drop]
 omega
def rQ(R M:Int)(L:aa Int)(j:Nat):Bool:=match L[j]? with
 |some e=>e==(j:Int) ||(aN e R M && !(decide ((L.count e:Int) > 1)))
 |none=>false
def wB(R M:Int)(L:aa Int)(j:Nat):Bool:=match L[j]? with
 |some e=>e==(j:Int) ||(aN e R M && !((L.take j).any λx=>x==e))
 |none=>false
def aa2(R M:Int)(L:aa Int)(hR:(L.length:Int)=R):(List.range L.length).all (rQ R M L)=(List.range L.length).all (wB R M L):=by
 rw[Bool.eq_iff_iff,cx,cx];simp only[fK];constructor
 ·intro h j C;have:=h j C;unfold rQ at this;unfold wB;rw[bZ C]at *
  simp only[eG,aU,gV,p7]at *
  rcases this with D|⟨D,Y⟩
  ·simp_all
  ·refine .inr ⟨D,?_⟩;rw[List.any_eq_false];intro x T O;have O:x=L[j]:=by simpa using O
   have:=aDD L j C rfl (O ▸ T);omega
 ·intro h j C;have:=h j C;unfold wB at this;unfold rQ;rw[bZ C]at *
  simp only[eG,aU,gV,p7]at *
  rcases this with D|⟨D,Y⟩
  ·simp_all
  ·refine .inr ⟨D,?_⟩;have Z:=(bF.1 D).1;have:=amN (x:=L[j]) L λk U e T=>by
    have E:=h k U;unfold wB at E;rw[bZ U]at E;simp only[eG,aU,gV]at E;rcases E with h3|⟨_,h4⟩
    ·grind
    ·grind
   omega
def fI(m:aa Int)(R b:Nat):aa Int:=(m.take ((b+1)*R)).drop (b*R)
def Hh(m:aa Int)(R b:Nat):fI m R b=(m.drop (b*R)).take R:=by
 unfold fI;rw[List.drop_take,iN,Nat.add_sub_cancel_left]
def Hi{m:aa Int}{R b:Nat}(h:(b+1)*R<=m.length):(fI m R b).length=R:=by
 rw[Hh,fT,List.length_drop];rw[iN]at h;omega
def A9{C R b j:Nat}(hb:b<C)(D:j <= R):b*R+j <= C*R:=by
 have:=iX R hb
 grind
def NP(R:Nat)(M:Int)(m:aa Int)(i:Nat):Bool:=match m[i]? with
 |some e=>e==((i % R:Nat):Int) ||(aN e (R:Int) M && !(((m.take i).drop (i / R*R)).any λx=>x==e))
 |none=>false
def amO{R:Nat}{M:Int}{m:aa Int}{b j:Nat}(C:j<R):NP R M m (b*R+j)=wB (R:Int) M (fI m R b) j:=by
 unfold NP wB;have D:(b*R+j) % R=j:=by rw[Nat.mul_comm,Nat.mul_add_mod,Nat.mod_eq_of_lt C]
 have E:(b*R+j) / R=b:=by rw[Nat.mul_comm,Nat.mul_add_div (by omega),Nat.div_eq_of_lt C,Nat.add_zero]
 have L:(fI m R b)[j]?=m[b*R+j]?:=by rw[Hh,List.getElem?_take_of_lt C,List.getElem?_drop]
 have O:(fI m R b).take j=(m.take (b*R+j)).drop (b*R):=by rw[Hh,List.take_take,List.drop_take,Nat.add_sub_cancel_left,Nat.min_eq_left (Nat.le_of_lt C)]
 simp_all
def amP{n:Nat}(h:n<4611686018427387904):W6 (n:Int)=(n:Int):=aR
def aDE(R D:Nat)(hR:0<R)(M:Int)(m:aa Int):(List.range (D*R)).all (NP R M m)=(List.range D).all λb=>(List.range R).all (wB (R:Int) M (fI m R b)):=by
 rw[Bool.eq_iff_iff,cx];simp;constructor
 ·intro h b hb j C;rw[<- amO C];refine h _ ?_;have:=A9 hb (show j+1 <= R from C);omega
 ·intro h i hi;have hb:i / R<D:=Nat.div_lt_of_lt_mul (by rw[Nat.mul_comm];exact hi);have C:i % R<R:=Nat.mod_lt _ hR;have e:i / R*R+i % R=i:=by rw[Nat.mul_comm];exact Nat.div_add_mod i R
  have:=h _ hb _ C;rw[<- amO C,e]at this;exact this
def kY(g:aM)(s:cQ):Bool:=jU g s.bQ&&((s.map.length:Int)==((bg g).toNat*(g.rows-s.bQ).toNat:Nat)&&(List.range (bg g).toNat).all λb=>(List.range (g.rows-s.bQ).toNat).all (rQ (g.rows-s.bQ) (g.rows-1) (fI s.map (g.rows-s.bQ).toNat b)))
def Uv{g:aM}{s:cQ}{R C b:Nat}(hR:g.rows-s.bQ=(R:Int))(D:R<=16)(E:C<=8)(hb:b<C)(hl:s.map.length=C*R):Dx g s (b:Int)=some (b*R,(b+1)*R):=by
 have U:C*R<=8*16:=Nat.mul_le_mul E D;have Y:b*R+R<=C*R:=A9 hb (dQ R);have L:W6 (g.rows-s.bQ)=(R:Int):=by rw[hR];exact aR
 have O:W6 ((b:Int)*(R:Int))=((b*R:Nat):Int):=by rw[<-Int.natCast_mul];exact aR
 have T:W6 (((b+1:Nat):Int)*(R:Int))=(((b+1)*R:Nat):Int):=by
  rw[<-Int.natCast_mul];exact aR (by omega) (by rw[iN];omega)
 unfold Dx;rw[L,bD,O,T,iN,bI ⟨by omega,by omega,by omega⟩];simp only[bz]
def aDF{g:aM}{s:cQ}(R b:Int)(L:aa Int)(C:cG g=true)(D:L.length<1073741824):
  iter Gs aX (((),(),R,b,L,L,(L.length:Int),(0:Int),()),((g.cu,g.aC,g.rows,g.aO,()),(s.bQ,s.map,()),()))=some (bif (List.range L.length).all (rQ R (g.rows-1) L)then .inr (.inl (((),(),R,b,()),((g.cu,g.aC,g.rows,g.aO,()),(s.bQ,s.map,()),())))else .inl ((false,()),())):=by
 have E:=fG C;have e:=gk (step:=Gs) (List.range L.length) (rQ R _ L) (λi=>(((),(),R,b,L,L,L.length,i,()),((g.cu,g.aC,g.rows,g.aO,()),(s.bQ,s.map,()),()))) _ _ aX (λk h=>by
  rw[cU]at h;rw[iY];unfold Gs rQ av aQ xG xI;dsimp only;rw[aS,au,aA ⟨by omega,by omega⟩,bZ h];simp only[bz,dx,ak,aDC _ _ D,bne];rw[bD,aR (n:=g.rows-1)];cases L[k]==(k:Int)<;>cases aN L[k] R (g.rows-1)<;>cases decide ((L.count L[k]:Int) > 1)<;>rfl) (by
  rw[cU];unfold Gs av aQ xG xI;dsimp only;rw[aT,aq]) (by rw[cU];exact bN)
 simp_all
def amQ(g:aM)(s:cQ):MA g s=some (kY g s):=by
 unfold MA kY bE;rw[amx,ak,Uk];cases D:jU g s.bQ with
 |false=>rfl
 | true=>
  obtain⟨L,s0,s2,Ew,Hj⟩:=Uj D;have O:=fH g;have T:((A6 g s.bQ).1.map.length:Int)=(((bg g).toNat*(g.rows-s.bQ).toNat:Nat):Int):=by
   unfold A6;rw[D,au,aaN]
  rw[T];obtain⟨C,hb⟩:=fL O.1;obtain⟨R,hR⟩:=fL (show 0<=g.rows-s.bQ by omega);rw[hb,hR];simp only[bz,bA,aq,cw];by_cases hl:(s.map.length:Int)=((C*R:Nat):Int)
  ·have E:s.map.length=C*R:=by omega
   rw[hl,dY,aq,dM,cw];have U:W6 (R:Int)=(R:Int):=aR;have e:=gk (step:=Mz) (List.range C) (λb=>(List.range R).all (rQ (R:Int) (g.rows-1) (fI s.map R b))) (λi=>(((),(),(R:Int),(i:Int),()),((g.cu,g.aC,g.rows,g.aO,()),(s.bQ,s.map,()),()))) (.inl ((false,()),())) (.inr (.inl ((),()))) aX (λk h=>by
    rw[cU]at h;rw[iY];have Y:=A9 (R:=R) h (dQ R);have hlen:(fI s.map R k).length=R:=Hi (by rw[iN,E];exact Y);have Z:=aDF (g:=g) (s:=s) (R:Int) (k:Int) (fI s.map R k) L (by omega);unfold Mz av aQ xG bE;dsimp only;rw[nW,oE,ak,hb,aS,au];have hbr:Dx g (⟨s.bQ,s.map⟩:cQ) (k:Int)=some (k*R,(k+1)*R):=Uv (s:=⟨s.bQ,s.map⟩) hR (by omega) (by omega) h E;rw[hbr,ak];have hc:(Nat.ble (k*R) ((k+1)*R)&&Nat.ble ((k+1)*R) s.map.length)=true:=by
     rw[aU];exact⟨jn (by rw[iN];omega),jn (by rw[iN];omega)⟩
    rw[hc,au]
    refine(aZ (λo=>Option.bind o _) Z).trans ?_
    rw[ak,hlen];cases (List.range R).all (rQ (R:Int) (g.rows-1) (fI s.map R k))with
    |false=>rfl
    | true=>
     simp only[au,Sum.elim_inr,en];rw[bD]) (by
    rw[cU];unfold Mz av aQ xG bE;dsimp only;rw[nW,oE,ak,hb,aT,aq]) (by rw[cU];exact bN)
   rw[cr]at e;rw[U]
   refine(aZ (λo=>Option.bind o _) e).trans ?_
   rw[ak];cases (List.range C).all λb=>(List.range R).all (rQ (R:Int) (g.rows-1) (fI s.map R b))<;>rfl
  ·have e2:((s.map.length:Int)==((C*R:Nat):Int))=false:=by simp only[beq_eq_false_iff_ne];exact hl
   rw[ga hl,e2];rfl
def aa3(g:aM)(s:cQ):FL g s=some (kY g s):=by
 unfold FL kY bE;rw[amw,ak,Uk];cases L:jU g s.bQ with
 |false=>rfl
 | true=>
  obtain⟨O,s0,s2,Ew,Hj⟩:=Uj L;have T:=fH g;have gb:=fG O;obtain⟨C,hb⟩:=fL T.1;obtain⟨R,hR⟩:=fL (show 0<=g.rows-s.bQ by omega);have hm:C*R<=8*16:=Nat.mul_le_mul (by omega) (by omega);have U:W6 (R:Int)=(R:Int):=aR;have hmul:W6 ((C:Int)*(R:Int))=((C*R:Nat):Int):=by rw[<-Int.natCast_mul];exact aR
  rw[rJ,ak,hb,hR,U,hmul];simp only[bz,bA,aq,cw];by_cases hl:(s.map.length:Int)=((C*R:Nat):Int)
  ·have Y:s.map.length=C*R:=by omega
   rw[hl,dY,aq,dM,cw];have e:=gk (step:=K1) (List.range (C*R)) (NP R (g.rows-1) s.map) (λi=>(((),(),(R:Int),(i:Int),()),((g.cu,g.aC,g.rows,g.aO,()),(s.bQ,s.map,()),()))) (.inl ((false,()),())) (.inr (.inl ((),()))) aX (λk h=>by
    rw[cU]at h;rw[iY];have Z:k<s.map.length:=by omega
    have ht:(k:Int).tmod (R:Int)=((k % R:Nat):Int):=(Int.ofNat_tmod k R).symm;have hd:(k:Int).tdiv (R:Int)=((k / R:Nat):Int):=(Int.ofNat_tdiv k R).symm;have hdl:k / R<=k:=Nat.div_le_self k R;have E:k / R*R<=k:=Nat.div_mul_le_self k R;have w1:W6 (((k / R:Nat):Int))=((k / R:Nat):Int):=amP (Nat.lt_of_le_of_lt hdl (by omega));have w2:W6 (((k / R:Nat):Int)*(R:Int))=((k / R*R:Nat):Int):=by rw[<-Int.natCast_mul];exact amP (Nat.lt_of_le_of_lt E (by omega))
    unfold K1 NP av aQ xG xI;rw[bZ Z];dsimp only;rw[aS,au,aA ⟨by omega,by omega⟩,bU,aA ⟨by omega,by omega⟩,bU,ht,hd,w1,w2,bI ⟨Int.natCast_nonneg _,Int.ofNat_le.2 E,by omega⟩,aA ⟨by omega,by omega⟩];simp only[bz,ei,ak];rw[aDB _ _ (by rw[List.length_drop,fT];omega),ak,bD,aR (n:=g.rows-1)];cases s.map[k]==((k % R:Nat):Int)<;>cases aN s.map[k] (R:Int) (g.rows-1)<;>cases ((s.map.take k).drop (k / R*R)).any (λx=>x==s.map[k])<;>rfl) (by
    rw[cU];unfold K1 av aQ xG xI;dsimp only;rw[aT,aq]) (by rw[cU];exact bN)
   rw[cr]at e
   refine(aZ (λo=>Option.bind o _) e).trans ?_
   rw[ak,aDE R C (by omega)];have hAB:((List.range C).all λb=>(List.range R).all (wB (R:Int) (g.rows-1) (fI s.map R b)))=(List.range C).all λb=>(List.range R).all (rQ (R:Int) (g.rows-1) (fI s.map R b)):=by
    rw[Bool.eq_iff_iff,cx,cx]
    refine forall_congr' λb=>?_
    refine imp_congr_right λD=>?_
    have D:=fK.1 D;have hk:=A9 (R:=R) D (dQ R);have hlen:(fI s.map R b).length=R:=Hi (by rw[iN,Y];exact hk);have:=aa2 (R:Int) (g.rows-1) (fI s.map R b) (by rw[hlen]);rw[hlen]at this;rw[this]
   rw[hAB];cases (List.range C).all λb=>(List.range R).all (rQ (R:Int) (g.rows-1) (fI s.map R b))<;>rfl
  ·have e2:((s.map.length:Int)==((C*R:Nat):Int))=false:=by simp only[beq_eq_false_iff_ne];exact hl
   rw[ga hl,e2];rfl
def eF(g:aM)(s:cQ):aM:=bif kY g s then ⟨g.cu,g.aC,W6 (g.rows-s.bQ),g.aO⟩else ⟨0,0,0,0⟩
def D0(g:aM)(s:cQ):yA g s=some (eF g s):=by
 unfold yA eF;rw[amQ,ak];cases kY g s<;>rfl
def aDG(g:aM)(s:cQ):R2 g s=some (eF g s):=by
 unfold R2 eF;rw[aa3,ak];cases kY g s<;>rfl
def oP(c:ax):ax:=c
def gM(a x:aJ):Bool:=x.ay==a.ay&&(x.row==a.row&&(x.bT==a.bT&&true))
def aa4(l:aa aJ)(a:aJ)(hl:l.length<1073741824):C7 l a=some (gz (gM a) l):=by
 unfold C7 gz bE;have e:=rO (step:=K5) l (gM a) (λi=>((l,(),i,()),((a.ay,a.row,a.bT,()),()))) _ _ aX (λk h=>by
  unfold K5 gM av aQ xG xI;dsimp only;rw[aS,au,aA ⟨by omega,by omega⟩];simp only[bz];rw[bD];cases (l[k].ay==a.ay&&(l[k].row==a.row&&(l[k].bT==a.bT&&true)))<;>rfl) (by
  unfold K5 av aQ xG xI;dsimp only;rw[aT,aq]) (bN hl)
 rw[cr]at e;rw[e];cases l.findIdx? _<;>rfl
def amR(l:aa aJ)(a:aJ)(hl:l.length<1073741824):Gu l a=some (gz (gM a) l):=by
 unfold Gu gz;have e:=rO (step:=MF) l (gM a) (λi=>((l,(),l.length,i,()),((a.ay,a.row,a.bT,()),()))) _ _ aX (λk h=>by
  unfold MF gM av aQ xG xI;dsimp only;rw[aS,au,aA ⟨by omega,by omega⟩];simp only[bz];rw[bD,BEq.comm (a:=a.ay),BEq.comm (a:=a.row),BEq.comm (a:=a.bT)];cases (l[k].ay==a.ay&&(l[k].row==a.row&&(l[k].bT==a.bT&&true)))<;>rfl) (by
  unfold MF av aQ xG xI;dsimp only;rw[aT,aq]) (bN hl)
 rw[cr]at e;rw[e];cases l.findIdx? _<;>rfl
def partAt(c:ax)(i:Nat):Bool:=match c.bJ[i]?,c.guard[i]? with
 |some t,some x=>kX t&&aN x 3 1000
 |_,_=>false
def uF(c:ax)(i:Nat):Bool:=match c.pending[i]? with
 |some a=>dA c.config.az a&&(a.bT==0 && !((c.pending.take i).any (gM a)))
 |none=>false
def sW(c:ax):Bool:=(c.aV.aI.length:Int)==bg c.config.az&&((c.bJ.length:Int)==bg c.config.az&&((c.guard.length:Int)==bg c.config.az&&(!(decide ((c.pending.length:Int) > 128))&&((List.range c.bJ.length).all (partAt c)&&(List.range c.pending.length).all (uF c)))))
def amS(c:ax)(n i:Int):RX (((),n,i,()),(oP c,()))=(bif (decide (i<n))then if C:0<=i/\i.toNat<c.bJ.length then (C6 (c.bJ[i.toNat]'C.2)).bind λD=>bif (!D)then some (.inr (.inl ((false,()),())))else if E:0<=i/\i.toNat<c.guard.length then (cD (c.guard[i.toNat]'E.2) (3:Int) (1000:Int)).bind λL=>bif (!L)then some (.inr (.inl ((false,()),())))else some (.inl (((),n,(W6 (i+(1:Int))),()),(oP c,())))else none else none else some (.inr (.inr (.inl (((),()),(oP c,())))))):=rfl
def amT(c:ax)(i:Int):RY (((),i,()),(oP c,()))=(bif (decide (i<(c.pending.length:Int)))then if C:0<=i/\i.toNat<c.pending.length then (Au c.config.az (c.pending[i.toNat]'C.2)).bind λD=>bif (!D)then some (.inr (.inl ((false,()),())))else bif ((c.pending[i.toNat]'C.2).bT != (0:Int))then some (.inr (.inl ((false,()),())))else (C7 c.pending (c.pending[i.toNat]'C.2)).bind λE=>bif (E != i)then some (.inr (.inl ((false,()),())))else some (.inl (((),(W6 (i+(1:Int))),()),(oP c,())))else none else some (.inr (.inr (.inl ((),()))))):=rfl
def amU(c:ax)(G:(Int×Int×Int×Int×af))(n i:Int):S7 (((),(),n,i,()),(oP c,G,()))=(bif (decide (i<n))then if C:0<=i/\i.toNat<c.bJ.length then (AR (c.bJ[i.toNat]'C.2)).bind λD=>bif (!D)then some (.inr (.inl ((false,()),())))else if E:0<=i/\i.toNat<c.guard.length then (cA (c.guard[i.toNat]'E.2) (3:Int) (1000:Int)).bind λL=>bif (!L)then some (.inr (.inl ((false,()),())))else some (.inl (((),(),n,(W6 (i+(1:Int))),()),(oP c,G,())))else none else none else some (.inr (.inr (.inl (((),(),()),(oP c,G,())))))):=rfl
def amV(c:ax)(g:aM)(l:aa aJ)(n i:Int):S8 (((),(),l,n,i,()),(oP c,(g.cu,g.aC,g.rows,g.aO,()),()))=(bif (decide (i<n))then if C:0<=i/\i.toNat<l.length then (yx g (l[i.toNat]'C.2)).bind λD=>bif (!D)then some (.inr (.inl ((false,()),())))else bif ((l[i.toNat]'C.2).bT != (0:Int))then some (.inr (.inl ((false,()),())))else (Gu c.pending (l[i.toNat]'C.2)).bind λE=>bif (E != i)then some (.inr (.inl ((false,()),())))else some (.inl (((),(),l,n,(W6 (i+(1:Int))),()),(oP c,(g.cu,g.aC,g.rows,g.aO,()),())))else none else some (.inr (.inr (.inl ((),()))))):=rfl
def aDH(c:ax):RZ c=some (sW c):=by
 unfold RZ sW bE;rw[rJ,ak];have T:=fH c.config.az;by_cases C:(c.aV.aI.length:Int)=bg c.config.az
 ·by_cases D:(c.bJ.length:Int)=bg c.config.az
  ·by_cases E:(c.guard.length:Int)=bg c.config.az
   ·rw[C,D,E,dY,dM,aq,cw,cw,cw,aq,aq];cases L:decide ((c.pending.length:Int) > 128)with
    |true=>rfl
    | false=>
     have L:=of_decide_eq_false L;have l1:=gk (step:=RX) (List.range c.bJ.length) (partAt c) (λi=>(((),bg c.config.az,(i:Int),()),(oP c,()))) (.inl ((false,()),())) (.inr (.inl (((),()),(oP c,())))) aX (λk h=>by
      rw[cU]at h;rw[iY,amS,aS,au,aA ⟨by omega,by omega⟩,aA ⟨by omega,by omega⟩];simp only[bz,aa0,ei,ak];unfold partAt;rw[bZ h,bZ (show k<c.guard.length by omega),bD];simp only;cases kX c.bJ[k]<;>cases aN (c.guard[k]'(by omega)) 3 1000<;>rfl) (by
      rw[cU,amS,aT,aq]) (by rw[cU];exact bN)
     have l2:=gk (step:=RY) (List.range c.pending.length) (uF c) (λi=>(((),(i:Int),()),(oP c,()))) (.inl ((false,()),())) (.inr (.inl ((),()))) aX (λk h=>by
      rw[cU]at h;rw[iY,amT,aS,au,aA ⟨by omega,by omega⟩];simp only[bz,Ub,ak,aa4 _ _ (show c.pending.length<1073741824 by omega),bne];have O:=He (p:=gM c.pending[k]) h (by simp[gM]);rw[bne]at O;rw[O];unfold uF;rw[bZ h,bD];simp only;cases dA c.config.az c.pending[k]<;>cases c.pending[k].bT==0<;>cases (c.pending.take k).any (gM c.pending[k])<;>rfl) (by
      rw[cU,amT,aT,aq]) (by rw[cU];exact bN)
     rw[cr]at l1 l2;simp only[gW,aq,cw]
     refine(aZ (λo=>Option.bind o _) l1).trans ?_
     rw[ak];cases (List.range c.bJ.length).all (partAt c)with
     |false=>rfl
     | true=>
      simp only[au,Sum.elim_inr,en,cw]
      refine(aZ (λo=>Option.bind o _) l2).trans ?_
      rw[ak];cases (List.range c.pending.length).all (uF c)<;>rfl
   ·simp[C,D,ga E,E]
  ·simp[C,ga D,D]
 ·simp[ga C,C]
def aDI(c:ax)(T:c.aV.aI.length<1073741824):S9 c=some (fe c.aV&&sW c):=by
 unfold S9 sW bE;rw[oE,ak,G9 _ T,ak];cases fe c.aV with
 |false=>rfl
 |true=>
 simp only[bA,aq,cw];have b1:=fH c.config.az;by_cases C:(c.aV.aI.length:Int)=bg c.config.az
 ·by_cases D:(c.bJ.length:Int)=bg c.config.az
  ·by_cases E:(c.guard.length:Int)=bg c.config.az
   ·have U:((c.aV.aI.length:Int) != bg c.config.az)=false:=by simp[C]
    have Y:((c.bJ.length:Int) != bg c.config.az)=false:=by simp[D]
    have Z:((c.guard.length:Int) != bg c.config.az)=false:=by simp[E]
    have q1:((c.aV.aI.length:Int)==bg c.config.az)=true:=by simp[C]
    have q2:((c.bJ.length:Int)==bg c.config.az)=true:=by simp[D]
    have q3:((c.guard.length:Int)==bg c.config.az)=true:=by simp[E]
    rw[U,Y,Z,q1,q2,q3];simp only[aq,cw];cases L:decide ((c.pending.length:Int) > 128)with
    |true=>rfl
    | false=>
     have L:=of_decide_eq_false L;have l1:=gk (step:=S7) (List.range c.bJ.length) (partAt c) (λi=>(((),(),(c.bJ.length:Int),(i:Int),()),(oP c,(c.config.az.cu,c.config.az.aC,c.config.az.rows,c.config.az.aO,()),()))) (.inl ((false,()),())) (.inr (.inl (((),(),()),(oP c,(c.config.az.cu,c.config.az.aC,c.config.az.rows,c.config.az.aO,()),())))) aX (λk h=>by
      rw[cU]at h;rw[iY,amU,aS,au,aA ⟨by omega,by omega⟩,aA ⟨by omega,by omega⟩];simp only[bz,aaZ,dx,ak];unfold partAt;rw[bZ h,bZ (show k<c.guard.length by omega),bD];simp only;cases kX c.bJ[k]<;>cases aN (c.guard[k]'(by omega)) 3 1000<;>rfl) (by
      rw[cU,amU,aT,aq]) (by rw[cU];exact bN)
     have l2:=gk (step:=S8) (List.range c.pending.length) (uF c) (λi=>(((),(),c.pending,(c.pending.length:Int),(i:Int),()),(oP c,(c.config.az.cu,c.config.az.aC,c.config.az.rows,c.config.az.aO,()),()))) (.inl ((false,()),())) (.inr (.inl ((),()))) aX (λk h=>by
      rw[cU]at h;rw[iY,amV,aS,au,aA ⟨by omega,by omega⟩];simp only[bz,DR,ak,amR _ _ (show c.pending.length<1073741824 by omega),bne];have O:=He (p:=gM c.pending[k]) h (by simp[gM]);rw[bne]at O;rw[O];unfold uF;rw[bZ h,bD];simp only;cases dA c.config.az c.pending[k]<;>cases c.pending[k].bT==0<;>cases (c.pending.take k).any (gM c.pending[k])<;>rfl) (by
      rw[cU,amV,aT,aq]) (by rw[cU];exact bN)
     rw[cr]at l1 l2;simp only[gW,aq,cw]
     refine(aZ (λo=>Option.bind o _) l1).trans ?_
     rw[ak];cases (List.range c.bJ.length).all (partAt c)with
     |false=>rfl
     | true=>
      simp only[au,Sum.elim_inr,en,cw]
      refine(aZ (λo=>Option.bind o _) l2).trans ?_
      rw[ak];cases (List.range c.pending.length).all (uF c)<;>rfl
   ·simp[C,D,ga E,E]
  ·simp[C,ga D,D]
 ·simp[ga C,C]
def sX(n:Int)(u:Bool)(k:Int):Bool:=bif u then aN n 0 (k-1)else n==0
def dS(g:aM)(c:aG):Bool:=cG g&&(aN c.kind 1 9&&(sX c.ay (aN c.kind 1 5) (bg g)&&(sX c.row (c.kind==1) g.rows&&sX c.bT (c.kind==2 ||c.kind==3) g.aO)))
def aDJ(k:Int):Tj k=some (k==1):=by
 unfold Tj;rfl
def aDK(k:Int):Tl k=some (k==2 || k==3):=by
 unfold Tl;cases k==2<;>rfl
def aa5{n k:Int}(u:Bool)(h:-1000<k/\k<1000):DE n u k=some (sX n u k):=by
 rw[aDy,aR];rfl
def aa6(g:aM)(c:aG):GG g c=some (dS g c):=by
 unfold GG dS;rw[yG];cases C:cG g with
 |false=>rfl
 | true=>
  have D:=fH g;have E:=fG C;unfold aan;simp only[au,oE,ak,dx,NM,aDJ,aDK,aa5 _ (show -1000<bg g/\bg g<1000 by omega),aa5 _ (show -1000<g.rows/\g.rows<1000 by omega),aa5 _ (show -1000<g.aO/\g.aO<1000 by omega),cw]
  grind
def aDL(k:Int):SB k=some (aN k 1 5,k==1,(k==2 || k==3)):=by
 obtain⟨y,e,h⟩:=aDh k;rw[e,h]
def NQ(c:aG):Bool:=(aN c.kind 1 5 ||c.ay==0)&&((c.kind==1 ||c.row==0)&&(((c.kind==2 ||c.kind==3) ||c.bT==0)&&(aN c.kind 1 9&&(aN c.ay 0 7&&(aN c.row 0 15&&aN c.bT 0 7)))))
def aDM(c:aG):SC c=some (NQ c):=by
 unfold SC NQ;simp only[aDL,ak,ei,bne]
 grind
def amW(g:aM)(c:aG):LQ g c=some (dS g c):=by
 unfold LQ;rw[aDM,ak,Ub,ak];have key:(NQ c&&dA g ⟨c.ay,c.row,c.bT⟩)=dS g c:=by
  unfold dS dA;cases D:cG g with
  |false=>simp
  | true=>
   have L:=fH g;have O:=fG D;rw[Bool.eq_iff_iff];simp only[NQ,sX,aU,eG,fU,bF,cw];constructor
   ·rintro⟨⟨h1,h2,h3,C,T,U,Y⟩,⟨Z,h9⟩,Hl⟩;refine⟨C,?_,?_,?_⟩
    ·cases hu:aN c.kind 1 5 with
     |true=>simp[au,bF];omega
     | false=>simp only[aq,fU];rcases h1 with h1 | h1
              ·exact absurd (bF.2 h1) (by rw[hu];simp)
              ·exact h1
    ·cases hu:c.kind==1 with
     |true=>simp[au,bF];omega
     | false=>simp only[aq,fU];rcases h2 with h2 | h2
              ·simp_all
              ·exact h2
    ·cases hu:(c.kind==2 || c.kind==3)with
     |true=>simp[au,bF];omega
     | false=>simp only[aq,fU];rcases h3 with (h3 | h3) | h3
              ·simp_all
              ·simp_all
              ·exact h3
   ·rintro⟨h1,h2,h3,C⟩;have f1:(1 <= c.kind/\c.kind <= 5 \/ c.ay=0)/\0 <= c.ay/\c.ay <= bg g-1:=by
     cases hu:aN c.kind 1 5 with
     |true=>rw[hu,au,bF]at h2;exact⟨.inl (bF.1 hu),h2⟩
     |false=>rw[hu,aq,fU]at h2;have:=amc D;exact⟨.inr h2,by omega⟩
    have f2:(c.kind=1 \/ c.row=0)/\0 <= c.row/\c.row <= g.rows-1:=by
     cases hu:c.kind==1 with
     |true=>rw[hu,au,bF]at h3;exact⟨.inl (by simpa using hu),h3⟩
     |false=>grind
    have E:((c.kind=2 \/ c.kind=3) \/ c.bT=0)/\0 <= c.bT/\c.bT <= g.aO-1:=by
     cases hu:(c.kind==2 ||c.kind==3)with
     |true=>rw[hu,au,bF]at C;exact⟨.inl (by simpa using hu),C⟩
     |false=>simp_all
    exact⟨⟨f1.1,f2.1,E.1,h1,by omega,by omega,by omega⟩,⟨by omega,by omega⟩,by omega⟩
 rw[<- key];cases NQ c<;>rfl
def D1{g:aM}{c:aG}(h:dS g c=true):cG g=true/\(1 <= c.kind/\c.kind <= 9)/\(c.kind <= 5 -> 0 <= c.ay/\c.ay<bg g)/\(5<c.kind -> c.ay=0):=by
 simp[dS,aU,bF]at h
 refine⟨h.1,h.2.1,λD=>?_,λD=>?_⟩
 ·have:=h.2.2.1;rw[sX,show aN _ 1 5=true from bF.2 ⟨h.2.1.1,D⟩,au,bF]at this;omega
 ·have:=h.2.2.1;have C:aN c.kind 1 5=false:=by
   cases C:aN _ 1 5 with
   |false=>rfl
   |true=>have:=bF.1 C;omega
  rwa [sX,C,aq,fU]at this
def kinds{k:Int}(h:1<=k/\k<=9):k=1\/k=2\/k=3\/k=4\/k=5\/k=6\/k=7\/k=8\/k=9:=by omega
def jw(r:cC)(b:Int):c9:=r.aC.getD b.toNat ⟨false,0⟩
def pV(r:cC)(c:aG):Bool:=
 bif c.kind==1 ||c.kind==5 then r.bf==0 && !(jw r c.ay).open_ else
 bif c.kind==2 ||c.kind==3 ||c.kind==4 then r.bf==0&&(jw r c.ay).open_ else
 bif c.kind==6 then r.bf==0 else
 bif c.kind==8 then r.bf==0&&r.aC.all (λb=>!b.open_)else
 bif c.kind==7 then r.bf==1 else r.bf==2
def gn(r:cC)(c:aG):cC:=
 bif c.kind==1 then ⟨r.aC.set c.ay.toNat ⟨true,c.row⟩,r.bf⟩else
 bif c.kind==4 then ⟨r.aC.set c.ay.toNat ⟨false,0⟩,r.bf⟩else
 bif c.kind==6 then ⟨r.aC,1⟩else
 bif c.kind==8 then ⟨r.aC,2⟩else
 bif c.kind==7 ||c.kind==9 then ⟨r.aC,0⟩else r
def amX{r:cC}{b:Int}(h:b.toNat<r.aC.length):r.aC[b.toNat]=jw r b:=by
 simp[jw,h]
def amY(r:cC):(((opens 0 r.aC).length:Int)==0)=r.aC.all λb=>!b.open_:=by
 rw[<-amG 0 r.aC,Bool.eq_iff_iff];simp only[fU];omega
def amZ(r:cC)(h:r.aC.length<1073741823):Ls r=some (opens 0 r.aC):=by
 unfold Ls bk;have e:=wu (step:=FW) (λi=>(((),(),(i:Int),()),((r.aC,r.bf,()),opens 0 (r.aC.take i),()))) (z:=.inl (((),()),(opens 0 r.aC,()))) r.aC.length 0 aX (λk _ C=>?_) ?_ (by unfold aX;omega)
 ·have e:iter FW aX (((),(),0,()),((r.aC,r.bf,()),([]),()))=_:=e;simp_all
 ·have C:k<r.aC.length:=by omega
  unfold FW av xG xI;dsimp only;have D:decide ((k:Int)<(r.aC.length:Int))=true:=aS;have E:0 <= (k:Int)/\(k:Int).toNat<r.aC.length:=⟨by omega,by simpa using C⟩
  have hl:=Ud 0 (r.aC.take k);rw[fT]at hl;have L:bM ((opens 0 (r.aC.take k)).length+([(k:Int)]:aa Int).length)=true:=by
   unfold bM;simp;omega
  rw[D,au,aA E,A3,oG C,aaF];simp only[bz,opens,fT,fD,Nat.min_eq_left (Nat.le_of_lt C)];cases r.aC[k].open_ with
  |true=>grind
  |false=>grind
 ·rw[fD];unfold FW av xG xI;simp_all
def aDN{r:cC}{c:aG}(C:1 <= c.kind/\c.kind <= 9)(hb:c.kind <= 5 -> 0 <= c.ay/\c.ay.toNat<r.aC.length)(hl:r.aC.length<1073741823):Sd r c=some (pV r c):=by
 unfold Sd pV xI;rcases kinds C with h|h|h|h|h|h|h|h|h
 case inr.inr.inr.inr.inr.inr.inr.inl=>simp[h,amZ r hl,amY];cases r.bf==0<;>rfl
 all_goals (try (have hb:=hb _))<;>simp[h,hb,amX]<;>(cases r.bf==0<;>rfl)
def aa7(g:aM)(r:cC)(c:aG):MY g r c=some (mE g r&&(dS g c&&pV r c)):=by
 unfold MY xI;rw[amH,ak];cases C:mE g r with
 |false=>rfl
 | true=>
  rw[aa6,ak];cases D:dS g c with
  |false=>rfl
  | true=>
   have⟨L,E,hb,_⟩:=D1 D;have hlen:(r.aC.length:Int)=bg g:=by
    simp[mE,aU,fU]at C;simp_all
   have O:=fH g;have hb:c.kind <= 5 -> 0 <= c.ay/\c.ay.toNat<r.aC.length:=λh=>by have:=hb h;omega
   have hl:r.aC.length<1073741823:=by omega
   simp only[bA,aq,cw];unfold pV;rcases kinds E with h|h|h|h|h|h|h|h|h
   case inr.inr.inr.inr.inr.inr.inr.inl=>simp[h,Ue r hl,amY];cases r.bf==0<;>rfl
   all_goals (try (have hb:=hb (by omega)))<;>simp[h,hb,amX]<;>(cases r.bf==0<;>rfl)
def mY(g:aM)(r:cC)(c:aG):Bool:=mE g r&&(dS g c&&pV r c)
def aa8(g:aM)(r:cC)(c:aG):cC×Bool:=bif mY g r c then (gn r c,true)else (r,false)
def NR{g:aM}{r:cC}{c:aG}(h:mY g r c=true):cG g=true/\(r.aC.length:Int)=bg g/\(1 <= c.kind/\c.kind <= 9)/\(c.kind <= 5 -> 0 <= c.ay/\c.ay.toNat<r.aC.length):=by
 simp[mY,aU]at h;have⟨D,E,hb,_⟩:=D1 h.2.1;have C:=h.1;simp[mE,aU,fU]at C;simp_all
def aDO(r:cC)(h:r.aC.length<1073741824):Gf r=some r:=by
 unfold Gf xA xZ;rw[show ([]).length+r.aC.length=r.aC.length by simp,cX h];rfl
def aDP(g:aM)(r:cC)(c:aG)(h:r.aC.length<1073741824):Nc g r c=some (aa8 g r c):=by
 unfold Nc aa8 xL;rw[aDO r h,aa7];change (bif !(mY g r c)then _ else _)=_;cases C:mY g r c with
 |false=>rfl
 | true=>
  have⟨D,hlen,E,hb⟩:=NR C;unfold gn
  grind
def am0(r:cC)(c:aG):(gn r c).aC.length=r.aC.length:=by
 unfold gn
 grind
def D2(t:dj)(a b:Int):Int:=
 bif a==1 then (bif b==2 ||b==3 then t.jY else bif b==4 then t.gX else bif b==1 ||b==5 then W6 (t.gX+t.rp)else 0)else
 bif a==2 then (bif b==4 then t.jy else bif b==1 ||b==5 then W6 (t.jy+t.rp)else 0)else
 bif a==3 then (bif b==4 then t.wr else bif b==1 ||b==5 then W6 (t.wr+t.rp)else 0)else
 bif a==4 then (bif b==1 ||b==5 then t.rp else 0)else
 bif a==5 then (bif b==1 ||b==5 then t.nD else 0)else 0
def D3(t:dj)(a b:Int)(C:Bool):Int:=
 bif a==7 then t.xp else bif a==9 then t.xs else
 bif (a==6&&b==7) ||(a==8&&b==9)then t.n7 else
 bif a==1&&b==1 then (bif C then t.jZ else t.nt)else
 bif (a==2&&b==2) ||(a==3&&b==3)then (bif C then t.ny else t.nu)else
 bif a==3&&b==2 then (bif C then t.nB else t.nA)else
 bif a==2&&b==3 then t.p9 else
 bif a==5&&b==5 then t.jZ else
 bif a==2&&b==6 then t.jy else bif a==3&&b==6 then t.wr else
 bif b==8 then D2 t a 1 else 0
def aDQ(t:dj){a b:Int}(C:1<=a/\a<=9)(hb:1<=b/\b<=9):Tn t a b=some (D2 t a b):=by
 rcases kinds C with rfl|rfl|rfl|rfl|rfl|rfl|rfl|rfl|rfl<;>rcases kinds hb with rfl|rfl|rfl|rfl|rfl|rfl|rfl|rfl|rfl<;>kernel_rfl
def aa9(t:dj){a b:Int}(C:Bool)(D:1<=a/\a<=9)(hb:1<=b/\b<=9):To t a b C=some (D3 t a b C):=by
 cases C<;>rcases kinds D with rfl|rfl|rfl|rfl|rfl|rfl|rfl|rfl|rfl<;>rcases kinds hb with rfl|rfl|rfl|rfl|rfl|rfl|rfl|rfl|rfl<;>kernel_rfl
def am1{t:dj}(C:jh t=true){a b:Int}(D:1 <= a/\a <= 9)(hb:1 <= b/\b <= 9):Lt t a b=some (D2 t a b):=by
 unfold Lt;rw[Ui,ak,C,bA];rcases kinds D with rfl|rfl|rfl|rfl|rfl|rfl|rfl|rfl|rfl<;>rcases kinds hb with rfl|rfl|rfl|rfl|rfl|rfl|rfl|rfl|rfl<;>kernel_rfl
def aba{t:dj}(E:jh t=true){a b:Int}(D:Bool)(C:1 <= a/\a <= 9)(hb:1 <= b/\b <= 9):Lu t a b D=some (D3 t a b D):=by
 unfold Lu;rw[Ui,ak,E,bA,aq,ei,ak,bF.2 C,bA,aq,ei,ak,bF.2 hb,bA];by_cases L:b=8/\a≠7/\a≠9
 ·obtain⟨rfl,O,T⟩:=L;have e:=am1 E C (b:=1) (by omega);rcases kinds C with rfl|rfl|rfl|rfl|rfl|rfl|rfl|rfl|rfl<;>first|exact absurd rfl O|exact absurd rfl T|simp[e,D3]
 ·cases D<;>rcases kinds C with rfl|rfl|rfl|rfl|rfl|rfl|rfl|rfl|rfl<;>rcases kinds hb with rfl|rfl|rfl|rfl|rfl|rfl|rfl|rfl|rfl<;>first|exact absurd ⟨rfl,by omega,by omega⟩ L|kernel_rfl
def Uw(a b:aG):Bool:=aN a.kind 1 5&&aN b.kind 1 5
def NS(g:aM)(a b:aG):Bool:=Uw a b&&(W6 (a.ay.tdiv g.aC)==W6 (b.ay.tdiv g.aC))
def wC(g:aM)(t:dj)(a b:aG):Int:=
 bif Uw a b&&a.ay==b.ay then max (max 1 (D3 t a.kind b.kind (NS g a b))) (D2 t a.kind b.kind)else max 1 (D3 t a.kind b.kind (NS g a b))
def Ux(x y:Int):(if x > y then x else y)=max x y:=by
 rw[Int.max_def];split<;>split<;>omega
def am2{g:aM}{b:Int}(h:0<=b/\b<bg g)(C:cG g=true):M0 g b=some (W6 (b.tdiv g.aC)):=by
 have D:=fH g;have E:=fG C;unfold M0;rw[oE,ak,dx,ak,aR,bF.2 ⟨h.1,by omega⟩,bA,aq,bU]
def NT{k:Int}(h:1<=k/\k<=9):aN k 1 5=decide (k<=5):=by
 unfold aN;rw[aS h.1,cw]
def aDR{g:aM}(t:dj){a b:aG}(E:cG g=true)(C:1 <= a.kind/\a.kind <= 9)(D:1 <= b.kind/\b.kind <= 9)(L:a.kind <= 5 -> 0 <= a.ay/\a.ay<bg g)(O:b.kind <= 5 -> 0 <= b.ay/\b.ay<bg g):M1 g t a b=some (wC g t a b):=by
 unfold M1 wC NS Uw;simp only[NM,ak];cases T:aN a.kind 1 5 with
 | false=>
  simp;rw[aa9 t false C D,ak,Ux,Int.max_comm]
 | true=>
  cases U:aN b.kind 1 5 with
  | false=>
   simp;rw[aa9 t false C D,ak,Ux,Int.max_comm]
  | true=>
   have Y:=bF.1 T;have Z:=bF.1 U;simp only[au,cw];rw[am2 (L Y.2) E,ak,am2 (O Z.2) E,ak,aa9 t _ C D,ak,aDQ t C D];cases a.ay==b.ay with
   |false=>grind
   |true =>grind
def aDS{g:aM}{t:dj}{a b:aG}(L:cG g=true)(E:jh t=true)(C:1 <= a.kind/\a.kind <= 9)(D:1 <= b.kind/\b.kind <= 9):AA g t a b=some (wC g t a b):=by
 have O:=fG L;unfold AA wC NS Uw;rw[NT C,NT D];cases decide (a.kind <= 5)with
 | false=>
  simp;rw[aba E false C D,ak,Ux]
 | true=>
  cases decide (b.kind <= 5)with
  | false=>
   simp;rw[aba E false C D,ak,Ux]
  | true=>
   simp only[au,cw,Bool.and_self];rw[bU,bU,aba E _ C D,ak,am1 E C D]
   grind
def abb{t:dj}(h:jh t=true):∀ x∈oJ t,1 <= x/\x <= 64:=by
 simp[jh,aU,cx]at h;exact λx C=>bF.1 (h.1 x C)
def am3{t:dj}(h:jh t=true)(a b:Int):0 <= D2 t a b/\D2 t a b <= 128:=by
 have hb:=abb h;simp only[oJ,iw,List.not_mem_nil,or_false,forall_eq_or_imp,forall_eq]at hb;have⟨C,D,E,L,O,T,U,Y,Z,Hl,Ho,tW,uG,Ba,Bb,qz,D4⟩:=hb;unfold D2;rw[aR (n:=t.gX+t.rp),aR (n:=t.jy+t.rp),aR (n:=t.wr+t.rp)]
 grind
def aDT{c:Bool}{x y a b:Int}(C:a<=x/\x<=b)(D:a<=y/\y<=b):a<=(bif c then x else y)/\(bif c then x else y)<=b:=by
 cases c
 ·exact D
 ·exact C
def aDU{t:dj}(h:jh t=true)(a b:Int)(n:Bool):0 <= D3 t a b n/\D3 t a b n <= 128:=by
 have hb:=abb h;simp[oJ,iw,forall_eq_or_imp,forall_eq]at hb;have C:=am3 h a 1
 repeat' (first|exact C|refine aDT ?_ ?_|omega)
def jx(g:aM)(c:aG):Int:=9*(bif aN c.kind 1 5 then c.ay else bg g)+c.kind-1
def abc{g:aM}{c:aG}(h:dS g c=true):0 <= jx g c/\jx g c<9*(bg g+1):=by
 have⟨C,D,hb,_⟩:=D1 h;have E:=fH g;unfold jx
 grind
def aDV{g:aM}{c:aG}(h:dS g c=true):TD g c=some (jx g c):=by
 have⟨C,D,hb,_⟩:=D1 h;have E:=fH g;unfold TD jx;simp[oE,ak,NM];cases hu:aN _ 1 5 with
 | true=>
  have:=bF.1 hu;simp;rw[aR (n:=9*c.ay),aR (n:=9*c.ay+c.kind),aR]
 | false=>
  simp;rw[aR (n:=9*bg g),aR (n:=9*bg g+c.kind),aR]
def am4(r:dB)(C:r.last.length<1073741824)(D:r.bC.length<1073741824):Gg r=some r:=by
 unfold Gg xA xZ;rw[show ([]).length+r.last.length=r.last.length by simp,cX C,show ([]).length+r.bC.length=r.bC.length by simp,cX D];rfl
def am5(r:dB)(C:r.last.length<1073741824)(D:r.bC.length<1073741824):uh r=some r:=am4 r C D
def D5(r:dB)(x:Int):Bool:=match r.bC.getLast? with
 |some y=>decide (x<=y)
 |none=>false
def D6(l:aa Int)(x:Int):aa Int:=(l++[x]).drop (l.length+1-4)
def uH(g:aM)(r:dB)(e:c8):dB:=
 bif lP g r&&(dS g e.cmd&&(aN e.at_ 0 1000000 && !(e.cmd.kind==1&&D5 r e.at_)))then ⟨r.last.set (jx g e.cmd).toNat e.at_,bif e.cmd.kind==1 then D6 r.bC e.at_ else r.bC⟩else r
def Uy{g:aM}{r:dB}(h:lP g r=true):cG g=true/\(r.last.length:Int)=9*(bg g+1)/\r.bC.length <= 4:=by
 simp[lP,aU,fU,gV,p7]at h
 grind
def am6{l:aa Int}(h:0<l.length)(C:(W6 ((l.length:Int)-1)).toNat<l.length)(hl:l.length<1073741824):l.getLast?=some (l[(W6 ((l.length:Int)-1)).toNat]'C):=by
 have e:(W6 ((l.length:Int)-1)).toNat=l.length-1:=by rw[aR];omega
 simp only[e];rw[List.getLast?_eq_getElem?,bZ (by omega)]
def aDW(g:aM)(r:dB)(e:c8)(T:r.last.length<1073741824)(U:r.bC.length<1073741824):TE g r e=some (uH g r e):=by
 unfold TE uH xA xI xL xZ;rw[am4 r T U,ak,aa1,ak];cases Y:lP g r with
 |false=>rfl
 | true=>
  simp only[bA,aq,cw];rw[aa6,ak];cases D:dS g e.cmd with
  |false=>rfl
  | true=>
   simp only[bA,aq,cw];rw[dx,ak];cases ha:aN e.at_ 0 1000000 with
   |false=>rfl
   | true=>
    obtain⟨hg,hl,h4⟩:=Uy Y;have E:=abc D;have b1:=fH g;simp only[bA,aq,cw,aDV D,ak];cases hk:(e.cmd.kind==1)with
    | false=>
     simp only[aq,Bool.false_and,gW,au];rw[aA ⟨E.1,by omega⟩,aA]
    | true=>
     have tl:∀ (A B:ah dB),(if tW:0<=jx g e.cmd/\(jx g e.cmd).toNat<r.last.length then if uG:(jx g e.cmd).toNat<r.last.length then (bif bM (r.bC.length+([e.at_]:aa Int).length)then if 0<=(if W6 (((r.bC++[e.at_]).length:Int)-4) > 0 then W6 (((r.bC++[e.at_]).length:Int)-4)else 0)/\(if W6 (((r.bC++[e.at_]).length:Int)-4) > 0 then W6 (((r.bC++[e.at_]).length:Int)-4)else 0)<=((r.bC++[e.at_]).length:Int)/\((r.bC++[e.at_]).length:Int)<=((r.bC++[e.at_]).length:Int)then bif bM (([]:aa Int).length+(((r.bC++[e.at_]).take (((r.bC++[e.at_]).length:Int).toNat)).drop ((if W6 (((r.bC++[e.at_]).length:Int)-4) > 0 then W6 (((r.bC++[e.at_]).length:Int)-4)else 0).toNat)).length)then some (⟨(r.last.set (jx g e.cmd).toNat e.at_),(([]:aa Int)++(((r.bC++[e.at_]).take (((r.bC++[e.at_]).length:Int).toNat)).drop ((if W6 (((r.bC++[e.at_]).length:Int)-4) > 0 then W6 (((r.bC++[e.at_]).length:Int)-4)else 0).toNat)))⟩:dB)else none else none else none)else A else B)=some ⟨r.last.set (jx g e.cmd).toNat e.at_,D6 r.bC e.at_⟩:=by
      intro A B;have L:(r.bC++[e.at_]).length=r.bC.length+1:=by simp
      have Z:(if W6 (((r.bC.length+1:Nat):Int)-4) > 0 then W6 (((r.bC.length+1:Nat):Int)-4)else 0)=((r.bC.length+1-4:Nat):Int):=by
       rw[aR];split<;>omega
      rw[aA ⟨E.1,by omega⟩,aA,cX (by simp;omega),au,L,Z,bI ⟨by omega,by omega,by omega⟩,cX (by simp;omega),au];unfold D6;simp only[bz,lT];rw[<-L,iP]
     simp only[au,cw];unfold D5;by_cases C:0<r.bC.length
     ·have O:(W6 ((r.bC.length:Int)-1))=((r.bC.length-1:Nat):Int):=by rw[aR];omega
      have hi:(W6 ((r.bC.length:Int)-1)).toNat<r.bC.length:=by rw[O];omega
      rw[aS (show (r.bC.length:Int) > 0 by omega),au,aA ⟨by rw[O];omega,hi⟩,am6 C hi (by omega)];dsimp only;cases decide (e.at_<=r.bC[(W6 ((r.bC.length:Int)-1)).toNat])with
      |true=>rfl
      | false=>
       simp only[aq,gW,au];exact tl _ _
     ·have C:r.bC=[]:=List.eq_nil_of_length_eq_zero (by omega);rw[aT (by rw[C];simp),aq];rw[show r.bC.getLast?=none by rw[C];rfl];simp only[gW,au];exact tl _ _
def aDX(g:aM)(r:dB)(e:c8)(h1:r.last.length<1073741824)(h2:r.bC.length<1073741824):SD g r e=some (uH g r e):=by
 unfold SD uH xA xI xL xZ;rw[am5 r h1 h2,ak,amM,ak];cases hr:lP g r with
 |false=>rfl
 | true=>
  simp only[bA,aq,cw];rw[amW,ak];cases O:dS g e.cmd with
  |false=>rfl
  | true=>
   simp only[bA,aq,cw];rw[ei,ak];cases ha:aN e.at_ 0 1000000 with
   |false=>rfl
   | true=>
    obtain⟨hg,hl,h4⟩:=Uy hr;obtain⟨_,hk9,hb,_⟩:=D1 O;have hp:=abc O;have b1:=fH g;have pl:jx g e.cmd=bif decide (e.cmd.kind<=5)then 9*e.cmd.ay+e.cmd.kind-1 else 9*bg g+e.cmd.kind-1:=by
     unfold jx;rw[NT hk9];cases decide (e.cmd.kind<=5)<;>rfl
    have T:decide (e.cmd.kind<=5)=true->W6 (W6 (W6 (9*e.cmd.ay)+e.cmd.kind)-1)=jx g e.cmd:=by
     intro C;have:=hb (of_decide_eq_true C);rw[aR (n:=9*e.cmd.ay),aR (n:=9*e.cmd.ay+e.cmd.kind),aR,pl,C];rfl
    have hW2:decide (e.cmd.kind<=5)=false->W6 (W6 (W6 (9*bg g)+e.cmd.kind)-1)=jx g e.cmd:=by
     intro C;rw[aR (n:=9*bg g),aR (n:=9*bg g+e.cmd.kind),aR,pl,C];rfl
    have E:∀l:aa Int,l.length<1073741824->uh ⟨r.last.set (jx g e.cmd).toNat e.at_,l⟩=some ⟨r.last.set (jx g e.cmd).toNat e.at_,l⟩:=λl BW=>am5 _ (by simp;omega) BW
    have D:0<=jx g e.cmd/\(jx g e.cmd).toNat<r.last.length:=⟨hp.1,by omega⟩
    have o1:bM (([]:aa Int).length+r.bC.length)=true:=cX (by simp;omega);have o2:bM ((([]:aa Int)++r.bC).length+([e.at_]:aa Int).length)=true:=cX (by simp;omega);have U:((([]:aa Int)++r.bC)++([e.at_]:aa Int)).length=r.bC.length+1:=by simp
    have Y:(bif decide ((((r.bC.length+1:Nat):Int)) > 4)then if 0<=(1:Int)/\(1:Int)<=((r.bC.length+1:Nat):Int)/\((r.bC.length+1:Nat):Int)<=((r.bC.length+1:Nat):Int)then (uh (⟨r.last.set (jx g e.cmd).toNat e.at_,(((([]:aa Int)++r.bC)++([e.at_]:aa Int)).take (((r.bC.length+1:Nat):Int).toNat)).drop ((1:Int).toNat)⟩:dB)).bind λeP=>some eP else none else (uh (⟨r.last.set (jx g e.cmd).toNat e.at_,((([]:aa Int)++r.bC)++([e.at_]:aa Int))⟩:dB)).bind λgC=>some gC)=some ⟨r.last.set (jx g e.cmd).toNat e.at_,D6 r.bC e.at_⟩:=by
     have et:((([]:aa Int)++r.bC)++([e.at_]:aa Int)).take (((r.bC.length+1:Nat):Int).toNat)=r.bC++[e.at_]:=by
      rw[bz,<-U,iP,lT]
     rw[et];unfold D6;by_cases h5:4<=r.bC.length
     ·rw[aS,au,bI ⟨by omega,by omega,by omega⟩,E _ (by simp;omega),ak,show r.bC.length+1-4=1 by omega];rfl
     ·rw[aT,aq,E _ (by simp;omega),ak,show r.bC.length+1-4=0 by omega];rfl
    simp only[bA,aq,cw,rJ,ak];cases hk:(e.cmd.kind==1)with
    | false=>
     cases C:decide (e.cmd.kind<=5)with
     | true=>
      simp only[aq,Bool.false_and,gW,au,T C];rw[aA D,aA D.2,E _ (by omega),ak]
     | false=>
      simp only[aq,Bool.false_and,gW,au,hW2 C];rw[aA D,aA D.2,E _ (by omega),ak]
    | true=>
     have C:decide (e.cmd.kind<=5)=true:=by
      have:e.cmd.kind=1:=by simpa using hk
      exact aS
     simp only[au,cw,C,T C,o1,o2,U];unfold D5;by_cases L:0<r.bC.length
     ·have Z:(W6 ((r.bC.length:Int)-1))=((r.bC.length-1:Nat):Int):=by rw[aR];omega
      have hi:(W6 ((r.bC.length:Int)-1)).toNat<r.bC.length:=by rw[Z];omega
      rw[aS (show (r.bC.length:Int) > 0 by omega),au,aA ⟨by rw[Z];omega,hi⟩,am6 L hi (by omega)];dsimp only;rw[show decide (r.bC[(W6 ((r.bC.length:Int)-1)).toNat] >= e.at_)=decide (e.at_<=r.bC[(W6 ((r.bC.length:Int)-1)).toNat])from rfl];cases decide (e.at_<=r.bC[(W6 ((r.bC.length:Int)-1)).toNat])with
      |true=>rfl
      | false=>
       simp only[aq,gW,au];rw[aA D,aA D.2];exact Y
     ·have L:r.bC=[]:=List.eq_nil_of_length_eq_zero (by omega);rw[aT (by rw[L];simp),aq];rw[show r.bC.getLast?=none by rw[L];rfl];simp only[gW,au];rw[aA D,aA D.2];exact Y
def abd{t:dj}(C:jh t=true)(g:aM)(a b:aG):1 <= wC g t a b/\wC g t a b <= 128:=by
 have D:=aDU C a.kind b.kind (NS g a b);have E:=am3 C a.kind b.kind;unfold wC
 grind
def am7{t:dj}(C:jh t=true):1<=t.ke/\t.ke<=64:=abb C _ (by simp[oJ])
def abe{T:Type}{p:T -> Bool}{l:aa T}{i:Nat}{x:T}(h:l.all p=true)(C:p x=true):(l.set i x).all p=true:=by grind
def Bc{g:aM}{r:cC}(h:mE g r=true):cG g=true/\(r.aC.length:Int)=bg g/\(0 <= r.bf/\r.bf <= 2)/\r.aC.all (rN g)=true/\(r.bf=2 -> (r.aC.all λb=>!b.open_)=true):=by
 simp only[mE,aU,fU,bF,eG,bne_iff_ne]at h
 grind
def Hp{g:aM}{r:cC}(C:cG g=true)(D:(r.aC.length:Int)=bg g)(E:0 <= r.bf/\r.bf <= 2)(L:r.aC.all (rN g)=true)(O:r.bf=2 -> (r.aC.all λb=>!b.open_)=true):mE g r=true:=by
 simp only[mE,aU,fU,bF,eG,bne_iff_ne]
 grind
def am8{g:aM}{r:cC}{c:aG}(O:mE g r=true)(L:dS g c=true)(D:pV r c=true):mE g (gn r c)=true:=by
 have⟨C,hlen,Z,E,hz⟩:=Bc O;have⟨_,T,hb,_⟩:=D1 L;have gb:=fG C;have U:c.kind=1 -> 0 <= c.row/\c.row <= g.rows-1:=by
  intro h;simp[dS,aU]at L;have:=L.2.2.2.1;rw[sX,h]at this
  simpa [bF]using this
 rcases kinds T with h|h|h|h|h|h|h|h|h
 ·have e:gn r c=⟨r.aC.set c.ay.toNat ⟨true,c.row⟩,r.bf⟩:=by simp[gn,h]
  have Y:r.bf=0:=by simp[pV,h]at D;exact D.1
  rw[e];exact Hp C (by simpa using hlen) (by omega) (abe E (by simp only[rN,aU,bF];exact⟨U h,by simp⟩)) (λe=>by simp only at e;omega)
 ·have e:gn r c=r:=by simp[gn,h]
  simp_all
 ·have e:gn r c=r:=by simp[gn,h]
  simp_all
 ·have e:gn r c=⟨r.aC.set c.ay.toNat ⟨false,0⟩,r.bf⟩:=by simp[gn,h]
  have Y:r.bf=0:=by simp[pV,h]at D;exact D.1
  rw[e];exact Hp C (by simpa using hlen) (by omega) (abe E (by simp only[rN,aU,bF];exact⟨by omega,by simp⟩)) (λe=>by simp only at e;omega)
 ·have e:gn r c=r:=by simp[gn,h]
  simp_all
 ·have e:gn r c=⟨r.aC,1⟩:=by simp[gn,h]
  rw[e];exact Hp C hlen (by simp) E (λe=>by simp at e)
 ·have e:gn r c=⟨r.aC,0⟩:=by simp[gn,h]
  rw[e];exact Hp C hlen (by simp) E (λe=>by simp at e)
 ·have e:gn r c=⟨r.aC,2⟩:=by simp[gn,h]
  rw[e];exact Hp C hlen (by simp) E (λ_=>by simp[pV,h]at D;simpa using D.2)
 ·have e:gn r c=⟨r.aC,0⟩:=by simp[gn,h]
  rw[e];exact Hp C hlen (by simp) E (λe=>by simp at e)
def wD(n k:Nat):aa Int:=List.replicate k (-1)++List.replicate (n-k) 0
def aDY{n k:Nat}(h:k<=n):(wD n k).length=n:=by
 unfold wD;simp;omega
def aDZ{n k:Nat}(h:k<n):(wD n k).set k (-1)=wD n (k+1):=by
 obtain⟨m,rfl⟩:∃m,n=k+1+m:=⟨n-k-1,by omega⟩
 unfold wD;rw[show k+1+m-k=m+1 by omega,show k+1+m-(k+1)=m by omega,List.set_append_right _ _ (by simp),List.length_replicate,Nat.sub_self,List.replicate_succ,List.replicate_succ',List.append_assoc];rfl
def aD0(n:Nat):wD n 0=List.replicate n 0:=by simp[wD]
def aD1(n:Nat):wD n n=List.replicate n (-1):=by simp[wD]
def aD2(n:Nat)(C:n<1073741824):SH (n:Int)=some (List.replicate n (-1)):=by
 have e:=cB (step:=LX) n (λi=>((n,(),i,()),(wD n i,()))) _ aX (λk h=>by
  have hl:=aDY (show k <= n by omega);unfold LX av xG xL;dsimp only;rw[aS,au,aA ⟨by omega,by omega⟩,aA,bD,bz,aDZ h]) (by
  unfold LX av xG xL;dsimp only;rw[aT,aq]) (bN)
 unfold SH bk;rw[bI ⟨by omega,by omega,by omega⟩];rw[aD0,aD1]at e;simp_all
def aD3(g:aM)(r:dB)(e:c8):(uH g r e).last.length=r.last.length/\(r.bC.length <= 4 -> (uH g r e).bC.length <= 4):=by
 unfold uH;cases (lP g r&&(dS g e.cmd&&(aN e.at_ 0 1000000 && !(e.cmd.kind==1&&D5 r e.at_))))with
 |false=>simp_all
 | true=>
  refine⟨by simp,λh=>?_⟩
  cases e.cmd.kind==1 with
  |false=>exact h
  | true=>
   simp[au,D6,List.length_drop,List.length_append,lU];omega
def aD4{α:Type}{cs:aa α}(o k:Nat):cs.drop o=(cs.drop o).take k++cs.drop (o+k):=by
 rw[<-List.drop_drop];exact(List.take_append_drop k _).symm
def iJ{w:World}{B:Nat}{cs:aa Value}{n:Nat}(h:cs.length=n):bO w B [] (cs.drop n):=by
 rw[List.drop_of_length_le (by omega)];exact .nil
def bO.cut{w:World}{B:Nat}{C D:aa V}{cs:aa Value}{o k:Nat}(h:bO w B C ((cs.drop o).take k))(E:bO w B D (cs.drop (o+k))):bO w B (C++D) (cs.drop o):=by
 rw[aD4 o k];exact bO.append h E
def oI{H:Type}{cY:TypeId×Value->H}{w:World}:aY cY Tryz.prog w 3 .int cz:=aY.int Tryz.underlying3
def Uz(x:aK):Prop:=cz x.id/\cz x.dm/\cz x.line/\True/\cz x.data/\cz x.at_
def am9{H:Type}{cY:TypeId×Value->H}{w:World}:aY cY Tryz.prog w 121 .cW Uz:=λn cs x C=>by
 have D:=Tryz.underlying121;obtain⟨E,i0,L⟩:=aY.part D C (i:=0) rfl oI (off:=0) (k:=1) rfl (by kernel_rfl);obtain⟨O,T,U⟩:=aY.part D C (i:=1) rfl oI (off:=1) (k:=1) rfl (by kernel_rfl);obtain⟨Y,Z,r2⟩:=aY.part D C (i:=2) rfl oI (off:=2) (k:=1) rfl (by kernel_rfl);obtain⟨a3,i3,r3⟩:=aY.part D C (i:=3) rfl (aY.bool Tryz.underlying4) (off:=3) (k:=1) rfl (by kernel_rfl);obtain⟨a4,i4,r4⟩:=aY.part D C (i:=4) rfl oI (off:=4) (k:=1) rfl (by kernel_rfl);obtain⟨a5,i5,r5⟩:=aY.part D C (i:=5) rfl oI (off:=5) (k:=1) rfl (by kernel_rfl);have hl:=aY.len D C;have hc:Tryz.prog.cellsOf 121=6:=by kernel_rfl
 rw[hc]at hl;exact⟨⟨E,O,Y,a3,a4,a5⟩,⟨i0,T,Z,i3,i4,i5⟩,bO.cut L (bO.cut U (bO.cut r2 (bO.cut r3 (bO.cut r4 (bO.cut r5 ((iJ hl)))))))⟩
def UA(x:aJ):Prop:=cz x.ay/\cz x.row/\cz x.bT
def ana{H:Type}{cY:TypeId×Value->H}{w:World}:aY cY Tryz.prog w 123 .Addr UA:=λn cs x C=>by
 have D:=Tryz.underlying123;obtain⟨E,i0,L⟩:=aY.part D C (i:=0) rfl oI (off:=0) (k:=1) rfl (by kernel_rfl);obtain⟨O,T,U⟩:=aY.part D C (i:=1) rfl oI (off:=1) (k:=1) rfl (by kernel_rfl);obtain⟨Y,Z,r2⟩:=aY.part D C (i:=2) rfl oI (off:=2) (k:=1) rfl (by kernel_rfl);have hl:=aY.len D C;have hc:Tryz.prog.cellsOf 123=3:=by kernel_rfl
 rw[hc]at hl;exact⟨⟨E,O,Y⟩,⟨i0,T,Z⟩,bO.cut L (bO.cut U (bO.cut r2 ((iJ hl))))⟩
def anb(x:lA):Prop:=cz x.down/\cz x.sleep
def aD5{H:Type}{cY:TypeId×Value->H}{w:World}:aY cY Tryz.prog w 34 .n9 anb:=λn cs x C=>by
 have D:=Tryz.underlying34;obtain⟨E,i0,L⟩:=aY.part D C (i:=0) rfl oI (off:=0) (k:=1) rfl (by kernel_rfl);obtain⟨O,T,U⟩:=aY.part D C (i:=1) rfl oI (off:=1) (k:=1) rfl (by kernel_rfl);have hl:=aY.len D C;have Y:Tryz.prog.cellsOf 34=2:=by kernel_rfl
 rw[Y]at hl;exact⟨⟨E,O⟩,⟨i0,T⟩,bO.cut L (bO.cut U ((iJ hl)))⟩
def NU(x:fh):Prop:=cz x.eX/\cz x.cap/\cz x.fQ/\cz x.low/\cz x.high/\(x.weights.length<=maxLen/\∀y∈x.weights,cz y)/\anb x.eT
def abf{H:Type}{cY:TypeId×Value->H}{w:World}:aY cY Tryz.prog w 36 .lE NU:=λn cs x C=>by
 have D:=Tryz.underlying36;obtain⟨E,i0,L⟩:=aY.part D C (i:=0) rfl oI (off:=0) (k:=1) rfl (by kernel_rfl);obtain⟨O,T,U⟩:=aY.part D C (i:=1) rfl oI (off:=1) (k:=1) rfl (by kernel_rfl);obtain⟨Y,Z,r2⟩:=aY.part D C (i:=2) rfl oI (off:=2) (k:=1) rfl (by kernel_rfl);obtain⟨a3,i3,r3⟩:=aY.part D C (i:=3) rfl oI (off:=3) (k:=1) rfl (by kernel_rfl);obtain⟨a4,i4,r4⟩:=aY.part D C (i:=4) rfl oI (off:=4) (k:=1) rfl (by kernel_rfl);obtain⟨a5,i5,r5⟩:=aY.part D C (i:=5) rfl (aY.sl Tryz.underlying32 (by kernel_rfl) oI) (off:=5) (k:=1) rfl (by kernel_rfl);obtain⟨a6,i6,r6⟩:=aY.part D C (i:=6) rfl aD5 (off:=6) (k:=2) rfl (by kernel_rfl);have hl:=aY.len D C;have hc:Tryz.prog.cellsOf 36=8:=by kernel_rfl
 rw[hc]at hl;exact⟨⟨E,O,Y,a3,a4,a5,a6⟩,⟨i0,T,Z,i3,i4,i5,i6⟩,bO.cut L (bO.cut U (bO.cut r2 (bO.cut r3 (bO.cut r4 (bO.cut r5 (bO.cut r6 ((iJ hl))))))))⟩
def NV(x:lC):Prop:=cz x.kind/\Uz x.request/\cz x.n/\cz x.oX/\UA x.addr/\NU x.gY
def aD6{H:Type}{cY:TypeId×Value->H}{w:World}:aY cY Tryz.prog w 125 .Act NV:=λn cs x C=>by
 have D:=Tryz.underlying125;obtain⟨E,i0,L⟩:=aY.part D C (i:=0) rfl oI (off:=0) (k:=1) rfl (by kernel_rfl);obtain⟨O,T,U⟩:=aY.part D C (i:=1) rfl am9 (off:=1) (k:=6) rfl (by kernel_rfl);obtain⟨Y,Z,r2⟩:=aY.part D C (i:=2) rfl oI (off:=7) (k:=1) rfl (by kernel_rfl);obtain⟨a3,i3,r3⟩:=aY.part D C (i:=3) rfl oI (off:=8) (k:=1) rfl (by kernel_rfl);obtain⟨a4,i4,r4⟩:=aY.part D C (i:=4) rfl ana (off:=9) (k:=3) rfl (by kernel_rfl);obtain⟨a5,i5,r5⟩:=aY.part D C (i:=5) rfl abf (off:=12) (k:=8) rfl (by kernel_rfl);have hl:=aY.len D C;have hc:Tryz.prog.cellsOf 125=20:=by kernel_rfl
 rw[hc]at hl;exact⟨⟨E,O,Y,a3,a4,a5⟩,⟨i0,T,Z,i3,i4,i5⟩,bO.cut L (bO.cut U (bO.cut r2 (bO.cut r3 (bO.cut r4 (bO.cut r5 ((iJ hl)))))))⟩
def wE{T:Type}(U:T)(f:T->ah T)(l:aa T)(hf:∀ x∈l,f x=some x)(hl:l.length<1073741824):
  iter (α:=((aa T×af×Int×af)×(aa T×af))) (β:=(((af×af)×(aa T×af))⊕Empty)) (λx=>bif (decide (x.1.2.2.1<(x.1.1.length:Int)))then if C:0<=x.1.2.2.1/\x.1.2.2.1.toNat<x.1.1.length then (let D:=x.1.1[x.1.2.2.1.toNat]'C.2;(f D).bind λE=>if h4:0<=x.1.2.2.1/\x.1.2.2.1.toNat<x.2.1.length then if L:x.1.2.2.1.toNat<x.2.1.length then (let e6:=x.2.1[x.1.2.2.1.toNat]'L;some (.inl ((x.1.1,(),(W6 (x.1.2.2.1+(1:Int))),()),((x.2.1.set x.1.2.2.1.toNat E),()))))else none else none)else none else some (.inr (.inl (((),()),(x.2.1,())))))
   aX ((l,(),(0:Int),()),((List.replicate (l.length:Int).toNat U),()))=some (.inl (((),()),(l,()))):=by
 obtain⟨z,C,h2⟩:=aaD (step:=(λx:((aa T×af×Int×af)×(aa T×af))=>(bif (decide (x.1.2.2.1<(x.1.1.length:Int)))then if C:0<=x.1.2.2.1/\x.1.2.2.1.toNat<x.1.1.length then (let D:=x.1.1[x.1.2.2.1.toNat]'C.2;(f D).bind λE=>if h4:0<=x.1.2.2.1/\x.1.2.2.1.toNat<x.2.1.length then if L:x.1.2.2.1.toNat<x.2.1.length then (let e6:=x.2.1[x.1.2.2.1.toNat]'L;some (.inl ((x.1.1,(),(W6 (x.1.2.2.1+(1:Int))),()),((x.2.1.set x.1.2.2.1.toNat E),()))))else none else none)else none else some (.inr (.inl (((),()),(x.2.1,())))):ah (((aa T×af×Int×af)×(aa T×af))⊕(((af×af)×(aa T×af))⊕Empty)))))
  (λx=>∃(i:Nat) (a:aa T),x=((l,(),(i:Int),()),(a,()))/\i<=l.length/\a.length=l.length/\∀j,j<i->a[j]?=l[j]?)
  (λx=>l.length-x.1.2.2.1.toNat) (λz=>z = .inl (((),()),(l,()))) (by
   rintro x ⟨i,a,rfl,hi,Y,Z⟩;dsimp only;by_cases h:i<l.length
   ·left;have O:decide ((i:Int)<(l.length:Int))=true:=by simpa using h
    have c2:0<=(i:Int)/\(i:Int).toNat<l.length:=⟨by omega,by simpa using h⟩
    have c3:0<=(i:Int)/\(i:Int).toNat<a.length:=⟨by omega,by rw[Y];simpa using h⟩
    rw[O,au,aA c2,hf _ (cT _),ak,aA c3,aA c3.2]
    refine⟨_,rfl,⟨i+1,a.set i (l[i]'h),?_,by omega,by simpa using Y,λj qW=>?_⟩,?_⟩
    ·rw[aR];simp
    ·rw[List.getElem?_set];by_cases e:i=j
     ·subst e;rw[bI rfl,bI,bZ h]
     ·rw[bU e];exact Z j (by omega)
    ·dsimp only;rw[aR];omega
   ·right;have O:decide ((i:Int)<(l.length:Int))=false:=by simpa using h
    rw[O,aq];refine⟨_,rfl,?_⟩;have:a=l:=List.ext_getElem? λj=>by
     by_cases BI:j<l.length
     ·exact Z j (by omega)
     ·rw[List.getElem?_eq_none (by omega),List.getElem?_eq_none (by omega)]
    rw[this])
  aX ((l,(),(0:Int),()),((List.replicate (l.length:Int).toNat U),())) ⟨0,_,rfl,by omega,by simp,λj h=>by omega⟩ (by dsimp only;unfold aX;omega)
 rw[C,h2]
def wF{T:Type}(f:T->T->ah Bool)(l:aa T)(Z:∀ x∈l,f x x=some true)(hl:l.length<1073741824):
  iter (α:=((aa T×aa T×Int×af)×af)) (β:=(((Bool×af)×af)⊕((af×af)⊕Empty))) (λx=>bif (decide (x.1.2.2.1<(x.1.1.length:Int)))then if C:0<=x.1.2.2.1/\x.1.2.2.1.toNat<x.1.1.length then (let D:=x.1.1[x.1.2.2.1.toNat]'C.2;if E:0<=x.1.2.2.1/\x.1.2.2.1.toNat<x.1.2.1.length then (let L:=x.1.2.1[x.1.2.2.1.toNat]'E.2;(f D L).bind λO=>bif (!O)then some (.inr (.inl ((false,()),())))else some (.inl ((x.1.1,x.1.2.1,(W6 (x.1.2.2.1+(1:Int))),()),())))else none)else none else some (.inr (.inr (.inl ((),())))))
   aX ((l,l,(0:Int),()),())=some (.inr (.inl ((),()))):=by
 obtain⟨z,C,h2⟩:=aaD (step:=(λx:((aa T×aa T×Int×af)×af)=>(bif (decide (x.1.2.2.1<(x.1.1.length:Int)))then if C:0<=x.1.2.2.1/\x.1.2.2.1.toNat<x.1.1.length then (let D:=x.1.1[x.1.2.2.1.toNat]'C.2;if E:0<=x.1.2.2.1/\x.1.2.2.1.toNat<x.1.2.1.length then (let L:=x.1.2.1[x.1.2.2.1.toNat]'E.2;(f D L).bind λO=>bif (!O)then some (.inr (.inl ((false,()),())))else some (.inl ((x.1.1,x.1.2.1,(W6 (x.1.2.2.1+(1:Int))),()),())))else none)else none else some (.inr (.inr (.inl ((),())))):ah (((aa T×aa T×Int×af)×af)⊕(((Bool×af)×af)⊕((af×af)⊕Empty))))))
  (λx=>∃(i:Nat),x=((l,l,(i:Int),()),())/\i<=l.length)
  (λx=>l.length-x.1.2.2.1.toNat) (λz=>z = .inr (.inl ((),()))) (by
   rintro x ⟨i,rfl,hi⟩;dsimp only;by_cases h:i<l.length
   ·left;have U:decide ((i:Int)<(l.length:Int))=true:=by simpa using h
    have Y:0<=(i:Int)/\(i:Int).toNat<l.length:=⟨by omega,by simpa using h⟩
    rw[U,au,aA Y,aA Y,Z _ (cT _),ak];refine⟨_,rfl,⟨i+1,?_,by omega⟩,?_⟩
    ·rw[aR];simp
    ·dsimp only;rw[aR];omega
   ·right;have U:decide ((i:Int)<(l.length:Int))=false:=by simpa using h
    rw[U,aq];exact⟨_,rfl,rfl⟩)
  aX ((l,l,(0:Int),()),()) ⟨0,rfl,by omega⟩ (by dsimp only;unfold aX;omega)
 rw[C,h2]
def Sz(n:Int)(Q:Prop)(o:ah Int):Prop:=∃y,o=some y/\(y<0\/0<=y/\y<=n/\Q)
def Sz.bind{n:Int}{Q R:Prop}{o:ah Int}{g:Int->ah Int}(h:Sz n Q o)(C:∀ y,0<=y->y<=n->Q->Sz n R (g y)):Sz n R (o.bind λy=>bif (decide (y<(0:Int)))then some (-1:Int)else g y):=by
 obtain⟨y,rfl,h|⟨D,E,L⟩⟩:=h
 ·rw[ak,aS h];exact⟨-1,rfl,.inl (by omega)⟩
 ·rw[ak,aT];exact C y D E L
def Sz.done{n:Int}{Q:Prop}{y:Int}(C:0<=y)(D:y<=n)(E:Q):Sz n Q (some y):=⟨y,rfl,.inr ⟨C,D,E⟩⟩
def Sz.le{n m:Int}{Q:Prop}{o:ah Int}(h:Sz n Q o)(E:n<=m):Sz m Q o:=by
 obtain⟨y,e,h|⟨C,L,D⟩⟩:=h
 ·exact⟨y,e,.inl h⟩
 ·exact⟨y,e,.inr ⟨C,by omega,D⟩⟩
def Sz.imp{n:Int}{Q R:Prop}{o:ah Int}(h:Sz n Q o)(C:Q->R):Sz n R o:=by
 obtain⟨y,e,h|⟨D,E,L⟩⟩:=h
 ·exact⟨y,e,.inl h⟩
 ·exact⟨y,e,.inr ⟨D,E,C L⟩⟩
def Bd{α:Type}{l:aa α}{n:Int}(hl:l.length<=maxLen)(C:0<=n)(D:n<=1048576):Sz n (l.length<=1048576) (bif (decide ((W6 (n-(l.length:Int)))<(0:Int)))then some (-1:Int)else some (W6 (n-(l.length:Int)))):=by
 unfold maxLen at hl;rw[aR];by_cases c:n-(l.length:Int)<0
 ·rw[aS c];exact⟨-1,rfl,.inl (by omega)⟩
 ·rw[aT c];exact⟨_,rfl,.inr ⟨by omega,by omega,by omega⟩⟩
def anc{T:Type}(f:T->Int->ah Int)(l:aa T){Q:T->Prop}(hl:l.length<=1048576)(hf:∀ x∈l,∀ n:Int,0<=n->n<=1048576->Sz n (Q x) (f x n)){n:Int}(h0:0<=n)(C:n<=1048576):
  Sz n (∀x∈l,Q x) ((iter (α:=((aa T×Int×Int×af)×af)) (β:=(((Int×af)×af)⊕(((Int×af)×af)⊕Empty))) (λx=>bif (decide (x.1.2.2.1<(x.1.1.length:Int)))then if C:0<=x.1.2.2.1/\x.1.2.2.1.toNat<x.1.1.length then (let L:=x.1.1[x.1.2.2.1.toNat]'C.2;(f L x.1.2.1).bind λD=>bif (decide (D<(0:Int)))then some (.inr (.inl (((-1:Int),()),())))else some (.inl ((x.1.1,D,(W6 (x.1.2.2.1+(1:Int))),()),())))else none else some (.inr (.inr (.inl ((x.1.2.1,()),()))))) aX ((l,n,(0:Int),()),())).bind (Sum.elim (λz4=>some z4.1.1) (Sum.elim (λz5=>some z5.1.1) (λz=>nomatch z)))):=by
 obtain⟨z,e,hz⟩:=amb (step:=(λx:((aa T×Int×Int×af)×af)=>(bif (decide (x.1.2.2.1<(x.1.1.length:Int)))then if C:0<=x.1.2.2.1/\x.1.2.2.1.toNat<x.1.1.length then (let L:=x.1.1[x.1.2.2.1.toNat]'C.2;(f L x.1.2.1).bind λD=>bif (decide (D<(0:Int)))then some (.inr (.inl (((-1:Int),()),())))else some (.inl ((x.1.1,D,(W6 (x.1.2.2.1+(1:Int))),()),())))else none else some (.inr (.inr (.inl ((x.1.2.1,()),())))):ah (((aa T×Int×Int×af)×af)⊕(((Int×af)×af)⊕(((Int×af)×af)⊕Empty))))))
  l.length (λi x=>i<=l.length/\∃m:Int,x=((l,m,(i:Int),()),())/\0<=m/\m<=n/\∀j (E:j<l.length),j<i->Q l[j]) (λz=>(∃y:Int,y<0/\z = .inl ((y,()),()))\/∃y:Int,0<=y/\y<=n/\z = .inr (.inl ((y,()),()))/\∀x∈l,Q x) (x:=((l,n,(0:Int),()),())) aX ⟨by omega,n,rfl,h0,by omega,λj _ h=>by omega⟩ (by
  rintro k hk x ⟨_,m,rfl,O,Z,U⟩;dsimp only;rw[aS,au,aA ⟨by omega,by omega⟩];simp only[bz];obtain⟨y,e,h⟩:=hf l[k] (cT hk) m O (by omega);rw[e,ak];rcases h with h|⟨C,h2,Y⟩
  ·right;rw[aS h,au];exact⟨_,rfl,.inl ⟨-1,by omega,rfl⟩⟩
  ·left;rw[aT,aq,bD]
   refine⟨_,rfl,by omega,y,rfl,C,by omega,λj E hjk=>?_⟩
   by_cases e:j=k
   ·subst e;exact Y
   ·exact U j E (by omega)) (by
  rintro x ⟨_,m,rfl,O,Z,U⟩;dsimp only;rw[aT,aq]
  refine⟨_,rfl,.inr ⟨m,O,Z,rfl,λx hx=>?_⟩⟩
  obtain⟨j,E,rfl⟩:=jo.1 hx;exact U j E E) (bN)
 rw[e,ak];rcases hz with ⟨y,h,rfl⟩|⟨y,h2,Y,rfl,h4⟩
 ·exact⟨y,rfl,.inl h⟩
 ·exact⟨y,rfl,.inr ⟨h2,Y,h4⟩⟩
def yL(x:fh):Prop:=(x.weights.length<=1048576)
def abg(x:lC):Prop:=yL x.gY
def ane(x:aK):Fy x=some x:=by
 unfold Fy;rfl
def anf(x:aK):FB x x=some true:=by
 unfold FB;simp only[ak,dY,dM,bA,aq]
def ang(x:aJ):Fx x=some x:=by
 unfold Fx;rfl
def anh(x:aJ):FA x x=some true:=by
 unfold FA;simp only[ak,dY,dM,bA,aq]
def uI(x:aa Int)(h:(x.length<=maxLen/\∀ y∈x,cz y)){n:Int}(C:0<=n)(D:n<=1048576):Sz n (x.length<=1048576) (rF x n):=by
 exact Bd h.1 C D
def uJ(x:aa Int)(C:(x.length<=1048576)):qA x=some x:=by
 have hl:=C;have D:=wE ((0:Int):Int) some x (λy E=>rfl) (by omega);unfold qA bk;rw[bI ⟨by omega,by omega,by omega⟩]
 refine(aZ (λo=>Option.bind o _) D).trans ?_
 rfl
def uK(x:aa Int)(C:(x.length<=1048576)):qB x x=some true:=by
 have hl:=C;have D:=wF (λa b:Int=>some (a==b)) x (λy E=>by simp) (by omega);unfold qB bE;rw[show ((x.length:Int) != (x.length:Int))=false by simp,aq]
 refine(aZ (λo=>Option.bind o _) D).trans ?_
 rfl
def aD7(x:lA):QM x=some x:=by
 unfold QM;rfl
def aD8(x:lA):Re x x=some true:=by
 unfold Re;simp only[ak,dY,dM,bA,aq]
def abh(x:fh)(h:NU x){n:Int}(C:0<=n)(D:n<=1048576):Sz n (yL x) (Fv x n):=by
 obtain⟨i0,U,Y,Z,i4,E,i6⟩:=h;unfold Fv
 refine Sz.bind (uI x.weights E C D) λy5 L O T=>?_
 exact Sz.done L O T
def abi(x:fh)(C:yL x):Fw x=some x:=by
 have D:=C;unfold Fw;rw[uJ x.weights D,ak,aD7 x.eT,ak]
def abj(x:fh)(C:yL x):Fz x x=some true:=by
 have D:=C;unfold Fz;simp only[uK x.weights D,aD8 x.eT,ak,dY,dM,bA,aq]
def aD9(x:lC)(h:NV x){n:Int}(C:0<=n)(D:n<=1048576):Sz n (abg x) (RH x n):=by
 obtain⟨i0,U,Y,Z,i4,E⟩:=h;unfold RH
 refine Sz.bind (abh x.gY E C D) λy5 L O T=>?_
 exact Sz.done L O T
def aEa(x:lC)(C:abg x):Ds x=some x:=by
 have D:=C;unfold Ds;rw[ane x.request,ak,ang x.addr,ak,abi x.gY D,ak]
def aEb(x:lC)(C:abg x):T8 x x=some true:=by
 have D:=C;unfold T8;simp only[anf x.request,anh x.addr,abj x.gY D,ak,dY,dM,bA,aq]
def aEc{H:Type}{cY:TypeId×Value->H}{w:World}{base:Nat}{v:Value}{d:DataW H}{p:aa MemPlace}(C:Value.okWide Tryz.prog w .any base 125 v)(h:DataW.Trod cY Tryz.prog w 0 (λ_=>true) true 125 v d p):JB .Act NV w v:=
 afW aD6 Tryz.underlying125 C h
def place(l:aa aK)(id:Int):Int:=match l.findIdx? (λr=>r.id==id)with
 |some i=>(i:Int)
 |none=>-1
def aEd(l:aa (Int×Bool))(k j:Int):mO (nP l k true) j=(j==k || mO l j):=by
 induction l with
 |nil =>rfl
 | cons p ps D=>
  simp only[nP];cases C:(k==p.1)with
  | true=>
   have e:k=p.1:=by simpa using C
   rw[au];simp[mO]
   grind
  | false=>
   rw[aq];simp only[mO]
   grind
def aEe(x y:Int):(x==y)=(y==x):=Bool.eq_iff_iff.2 ⟨λh=>by simpa using (by simpa using h:x=y).symm,λh=>by simpa using (by simpa using h:y=x).symm⟩
def aEf(g:aM)(a:cV)(L:∀ c∈a.cells,c.symbols.length<1073741824):RS g a=some (lN g a):=by
 unfold RS lN bE;rw[G4,ak,G6,rJ];cases O:cG g with
 |false=>rfl
 | true=>
  have Y:=oF g;have Z:=qE g;have er:bg g*g.rows=gK g:=by simp[gK,O]
  simp only[bA,aq,ak,cw,er];rw[aR];by_cases C:(a.cells.length:Int)=fy g
  ·by_cases D:(a.bx.length:Int)=gK g
   ·by_cases E:(a.bw.length:Int)=gK g
    ·have hl:a.bx.length=a.bw.length:=by omega
     have l1:=gk (step:=KW) a.cells A4 (λi=>(((),(i:Int),()),((a.cells,a.bx,a.bw,()),()))) (.inl ((false,()),())) (.inr (.inl (((),()),((a.cells,a.bx,a.bw,()),())))) aX (λk h=>by
      unfold KW av aQ xG xI;simp (disch:=omega) [h,bD,NA _ 11 (L _ (cT h)),A4];cases rM a.cells[k].symbols 11<;>rfl) (by unfold KW av aQ xG xI;simp) (bN)
     have l2:=gk (step:=KZ) (a.bx.zip a.bw) sV (λi=>(((),(i:Int),()),((a.cells,a.bx,a.bw,()),()))) (.inl ((false,()),())) (.inr (.inl ((),()))) aX (λk h=>by
      have T:k<a.bx.length:=by simp at h;omega
      have U:k<a.bw.length:=by omega
      unfold KZ av aQ xG xI;simp (disch:=omega) [T,U,bD,ei,sV];cases aN a.bx[k] 0 100000<;>cases aN a.bw[k] 0 100000<;>rfl) (by unfold KZ av aQ xG xI;simp[hl]) (bN (by simp;omega))
     rw[cr]at l1 l2;simp only[C,D,E,dY,aq,decide_true,cw];rw[l1];cases h1:a.cells.all A4 with
     |false=>simp
     | true=>
      simp only[au,Option.bind_some,Sum.elim_inr,en];rw[l2];cases (a.bx.zip a.bw).all sV<;>simp
    ·simp[C,D,ga E,E]
   ·have e4:¬ (a.bw.length:Int)=(a.bx.length:Int)\/True:=.inr trivial;simp[C,ga D,D]
  ·simp[ga C,C]
def gp(g:aM)(a:aJ):Nat:=(qG g a).toNat
def Be{g:aM}{a:aJ}(h:dA g a=true):qG g a=(gp g a:Int)/\(gp g a:Int)<fy g:=by
 have:=aaE h;unfold gp;omega
def eA.lt{g:aM}{B:Int}{a:cV}(C:eA g B a){at_:aJ}(h:dA g at_=true):gp g at_<a.cells.length:=by
 have:=Be h;have:=C.cells;omega
def eA.D7{g:aM}{B:Int}{a:cV}(C:eA g B a)(k:Nat){c:bP}(D:Sy c.symbols):eA g B ⟨a.cells.set k c,a.bx,a.bw⟩:=
 ⟨by simp[C.cells],Sy.cg C.syms D,C.bx,C.bw,C.DV,C.jg⟩
def ani{g:aM}{B:Int}{a:cV}(C:eA g B a)(hB:B<=100000){at_:aJ}(h:dA g at_=true)(hl:gp g at_<a.cells.length){k:Nat}(Y:k<11)(D:k<a.cells[gp g at_].symbols.length){x:Int}(E:0<=x/\x<=15):
  GZ g a at_ (k:Int) x=some ⟨a.cells.set (gp g at_) ⟨a.cells[gp g at_].symbols.set k (bits .xor .i64 a.cells[gp g at_].symbols[k] x),a.cells[gp g at_].gO⟩,a.bx,a.bw⟩:=by
 obtain⟨L,_⟩:=qF h;obtain⟨O,Z⟩:=Be h;have T:aN (k:Int) 0 10=true:=by rw[bF];omega
 have U:aN x 0 15=true:=bF.2 E;unfold GZ sR xC xL xM;simp[C.copy,C.ok L hB,DR,h,dx,T,U,G7,O,hl,D]
def mF(R row:Int):aa Int:=(bif decide (0<row)then [row-1]else [])++(bif decide (row<R-1)then [row+1]else [])
def abk{R row:Int}(O:2<=R)(T:R<=16)(U:0<=row)(Y:row<R):GS R row=some (mF R row):=by
 unfold GS mF xA xZ;have C:aN R 2 16=true:=by rw[bF];omega
 have D:aN row 0 (R-1)=true:=by rw[bF];omega
 rw[dx,ak,C,aR (n:=R-1),dx,aR (n:=row-1),aR (n:=row+1)];by_cases E:0<row<;>by_cases L:row<R-1<;>simp[D,E,L,bM]
def anj{R row:Int}(D:0 <= row)(E:row<R):∀ n∈mF R row,0 <= n/\n<R:=by
 intro n C;unfold mF at C
 grind
def aEg(R row:Int):(mF R row).length <= 2:=by
 unfold mF
 grind
def aEh{R row k:Int}{i:Nat}(hi:k+row=(i:Int))(C:0 <= k)(D:0 <= row)(H:aa Int):(mF R row).foldl (λh n=>pS (k+n).toNat h) (H.set i 0)=wA R row i H:=by
 unfold mF wA A5
 grind
def ank(k:Int):∀ (l:aa Int) (H:aa Int),(l.foldl (λh n=>pS (k+n).toNat h) H).length=H.length
 |[],H=>rfl
 |x::l,H=>by rw[List.foldl_cons,ank k l,ND]
def anl(k:Int):∀ (l:aa Int) (H:aa Int),(∀ x∈H,0<=x/\x<=100000)->∀ x∈l.foldl (λh n=>pS (k+n).toNat h) H,0<=x/\x<=100000
 |[],H,h=>h
 |x::l,H,h=>by rw[List.foldl_cons];exact anl k l _ (Uh h)
def aEi{g:aM}(D:cG g=true){B:Int}{a:cV}(C:eA g B a)(hB:B <= 100000){n:Int}(O:0 <= n)(T:n <= 100000):Gz g a n=some ⟨a.cells,a.bx.map (mX n),a.bw⟩:=by
 have U:=qE g;have Y:=C.bx;have E:aN n 0 100000=true:=by rw[bF];omega
 unfold Gz bk;rw[C.copy,ak,C.ok D hB,ak,dx,ak,E];have e:=cB (step:=MO) _ (λi=>((n,(),(),(a.bx.length:Int),(i:Int),()),(((),(),(),()),((),(),(),()),([]:aa bP),([]:aa Int),([]:aa Int),a.cells,upto (mX n) a.bx i,a.bw,()))) (.inl (((),(),()),(((),(),(),()),((),(),(),()),([]:aa bP),([]:aa Int),([]),a.cells,a.bx.map (mX n),a.bw,()))) aX (λk h=>by
  unfold MO av xG xL;have Z:=C.DV _ (cT h);have L:=G3 (mX n) a.bx k h;have D:=G2 (mX n) a.bx k h (by rw[A1];exact h);simp (disch:=omega) [A1,h,D,aR];rw[<- L];rfl) (by unfold MO av xG xL;simp[G1]) (bN)
 rw[cr,T9]at e;simp_all
def aEj(y:Int):0 <= bits .and .i64 y 15/\bits .and .i64 y 15 <= 15:=by
 have e:bits .and .i64 y 15=IntKind.wrap .i64 ((BitVec.ofInt 64 y &&& BitVec.ofInt 64 15).toNat):=rfl;have h:(BitVec.ofInt 64 y &&& BitVec.ofInt 64 15).toNat <= 15:=by
  exact Nat.le_trans Nat.and_le_right (by decide)
 rw[e,IntKind.wrap_i64];omega
def anm{n:Int}(C:0 <= n)(D:n<18446744073709551616):IntKind.u64.wrap n=n:=by
 have:IntKind.u64.wrap n=n % 18446744073709551616:=rfl
 grind
def r9(x:Int):Prop:=0<=x/\x<=1000000000
def i0:cz 0:=⟨by decide,by decide⟩
def lg(a:Nat):Nat:=(14688061253356765440 / 2 ^ (4*a)) % 16
def okB(C s1 s2 i:Nat):Bool:=!Nat.beq C 0&&(Nat.beq (gm C (pw i)) s1&&Nat.beq (gm s1 (pw i)) s2)
def loc(C s1 s2:Nat):ah Nat:=(List.range 11).find? (okB C s1 s2)
def Hq:ah Nat->Nat
 |some n=>n
 |none=>99
def aEk:(jv λa=>Nat.beq a 0 ||Td (Int.ofNat a)==some (Int.ofNat (lg a)))=true:=by kernel_rfl
def ann:(jv λC=>jv λs1=>jv λs2=>bif Nat.beq C 0 || Nat.beq s1 0 then Nat.beq (Hq (loc C s1 s2)) 99 else
  (λx=>!Nat.beq x 0&&Nat.beq (Hq (loc C s1 s2)) (bif Nat.blt (lg x) 11&&Nat.beq (gm s1 x) s2 then lg x else 99)) (gm s1 (iv C)))=true:=by kernel_rfl
def aEl:((List.range 11).all λn=>FO 2 (Int.ofNat n)==some (Int.ofNat (pw n)))=true:=by kernel_rfl
def NW{n:Nat}(h:n<11):FO 2 (n:Int)=some (pw n:Int):=eq_of_beq (cx.1 aEl n (fK.2 h))
def aEm:((List.range 11).all λi=>(List.range 3).all λj=>Nat.beq (gm (pw (i*j)) (pw i)) (pw (i*(j+1))))=true:=by kernel_rfl
def aEn{i j:Nat}(hi:i<11)(C:j<3):gm (pw (i*j)) (pw i)=pw (i*(j+1)):=cK (cx.1 (cx.1 aEm i (fK.2 hi)) j (fK.2 C))
def uL(w:aa Nat)(i:Nat):aa Int:=[(bX w 0 i:Int),(bX w 1 i:Int),(bX w 2 i:Int)]
def abl(w:aa Nat)(i:Nat):Nat->aa Int
 |0=>[(bX w 0 i:Int),(bX w 1 i:Int),(bX w 2 i:Int)]
 |1=>[(bX w 0 (i+1):Int),(bX w 1 i:Int),(bX w 2 i:Int)]
 |2=>[(bX w 0 (i+1):Int),(bX w 1 (i+1):Int),(bX w 2 i:Int)]
 |_=>[(bX w 0 (i+1):Int),(bX w 1 (i+1):Int),(bX w 2 (i+1):Int)]
def aEo{w:aa Nat}(T:dO w)(hl:w.length=11){i:Nat}(hi:i<11):iter FP aX ((bB w,(),(i:Int),(1:Int),(pw i:Int),(0:Int),()),(uL w i,()))=some (.inl ((bB w,(),(i:Int),()),(uL w (i+1),()))):=by
 have O:i<(bB w).length:=by rw[ij];omega
 have U:(bB w)[i]=((w.getD i 0:Nat):Int):=uD O;have Y:=T.get i;have C:∀ j,bits .xor .i64 ((bX w j i:Nat):Int) ((gm (w.getD i 0) (pw (i*j)):Nat):Int)=((bX w j (i+1):Nat):Int):=λj=>by
  rw[rK (rL w j i) (gE _ _)];rfl
 have D:=λj=>Nx Y (uC (i*j))
 have E:∀ j,j<3 -> um ((pw (i*j):Nat):Int) ((pw i:Nat):Int)=some ((pw (i*(j+1)):Nat):Int):=λj L=>by
  rw[Nx (uC (i*j)) (uC i),aEn hi L]
 generalize bB w=W at *
 generalize w.getD i 0=c at *
 have e:=cB (step:=FP) 3 (λj=>((W,(),(i:Int),(pw (i*j):Int),(pw i:Int),(j:Int),()),(abl w i j,()))) (.inl ((W,(),(i:Int),()),(uL w (i+1),()))) aX (λj L=>by
  have D:=D j;have E:=E j L;have C:=C j;generalize pw (i*j)=d at D E C ⊢;unfold FP av xG xI xL;rcases(by omega:j=0 \/ j=1 \/ j=2)with rfl|rfl|rfl<;>simp[abl,O,U,D,E,C]<;>rfl) (by unfold FP av xG xI xL;simp[abl,uL]) (bN)
 have Z:pw (i*0)=1:=by rw[Nat.mul_zero];rfl
 rw[cr,Z]at e;exact e
def aEp{w:aa Nat}(C:dO w)(hl:w.length=11):R5 (bB w)=some (uL w 11):=by
 have D:=(NB C hl).ok;unfold R5 bk;rw[NA _ _ (by rw[ij];omega),D,ak];have e:=cB (step:=Lo) 11 (λi=>((bB w,(),(i:Int),()),(uL w i,()))) (.inl (((),()),(uL w 11,()))) aX (λi hi=>by
  have E:i<w.length:=by omega
  unfold Lo av xG bk;simp (disch:=omega) [ij,E,NW hi,aEo C hl hi,bD]) (by unfold Lo av xG bk;simp[ hl]) (bN)
 rw[cr]at e;have L:(List.replicate (3:Int).toNat (0:Int))=uL w 0:=rfl;simp_all
def nY(w:aa Nat):Bool:=Nat.beq (bX w 0 11) 0&&(Nat.beq (bX w 1 11) 0&&Nat.beq (bX w 2 11) 0)
def gA(w:aa Nat):aa Nat×Int×Int:=bif nY w then (w,0,-1)else match loc (bX w 0 11) (bX w 1 11) (bX w 2 11)with
 |some k=>(w.set k (w.getD k 0 ^^^ bX w 0 11),1,(k:Int))
 |none=>(w,2,-1)
def Hr(n m:Nat):((n:Int)==(m:Int))=Nat.beq n m:=by
 cases h:Nat.beq n m with
 |true=>simp_all
 | false=>
  have:n≠m:=by rintro rfl;simp at h
  grind
def aEq{C s1 s2:Nat}(h:loc C s1 s2=none):∀ i,i<11 -> okB C s1 s2 i=false:=by
 intro i hi;have:=List.find?_eq_none.1 h i (fK.2 hi);simp_all
def UB{D s1 s2 k:Nat}(h:loc D s1 s2=some k):k<11/\okB D s1 s2 k=true /\ ∀ i,i<k -> okB D s1 s2 i=false:=by
 refine⟨fK.1 (List.mem_of_find?_eq_some h),List.find?_some h,λi hi=>?_⟩
 have⟨O,l1,l2,E,T⟩:=List.find?_eq_some_iff_append.1 h;have U:l1.length=k/\l1=List.range k:=by
  have C:(List.range 11)[l1.length]?=some k:=by rw[E];simp
  have L:l1.length<11:=by have:=aZ List.length E;simp at this;omega
  rw[List.getElem?_range L]at C;injection C with C;refine⟨C,?_⟩;have Y:(List.range 11).take l1.length=l1:=by rw[E];simp
  grind
 simp_all
def aEr{w:aa Nat}(U:dO w)(hl:w.length=11):R6 (bB w)=some (bB (gA w).1,(gA w).2.1,(gA w).2.2):=by
 have hs:=(NB U hl).ok;have ho:bM w.length=true:=cX;have h0:∀n:Nat,((n:Int)==(0:Int))=Nat.beq n 0:=λn=>Hr n 0
 have Wr:=rL w 0 11;have tJ:=rL w 1 11;unfold R6 FQ xA bE xZ xI;rw[NA _ _ (by rw[ij];omega),hs,ak,aEp U hl];have e0:FQ (uL w 11)=some (nY w):=by
  unfold FQ nY xI;cases h1:Nat.beq (bX w 0 11) 0<;>cases h2:Nat.beq (bX w 1 11) 0<;>simp[uL,h0,h1,h2]
 have E:∀i (h:i<(bB w).length),(bB w)[i]=((w.getD i 0:Nat):Int):=λi h=>uD h
 have D:∀ k,(bB w).set k (bits .xor .i64 ((w.getD k 0:Nat):Int) ((bX w 0 11:Nat):Int))=bB (w.set k (w.getD k 0 ^^^ bX w 0 11)):=λk=>by
  rw[rK (U.get k) Wr,Ug]
 have hlen:(bB w).length=11:=by rw[ij,hl]
 unfold FQ xI at e0;unfold gA nY at *
 simp only[bA,aq,ak];rw[e0,ak,cX (by simp[hlen])];cases hz:(Nat.beq (bX w 0 11) 0&&(Nat.beq (bX w 1 11) 0&&Nat.beq (bX w 2 11) 0))with
 |true=>simp
 | false=>
  simp only[aq,au,lT];unfold uL;generalize hW:bB w=W at E D hlen ⊢;generalize hg0:bX w 0 11=C at *
  generalize Y0:bX w 1 11=s1 at *
  generalize tC:bX w 2 11=s2 at *
  have step:∀ i:Nat,i<11->Da (((),(),(i:Int),()),(W,[(C:Int),(s1:Int),(s2:Int)],()))=some (bif okB C s1 s2 i then .inr (.inl (((),1,(i:Int),()),(bB (w.set i (w.getD i 0 ^^^ C)),())))else .inl (((),(),((i+1:Nat):Int),()),(W,[(C:Int),(s1:Int),(s2:Int)],()))):=by
   intro i hi;have dI:i<W.length:=by omega
   have L:(i:Int)<11:=by omega
   have Y:=Nx Wr (uC i);have m2:=Nx tJ (uC i);have E:=E i dI;have D:=D i;generalize w.getD i 0=c at E D ⊢;generalize bB (w.set i (c ^^^ C))=R at D ⊢;unfold Da okB av aQ xG xL;have O:((C:Int) != (0:Int)) = !Nat.beq C 0:=by rw[bne,h0]
   cases T:Nat.beq C 0 with
   |true=>simp (disch:=omega) [L,NW hi,O,T,bD]
   | false=>
    cases Z:Nat.beq (gm C (pw i)) s1 with
    |false=>simp (disch:=omega) [L,NW hi,O,T,Y,Hr,Z,bD]
    | true=>
     cases q2:Nat.beq (gm s1 (pw i)) s2 with
     |false=>simp (disch:=omega) [L,NW hi,O,T,Y,m2,Hr,Z,q2,bD]
     |true=>simp (disch:=omega) [L,NW hi,O,T,Y,m2,Hr,Z,q2,dI,E,D]
  cases EP:loc C s1 s2 with
  | none=>
   have hn:=aEq EP;have e:=cB (step:=Da) 11 (λi=>(((),(),(i:Int),()),(W,[(C:Int),(s1:Int),(s2:Int)],()))) (.inr (.inl (((),()),(W,())))) aX (λi hi=>by rw[step i hi,hn i hi];rfl) (by unfold Da av aQ xG xL;simp) (bN);rw[cr]at e;rw[e];simp only[Option.bind_some,Sum.elim_inr,en];rw[hW]
  | some k=>
   obtain⟨hk,jE,hlo⟩:=UB EP;have e:=cB (step:=Da) k (λi=>(((),(),(i:Int),()),(W,[(C:Int),(s1:Int),(s2:Int)],()))) (.inl (((),1,(k:Int),()),(bB (w.set k (w.getD k 0 ^^^ C)),()))) aX (λi hi=>by rw[step i (by omega),hlo i hi];rfl) (by rw[step k hk,jE];rfl) (bN);rw[cr]at e;rw[e];rfl
def ano{C s1 s2:Nat}(D:C<16)(E:s1<16)(L:s2<16)(h:C=0 \/ s1=0):loc C s1 s2=none:=by
 have t:=gL (gL (gL ann D) E) L;have O:(Nat.beq C 0 ||Nat.beq s1 0)=true:=by rcases h with rfl|rfl<;>simp
 rw[O]at t;have t:=cK t;cases hl:loc C s1 s2 with
 |none=>rfl
 | some k=>
  rw[hl]at t;have:=(UB hl).1;simp[Hq]at t;omega
def aEs{C s1 s2:Nat}(E:C<16)(L:s1<16)(O:s2<16)(T:C≠0)(U:s1≠0):gm s1 (iv C)≠0/\loc C s1 s2=bif Nat.blt (lg (gm s1 (iv C))) 11&&Nat.beq (gm s1 (gm s1 (iv C))) s2 then some (lg (gm s1 (iv C)))else none:=by
 have t:=gL (gL (gL ann E) L) O;have c0:Nat.beq C 0=false:=by cases h:Nat.beq C 0 with|false=>rfl|true=>exact absurd (cK h) T
 have Y:Nat.beq s1 0=false:=by cases h:Nat.beq s1 0 with|false=>rfl|true=>exact absurd (cK h) U
 dsimp only at t;rw[c0,Y,Bool.or_false,aq,aU]at t;have⟨t1,D⟩:=t;have D:=cK D;refine⟨(by rintro e;rw[e]at t1;cases t1),?_⟩;cases hb:(Nat.blt (lg (gm s1 (iv C))) 11&&Nat.beq (gm s1 (gm s1 (iv C))) s2)with
 | true=>
  rw[hb,au]at D;rw[aU]at hb;have Z:lg (gm s1 (iv C))<11:=cZ hb.1;cases hl:loc C s1 s2 with
  |none=>rw[hl]at D;simp[Hq]at D;omega
  |some k=>rw[hl]at D;simp[Hq]at D;rw[D];rfl
 | false=>
  rw[hb,aq]at D;cases hl:loc C s1 s2 with
  |none=>rfl
  | some k=>
   have:=(UB hl).1;rw[hl]at D;simp[Hq]at D;omega
def aEt{a:Nat}(h:a<16)(C:a≠0):DD (a:Int)=some (iv a:Int):=by
 have t:=gL aC0 h;simp_all
def aEu{a:Nat}(h:a<16)(C:a≠0):Td (a:Int)=some (lg a:Int):=by
 have t:=gL aEk h;simp_all
def anp{w:aa Nat}(U:dO w)(hl:w.length=11):MU (bB w)=some (bB (gA w).1,(gA w).2.1,(gA w).2.2):=by
 have ho:bM (([]:aa Int).length+(bB w).length)=true:=cX (by simp[ij,hl]);have h0:∀n:Nat,((n:Int)==(0:Int))=Nat.beq n 0:=λn=>Hr n 0
 have C:=rL w 0 11;have D:=rL w 1 11;have Y:=rL w 2 11;have O:∀i (h:i<(bB w).length),(bB w)[i]=((w.getD i 0:Nat):Int):=λi h=>uD h
 have T:∀ k,(bB w).set k (bits .xor .i64 ((w.getD k 0:Nat):Int) ((bX w 0 11:Nat):Int))=bB (w.set k (w.getD k 0 ^^^ bX w 0 11)):=λk=>by
  rw[rK (U.get k) C,Ug]
 have hlen:(bB w).length=11:=by rw[ij,hl]
 unfold MU xA xC xL xZ;rw[aaH U hl,ak,aCW U hl,ho];have aEv:jN [((bX w 0 11:Nat):Int),((bX w 1 11:Nat):Int),((bX w 2 11:Nat):Int)]=false:=rfl;rw[aEv,aq,au,ak];unfold gA nY;cases hz:(Nat.beq (bX w 0 11) 0&&(Nat.beq (bX w 1 11) 0&&Nat.beq (bX w 2 11) 0))with
 |true=>simp
 | false=>
  simp only[aq,lT];generalize Z:bB w=W at O T hlen ⊢;generalize hg0:bX w 0 11=E at *
  generalize Y0:bX w 1 11=s1 at *
  generalize tC:bX w 2 11=s2 at *
  have dy:∀n:Nat,((n:Int) != (0:Int)) = !Nat.beq n 0:=λn=>by rw[bne,h0]
  by_cases L:E=0
  ·rw[ano C D Y (.inl L)];subst L;simp[Z]
  ·have c0:Nat.beq E 0=false:=by cases h:Nat.beq E 0 with | false=>rfl | true=>exact absurd (cK h) L
   by_cases n1:s1=0
   ·rw[ano C D Y (.inr n1)];simp_all
   ·have c1:Nat.beq s1 0=false:=by cases h:Nat.beq s1 0 with | false=>rfl | true=>exact absurd (cK h) n1
    have⟨nx,EP⟩:=aEs C D Y L n1;have e1:=aEt C L;have e2:=DS D (aCZ E);rw[EP];generalize hx:gm s1 (iv E)=x at *
    have anq:x<16:=by rw[<- hx];exact gE _ _
    have e3:=aEu anq nx;have e4:=DS D anq;generalize hn:lg x=n at *
    by_cases q1:n<11
    ·have d1:Nat.blt n 11=true:=jn q1;have d2:(n:Int)<11:=by omega
     have dI:n<W.length:=by omega
     have O:=O n dI;have T:=T n;cases q2:Nat.beq (gm s1 x) s2 with
     | true=>
      simp only[d1,cw,au];generalize w.getD n 0=c at O T ⊢;simp_all
     | false=>
      simp[ e1,e2,e3,e4,Hr,q2,Z]
    ·have d1:Nat.blt n 11=false:=by
      cases h:Nat.blt n 11 with
      |false=>rfl
      |true=>exact absurd (cZ h) (by omega)
     have d2:¬ (n:Int)<11:=by omega
     simp only[d1,Bool.false_and,aq];simp[dy,c0,c1,e1,e2,e3,d2,Z]
def D8{w:aa Nat}(C:dO w)(hl:w.length=11):(gA w).1.length=11/\dO (gA w).1/\((gA w).2.1=0 \/ (gA w).2.1=1 \/ (gA w).2.1=2):=by
 have D:=rL w 0 11;unfold gA;cases nY w with
 |true=>simp_all
 | false=>
  cases loc _ _ _ with
  |none=>simp_all
  |some k=>exact⟨by simp[hl],C.set (mC (C.get k) D),.inr (.inl rfl)⟩
def aEw:(jv λa=>(List.range 11).all λk=>Nat.beq (gm (gm a (pw k)) (pw k)) (gm a (pw (k*2))))=true:=by kernel_rfl
def aEx{w:aa Nat}(O:dO w)(hl:w.length=11)(h:(gA w).2.1≠2):nY (gA w).1=true:=by
 unfold gA at h ⊢;cases T:nY w with
 |true=>grind
 | false=>
  rw[T,aq]at h;simp only[aq];cases U:loc (bX w 0 11) (bX w 1 11) (bX w 2 11)with
  |none=>grind
  | some k=>
   have⟨E,C,_⟩:=UB U;have D:=rL w 0 11;simp only[okB,aU]at C;have L:=cK C.2.1;have Y:=cK C.2.2;have u:=λj=>aml O hl D E j
   have Z:gm (bX w 0 11) (pw (k*0))=bX w 0 11:=by rw[Nat.mul_zero];exact aCU D
   have p2:gm (bX w 0 11) (pw (k*2))=bX w 2 11:=by
    rw[<- cK (cx.1 (gL aEw D) k (fK.2 E)),L,Y]
   simp only[nY,aU];rw[u 0,u 1,u 2,Z,Nat.mul_one,L,p2,Nat.xor_self,Nat.xor_self,Nat.xor_self];exact⟨rfl,rfl,rfl⟩
def aEy{w:aa Nat}(C:dO w)(hl:w.length=11):Tf (bB w)=some (bB (w.drop 3)):=by
 unfold Tf xA xZ;have c0:((w.length:Int)==(11:Int))=true:=by rw[hl];rfl
 have D:(bB w).length=11:=by rw[ij,hl]
 rw[aaG C (by omega),ak,c0,show (!true)=false from rfl,aq,D];have e:((bB w).take ((11:Nat):Int).toNat).drop (3:Int).toNat=bB (w.drop 3):=by
  rw[List.take_of_length_le (by omega)];simp_all
 have E:bM (([]:aa Int).length+(bB (w.drop 3)).length)=true:=by
  rw[ij,List.length_drop,hl];rfl
 simp_all
def anr(x:aM):Prop:=cz x.cu/\cz x.aC/\cz x.rows/\cz x.aO
def aEz{H:Type}{cY:TypeId×Value->H}{w:World}:aY cY Tryz.prog w 23 .fA anr:=λn cs x C=>by
 have D:=Tryz.underlying23;obtain⟨E,i0,L⟩:=aY.part D C (i:=0) rfl oI (off:=0) (k:=1) rfl (by kernel_rfl);obtain⟨O,T,U⟩:=aY.part D C (i:=1) rfl oI (off:=1) (k:=1) rfl (by kernel_rfl);obtain⟨Y,Z,r2⟩:=aY.part D C (i:=2) rfl oI (off:=2) (k:=1) rfl (by kernel_rfl);obtain⟨a3,i3,r3⟩:=aY.part D C (i:=3) rfl oI (off:=3) (k:=1) rfl (by kernel_rfl);have hl:=aY.len D C;have hc:Tryz.prog.cellsOf 23=4:=by kernel_rfl
 rw[hc]at hl;exact⟨⟨E,O,Y,a3⟩,⟨i0,T,Z,i3⟩,bO.cut L (bO.cut U (bO.cut r2 (bO.cut r3 ((iJ hl)))))⟩
def ans(x:dj):Prop:=cz x.jY/\cz x.rp/\cz x.gX/\cz x.nt/\cz x.jZ/\cz x.ke/\cz x.nu/\cz x.ny/\cz x.jy/\cz x.wr/\cz x.nA/\cz x.nB/\cz x.p9/\cz x.nD/\cz x.n7/\cz x.xp/\cz x.xs
def aEA{H:Type}{cY:TypeId×Value->H}{w:World}:aY cY Tryz.prog w 25 .kf ans:=λn cs x C=>by
 have D:=Tryz.underlying25;obtain⟨E,i0,L⟩:=aY.part D C (i:=0) rfl oI (off:=0) (k:=1) rfl (by kernel_rfl);obtain⟨O,T,U⟩:=aY.part D C (i:=1) rfl oI (off:=1) (k:=1) rfl (by kernel_rfl);obtain⟨Y,Z,r2⟩:=aY.part D C (i:=2) rfl oI (off:=2) (k:=1) rfl (by kernel_rfl);obtain⟨a3,i3,r3⟩:=aY.part D C (i:=3) rfl oI (off:=3) (k:=1) rfl (by kernel_rfl);obtain⟨a4,i4,r4⟩:=aY.part D C (i:=4) rfl oI (off:=4) (k:=1) rfl (by kernel_rfl);obtain⟨a5,i5,r5⟩:=aY.part D C (i:=5) rfl oI (off:=5) (k:=1) rfl (by kernel_rfl);obtain⟨a6,i6,r6⟩:=aY.part D C (i:=6) rfl oI (off:=6) (k:=1) rfl (by kernel_rfl);obtain⟨a7,i7,r7⟩:=aY.part D C (i:=7) rfl oI (off:=7) (k:=1) rfl (by kernel_rfl);obtain⟨a8,i8,r8⟩:=aY.part D C (i:=8) rfl oI (off:=8) (k:=1) rfl (by kernel_rfl);obtain⟨a9,i9,r9⟩:=aY.part D C (i:=9) rfl oI (off:=9) (k:=1) rfl (by kernel_rfl);obtain⟨Hs,i10,uM⟩:=aY.part D C (i:=10) rfl oI (off:=10) (k:=1) rfl (by kernel_rfl);obtain⟨Ht,i11,uN⟩:=aY.part D C (i:=11) rfl oI (off:=11) (k:=1) rfl (by kernel_rfl);obtain⟨Hu,i12,uO⟩:=aY.part D C (i:=12) rfl oI (off:=12) (k:=1) rfl (by kernel_rfl);obtain⟨UC,i13,uP⟩:=aY.part D C (i:=13) rfl oI (off:=13) (k:=1) rfl (by kernel_rfl);obtain⟨UD,i14,uQ⟩:=aY.part D C (i:=14) rfl oI (off:=14) (k:=1) rfl (by kernel_rfl);obtain⟨NF,i15,uR⟩:=aY.part D C (i:=15) rfl oI (off:=15) (k:=1) rfl (by kernel_rfl);obtain⟨Hv,i16,uS⟩:=aY.part D C (i:=16) rfl oI (off:=16) (k:=1) rfl (by kernel_rfl);have hl:=aY.len D C;have hc:Tryz.prog.cellsOf 25=17:=by kernel_rfl
 rw[hc]at hl;exact⟨⟨E,O,Y,a3,a4,a5,a6,a7,a8,a9,Hs,Ht,Hu,UC,UD,NF,Hv⟩,⟨i0,T,Z,i3,i4,i5,i6,i7,i8,i9,i10,i11,i12,i13,i14,i15,i16⟩,bO.cut L (bO.cut U (bO.cut r2 (bO.cut r3 (bO.cut r4 (bO.cut r5 (bO.cut r6 (bO.cut r7 (bO.cut r8 (bO.cut r9 (bO.cut uM (bO.cut uN (bO.cut uO (bO.cut uP (bO.cut uQ (bO.cut uR (bO.cut uS ((iJ hl))))))))))))))))))⟩
def ant(x:jX):Prop:=cz x.order/\True
def aEB{H:Type}{cY:TypeId×Value->H}{w:World}:aY cY Tryz.prog w 27 .n8 ant:=λn cs x C=>by
 have D:=Tryz.underlying27;obtain⟨E,i0,L⟩:=aY.part D C (i:=0) rfl oI (off:=0) (k:=1) rfl (by kernel_rfl);obtain⟨O,T,U⟩:=aY.part D C (i:=1) rfl (aY.bool Tryz.underlying4) (off:=1) (k:=1) rfl (by kernel_rfl);have hl:=aY.len D C;have Y:Tryz.prog.cellsOf 27=2:=by kernel_rfl
 rw[Y]at hl;exact⟨⟨E,O⟩,⟨i0,T⟩,bO.cut L (bO.cut U ((iJ hl)))⟩
def anu(x:jq):Prop:=cz x.bx/\cz x.bw
def aEC{H:Type}{cY:TypeId×Value->H}{w:World}:aY cY Tryz.prog w 29 .nE anu:=λn cs x C=>by
 have D:=Tryz.underlying29;obtain⟨E,i0,L⟩:=aY.part D C (i:=0) rfl oI (off:=0) (k:=1) rfl (by kernel_rfl);obtain⟨O,T,U⟩:=aY.part D C (i:=1) rfl oI (off:=1) (k:=1) rfl (by kernel_rfl);have hl:=aY.len D C;have Y:Tryz.prog.cellsOf 29=2:=by kernel_rfl
 rw[Y]at hl;exact⟨⟨E,O⟩,⟨i0,T⟩,bO.cut L (bO.cut U ((iJ hl)))⟩
def anv(x:iG):Prop:=anr x.az/\ans x.cq/\ant x.mapping/\cz x.bQ/\cz x.interval/\cz x.iQ/\anu x.dW
def aED{H:Type}{cY:TypeId×Value->H}{w:World}:aY cY Tryz.prog w 31 .Config anv:=λn cs x C=>by
 have D:=Tryz.underlying31;obtain⟨E,i0,L⟩:=aY.part D C (i:=0) rfl aEz (off:=0) (k:=4) rfl (by kernel_rfl);obtain⟨O,T,U⟩:=aY.part D C (i:=1) rfl aEA (off:=4) (k:=17) rfl (by kernel_rfl);obtain⟨Y,Z,r2⟩:=aY.part D C (i:=2) rfl aEB (off:=21) (k:=2) rfl (by kernel_rfl);obtain⟨a3,i3,r3⟩:=aY.part D C (i:=3) rfl oI (off:=23) (k:=1) rfl (by kernel_rfl);obtain⟨a4,i4,r4⟩:=aY.part D C (i:=4) rfl oI (off:=24) (k:=1) rfl (by kernel_rfl);obtain⟨a5,i5,r5⟩:=aY.part D C (i:=5) rfl oI (off:=25) (k:=1) rfl (by kernel_rfl);obtain⟨a6,i6,r6⟩:=aY.part D C (i:=6) rfl aEC (off:=26) (k:=2) rfl (by kernel_rfl);have hl:=aY.len D C;have hc:Tryz.prog.cellsOf 31=28:=by kernel_rfl
 rw[hc]at hl;exact⟨⟨E,O,Y,a3,a4,a5,a6⟩,⟨i0,T,Z,i3,i4,i5,i6⟩,bO.cut L (bO.cut U (bO.cut r2 (bO.cut r3 (bO.cut r4 (bO.cut r5 (bO.cut r6 ((iJ hl))))))))⟩
def abm(x:fM):Prop:=NU x.bH/\NU x.next/\True
def aEE{H:Type}{cY:TypeId×Value->H}{w:World}:aY cY Tryz.prog w 38 .jM abm:=λn cs x C=>by
 have D:=Tryz.underlying38;obtain⟨E,i0,L⟩:=aY.part D C (i:=0) rfl abf (off:=0) (k:=8) rfl (by kernel_rfl);obtain⟨O,T,U⟩:=aY.part D C (i:=1) rfl abf (off:=8) (k:=8) rfl (by kernel_rfl);obtain⟨Y,Z,r2⟩:=aY.part D C (i:=2) rfl (aY.bool Tryz.underlying4) (off:=16) (k:=1) rfl (by kernel_rfl);have hl:=aY.len D C;have hc:Tryz.prog.cellsOf 38=17:=by kernel_rfl
 rw[hc]at hl;exact⟨⟨E,O,Y⟩,⟨i0,T,Z⟩,bO.cut L (bO.cut U (bO.cut r2 ((iJ hl))))⟩
def abn(x:c9):Prop:=True/\cz x.row
def aEF{H:Type}{cY:TypeId×Value->H}{w:World}:aY cY Tryz.prog w 386 .gi abn:=λn cs x C=>by
 have D:=Tryz.underlying386;obtain⟨E,i0,L⟩:=aY.part D C (i:=0) rfl (aY.bool Tryz.underlying4) (off:=0) (k:=1) rfl (by kernel_rfl);obtain⟨O,T,U⟩:=aY.part D C (i:=1) rfl oI (off:=1) (k:=1) rfl (by kernel_rfl);have hl:=aY.len D C;have Y:Tryz.prog.cellsOf 386=2:=by kernel_rfl
 rw[Y]at hl;exact⟨⟨E,O⟩,⟨i0,T⟩,bO.cut L (bO.cut U ((iJ hl)))⟩
def abo(x:cC):Prop:=(x.aC.length<=maxLen/\∀y∈x.aC,abn y)/\cz x.bf
def aEG{H:Type}{cY:TypeId×Value->H}{w:World}:aY cY Tryz.prog w 41 .ja abo:=λn cs x C=>by
 have D:=Tryz.underlying41;obtain⟨E,i0,L⟩:=aY.part D C (i:=0) rfl (aY.sl Tryz.underlying39 (by kernel_rfl) aEF) (off:=0) (k:=1) rfl (by kernel_rfl);obtain⟨O,T,U⟩:=aY.part D C (i:=1) rfl oI (off:=1) (k:=1) rfl (by kernel_rfl);have hl:=aY.len D C;have Y:Tryz.prog.cellsOf 41=2:=by kernel_rfl
 rw[Y]at hl;exact⟨⟨E,O⟩,⟨i0,T⟩,bO.cut L (bO.cut U ((iJ hl)))⟩
def abp(x:dB):Prop:=(x.last.length<=maxLen/\∀y∈x.last,cz y)/\(x.bC.length<=maxLen/\∀y∈x.bC,cz y)
def aEH{H:Type}{cY:TypeId×Value->H}{w:World}:aY cY Tryz.prog w 43 .kO abp:=λn cs x C=>by
 have D:=Tryz.underlying43;obtain⟨E,i0,L⟩:=aY.part D C (i:=0) rfl (aY.sl Tryz.underlying32 (by kernel_rfl) oI) (off:=0) (k:=1) rfl (by kernel_rfl);obtain⟨O,T,U⟩:=aY.part D C (i:=1) rfl (aY.sl Tryz.underlying32 (by kernel_rfl) oI) (off:=1) (k:=1) rfl (by kernel_rfl);have hl:=aY.len D C;have Y:Tryz.prog.cellsOf 43=2:=by kernel_rfl
 rw[Y]at hl;exact⟨⟨E,O⟩,⟨i0,T⟩,bO.cut L (bO.cut U ((iJ hl)))⟩
def UE(x:bP):Prop:=(x.symbols.length<=maxLen/\∀y∈x.symbols,cz y)/\True
def aEI{H:Type}{cY:TypeId×Value->H}{w:World}:aY cY Tryz.prog w 359 .Cell UE:=λn cs x C=>by
 have D:=Tryz.underlying359;obtain⟨E,i0,L⟩:=aY.part D C (i:=0) rfl (aY.sl Tryz.underlying32 (by kernel_rfl) oI) (off:=0) (k:=1) rfl (by kernel_rfl);obtain⟨O,T,U⟩:=aY.part D C (i:=1) rfl (aY.bool Tryz.underlying4) (off:=1) (k:=1) rfl (by kernel_rfl);have hl:=aY.len D C;have Y:Tryz.prog.cellsOf 359=2:=by kernel_rfl
 rw[Y]at hl;exact⟨⟨E,O⟩,⟨i0,T⟩,bO.cut L (bO.cut U ((iJ hl)))⟩
def abq(x:cV):Prop:=(x.cells.length<=maxLen/\∀y∈x.cells,UE y)/\(x.bx.length<=maxLen/\∀y∈x.bx,cz y)/\(x.bw.length<=maxLen/\∀y∈x.bw,cz y)
def aEJ{H:Type}{cY:TypeId×Value->H}{w:World}:aY cY Tryz.prog w 46 .Array abq:=λn cs x C=>by
 have D:=Tryz.underlying46;obtain⟨E,i0,L⟩:=aY.part D C (i:=0) rfl (aY.sl Tryz.underlying44 (by kernel_rfl) aEI) (off:=0) (k:=1) rfl (by kernel_rfl);obtain⟨O,T,U⟩:=aY.part D C (i:=1) rfl (aY.sl Tryz.underlying32 (by kernel_rfl) oI) (off:=1) (k:=1) rfl (by kernel_rfl);obtain⟨Y,Z,r2⟩:=aY.part D C (i:=2) rfl (aY.sl Tryz.underlying32 (by kernel_rfl) oI) (off:=2) (k:=1) rfl (by kernel_rfl);have hl:=aY.len D C;have hc:Tryz.prog.cellsOf 46=3:=by kernel_rfl
 rw[hc]at hl;exact⟨⟨E,O,Y⟩,⟨i0,T,Z⟩,bO.cut L (bO.cut U (bO.cut r2 ((iJ hl))))⟩
def abr(x:cQ):Prop:=cz x.bQ/\(x.map.length<=maxLen/\∀y∈x.map,cz y)
def aEK{H:Type}{cY:TypeId×Value->H}{w:World}:aY cY Tryz.prog w 48 .jL abr:=λn cs x C=>by
 have D:=Tryz.underlying48;obtain⟨E,i0,L⟩:=aY.part D C (i:=0) rfl oI (off:=0) (k:=1) rfl (by kernel_rfl);obtain⟨O,T,U⟩:=aY.part D C (i:=1) rfl (aY.sl Tryz.underlying32 (by kernel_rfl) oI) (off:=1) (k:=1) rfl (by kernel_rfl);have hl:=aY.len D C;have Y:Tryz.prog.cellsOf 48=2:=by kernel_rfl
 rw[Y]at hl;exact⟨⟨E,O⟩,⟨i0,T⟩,bO.cut L (bO.cut U ((iJ hl)))⟩
def abt(x:cS):Prop:=(x.aI.length<=maxLen/\∀y∈x.aI,cz y)/\cz x.wait/\True
def aEL{H:Type}{cY:TypeId×Value->H}{w:World}:aY cY Tryz.prog w 50 .jz abt:=λn cs x C=>by
 have D:=Tryz.underlying50;obtain⟨E,i0,L⟩:=aY.part D C (i:=0) rfl (aY.sl Tryz.underlying32 (by kernel_rfl) oI) (off:=0) (k:=1) rfl (by kernel_rfl);obtain⟨O,T,U⟩:=aY.part D C (i:=1) rfl oI (off:=1) (k:=1) rfl (by kernel_rfl);obtain⟨Y,Z,r2⟩:=aY.part D C (i:=2) rfl (aY.bool Tryz.underlying4) (off:=2) (k:=1) rfl (by kernel_rfl);have hl:=aY.len D C;have hc:Tryz.prog.cellsOf 50=3:=by kernel_rfl
 rw[hc]at hl;exact⟨⟨E,O,Y⟩,⟨i0,T,Z⟩,bO.cut L (bO.cut U (bO.cut r2 ((iJ hl))))⟩
def UF(x:bV):Prop:=(x.rows.length<=maxLen/\∀y∈x.rows,cz y)/\(x.counts.length<=maxLen/\∀y∈x.counts,cz y)/\cz x.dg
def aEM{H:Type}{cY:TypeId×Value->H}{w:World}:aY cY Tryz.prog w 248 .fj UF:=λn cs x C=>by
 have D:=Tryz.underlying248;obtain⟨E,i0,L⟩:=aY.part D C (i:=0) rfl (aY.sl Tryz.underlying32 (by kernel_rfl) oI) (off:=0) (k:=1) rfl (by kernel_rfl);obtain⟨O,T,U⟩:=aY.part D C (i:=1) rfl (aY.sl Tryz.underlying32 (by kernel_rfl) oI) (off:=1) (k:=1) rfl (by kernel_rfl);obtain⟨Y,Z,r2⟩:=aY.part D C (i:=2) rfl oI (off:=2) (k:=1) rfl (by kernel_rfl);have hl:=aY.len D C;have hc:Tryz.prog.cellsOf 248=3:=by kernel_rfl
 rw[hc]at hl;exact⟨⟨E,O,Y⟩,⟨i0,T,Z⟩,bO.cut L (bO.cut U (bO.cut r2 ((iJ hl))))⟩
def abu(x:bY):Prop:=cz x.weight/\cz x.ff
def aEN{H:Type}{cY:TypeId×Value->H}{w:World}:aY cY Tryz.prog w 281 .eC abu:=λn cs x C=>by
 have D:=Tryz.underlying281;obtain⟨E,i0,L⟩:=aY.part D C (i:=0) rfl oI (off:=0) (k:=1) rfl (by kernel_rfl);obtain⟨O,T,U⟩:=aY.part D C (i:=1) rfl oI (off:=1) (k:=1) rfl (by kernel_rfl);have hl:=aY.len D C;have Y:Tryz.prog.cellsOf 281=2:=by kernel_rfl
 rw[Y]at hl;exact⟨⟨E,O⟩,⟨i0,T⟩,bO.cut L (bO.cut U ((iJ hl)))⟩
def anw(x:gP):Prop:=True/\cz x.low/\cz x.high
def aEO{H:Type}{cY:TypeId×Value->H}{w:World}:aY cY Tryz.prog w 56 .lD anw:=λn cs x C=>by
 have D:=Tryz.underlying56;obtain⟨E,i0,L⟩:=aY.part D C (i:=0) rfl (aY.bool Tryz.underlying4) (off:=0) (k:=1) rfl (by kernel_rfl);obtain⟨O,T,U⟩:=aY.part D C (i:=1) rfl oI (off:=1) (k:=1) rfl (by kernel_rfl);obtain⟨Y,Z,r2⟩:=aY.part D C (i:=2) rfl oI (off:=2) (k:=1) rfl (by kernel_rfl);have hl:=aY.len D C;have hc:Tryz.prog.cellsOf 56=3:=by kernel_rfl
 rw[hc]at hl;exact⟨⟨E,O,Y⟩,⟨i0,T,Z⟩,bO.cut L (bO.cut U (bO.cut r2 ((iJ hl))))⟩
def anx(x:eN):Prop:=cz x.state/\cz x.since/\cz x.idle
def aEP{H:Type}{cY:TypeId×Value->H}{w:World}:aY cY Tryz.prog w 58 .Power anx:=λn cs x C=>by
 have D:=Tryz.underlying58;obtain⟨E,i0,L⟩:=aY.part D C (i:=0) rfl oI (off:=0) (k:=1) rfl (by kernel_rfl);obtain⟨O,T,U⟩:=aY.part D C (i:=1) rfl oI (off:=1) (k:=1) rfl (by kernel_rfl);obtain⟨Y,Z,r2⟩:=aY.part D C (i:=2) rfl oI (off:=2) (k:=1) rfl (by kernel_rfl);have hl:=aY.len D C;have hc:Tryz.prog.cellsOf 58=3:=by kernel_rfl
 rw[hc]at hl;exact⟨⟨E,O,Y⟩,⟨i0,T,Z⟩,bO.cut L (bO.cut U (bO.cut r2 ((iJ hl))))⟩
def anz(x:lV):Prop:=cz x.next/\cz x.every/\cz x.wait
def aEQ{H:Type}{cY:TypeId×Value->H}{w:World}:aY cY Tryz.prog w 60 .oa anz:=λn cs x C=>by
 have D:=Tryz.underlying60;obtain⟨E,i0,L⟩:=aY.part D C (i:=0) rfl oI (off:=0) (k:=1) rfl (by kernel_rfl);obtain⟨O,T,U⟩:=aY.part D C (i:=1) rfl oI (off:=1) (k:=1) rfl (by kernel_rfl);obtain⟨Y,Z,r2⟩:=aY.part D C (i:=2) rfl oI (off:=2) (k:=1) rfl (by kernel_rfl);have hl:=aY.len D C;have hc:Tryz.prog.cellsOf 60=3:=by kernel_rfl
 rw[hc]at hl;exact⟨⟨E,O,Y⟩,⟨i0,T,Z⟩,bO.cut L (bO.cut U (bO.cut r2 ((iJ hl))))⟩
def abv(x:bW):Prop:=cz x.line/\cz x.code/\cz x.times
def aER{H:Type}{cY:TypeId×Value->H}{w:World}:aY cY Tryz.prog w 285 .eH abv:=λn cs x C=>by
 have D:=Tryz.underlying285;obtain⟨E,i0,L⟩:=aY.part D C (i:=0) rfl oI (off:=0) (k:=1) rfl (by kernel_rfl);obtain⟨O,T,U⟩:=aY.part D C (i:=1) rfl oI (off:=1) (k:=1) rfl (by kernel_rfl);obtain⟨Y,Z,r2⟩:=aY.part D C (i:=2) rfl oI (off:=2) (k:=1) rfl (by kernel_rfl);have hl:=aY.len D C;have hc:Tryz.prog.cellsOf 285=3:=by kernel_rfl
 rw[hc]at hl;exact⟨⟨E,O,Y⟩,⟨i0,T,Z⟩,bO.cut L (bO.cut U (bO.cut r2 ((iJ hl))))⟩
def anA(x:aG):Prop:=cz x.kind/\cz x.ay/\cz x.row/\cz x.bT
def aES{H:Type}{cY:TypeId×Value->H}{w:World}:aY cY Tryz.prog w 289 .Command anA:=λn cs x C=>by
 have D:=Tryz.underlying289;obtain⟨E,i0,L⟩:=aY.part D C (i:=0) rfl oI (off:=0) (k:=1) rfl (by kernel_rfl);obtain⟨O,T,U⟩:=aY.part D C (i:=1) rfl oI (off:=1) (k:=1) rfl (by kernel_rfl);obtain⟨Y,Z,r2⟩:=aY.part D C (i:=2) rfl oI (off:=2) (k:=1) rfl (by kernel_rfl);obtain⟨a3,i3,r3⟩:=aY.part D C (i:=3) rfl oI (off:=3) (k:=1) rfl (by kernel_rfl);have hl:=aY.len D C;have hc:Tryz.prog.cellsOf 289=4:=by kernel_rfl
 rw[hc]at hl;exact⟨⟨E,O,Y,a3⟩,⟨i0,T,Z,i3⟩,bO.cut L (bO.cut U (bO.cut r2 (bO.cut r3 ((iJ hl)))))⟩
def abw(x:c8):Prop:=cz x.at_/\anA x.cmd
def aET{H:Type}{cY:TypeId×Value->H}{w:World}:aY cY Tryz.prog w 291 .Event abw:=λn cs x C=>by
 have D:=Tryz.underlying291;obtain⟨E,i0,L⟩:=aY.part D C (i:=0) rfl oI (off:=0) (k:=1) rfl (by kernel_rfl);obtain⟨O,T,U⟩:=aY.part D C (i:=1) rfl aES (off:=1) (k:=4) rfl (by kernel_rfl);have hl:=aY.len D C;have Y:Tryz.prog.cellsOf 291=5:=by kernel_rfl
 rw[Y]at hl;exact⟨⟨E,O⟩,⟨i0,T⟩,bO.cut L (bO.cut U ((iJ hl)))⟩
def abx(x:cE):Prop:=cz x.id/\cz x.at_/\cz x.data/\cz x.code
def aEU{H:Type}{cY:TypeId×Value->H}{w:World}:aY cY Tryz.prog w 295 .fV abx:=λn cs x C=>by
 have D:=Tryz.underlying295;obtain⟨E,i0,L⟩:=aY.part D C (i:=0) rfl oI (off:=0) (k:=1) rfl (by kernel_rfl);obtain⟨O,T,U⟩:=aY.part D C (i:=1) rfl oI (off:=1) (k:=1) rfl (by kernel_rfl);obtain⟨Y,Z,r2⟩:=aY.part D C (i:=2) rfl oI (off:=2) (k:=1) rfl (by kernel_rfl);obtain⟨a3,i3,r3⟩:=aY.part D C (i:=3) rfl oI (off:=3) (k:=1) rfl (by kernel_rfl);have hl:=aY.len D C;have hc:Tryz.prog.cellsOf 295=4:=by kernel_rfl
 rw[hc]at hl;exact⟨⟨E,O,Y,a3⟩,⟨i0,T,Z,i3⟩,bO.cut L (bO.cut U (bO.cut r2 (bO.cut r3 ((iJ hl)))))⟩
def NX(x:ax):Prop:=anv x.config/\abm x.box/\cz x.now/\abo x.br/\abp x.ready/\abq x.array/\abr x.spare/\abt x.aV/\(x.bJ.length<=maxLen/\∀y∈x.bJ,UF y)/\(x.guard.length<=maxLen/\∀y∈x.guard,cz y)/\(x.pending.length<=maxLen/\∀y∈x.pending,UA y)/\(x.queue.length<=maxLen/\∀y∈x.queue,Uz y)/\(x.shares.length<=maxLen/\∀y∈x.shares,abu y)/\anw x.drain/\anx x.bf/\anz x.cH/\(x.errors.length<=maxLen/\∀y∈x.errors,abv y)/\(x.trace.length<=maxLen/\∀y∈x.trace,abw y)/\(x.cy.length<=maxLen/\∀y∈x.cy,abx y)
def aEV{H:Type}{cY:TypeId×Value->H}{w:World}:aY cY Tryz.prog w 65 .cN NX:=λn cs x C=>by
 have D:=Tryz.underlying65;obtain⟨E,i0,L⟩:=aY.part D C (i:=0) rfl aED (off:=0) (k:=28) rfl (by kernel_rfl);obtain⟨O,T,U⟩:=aY.part D C (i:=1) rfl aEE (off:=28) (k:=17) rfl (by kernel_rfl);obtain⟨Y,Z,r2⟩:=aY.part D C (i:=2) rfl oI (off:=45) (k:=1) rfl (by kernel_rfl);obtain⟨a3,i3,r3⟩:=aY.part D C (i:=3) rfl aEG (off:=46) (k:=2) rfl (by kernel_rfl);obtain⟨a4,i4,r4⟩:=aY.part D C (i:=4) rfl aEH (off:=48) (k:=2) rfl (by kernel_rfl);obtain⟨a5,i5,r5⟩:=aY.part D C (i:=5) rfl aEJ (off:=50) (k:=3) rfl (by kernel_rfl);obtain⟨a6,i6,r6⟩:=aY.part D C (i:=6) rfl aEK (off:=53) (k:=2) rfl (by kernel_rfl);obtain⟨a7,i7,r7⟩:=aY.part D C (i:=7) rfl aEL (off:=55) (k:=3) rfl (by kernel_rfl);obtain⟨a8,i8,r8⟩:=aY.part D C (i:=8) rfl (aY.sl Tryz.underlying51 (by kernel_rfl) aEM) (off:=58) (k:=1) rfl (by kernel_rfl);obtain⟨a9,i9,r9⟩:=aY.part D C (i:=9) rfl (aY.sl Tryz.underlying32 (by kernel_rfl) oI) (off:=59) (k:=1) rfl (by kernel_rfl);obtain⟨Hs,i10,uM⟩:=aY.part D C (i:=10) rfl (aY.sl Tryz.underlying52 (by kernel_rfl) ana) (off:=60) (k:=1) rfl (by kernel_rfl);obtain⟨Ht,i11,uN⟩:=aY.part D C (i:=11) rfl (aY.sl Tryz.underlying53 (by kernel_rfl) am9) (off:=61) (k:=1) rfl (by kernel_rfl);obtain⟨Hu,i12,uO⟩:=aY.part D C (i:=12) rfl (aY.sl Tryz.underlying54 (by kernel_rfl) aEN) (off:=62) (k:=1) rfl (by kernel_rfl);obtain⟨UC,i13,uP⟩:=aY.part D C (i:=13) rfl aEO (off:=63) (k:=3) rfl (by kernel_rfl);obtain⟨UD,i14,uQ⟩:=aY.part D C (i:=14) rfl aEP (off:=66) (k:=3) rfl (by kernel_rfl);obtain⟨NF,i15,uR⟩:=aY.part D C (i:=15) rfl aEQ (off:=69) (k:=3) rfl (by kernel_rfl);obtain⟨Hv,i16,uS⟩:=aY.part D C (i:=16) rfl (aY.sl Tryz.underlying61 (by kernel_rfl) aER) (off:=72) (k:=1) rfl (by kernel_rfl);obtain⟨UG,i17,r17⟩:=aY.part D C (i:=17) rfl (aY.sl Tryz.underlying62 (by kernel_rfl) aET) (off:=73) (k:=1) rfl (by kernel_rfl);obtain⟨a18,i18,r18⟩:=aY.part D C (i:=18) rfl (aY.sl Tryz.underlying63 (by kernel_rfl) aEU) (off:=74) (k:=1) rfl (by kernel_rfl);have hl:=aY.len D C;have hc:Tryz.prog.cellsOf 65=75:=by kernel_rfl
 rw[hc]at hl;exact⟨⟨E,O,Y,a3,a4,a5,a6,a7,a8,a9,Hs,Ht,Hu,UC,UD,NF,Hv,UG,a18⟩,⟨i0,T,Z,i3,i4,i5,i6,i7,i8,i9,i10,i11,i12,i13,i14,i15,i16,i17,i18⟩,bO.cut L (bO.cut U (bO.cut r2 (bO.cut r3 (bO.cut r4 (bO.cut r5 (bO.cut r6 (bO.cut r7 (bO.cut r8 (bO.cut r9 (bO.cut uM (bO.cut uN (bO.cut uO (bO.cut uP (bO.cut uQ (bO.cut uR (bO.cut uS (bO.cut r17 (bO.cut r18 ((iJ hl))))))))))))))))))))⟩
def wG(x:fM):Prop:=yL x.bH/\yL x.next
def NY(x:cC):Prop:=(x.aC.length<=1048576)
def UH(x:dB):Prop:=(x.last.length<=1048576)/\(x.bC.length<=1048576)
def uT(x:bP):Prop:=(x.symbols.length<=1048576)
def D9(x:cV):Prop:=(x.cells.length<=1048576/\∀y∈x.cells,uT y)/\(x.bx.length<=1048576)/\(x.bw.length<=1048576)
def UI(x:cQ):Prop:=(x.map.length<=1048576)
def uU(x:cS):Prop:=(x.aI.length<=1048576)
def iD(x:bV):Prop:=(x.rows.length<=1048576)/\(x.counts.length<=1048576)
def dU(x:ax):Prop:=wG x.box/\NY x.br/\UH x.ready/\D9 x.array/\UI x.spare/\uU x.aV/\(x.bJ.length<=1048576/\∀y∈x.bJ,iD y)/\(x.guard.length<=1048576)/\(x.pending.length<=1048576)/\(x.queue.length<=1048576)/\(x.shares.length<=1048576)/\(x.errors.length<=1048576)/\(x.trace.length<=1048576)/\(x.cy.length<=1048576)
def aEW(x:aM):QH x=some x:=by
 unfold QH;rfl
def aEX(x:aM):Q9 x x=some true:=by
 unfold Q9;simp only[ak,dY,dM,bA,aq]
def aEY(x:dj):QI x=some x:=by
 unfold QI;rfl
def aEZ(x:dj):Ra x x=some true:=by
 unfold Ra;simp only[ak,dY,dM,bA,aq]
def aE0(x:jX):QJ x=some x:=by
 unfold QJ;rfl
def aE1(x:jX):Rb x x=some true:=by
 unfold Rb;simp only[ak,dY,dM,bA,aq]
def aE2(x:jq):QK x=some x:=by
 unfold QK;rfl
def aE3(x:jq):Rc x x=some true:=by
 unfold Rc;simp only[ak,dY,dM,bA,aq]
def toConfig(x:iG):QL x=some x:=by
 unfold QL;rw[aEW x.az,ak,aEY x.cq,ak,aE0 x.mapping,ak,aE2 x.dW,ak]
def aE4(x:iG):Rd x x=some true:=by
 unfold Rd;simp only[aEX x.az,aEZ x.cq,aE1 x.mapping,aE3 x.dW,ak,dY,dM,bA,aq]
def aE5(x:fM)(h:abm x){n:Int}(C:0<=n)(D:n<=1048576):Sz n (wG x) (Qy x n):=by
 obtain⟨i0,E,i2⟩:=h;unfold Qy
 refine Sz.bind (abh x.bH i0 C D) λL O b0 T=>?_
 refine Sz.bind (Sz.le (abh x.next E (n:=L) O (by omega)) (by omega)) λy1 U Y Z=>?_
 exact Sz.done U Y ⟨T,Z⟩
def aE6(x:fM)(C:wG x):QN x=some x:=by
 obtain⟨D,E⟩:=C;unfold QN;rw[abi x.bH D,ak,abi x.next E,ak]
def aE7(x:fM)(C:wG x):Rf x x=some true:=by
 obtain⟨D,E⟩:=C;unfold Rf;simp only[abj x.bH D,abj x.next E,ak,dY,dM,bA,aq]
def aE8(x:c9):JQ x=some x:=by
 unfold JQ;rfl
def aE9(x:c9):JX x x=some true:=by
 unfold JX;simp only[ak,dY,dM,bA,aq]
def aFa(x:aa c9)(h:(x.length<=maxLen/\∀ y∈x,abn y)){n:Int}(C:0<=n)(D:n<=1048576):Sz n (x.length<=1048576) (Zm x n):=by
 exact Bd h.1 C D
def aFb(x:aa c9)(C:(x.length<=1048576)):QO x=some x:=by
 have hl:=C;have D:=wE (⟨false,(0:Int)⟩:c9) JQ x (λy E=>aE8 y) (by omega);unfold QO bk;rw[bI ⟨by omega,by omega,by omega⟩]
 refine(aZ (λo=>Option.bind o _) D).trans ?_
 rfl
def aFc(x:aa c9)(C:(x.length<=1048576)):Rg x x=some true:=by
 have hl:=C;have D:=wF JX x (λy E=>aE9 y) (by omega);unfold Rg bE;rw[show ((x.length:Int) != (x.length:Int))=false by simp,aq]
 refine(aZ (λo=>Option.bind o _) D).trans ?_
 rfl
def aFd(x:cC)(h:abo x){n:Int}(C:0<=n)(D:n<=1048576):Sz n (NY x) (Qz x n):=by
 obtain⟨i0,T⟩:=h;unfold Qz
 refine Sz.bind (aFa x.aC i0 C D) λU E L O=>?_
 exact Sz.done E L O
def aFe(x:cC)(C:NY x):QS x=some x:=by
 have D:=C;unfold QS;rw[aFb x.aC D,ak]
def aFf(x:cC)(C:NY x):Rh x x=some true:=by
 have D:=C;unfold Rh;simp only[aFc x.aC D,ak,dY,dM,bA,aq]
def aFg(x:dB)(h:abp x){n:Int}(C:0<=n)(D:n<=1048576):Sz n (UH x) (QA x n):=by
 obtain⟨i0,E⟩:=h;unfold QA
 refine Sz.bind (uI x.last i0 C D) λL O b0 T=>?_
 refine Sz.bind (Sz.le (uI x.bC E (n:=L) O (by omega)) (by omega)) λy1 U Y Z=>?_
 exact Sz.done U Y ⟨T,Z⟩
def aFh(x:dB)(C:UH x):QT x=some x:=by
 obtain⟨D,E⟩:=C;unfold QT;rw[uJ x.last D,ak,uJ x.bC E,ak]
def aFi(x:dB)(C:UH x):Ri x x=some true:=by
 obtain⟨D,E⟩:=C;unfold Ri;simp only[uK x.last D,uK x.bC E,ak,dY,dM,bA,aq]
def aFj(x:bP)(h:UE x){n:Int}(C:0<=n)(D:n<=1048576):Sz n (uT x) (JO x n):=by
 obtain⟨i0,T⟩:=h;unfold JO
 refine Sz.bind (uI x.symbols i0 C D) λU E L O=>?_
 exact Sz.done E L O
def toCell(x:bP)(C:uT x):JR x=some x:=by
 have D:=C;unfold JR;rw[uJ x.symbols D,ak]
def aFk(x:bP)(C:uT x):JY x x=some true:=by
 have D:=C;unfold JY;simp only[uK x.symbols D,ak,dY,dM,bA,aq]
def aFl(x:aa bP)(h:(x.length<=maxLen/\∀ y∈x,UE y)){n:Int}(L:0<=n)(O:n<=1048576):Sz n (x.length<=1048576/\∀ y∈x,uT y) (QB x n):=by
 have hl:=h.1;unfold maxLen at hl;unfold QB bE;rw[aR];by_cases c:n-(x.length:Int)<0
 ·rw[aS c];exact⟨-1,rfl,.inl (by omega)⟩
 ·rw[aT c,aq];exact Sz.imp (Sz.le (anc JO x (Q:=λx=>uT x) (by omega) (λy C m D E=>aFj y (h.2 y C) D E) (n:=n-(x.length:Int)) (by omega) (by omega)) (by omega)) λq=>⟨by omega,q⟩
def aFm(x:aa bP)(C:(x.length<=1048576/\∀ y∈x,uT y)):QU x=some x:=by
 have hl:=C.1;have D:=wE (⟨[],false⟩:bP) JR x (λy E=>toCell y (C.2 y E)) (by omega);unfold QU bk;rw[bI ⟨by omega,by omega,by omega⟩]
 refine(aZ (λo=>Option.bind o _) D).trans ?_
 rfl
def aFn(x:aa bP)(C:(x.length<=1048576/\∀ y∈x,uT y)):Rj x x=some true:=by
 have hl:=C.1;have D:=wF JY x (λy E=>aFk y (C.2 y E)) (by omega);unfold Rj bE;rw[show ((x.length:Int) != (x.length:Int))=false by simp,aq]
 refine(aZ (λo=>Option.bind o _) D).trans ?_
 rfl
def aFo(x:cV)(h:abq x){n:Int}(C:0<=n)(D:n<=1048576):Sz n (D9 x) (QC x n):=by
 obtain⟨i0,E,L⟩:=h;unfold QC
 refine Sz.bind (aFl x.cells i0 C D) λO T b0 U=>?_
 refine Sz.bind (Sz.le (uI x.bx E (n:=O) T (by omega)) (by omega)) λY Z b1 z1=>?_
 refine Sz.bind (Sz.le (uI x.bw L (n:=Y) Z (by omega)) (by omega)) λy2 a2 b2 z2=>?_
 exact Sz.done a2 b2 ⟨U,z1,z2⟩
def toArray(x:cV)(C:D9 x):QV x=some x:=by
 obtain⟨D,E,L⟩:=C;unfold QV;rw[aFm x.cells D,ak,uJ x.bx E,ak,uJ x.bw L,ak]
def aFp(x:cV)(C:D9 x):Rk x x=some true:=by
 obtain⟨D,E,L⟩:=C;unfold Rk;simp only[aFn x.cells D,uK x.bx E,uK x.bw L,ak,dY,dM,bA,aq]
def aFq(x:cQ)(h:abr x){n:Int}(C:0<=n)(D:n<=1048576):Sz n (UI x) (QD x n):=by
 obtain⟨i0,E⟩:=h;unfold QD
 refine Sz.bind (uI x.map E C D) λU L O T=>?_
 exact Sz.done L O T
def aFr(x:cQ)(C:UI x):QW x=some x:=by
 have D:=C;unfold QW;rw[uJ x.map D,ak]
def aFs(x:cQ)(C:UI x):Ro x x=some true:=by
 have D:=C;unfold Ro;simp only[uK x.map D,ak,dY,dM,bA,aq]
def aFt(x:cS)(h:abt x){n:Int}(C:0<=n)(D:n<=1048576):Sz n (uU x) (QE x n):=by
 obtain⟨i0,T,U⟩:=h;unfold QE
 refine Sz.bind (uI x.aI i0 C D) λY E L O=>?_
 exact Sz.done E L O
def aFu(x:cS)(C:uU x):QX x=some x:=by
 have D:=C;unfold QX;rw[uJ x.aI D,ak]
def aFv(x:cS)(C:uU x):Rp x x=some true:=by
 have D:=C;unfold Rp;simp only[uK x.aI D,ak,dY,dM,bA,aq]
def aFw(x:bV)(h:UF x){n:Int}(C:0<=n)(D:n<=1048576):Sz n (iD x) (JP x n):=by
 obtain⟨i0,E,i2⟩:=h;unfold JP
 refine Sz.bind (uI x.rows i0 C D) λL O b0 T=>?_
 refine Sz.bind (Sz.le (uI x.counts E (n:=L) O (by omega)) (by omega)) λy1 U Y Z=>?_
 exact Sz.done U Y ⟨T,Z⟩
def aFx(x:bV)(C:iD x):JS x=some x:=by
 obtain⟨D,E⟩:=C;unfold JS;rw[uJ x.rows D,ak,uJ x.counts E,ak]
def aFy(x:bV)(C:iD x):JZ x x=some true:=by
 obtain⟨D,E⟩:=C;unfold JZ;simp only[uK x.rows D,uK x.counts E,ak,dY,dM,bA,aq]
def aFz(x:aa bV)(h:(x.length<=maxLen/\∀ y∈x,UF y)){n:Int}(L:0<=n)(O:n<=1048576):Sz n (x.length<=1048576/\∀ y∈x,iD y) (QF x n):=by
 have hl:=h.1;unfold maxLen at hl;unfold QF bE;rw[aR];by_cases c:n-(x.length:Int)<0
 ·rw[aS c];exact⟨-1,rfl,.inl (by omega)⟩
 ·rw[aT c,aq];exact Sz.imp (Sz.le (anc JP x (Q:=λx=>iD x) (by omega) (λy C m D E=>aFw y (h.2 y C) D E) (n:=n-(x.length:Int)) (by omega) (by omega)) (by omega)) λq=>⟨by omega,q⟩
def aFA(x:aa bV)(C:(x.length<=1048576/\∀ y∈x,iD y)):QY x=some x:=by
 have hl:=C.1;have D:=wE (⟨[],[],(0:Int)⟩:bV) JS x (λy E=>aFx y (C.2 y E)) (by omega);unfold QY bk;rw[bI ⟨by omega,by omega,by omega⟩]
 refine(aZ (λo=>Option.bind o _) D).trans ?_
 rfl
def aFB(x:aa bV)(C:(x.length<=1048576/\∀ y∈x,iD y)):Rq x x=some true:=by
 have hl:=C.1;have D:=wF JZ x (λy E=>aFy y (C.2 y E)) (by omega);unfold Rq bE;rw[show ((x.length:Int) != (x.length:Int))=false by simp,aq]
 refine(aZ (λo=>Option.bind o _) D).trans ?_
 rfl
def aFC(x:aa aJ)(h:(x.length<=maxLen/\∀ y∈x,UA y)){n:Int}(C:0<=n)(D:n<=1048576):Sz n (x.length<=1048576) (Zn x n):=by
 exact Bd h.1 C D
def aFD(x:aa aJ)(C:(x.length<=1048576)):QZ x=some x:=by
 have hl:=C;have D:=wE (⟨(0:Int),(0:Int),(0:Int)⟩:aJ) Fx x (λy E=>ang y) (by omega);unfold QZ bk;rw[bI ⟨by omega,by omega,by omega⟩]
 refine(aZ (λo=>Option.bind o _) D).trans ?_
 rfl
def aFE(x:aa aJ)(C:(x.length<=1048576)):Rr x x=some true:=by
 have hl:=C;have D:=wF FA x (λy E=>anh y) (by omega);unfold Rr bE;rw[show ((x.length:Int) != (x.length:Int))=false by simp,aq]
 refine(aZ (λo=>Option.bind o _) D).trans ?_
 rfl
def aFF(x:aa aK)(h:(x.length<=maxLen/\∀ y∈x,Uz y)){n:Int}(C:0<=n)(D:n<=1048576):Sz n (x.length<=1048576) (Zo x n):=by
 exact Bd h.1 C D
def aFG(x:aa aK)(C:(x.length<=1048576)):Q0 x=some x:=by
 have hl:=C;have D:=wE (⟨(0:Int),(0:Int),(0:Int),false,(0:Int),(0:Int)⟩:aK) Fy x (λy E=>ane y) (by omega);unfold Q0 bk;rw[bI ⟨by omega,by omega,by omega⟩]
 refine(aZ (λo=>Option.bind o _) D).trans ?_
 rfl
def aFH(x:aa aK)(C:(x.length<=1048576)):Rs x x=some true:=by
 have hl:=C;have D:=wF FB x (λy E=>anf y) (by omega);unfold Rs bE;rw[show ((x.length:Int) != (x.length:Int))=false by simp,aq]
 refine(aZ (λo=>Option.bind o _) D).trans ?_
 rfl
def aFI(x:bY):JT x=some x:=by
 unfold JT;rfl
def aFJ(x:bY):J0 x x=some true:=by
 unfold J0;simp only[ak,dY,dM,bA,aq]
def aFK(x:aa bY)(h:(x.length<=maxLen/\∀ y∈x,abu y)){n:Int}(C:0<=n)(D:n<=1048576):Sz n (x.length<=1048576) (Zp x n):=by
 exact Bd h.1 C D
def aFL(x:aa bY)(C:(x.length<=1048576)):Q1 x=some x:=by
 have hl:=C;have D:=wE (⟨(0:Int),(0:Int)⟩:bY) JT x (λy E=>aFI y) (by omega);unfold Q1 bk;rw[bI ⟨by omega,by omega,by omega⟩]
 refine(aZ (λo=>Option.bind o _) D).trans ?_
 rfl
def aFM(x:aa bY)(C:(x.length<=1048576)):Rt x x=some true:=by
 have hl:=C;have D:=wF J0 x (λy E=>aFJ y) (by omega);unfold Rt bE;rw[show ((x.length:Int) != (x.length:Int))=false by simp,aq]
 refine(aZ (λo=>Option.bind o _) D).trans ?_
 rfl
def aFN(x:gP):Q2 x=some x:=by
 unfold Q2;rfl
def aFO(x:gP):Ru x x=some true:=by
 unfold Ru;simp only[ak,dY,dM,bA,aq]
def aFP(x:eN):Q3 x=some x:=by
 unfold Q3;rfl
def aFQ(x:eN):Rv x x=some true:=by
 unfold Rv;simp only[ak,dY,dM,bA,aq]
def aFR(x:lV):Q4 x=some x:=by
 unfold Q4;rfl
def aFS(x:lV):Rw x x=some true:=by
 unfold Rw;simp only[ak,dY,dM,bA,aq]
def aFT(x:bW):JU x=some x:=by
 unfold JU;rfl
def aFU(x:bW):J1 x x=some true:=by
 unfold J1;simp only[ak,dY,dM,bA,aq]
def aFV(x:aa bW)(h:(x.length<=maxLen/\∀ y∈x,abv y)){n:Int}(C:0<=n)(D:n<=1048576):Sz n (x.length<=1048576) (Zq x n):=by
 exact Bd h.1 C D
def aFW(x:aa bW)(C:(x.length<=1048576)):Q5 x=some x:=by
 have hl:=C;have D:=wE (⟨(0:Int),(0:Int),(0:Int)⟩:bW) JU x (λy E=>aFT y) (by omega);unfold Q5 bk;rw[bI ⟨by omega,by omega,by omega⟩]
 refine(aZ (λo=>Option.bind o _) D).trans ?_
 rfl
def aFX(x:aa bW)(C:(x.length<=1048576)):Rx x x=some true:=by
 have hl:=C;have D:=wF J1 x (λy E=>aFU y) (by omega);unfold Rx bE;rw[show ((x.length:Int) != (x.length:Int))=false by simp,aq]
 refine(aZ (λo=>Option.bind o _) D).trans ?_
 rfl
def aFY(x:aG):Q6 x=some x:=by
 unfold Q6;rfl
def aFZ(x:aG):Ry x x=some true:=by
 unfold Ry;simp only[ak,dY,dM,bA,aq]
def aF0(x:c8):JV x=some x:=by
 unfold JV;rw[aFY x.cmd,ak]
def aF1(x:c8):J2 x x=some true:=by
 unfold J2;simp only[aFZ x.cmd,ak,dY,dM,bA,aq]
def aF2(x:aa c8)(h:(x.length<=maxLen/\∀ y∈x,abw y)){n:Int}(C:0<=n)(D:n<=1048576):Sz n (x.length<=1048576) (Zr x n):=by
 exact Bd h.1 C D
def aF3(x:aa c8)(C:(x.length<=1048576)):Q7 x=some x:=by
 have hl:=C;have D:=wE (⟨(0:Int),⟨(0:Int),(0:Int),(0:Int),(0:Int)⟩⟩:c8) JV x (λy E=>aF0 y) (by omega);unfold Q7 bk;rw[bI ⟨by omega,by omega,by omega⟩]
 refine(aZ (λo=>Option.bind o _) D).trans ?_
 rfl
def aF4(x:aa c8)(C:(x.length<=1048576)):Rz x x=some true:=by
 have hl:=C;have D:=wF J2 x (λy E=>aF1 y) (by omega);unfold Rz bE;rw[show ((x.length:Int) != (x.length:Int))=false by simp,aq]
 refine(aZ (λo=>Option.bind o _) D).trans ?_
 rfl
def aF5(x:cE):JW x=some x:=by
 unfold JW;rfl
def aF6(x:cE):J3 x x=some true:=by
 unfold J3;simp only[ak,dY,dM,bA,aq]
def aF7(x:aa cE)(h:(x.length<=maxLen/\∀ y∈x,abx y)){n:Int}(C:0<=n)(D:n<=1048576):Sz n (x.length<=1048576) (Zs x n):=by
 exact Bd h.1 C D
def aF8(x:aa cE)(C:(x.length<=1048576)):Q8 x=some x:=by
 have hl:=C;have D:=wE (⟨(0:Int),(0:Int),(0:Int),(0:Int)⟩:cE) JW x (λy E=>aF5 y) (by omega);unfold Q8 bk;rw[bI ⟨by omega,by omega,by omega⟩]
 refine(aZ (λo=>Option.bind o _) D).trans ?_
 rfl
def aF9(x:aa cE)(C:(x.length<=1048576)):RB x x=some true:=by
 have hl:=C;have D:=wF J3 x (λy E=>aF6 y) (by omega);unfold RB bE;rw[show ((x.length:Int) != (x.length:Int))=false by simp,aq]
 refine(aZ (λo=>Option.bind o _) D).trans ?_
 rfl
def aGa(x:ax)(h:NX x){n:Int}(C:0<=n)(D:n<=1048576):Sz n (dU x) (QG x n):=by
 obtain⟨i0,E,i2,L,O,T,U,Y,Z,i9,i10,i11,i12,i13,i14,i15,i16,i17,i18⟩:=h;unfold QG
 refine Sz.bind (aE5 x.box E C D) λy1 a1 b1 z1=>?_
 refine Sz.bind (Sz.le (aFd x.br L (n:=y1) a1 (by omega)) (by omega)) λy3 a3 b3 z3=>?_
 refine Sz.bind (Sz.le (aFg x.ready O (n:=y3) a3 (by omega)) (by omega)) λy4 a4 b4 z4=>?_
 refine Sz.bind (Sz.le (aFo x.array T (n:=y4) a4 (by omega)) (by omega)) λy5 a5 b5 z5=>?_
 refine Sz.bind (Sz.le (aFq x.spare U (n:=y5) a5 (by omega)) (by omega)) λy6 a6 b6 z6=>?_
 refine Sz.bind (Sz.le (aFt x.aV Y (n:=y6) a6 (by omega)) (by omega)) λy7 a7 b7 z7=>?_
 refine Sz.bind (Sz.le (aFz x.bJ Z (n:=y7) a7 (by omega)) (by omega)) λy8 a8 b8 z8=>?_
 refine Sz.bind (Sz.le (uI x.guard i9 (n:=y8) a8 (by omega)) (by omega)) λy9 a9 b9 z9=>?_
 refine Sz.bind (Sz.le (aFC x.pending i10 (n:=y9) a9 (by omega)) (by omega)) λgS Hs b10 gy=>?_
 refine Sz.bind (Sz.le (aFF x.queue i11 (n:=gS) Hs (by omega)) (by omega)) λeP Ht b11 iE=>?_
 refine Sz.bind (Sz.le (aFK x.shares i12 (n:=eP) Ht (by omega)) (by omega)) λgC Hu b12 iK=>?_
 refine Sz.bind (Sz.le (aFV x.errors i16 (n:=gC) Hu (by omega)) (by omega)) λjH Hv b16 NZ=>?_
 refine Sz.bind (Sz.le (aF2 x.trace i17 (n:=jH) Hv (by omega)) (by omega)) λhG UG b17 Dq=>?_
 refine Sz.bind (Sz.le (aF7 x.cy i18 (n:=hG) UG (by omega)) (by omega)) λkD a18 b18 N0=>?_
 exact Sz.done a18 b18 ⟨z1,z3,z4,z5,z6,z7,z8,z9,gy,iE,iK,NZ,Dq,N0⟩
def aGb(x:ax)(C:dU x):CP x=some x:=by
 obtain⟨D,E,L,O,T,U,Y,Z,aby,abz,abA,abC,abD,abE⟩:=C;unfold CP;rw[toConfig x.config,ak,aE6 x.box D,ak,aFe x.br E,ak,aFh x.ready L,ak,toArray x.array O,ak,aFr x.spare T,ak,aFu x.aV U,ak,aFA x.bJ Y,ak,uJ x.guard Z,ak,aFD x.pending aby,ak,aFG x.queue abz,ak,aFL x.shares abA,ak,aFN x.drain,ak,aFP x.bf,ak,aFR x.cH,ak,aFW x.errors abC,ak,aF3 x.trace abD,ak,aF8 x.cy abE,ak]
def anB(x:ax)(C:dU x):CQ x x=some true:=by
 obtain⟨D,E,L,O,T,U,Y,Z,aby,abz,abA,abC,abD,abE⟩:=C;unfold CQ;simp only[aE4 x.config,aE7 x.box D,aFf x.br E,aFi x.ready L,aFp x.array O,aFs x.spare T,aFv x.aV U,aFB x.bJ Y,uK x.guard Z,aFE x.pending aby,aFH x.queue abz,aFM x.shares abA,aFO x.drain,aFQ x.bf,aFS x.cH,aFX x.errors abC,aF4 x.trace abD,aF9 x.cy abE,ak,dY,dM,bA,aq]
def oQ(c:iG)(p:fh):Bool:=(uz c p).getD false
def N1(c:iG)(p:fh)(hl:p.weights.length<1073741823):uz c p=some (oQ c p):=by
 obtain⟨b,e,_⟩:=aaU c p hl;unfold oQ;rw[e];rfl
def abF(c:iG)(p:fh)(hl:p.weights.length<1073741823):C5 c p=some (oQ c p):=by
 have⟨b,e,C,_⟩:=aDr c p hl;unfold oQ;simp_all
def ba1(a x:Bool):(bif a then some x else some false)=some (a&&x):=by cases a<;>rfl
def ba2(a x:Bool):(bif !a then some false else some x)=some (a&&x):=by cases a<;>rfl
def ba3(a b:Int)(x:Bool):(bif a != b then some false else some x)=some (a==b&&x):=by
 rw[bne];cases a==b<;>rfl
theorem ba4(p:Prop)[Decidable p](x:Bool):(bif decide p then some false else some x)=some (!decide p&&x):=by cases decide p<;>rfl
def eV(c:ax):Bool:=
 oQ c.config c.box.bH&&(oQ c.config c.box.next&&(aN c.now 0 1000000&&(mE c.config.az c.br&&(lP c.config.az c.ready&&(lN c.config.az c.array&&(kY c.config.az c.spare&&(c.spare.bQ==c.config.bQ&&((fe c.aV&&sW c)&&(hJ (fy (eF c.config.az c.spare)) c.queue&&(ji c.shares&&((c.shares.length:Int)==4&&(pT c.drain&&(kH c.bf&&(c.bf.state==c.br.bf&&(!decide (c.bf.since > c.now)&&(aN c.cH.every 1 100000&&(aN c.cH.wait 1 c.cH.every&&(aN c.cH.next 0 (W6 (fy c.config.az-1))&&(kW c.errors&&(decide ((c.trace.length:Int)<=2000)&&decide ((c.cy.length:Int)<=400)))))))))))))))))))))
def Hw(c:ax)(C:dU c):AS c=some (eV c):=by
 have⟨⟨D,E⟩,Y,⟨Z,z5⟩,⟨⟨z6,L⟩,z7,z8⟩,z9,O,⟨iE,abG⟩,iK,jj,jk,kZ,NZ,Dq,N0⟩:=C;unfold yL at D E;have T:∀ x∈c.array.cells,x.symbols.length<1073741824:=λx U=>by
  have:=L x U;unfold uT at this;omega
 unfold uU at O;unfold AS eV;simp only[N1 _ _ (show c.box.bH.weights.length<1073741823 by omega),N1 _ _ (show c.box.next.weights.length<1073741823 by omega),dx,amH,aa1,amu _ _ T,amQ,aDI _ (show c.aV.aI.length<1073741824 by omega),D0,G5,aaY _ _ (show c.queue.length<1073741824 by omega),NJ _ (show c.shares.length<1073741824 by omega),Ul,Uq,amL _ (show c.errors.length<1073741824 by omega),ak,ba1,ba2,ba3,ba4]
def anC(c:ax)(C:dU c):R4 c=some (eV c):=by
 obtain⟨⟨D,E⟩,Y,⟨Z,z5⟩,⟨⟨z6,L⟩,z7,z8⟩,z9,O,⟨iE,abG⟩,iK,jj,jk,kZ,NZ,Dq,N0⟩:=C;unfold yL at D E;have T:∀ x∈c.array.cells,x.symbols.length<1073741824:=λx U=>by
  have:=L x U;unfold uT at this;omega
 unfold uU at O;unfold R4 eV;simp only[abF _ _ (show c.box.bH.weights.length<1073741823 by omega),abF _ _ (show c.box.next.weights.length<1073741823 by omega),ei,aDs,amM,aEf _ _ T,aa3,NK _ (show c.aV.aI.length<1073741824 by omega),aDH,aDG,G6,aaX,aaS _ (show c.shares.length<1073741824 by omega),Um,Ur,amK,ak,ba1,ba2,ba3,ba4,Bool.and_assoc]
def aGc{H:Type}{cY:TypeId×Value->H}{w:World}{base:Nat}{v:Value}{d:DataW H}{p:aa MemPlace}(C:Value.okWide Tryz.prog w .any base 65 v)(h:DataW.Trod cY Tryz.prog w 0 (λ_=>true) true 65 v d p):JB .cN NX w v:=
 afW aEV Tryz.underlying65 C h
def UJ{g:aM}{a:cV}(h:lN g a=true):cG g=true/\(a.bx.length:Int)=gK g/\(a.bw.length:Int)=gK g:=by
 simp[lN,aU,iZ]at h;simp_all
def gd(p:aK->Bool)(q:aa aK):Nat:=(q.findIdx? p).getD q.length
def UK(p:aK -> Bool)(q:aa aK):gd p q <= q.length:=by
 unfold gd;cases h:q.findIdx? p with
 |none=>simp_all
 | some k=>
  have⟨C,_⟩:=mI.1 h
  grind
def jJ(p:aK->Bool)(q:aa aK)(r:aK):aa aK:=(q.take (gd p q)++[r])++q.drop (gd p q)
def abH(p:aK->Bool)(q:aa aK)(r:aK):(jJ p q r).length=q.length+1:=by
 have:=UK p q;simp[jJ];omega
def anD{p:aK -> Bool}{q:aa aK}{i:Nat}(h:i<gd p q)(hi:i<q.length):p q[i]=false:=by
 unfold gd at h;cases C:q.findIdx? p with
 |none =>simp_all
 | some k=>
  rw[C]at h;have⟨_,_,D⟩:=mI.1 C;simp_all
def anE{p:aK -> Bool}{q:aa aK}(h:gd p q<q.length):p q[gd p q]=true:=by
 unfold gd at h;cases C:q.findIdx? p with
 |none=>grind
 | some k=>
  have⟨D,E,_⟩:=mI.1 C;have e:gd p q=k:=by unfold gd;rw[C];rfl
  simp_all
def abI{n:Int}{l:aa aK}(h:hJ n l=true){i j:Nat}(E:i<j)(D:j<l.length):(l[i].id==l[j].id)=false:=by
 unfold hJ at h;rw[aU,cx]at h;have C:=h.1 j (fK.2 D);unfold rP at C;rw[bZ D]at C;simp at C;have:=C.2.2 l[i] (jo.2 ⟨i,by simp;omega,by simp⟩);simp_all
def anF{n:Int}{p:aK->Bool}{q:aa aK}{r:aK}(h:hJ n (jJ p q r)=true):∀ x∈q,(x.id==r.id)=false:=by
 intro x D;have E:=UK p q;have hl:=abH p q r;obtain⟨i,hi,rfl⟩:=jo.1 D;have C:(jJ p q r)[gd p q]'(by omega)=r:=by
  unfold jJ;rw[List.getElem_append_left (by simp;omega),List.getElem_append_right (by simp;omega)];simp
 by_cases c:i<gd p q
 ·have e:(jJ p q r)[i]'(by omega)=q[i]:=by
   unfold jJ;rw[List.getElem_append_left (by simp;omega),List.getElem_append_left (by simp;omega),List.getElem_take]
  have:=abI h c (by omega);rw[e,C]at this;exact this
 ·have e:(jJ p q r)[i+1]'(by omega)=q[i]:=by
   unfold jJ;rw[List.getElem_append_right (by simp;omega),List.getElem_drop];congr 1;simp;omega
  have:=abI h (show gd p q<i+1 by omega) (by omega);rw[e,C]at this;rw[aEe];exact this
def anG{p C:aK->Bool}:∀ {q:aa aK},(∀ x∈q,p x=C x)->q.findIdx? p=q.findIdx? C
 |[],_=>rfl
 | y :: q,h=>by
  rw[List.findIdx?_cons,List.findIdx?_cons,h y (.head _),anG λx D=>h x (.tail _ D)]
def anH{n:Int}{q:aa aK}{r:aK}(h:hJ n (jJ (λx=>!dR x r) q r)=true\/hJ n (jJ (λx=>dR r x) q r)=true):jJ (λx=>!dR x r) q r=jJ (λx=>dR r x) q r:=by
 have E:∀ x∈q,(x.id==r.id)=false:=by
  rcases h with h|h
  ·exact anF h
  ·exact anF h
 have C:∀ x∈q,(!dR x r)=dR r x:=by
  intro x C;have D:=E x C;have D:¬ x.id=r.id:=by simpa using D
  unfold dR;rw[Bool.eq_iff_iff];simp only[gV,oW,Bool.and_eq_false_iff,p7,beq_eq_false_iff_ne,eG,aU,iZ,fU];omega
 have e:gd (λx=>!dR x r) q=gd (λx=>dR r x) q:=by
  unfold gd;rw[anG C]
 unfold jJ;rw[e]
def Bf(n:Int)(q:aa aK)(r:aK):aa aK×Bool:=bif hJ n q&&hJ n (jJ (λx=>dR r x) q r)then (jJ (λx=>dR r x) q r,true)else (q,false)
def abJ(q:aa aK)(h:q.length<1073741824):Ns q=some q:=by
 unfold Ns xA xZ;rw[cX (by simpa using h)];rfl
def N2(r:aK):(⟨r.id,r.dm,r.line,r.write,r.data,r.at_⟩:aK)=r:=rfl
def aGd(n:Int)(q:aa aK)(r:aK)(hl:q.length<1000000000):T0 n q r=some (Bf n q r):=by
 have E:=UK (λx=>!dR x r) q;unfold T0 bk;have e:=cB (step:=Nt) (gd (λx=>!dR x r) q) (λi=>((n,q,(),(i:Int),()),((r.id,r.dm,r.line,r.write,r.data,r.at_,()),()))) (.inl ((n,q,(),((gd (λx=>!dR x r) q:Nat):Int),()),((r.id,r.dm,r.line,r.write,r.data,r.at_,()),()))) aX (λk h=>by
  have C:=anD h (by omega);have C:dR q[k] r=true:=by simpa using C
  unfold Nt av xG xI;dsimp only;rw[aS,au,aA ⟨by omega,by omega⟩];simp only[bz];rw[N2,Up,ak,C,au,bD]) (by
  unfold Nt av xG xI;dsimp only;by_cases c:gd (λx=>!dR x r) q<q.length
  ·have C:=anE c;have C:dR q[gd (λx=>!dR x r) q] r=false:=by simpa using C
   rw[aS,au,aA ⟨by omega,by omega⟩];simp only[bz];rw[N2,Up,ak,C,aq]
  ·rw[aT,aq]) (bN)
 rw[cr]at e;rw[e,ak];simp only[en];rw[bI ⟨by omega,by omega,by omega⟩,bI ⟨by omega,by omega,by omega⟩];simp only[bz,Int.toNat_zero,List.drop_zero,iP];rw[N2,abJ _ (by simp;omega),ak,cX (by simp;omega),au,cX (by simp;omega),au,aaY n q (by omega),ak];unfold Bf;have L:=abH (λx=>!dR x r) q r;cases O:hJ n q with
 | false=>
  rw[gW,au,abJ _ (by omega),ak];rfl
 | true=>
  rw[bA,aq];show (DA n (jJ (λx=>!dR x r) q r)).bind _=_;rw[aaY n _ (by omega),ak,cw];cases C:hJ n (jJ (λx=>!dR x r) q r)with
  | false=>
   have D:hJ n (jJ (λx=>dR r x) q r)=false:=by
    cases D:hJ n (jJ (λx=>dR r x) q r)with
    |false=>rfl
    |true=>rw[anH (.inr D),D]at C;cases C
   rw[D,gW,au,abJ _ (by omega),ak];rfl
  | true=>
   have D:=anH (.inl C);rw[<-D,C,bA,aq,au];rfl
def mZ(r:aK)(q:aa aK)(i:Nat):aa aK:=if gd (λx=>dR r x) q<i then (q.take (gd (λx=>dR r x) q)++[r])++(q.take i).drop (gd (λx=>dR r x) q)else q.take i
def anI(r:aK)(q:aa aK)(i:Nat)(h:i <= q.length):(mZ r q i).length <= i+1:=by
 unfold mZ
 grind
def aGe{r:aK}{q:aa aK}{k:Nat}(C:k<q.length)(h:k=gd (λx=>dR r x) q):mZ r q (k+1)=(q.take k++[r])++[q[k]]:=by
 unfold mZ;rw[bI,<- h,oG,List.drop_left' (by simp;omega)]
def aGf{r:aK}{q:aa aK}{k:Nat}(C:k<q.length)(h:gd (λx=>dR r x) q<k):mZ r q (k+1)=mZ r q k++[q[k]]:=by
 unfold mZ;rw[bI,bI h,oG C,List.drop_append_of_le_length (by simp;omega)];simp_all
def aGg{r:aK}{q:aa aK}{k:Nat}(C:k<q.length)(h:k<gd (λx=>dR r x) q):mZ r q (k+1)=mZ r q k++[q[k]]:=by
 unfold mZ;rw[bU,bU,oG C]
def aGh(n:Int)(q:aa aK)(r:aK)(hl:q.length<1000000000):SQ n q r=some (Bf n q r):=by
 have Y:=UK (λx=>dR r x) q;unfold SQ xA bk xZ;have e:=cB (step:=L7) q.length (λi=>((n,q,(),(),decide (gd (λx=>dR r x) q<i),(i:Int),()),((r.id,r.dm,r.line,r.write,r.data,r.at_,()),mZ r q i,()))) (.inl ((n,q,(),(),decide (gd (λx=>dR r x) q<q.length),()),((r.id,r.dm,r.line,r.write,r.data,r.at_,()),mZ r q q.length,()))) aX (λk h=>by
  have L:=anI r q k (by omega);unfold L7 av xG xI;dsimp only;rw[aS (show (k:Int)<(q.length:Int) by omega),au];by_cases c:gd (λx=>dR r x) q<k
  ·rw[aS c,bA,aq,aA ⟨by omega,by omega⟩];simp only[bz];rw[cX (by simp;omega),au,bD,aGf h c,aS (show gd _ q<k+1 by omega)]
  ·rw[aT c,gW,au,aA ⟨by omega,by omega⟩];simp only[bz];rw[N2,amI,ak];by_cases O:k=gd (λx=>dR r x) q
   ·have C:dR r q[k]=true:=by
     have:=anE (p:=λx=>dR r x) (q:=q) (by omega);simp_all
    have D:mZ r q k=q.take k:=by unfold mZ;rw[bU c]
    rw[C,au,cX (by simp;omega),au,aA ⟨by omega,by omega⟩,cX (by simp;omega),au,bD,aS (show gd _ q<k+1 by omega),aGe h O,D]
   ·have C:=anD (p:=λx=>dR r x) (by omega) h;rw[C,aq,aA ⟨by omega,by omega⟩,cX (by simp;omega),au,bD,aT (show ¬ gd _ q<k+1 by omega),aGg h (by omega)]) (by
  unfold L7 av xG xI;dsimp only;rw[aT,aq]) (bN)
 have D:mZ r q 0=[]:=by
  unfold mZ;simp[*]
 rw[cr,D,aT (show ¬ gd (λx=>dR r x) q<0 by omega)]at e;rw[e,ak];simp only[en];have Z:=abH (λx=>dR r x) q r;have E:∀l:aa aK,l.length<1073741824 -> bM (([]:aa aK).length+l.length)=true:=λl h=>cX (by simpa using h)
 have key:∀ o:aa aK,o=jJ (λx=>dR r x) q r -> ((v9 n q).bind λT=>bif (!T)then bif bM (([]:aa aK).length+q.length)then some ((([]:aa aK)++q),false)else none else (v9 n o).bind λU=>bif (!U)then bif bM (([]:aa aK).length+q.length)then some ((([]:aa aK)++q),false)else none else some (o,true))=some (Bf n q r):=by
  rintro o rfl;rw[aaX,ak];unfold Bf;cases h1:hJ n q with
  |false=>rw[gW,au,E q (by omega)];rfl
  | true=>
   rw[bA,aq,aaX,ak,cw];cases C:hJ n (jJ (λx=>dR r x) q r)with
   |false=>rw[gW,au,E q (by omega)];rfl
   |true=>rfl
 have L:=anI r q q.length (dQ _);by_cases c:gd (λx=>dR r x) q<q.length
 ·rw[aS c,bA];refine key _ ?_;unfold mZ jJ;simp[*]
 ·rw[aT c,gW,au,cX (by simp only[lU];omega),au,N2];refine key _ ?_;unfold mZ jJ;have:gd (λx=>dR r x) q=q.length:=by omega
  rw[bU c,this,iP,List.drop_length,List.append_nil]
abbrev aGi:=((af×af×af×Int×af)×(ax×(Int×Int×Int×Int×Int×Int×Int×Int×Int×Int×Int×Int×Int×Int×Int×Int×Int×Int×Int×Int×Int×Int×Bool×Int×Int×Int×Int×Int×Int×Int×Int×Int×Int×af×Int×Int×Int×Int×Int×Int×Int×af×Int×Int×Bool×Int×af×Int×af×af×af×af×af×Int×af×af×Int×Bool×(aa bV)×(aa Int)×(aa aJ)×(aa aK)×(aa bY)×Bool×Int×Int×Int×Int×Int×Int×Int×Int×(aa bW)×(aa c8)×(aa cE)×af)×(aa bV)×(aa Int)×(aa Int)×(aa c9)×(aa Int)×(aa Int)×(aa bP)×(aa Int)×(aa Int)×(aa Int)×(aa Int)×af))
abbrev aGj:=((af×af×af×(aa bV)×Int×Int×af)×(ax×ax×(Int×Int×Int×Int×Int×Int×Int×Int×Int×Int×Int×Int×Int×Int×Int×Int×Int×Int×Int×Int×Int×Int×Bool×Int×Int×Int×Int×Int×Int×Int×Int×Int×Int×af×Int×Int×Int×Int×Int×Int×Int×af×Int×Int×Bool×Int×af×Int×af×af×af×af×af×Int×af×af×Int×Bool×af×(aa Int)×(aa aJ)×(aa aK)×(aa bY)×Bool×Int×Int×Int×Int×Int×Int×Int×Int×(aa bW)×(aa c8)×(aa cE)×af)×(aa Int)×(aa Int)×(aa c9)×(aa Int)×(aa Int)×(aa bP)×(aa Int)×(aa Int)×(aa Int)×(aa Int)×(aa bV)×af))
def iq{α:Type}(l:aa α)(h:l.length<=1048577:=by omega):bM (([]:aa α).length+l.length)=true:=cX (by simp;omega)
def abK(t:bV)(h:iD t):Gh t=some t:=by
 unfold Gh xA xZ;have C:=h.1;have D:=h.2;rw[iq _,iq _];rfl
def anJ(t:bV)(h:iD t):KH t=some t:=abK t h
def aGk(s:aGi)(T:aa bV)(C:s.1.2.2.2.1=0)(D:s.2.2.2.1=[])(E:s.2.2.1.2.2.2.2.2.2.2.2.2.2.2.2.2.2.2.2.2.2.2.2.2.2.2.2.2.2.2.2.2.2.2.2.2.2.2.2.2.2.2.2.2.2.2.2.2.2.2.2.2.2.2.2.2.2.2.2.2.2.1=T)(L:T.length<=1048576/\∀ y∈T,iD y):iter FE aX s=some (.inl (((),(),(),()),(s.2.1,s.2.2.1,T,s.2.2.2.2))):=by
 subst E;have e:=cB (step:=FE) (s.2.2.1.2.2.2.2.2.2.2.2.2.2.2.2.2.2.2.2.2.2.2.2.2.2.2.2.2.2.2.2.2.2.2.2.2.2.2.2.2.2.2.2.2.2.2.2.2.2.2.2.2.2.2.2.2.2.2.2.2.2.1).length (λi=>(((),(),(),(i:Int),()),(s.2.1,s.2.2.1,(s.2.2.1.2.2.2.2.2.2.2.2.2.2.2.2.2.2.2.2.2.2.2.2.2.2.2.2.2.2.2.2.2.2.2.2.2.2.2.2.2.2.2.2.2.2.2.2.2.2.2.2.2.2.2.2.2.2.2.2.2.2.1).take i,s.2.2.2.2))) (.inl (((),(),(),()),(s.2.1,s.2.2.1,s.2.2.1.2.2.2.2.2.2.2.2.2.2.2.2.2.2.2.2.2.2.2.2.2.2.2.2.2.2.2.2.2.2.2.2.2.2.2.2.2.2.2.2.2.2.2.2.2.2.2.2.2.2.2.2.2.2.2.2.2.2.1,s.2.2.2.2))) aX (λk h=>by
  unfold FE av xG xI;dsimp only;rw[aS,au,aA ⟨by omega,by omega⟩];simp only[bz];rw[anJ _ (L.2 _ (cT _)),ak,cX (by simp;omega),au,bD,oG h]) (by
  unfold FE av xG xI;dsimp only;rw[aT,aq,iP]) (bN)
 have O:s=(((),(),(),((0:Nat):Int),()),(s.2.1,s.2.2.1,(s.2.2.1.2.2.2.2.2.2.2.2.2.2.2.2.2.2.2.2.2.2.2.2.2.2.2.2.2.2.2.2.2.2.2.2.2.2.2.2.2.2.2.2.2.2.2.2.2.2.2.2.2.2.2.2.2.2.2.2.2.2.1).take 0,s.2.2.2.2)):=by
  rw[List.take_zero,<-D,cr,<-C]
 rw[<-e,<-O]
def aGl(s:aGj)(D:s.1.2.2.2.2.2.1=0)(E:s.1.2.2.2.2.1=(s.1.2.2.2.1.length:Int))(L:s.2.2.2.2.2.2.2.2.2.2.2.2.2.2.1=[])(C:s.1.2.2.2.1.length <= 1048576 /\ ∀ y∈s.1.2.2.2.1,iD y):iter Gi aX s=some (.inl (((),(),(),()),(s.2.1,s.2.2.1,s.2.2.2.1,s.2.2.2.2.1,s.2.2.2.2.2.1,s.2.2.2.2.2.2.1,s.2.2.2.2.2.2.2.1,s.2.2.2.2.2.2.2.2.1,s.2.2.2.2.2.2.2.2.2.1,s.2.2.2.2.2.2.2.2.2.2.1,s.2.2.2.2.2.2.2.2.2.2.2.1,s.2.2.2.2.2.2.2.2.2.2.2.2.1,s.2.2.2.2.2.2.2.2.2.2.2.2.2.1,s.1.2.2.2.1,s.2.2.2.2.2.2.2.2.2.2.2.2.2.2.2))):=by
 have e:=cB (step:=Gi) s.1.2.2.2.1.length (λi=>(((),(),(),s.1.2.2.2.1,s.1.2.2.2.1.length,i,()),(s.2.1,s.2.2.1,s.2.2.2.1,s.2.2.2.2.1,s.2.2.2.2.2.1,s.2.2.2.2.2.2.1,s.2.2.2.2.2.2.2.1,s.2.2.2.2.2.2.2.2.1,s.2.2.2.2.2.2.2.2.2.1,s.2.2.2.2.2.2.2.2.2.2.1,s.2.2.2.2.2.2.2.2.2.2.2.1,s.2.2.2.2.2.2.2.2.2.2.2.2.1,s.2.2.2.2.2.2.2.2.2.2.2.2.2.1,s.1.2.2.2.1.take i,s.2.2.2.2.2.2.2.2.2.2.2.2.2.2.2))) _ aX (λk h=>by
  unfold Gi av xG xI;dsimp only;rw[aS,au,aA ⟨by omega,by omega⟩];simp only[bz];rw[abK _ (C.2 _ (cT _)),ak,cX (by simp;omega),au,bD,oG h]) (by
  unfold Gi av xG xI;dsimp only;rw[aT,aq,iP]) (bN)
 grind
def anK(l:aa Int)(h:l.length <= 1048577):SZ l=some l:=by
 cases l with
 |nil=>rfl
 | cons a l=>
  show (bif bM _ then some _ else none)=_;rw[iq _ h];rfl
def aGm(l:aa aJ)(h:l.length <= 1048577):Z7 l=some l:=by
 cases l with
 |nil=>rfl
 | cons a l=>
  show (bif bM _ then some _ else none)=_;rw[iq _ h];rfl
def aGn(l:aa aK)(h:l.length <= 1048577):Z8 l=some l:=by
 cases l with
 |nil=>rfl
 | cons a l=>
  show (bif bM _ then some _ else none)=_;rw[iq _ h];rfl
def aGo(l:aa bY)(h:l.length <= 1048577):Z9 l=some l:=by
 cases l with
 |nil=>rfl
 | cons a l=>
  show (bif bM _ then some _ else none)=_;rw[iq _ h];rfl
def aGp(l:aa bW)(h:l.length <= 1048577):aaa l=some l:=by
 cases l with
 |nil=>rfl
 | cons a l=>
  show (bif bM _ then some _ else none)=_;rw[iq _ h];rfl
def aGq(l:aa c8)(h:l.length <= 1048577):aab l=some l:=by
 cases l with
 |nil=>rfl
 | cons a l=>
  show (bif bM _ then some _ else none)=_;rw[iq _ h];rfl
def aGr(l:aa cE)(h:l.length <= 1048577):aac l=some l:=by
 cases l with
 |nil=>rfl
 | cons a l=>
  show (bif bM _ then some _ else none)=_;rw[iq _ h];rfl
def UL(b:fM)(h:wG b):Ge b=some b:=by
 have C:b.bH.weights.length <= 1048576:=h.1;have D:b.next.weights.length <= 1048576:=h.2
 unfold Ge AM xA xZ;rw[iq _,au,iq _];rfl
def abL(b:fM)(h:wG b):KD b=some b:=UL b h
def abM(c:ax)(D:dU c):FF c=some c:=by
 obtain⟨E,L,O,C,T,U,Y,z8,z9,gy,iE,iK,jj,jk⟩:=D;have y2:c.br.aC.length<=1048576:=L;obtain⟨y3,y3'⟩:=O;have y5:c.spare.map.length<=1048576:=T;have y6:c.aV.aI.length<=1048576:=U;unfold FF xA bk xZ;rw[abL _ E,ak];unfold ZB uh KG C0 xA xZ;rw[iq _,au,ak,iq _,au,iq _,au,ak,aC9 _ (by have:=C.1.1;omega) (by have:=C.2.1;omega) (by have:=C.2.2;omega) (λx Z=>by have:x.symbols.length<=1048576:=C.1.2 x Z;omega),ak,iq _,au,ak,iq _,au,ak]
 refine(aZ (λo=>Option.bind o _) (aGk _ c.bJ rfl rfl rfl Y)).trans ?_
 rw[ak];simp only[en];rw[iq c.guard,au,iq c.pending,au,iq c.queue,au,iq c.shares,au,iq c.errors,au,iq c.trace,au,iq c.cy,au];rfl
def Hx(c:ax)(D:dU c):AN c=some c:=by
 obtain⟨E,L,O,C,T,U,Y,z8,z9,gy,iE,iK,jj,jk⟩:=D;have y2:c.br.aC.length<=1048576:=L;obtain⟨y3,y3'⟩:=O;have y5:c.spare.map.length<=1048576:=T;have y6:c.aV.aI.length<=1048576:=U;unfold AN bk;rw[UL _ E,ak];unfold Gf Gg ym xA xZ;rw[iq _,au,ak,iq _,au,iq _,au,ak,amt _ (by have:=C.1.1;omega) (by have:=C.2.1;omega) (by have:=C.2.2;omega) (λx Z=>by have:x.symbols.length<=1048576:=C.1.2 x Z;omega),ak,anK _ (by omega),ak,iq _,au,ak]
 refine(aZ (λo=>Option.bind o _) (aGl _ rfl rfl rfl Y)).trans ?_
 rw[ak];simp only[en];rw[anK c.guard (by omega),ak,aGm c.pending (by omega),ak,aGn c.queue (by omega),ak,aGo c.shares (by omega),ak,aGp c.errors (by omega),ak,aGq c.trace (by omega),ak,aGr c.cy (by omega),ak];rfl
def de{α:Type}(p:α->Bool)(q:aa α):Nat:=(q.findIdx? p).getD q.length
def sY{α:Type}(p:α -> Bool)(q:aa α):de p q <= q.length:=by
 unfold de;cases h:q.findIdx? p with
 |none=>simp_all
 | some k=>
  have⟨C,_⟩:=mI.1 h
  grind
def mG{α:Type}{p:α -> Bool}{q:aa α}{i:Nat}(h:i<de p q)(hi:i<q.length):p q[i]=false:=by
 unfold de at h;cases C:q.findIdx? p with
 |none =>simp_all
 | some k=>
  rw[C]at h;have⟨_,_,D⟩:=mI.1 C;simp_all
def pW{α:Type}{p:α -> Bool}{q:aa α}(h:de p q<q.length):p q[de p q]=true:=by
 unfold de at h;cases C:q.findIdx? p with
 |none=>grind
 | some k=>
  have⟨D,E,_⟩:=mI.1 C;have e:de p q=k:=by unfold de;rw[C];rfl
  simp_all
def Hy{α:Type}(p:α -> Bool)(q:aa α):q.any p=decide (de p q<q.length):=by
 by_cases c:de p q<q.length
 ·rw[aS c,List.any_eq_true];exact⟨_,cT c,pW c⟩
 ·rw[aT c,List.any_eq_false];intro x C;obtain⟨i,hi,rfl⟩:=jo.1 C;rw[mG (p:=p) (by omega) hi];simp
def aGs(l:aa cE)(r:aK)(hl:l.length<=1048576):T1 l r=some (l.any λx=>x.id==r.id):=by
 have D:=sY (λx:cE=>x.id==r.id) l;unfold T1 aaB;rw[Hy];have e:=cB (step:=Nu) (de (λx:cE=>x.id==r.id) l) (λi=>((l,r,(l.length:Int),(i:Int),()),())) (if de (λx:cE=>x.id==r.id) l<l.length then .inl ((((de (λx:cE=>x.id==r.id) l:Nat):Int),()),())else .inr (.inl ((),()))) aX (λk h=>by
  have C:=mG h (by omega);unfold Nu av aQ xG xI;dsimp only;rw[aS,au,aA ⟨by omega,by omega⟩];simp only[bz];rw[C,aq,bD]) (by
  unfold Nu av aQ xG xI;dsimp only;by_cases c:de (λx:cE=>x.id==r.id) l<l.length
  ·rw[aS,au,aA ⟨by omega,by omega⟩,bI c];simp only[bz];rw[pW c,au]
  ·rw[aT,aq,bU c]) (bN)
 rw[cr]at e;rw[e,ak];by_cases c:de (λx:cE=>x.id==r.id) l<l.length
 ·rw[bI c,aS c,en,ak];dsimp only;rw[aS]
 ·rw[bU c,aT c,Sum.elim_inr,en,ak];rfl
def aGt(c:ax)(r:aK):aK:=⟨r.id,r.dm,r.line,r.write,r.data,c.now⟩
def lQ(c:ax)(r:aK):aa aK×Bool:=Bf (fy (eF c.config.az c.spare)) c.queue (aGt c r)
def sZ(c:ax)(r:aK):ax×Bool:=bif (!eV c) ||((!(lQ c r).2) ||(c.cy.any λx=>x.id==r.id))then (c,false)else ({ c with queue:=(lQ c r).1 },true)
def aGu(c:ax)(r:aK)(C:dU c):T2 c r=some (sZ c r):=by
 unfold T2 sZ;rw[Hx c C,ak,Hw c C,ak];obtain⟨E,L,O,T,U,Y,Z,z8,z9,gy,iE,iK,jj,D⟩:=C;cases h:eV c with
 |false=>rfl
 | true=>
  rw[bA,aq,Bool.false_or,D0,ak,G5,ak,aGd _ _ _ (by omega),ak,aGs _ _ D,ak];show (bif !(lQ c r).2 then some (c,false)else bif (c.cy.any λx=>x.id==r.id)then some (c,false)else some ({ c with queue:=(lQ c r).1 },true))=_;cases (lQ c r).2<;>cases (c.cy.any λx=>x.id==r.id)<;>rfl
def aGv(c:ax)(h:eV c=true):fy ⟨c.config.az.cu,c.config.az.aC,W6 (c.config.az.rows-c.config.bQ),c.config.az.aO⟩=fy (eF c.config.az c.spare):=by
 simp only[eV,aU,fU]at h;obtain⟨_,_,_,_,_,_,C,D,_⟩:=h;unfold eF;rw[C,au,D]
def aGw(c:ax)(r:aK)(h:c.queue.length <= 1048576):(lQ c r).1.length <= 1048576:=by
 unfold lQ Bf;cases C:(hJ _ _&&hJ _ _)with
 |false=>exact h
 | true=>
  rw[au];rw[aU]at C;have:=C.2;unfold hJ at this
  grind
def aGx(c:ax)(r:aK)(C:dU c):dU (sZ c r).1:=by
 unfold sZ;cases hb:((!eV c) ||((!(lQ c r).2) ||(c.cy.any λx=>x.id==r.id)))with
 |true=>exact C
 | false=>
  have⟨D,E,L,O,T,U,Y,Z,z9,gy,iE,iK,jj,jk⟩:=C;exact⟨D,E,L,O,T,U,Y,Z,z9,aGw c r gy,iE,iK,jj,jk⟩
def Ea(c:ax)(r:aK):Bool×ax:=bif (c.cy.any λx=>x.id==r.id)then (false,c)else bif (lQ c r).2 then (true,{ c with queue:=(lQ c r).1 })else (false,c)
def aGy(c:ax)(r:aK)(C:dU c)(D:eV c=true):SR c r=some ((Ea c r).1,((Ea c r).2,())):=by
 obtain⟨L,O,T,U,Y,Z,z7,z8,z9,gy,iE,iK,jj,jk⟩:=C;have hk:=sY (λx:cE=>x.id==r.id) c.cy;unfold SR Ea bE;rw[Hy];have e:=cB (step:=L8) (de (λx:cE=>x.id==r.id) c.cy) (λi=>(((),(),(),(i:Int),()),(c,(r.id,r.dm,r.line,r.write,r.data,r.at_,()),(c.config.az.cu,c.config.az.aC,(W6 (c.config.az.rows-c.config.bQ)),c.config.az.aO,()),()))) (if de (λx:cE=>x.id==r.id) c.cy<c.cy.length then .inl ((false,()),(c,()))else .inr (.inl (((),(),(),()),(c,(r.id,r.dm,r.line,r.write,r.data,r.at_,()),(c.config.az.cu,c.config.az.aC,(W6 (c.config.az.rows-c.config.bQ)),c.config.az.aO,()),())))) aX (λk h=>by
  have E:=mG h (by omega);unfold L8 av aQ xG xL;dsimp only;rw[aS,au,aA ⟨by omega,by omega⟩,aA];simp only[bz];rw[E,aq,bD]) (by
  unfold L8 av aQ xG xL;dsimp only;by_cases k:de (λx:cE=>x.id==r.id) c.cy<c.cy.length
  ·rw[aS,au,aA ⟨by omega,by omega⟩,aA,bI k];simp only[bz];rw[pW k,au]
  ·rw[aT,aq,bU k]) (bN)
 rw[cr]at e;rw[e,ak];by_cases k:de (λx:cE=>x.id==r.id) c.cy<c.cy.length
 ·rw[bI k,aS k,en];rfl
 ·rw[bU k,aT k,Sum.elim_inr,en,G6,ak];dsimp only;rw[aGv c D,aGh _ _ _ (by omega),ak];show (bif (lQ c r).2 then some ((lQ c r).2,({ c with queue:=(lQ c r).1 },()))else some ((lQ c r).2,(c,())))=_;cases (lQ c r).2<;>rfl
def ck{T:Type}(g:T->Int->T×Int):aa T->Int->aa T×Int
 |[],k=>([],k)
 |x::l,k=>((g x k).1::(ck g l (g x k).2).1,(ck g l (g x k).2).2)
def anL{T:Type}(g:T->Int->T×Int)(x:T):∀ (l:aa T) (k:Int),ck g (l++[x]) k=((ck g l k).1++[(g x (ck g l k).2).1],(g x (ck g l k).2).2)
 |[],k=>rfl
 | y :: l,k=>by
  rw[List.cons_append];unfold ck;rw[anL g x l];rfl
def Hz{T:Type}(g:T->Int->T×Int):∀ (l:aa T) (k:Int),(ck g l k).1.length=l.length
 |[],k=>rfl
 | y :: l,k=>by
  unfold ck;rw[List.length_cons,List.length_cons,Hz g l]
def N3{T:Type}(g:T->Int->T×Int)(s:Nat):∀ (l:aa T) (k:Int),(∀ x∈l,∀ k,k<=(g x k).2/\(g x k).2<=k+s)->k<=(ck g l k).2/\(ck g l k).2<=k+((s*l.length:Nat):Int)
 |[],k,_=>by simp[ck]
 | y :: l,k,h=>by
  have E:=h y (.head _) k;have L:=N3 g s l (g y k).2 λx C=>h x (.tail _ C)
  have D:s*(y::l).length=s*l.length+s:=by rw[List.length_cons,Nat.mul_succ]
  show k<=(ck g l (g y k).2).2/\(ck g l (g y k).2).2<=_;rw[D];omega
def anM{T:Type}(g:T->Int->T×Int)(l:aa T)(k:Int){i:Nat}(hi:i<l.length):ck g (l.take (i+1)) k=((ck g (l.take i) k).1++[(g l[i] (ck g (l.take i) k).2).1],(g l[i] (ck g (l.take i) k).2).2):=by
 rw[oG hi,anL]
def anN{T:Type}(g:T->Int->T×Int):∀ (l:aa T) (k:Int) (i:Nat) (hi:i<l.length) (C:i<(ck g l k).1.length),(ck g l k).1[i]=(g l[i] (ck g (l.take i) k).2).1
 |[],k,i,hi,C=>by simp at hi
 |y::l,k,0,hi,C=>rfl
 |y::l,k,i+1,hi,C=>anN g l (g y k).2 i (by simpa using hi) (by rw[Hz];simpa using hi)
def abN{s n i:Nat}(C:s<=2097154)(hi:i<=n)(D:n<=1048576):s*i<=2199025352704:=Nat.le_trans (Nat.mul_le_mul C (Nat.le_trans hi D)) (by decide)
def wH{T:Type}(g:T->Int->T×Int)(s:Nat)(B:Int)(st:((af×Int×Int×af)×(aa T×af))->ah (((af×Int×Int×af)×(aa T×af))⊕(((Int×af)×(aa T×af))⊕Empty)))(l:aa T)(hl:l.length<=1048576)(O:s<=2097154)(hb:∀ x∈l,∀ k,k<=(g x k).2/\(g x k).2<=k+s)
  (U:∀(a:aa T) (i:Nat) (k:Int) (h:i<a.length),i<1048576->a[i]∈l->0<=k->k<=B+2199025352704->st (((),k,(i:Int),()),(a,()))=some (.inl (((),(g a[i] k).2,((i+1:Nat):Int),()),(a.set i (g a[i] k).1,()))))
  (Y:∀(a:aa T) (k:Int),st (((),k,(a.length:Int),()),(a,()))=some (.inr (.inl ((k,()),(a,()))))) (k:Int) (h0:0<=k) (h1:k<=B):iter st aX (((),k,(0:Int),()),(l,()))=some (.inl (((ck g l k).2,()),((ck g l k).1,()))):=by
 have e:=cB (step:=st) l.length (λi=>(((),(ck g (l.take i) k).2,(i:Int),()),((ck g (l.take i) k).1++l.drop i,()))) (.inl (((ck g l k).2,()),((ck g l k).1,()))) aX (λi hi=>by
  have Z:=N3 g s (l.take i) k λx D=>hb x (List.mem_of_mem_take D)
  have hm:=abN O (Nat.le_of_lt hi) hl;have E:(l.take i).length=i:=by rw[fT];omega
  have L:(ck g (l.take i) k).1.length=i:=by rw[Hz,E]
  rw[E]at Z;have ha:((ck g (l.take i) k).1++l.drop i).length=l.length:=by rw[List.length_append,L,List.length_drop];omega
  have D:((ck g (l.take i) k).1++l.drop i)[i]'(by omega)=l[i]:=by
   rw[List.getElem_append_right (by omega),List.getElem_drop];congr 1;omega
  have C:=U _ i (ck g (l.take i) k).2 (by omega:i<((ck g (l.take i) k).1++l.drop i).length) (by omega) (by rw[D];exact cT _) (by omega) (by omega);rw[D]at C;refine C.trans ?_;rw[anM g l k hi,List.set_append_right _ _ (by omega),L,Nat.sub_self,List.drop_eq_getElem_cons hi,List.set_cons_zero,List.append_assoc];rfl) (by
  have C:=Y (ck g l k).1 (ck g l k).2;rw[Hz]at C;rw[iP,List.drop_length,List.append_nil];exact C) (bN)
 exact e
def wI{T:Type}(g:T->Int->T×Int)(s:Nat)(B:Int)(st:((aa T×Int×Int×af)×af)->ah (((aa T×Int×Int×af)×af)⊕(((Int×af)×af)⊕(((Int×af)×af)⊕Empty))))(l:aa T)(hl:l.length<=1048576)(D:s<=2097154)(hb:∀ x∈l,∀ k,k<=(g x k).2/\(g x k).2<=k+s)
  (E:∀(a:aa T) (x:T) (i:Nat) (k:Int) (h:i<a.length),i<1048576->x∈l->a[i]=(g x k).1->0<=k->k<=B+2199025352704->st ((a,k,(i:Int),()),())=some (.inl ((a,(g x k).2,((i+1:Nat):Int),()),())))
  (L:∀(a:aa T) (k:Int),st ((a,k,(a.length:Int),()),())=some (.inr (.inr (.inl ((k,()),()))))) (k:Int) (Z:0<=k) (h1:k<=B):iter st aX (((ck g l k).1,k,(0:Int),()),())=some (.inr (.inl (((ck g l k).2,()),()))):=by
 have e:=cB (step:=st) l.length (λi=>(((ck g l k).1,(ck g (l.take i) k).2,(i:Int),()),())) (.inr (.inl (((ck g l k).2,()),()))) aX (λi hi=>by
  have O:=N3 g s (l.take i) k λx U=>hb x (List.mem_of_mem_take U)
  have hm:=abN D (Nat.le_of_lt hi) hl;have Y:(l.take i).length=i:=by rw[fT];omega
  rw[Y]at O;have hg:=Hz g l k;have C:=E (ck g l k).1 l[i] i (ck g (l.take i) k).2 (by omega) (by omega) (cT _) (anN g l k i hi (by omega)) (by omega) (by omega);rw[anM g l k hi];exact C) (by
  have C:=L (ck g l k).1 (ck g l k).2;rw[Hz]at C;rw[iP];exact C) (bN)
 exact e
def MH{T:Type}(mark:aa T->Int->ah (Int×(aa T×af)))(held:aa T->Int->ah Int)(l:aa T):Prop:=∀k:Int,0<=k->k<=1152921504606846976->∃m C,mark l k=some (m,(C,()))/\held C k=some m/\k<=m/\m<=k+2199025352704
def wJ{T:Type}{mark:aa T->Int->ah (Int×(aa T×af))}{held:aa T->Int->ah Int}{l:aa T}(g:T->Int->T×Int)(s:Nat)(hl:l.length<=1048576)(E:s<=2097154)(hb:∀ x∈l,∀ k,k<=(g x k).2/\(g x k).2<=k+s)(L:∀ k:Int,0<=k->k<=1152921504606846976->mark l k=some ((ck g l k).2,((ck g l k).1,())))(O:∀ k:Int,0<=k->k<=1152921504606846976->held (ck g l k).1 k=some (ck g l k).2):MH mark held l:=λk C D=>by
 have:=N3 g s l k hb;have:=abN E (dQ _) hl;exact⟨_,_,L k C D,O k C D,by omega,by omega⟩
def gf(_ k:Int):Int×Int:=(k,k+1)
def UM(x k:Int):k<=(gf x k).2/\(gf x k).2<=k+(1:Nat):=by
 unfold gf;dsimp only;omega
def UN(l:aa Int)(hl:l.length<=1048576)(k:Int)(C:0<=k)(D:k<=2305843009213693952):gx l k=some ((ck gf l k).2,((ck gf l k).1,())):=by
 unfold gx bk;rw[wH gf 1 2305843009213693952 J4 l hl (by omega) (λx _=>UM x) (λa i k h hi _ C D=>by
  have E:0<=(i:Int):=by omega
  unfold J4 av xG xL;dsimp only[ju];rw[aS,au];simp only[gG,bz,E,h,and_self,dite_true,nq,List.set_set];rw[bD,aR (n:=k+1)];rfl) (λa k=>by
  unfold J4 av xG xL;dsimp only[ju];rw[aT,aq]) k C D]
 rfl
def UO(l:aa Int)(hl:l.length<=1048576)(k:Int)(C:0<=k)(D:k<=2305843009213693952):pQ (ck gf l k).1 k=some (ck gf l k).2:=by
 unfold pQ bE;rw[wI gf 1 2305843009213693952 Kl l hl (by omega) (λx _=>UM x) (λa x i k h hi _ E C D=>by
  have L:0<=(i:Int):=by omega
  unfold Kl av aQ xG xI;dsimp only;rw[aS,au];simp only[bz,L,h,and_self,dite_true,E];rw[bD,aR (n:=k+1)];simp only[gf,dY,dM,bA,aq]) (λa k=>by
  unfold Kl av aQ xG xI;dsimp only;rw[aT,aq]) k C D]
 rfl
def wK(l:aa Int)(hl:l.length<=1048576):MH gx pQ l:=wJ gf 1 hl (by omega) (λx _=>UM x) (λk C D=>UN l hl k C (by omega)) (λk C D=>UO l hl k C (by omega))
def uV(_:c9)(k:Int):c9×Int:=(⟨((k).tmod 3==0),k+1⟩,k+1+1)
def abO(x:c9)(k:Int):k<=(uV x k).2/\(uV x k).2<=k+(2:Nat):=by
 unfold uV;dsimp only;omega
def aGz(l:aa c9)(hl:l.length<=1048576)(k:Int)(C:0<=k)(D:k<=1152921504606846976):CR l k=some ((ck uV l k).2,((ck uV l k).1,())):=by
 unfold CR bk;rw[wH uV 2 1152921504606846976 J5 l hl (by omega) (λx _=>abO x) (λa i k h hi _ C D=>by
  have E:0<=(i:Int):=by omega
  unfold J5 av xG xL;dsimp only[ju];rw[aS,au];simp only[gG,bz,E,h,and_self,dite_true,nq,List.set_set];rw[bD,aR (n:=k+1),aR (n:=k+1+1)];rfl) (λa k=>by
  unfold J5 av xG xL;dsimp only[ju];rw[aT,aq]) k C D]
 rfl
def aGA(l:aa c9)(hl:l.length<=1048576)(k:Int)(C:0<=k)(D:k<=1152921504606846976):Kn (ck uV l k).1 k=some (ck uV l k).2:=by
 unfold Kn bE;rw[wI uV 2 1152921504606846976 Km l hl (by omega) (λx _=>abO x) (λa x i k h hi _ E C D=>by
  have L:0<=(i:Int):=by omega
  unfold Km av aQ xG xI;dsimp only;rw[aS,au];simp only[bz,L,h,and_self,dite_true,E];rw[bD,aR (n:=k+1),aR (n:=k+1+1)];simp only[uV,dY,dM,bA,aq]) (λa k=>by
  unfold Km av aQ xG xI;dsimp only;rw[aT,aq]) k C D]
 rfl
def aGB(l:aa c9)(hl:l.length<=1048576):MH CR Kn l:=wJ uV 2 hl (by omega) (λx _=>abO x) (λk C D=>aGz l hl k C (by omega)) (λk C D=>aGA l hl k C (by omega))
def uW(_:aJ)(k:Int):aJ×Int:=(⟨k,k+1,k+1+1⟩,k+1+1+1)
def abP(x:aJ)(k:Int):k<=(uW x k).2/\(uW x k).2<=k+(3:Nat):=by
 unfold uW;dsimp only;omega
def aGC(l:aa aJ)(hl:l.length<=1048576)(k:Int)(C:0<=k)(D:k<=1152921504606846976):CS l k=some ((ck uW l k).2,((ck uW l k).1,())):=by
 unfold CS bk;rw[wH uW 3 1152921504606846976 J9 l hl (by omega) (λx _=>abP x) (λa i k h hi _ C D=>by
  have E:0<=(i:Int):=by omega
  unfold J9 av xG xL;dsimp only[ju];rw[aS,au];simp only[gG,bz,E,h,and_self,dite_true,nq,List.set_set];rw[bD,aR (n:=k+1),aR (n:=k+1+1),aR (n:=k+1+1+1)];rfl) (λa k=>by
  unfold J9 av xG xL;dsimp only[ju];rw[aT,aq]) k C D]
 rfl
def aGD(l:aa aJ)(hl:l.length<=1048576)(k:Int)(C:0<=k)(D:k<=1152921504606846976):Kr (ck uW l k).1 k=some (ck uW l k).2:=by
 unfold Kr bE;rw[wI uW 3 1152921504606846976 Kq l hl (by omega) (λx _=>abP x) (λa x i k h hi _ E C D=>by
  have L:0<=(i:Int):=by omega
  unfold Kq av aQ xG xI;dsimp only;rw[aS,au];simp only[bz,L,h,and_self,dite_true,E];rw[bD,aR (n:=k+1),aR (n:=k+1+1),aR (n:=k+1+1+1)];simp only[uW,dY,dM,bA,aq]) (λa k=>by
  unfold Kq av aQ xG xI;dsimp only;rw[aT,aq]) k C D]
 rfl
def aGE(l:aa aJ)(hl:l.length<=1048576):MH CS Kr l:=wJ uW 3 hl (by omega) (λx _=>abP x) (λk C D=>aGC l hl k C (by omega)) (λk C D=>aGD l hl k C (by omega))
def uX(_:aK)(k:Int):aK×Int:=(⟨k,k+1,k+1+1,((k+1+1+1).tmod 3==0),k+1+1+1+1,k+1+1+1+1+1⟩,k+1+1+1+1+1+1)
def abQ(x:aK)(k:Int):k<=(uX x k).2/\(uX x k).2<=k+(6:Nat):=by
 unfold uX;dsimp only;omega
def aGF(l:aa aK)(hl:l.length<=1048576)(k:Int)(C:0<=k)(D:k<=1152921504606846976):CU l k=some ((ck uX l k).2,((ck uX l k).1,())):=by
 unfold CU bk;rw[wH uX 6 1152921504606846976 Kb l hl (by omega) (λx _=>abQ x) (λa i k h hi _ C D=>by
  have E:0<=(i:Int):=by omega
  unfold Kb av xG xL;dsimp only[ju];rw[aS,au];simp only[gG,bz,E,h,and_self,dite_true,nq,List.set_set];rw[bD,aR (n:=k+1),aR (n:=k+1+1),aR (n:=k+1+1+1),aR (n:=k+1+1+1+1),aR (n:=k+1+1+1+1+1),aR (n:=k+1+1+1+1+1+1)];rfl) (λa k=>by
  unfold Kb av xG xL;dsimp only[ju];rw[aT,aq]) k C D]
 rfl
def aGG(l:aa aK)(hl:l.length<=1048576)(k:Int)(C:0<=k)(D:k<=1152921504606846976):Kt (ck uX l k).1 k=some (ck uX l k).2:=by
 unfold Kt bE;rw[wI uX 6 1152921504606846976 Ks l hl (by omega) (λx _=>abQ x) (λa x i k h hi _ E C D=>by
  have L:0<=(i:Int):=by omega
  unfold Ks av aQ xG xI;dsimp only;rw[aS,au];simp only[bz,L,h,and_self,dite_true,E];rw[bD,aR (n:=k+1),aR (n:=k+1+1),aR (n:=k+1+1+1),aR (n:=k+1+1+1+1),aR (n:=k+1+1+1+1+1),aR (n:=k+1+1+1+1+1+1)];simp only[uX,dY,dM,bA,aq]) (λa k=>by
  unfold Ks av aQ xG xI;dsimp only;rw[aT,aq]) k C D]
 rfl
def aGH(l:aa aK)(hl:l.length<=1048576):MH CU Kt l:=wJ uX 6 hl (by omega) (λx _=>abQ x) (λk C D=>aGF l hl k C (by omega)) (λk C D=>aGG l hl k C (by omega))
def uY(_:bY)(k:Int):bY×Int:=(⟨k,k+1⟩,k+1+1)
def abR(x:bY)(k:Int):k<=(uY x k).2/\(uY x k).2<=k+(2:Nat):=by
 unfold uY;dsimp only;omega
def aGI(l:aa bY)(hl:l.length<=1048576)(k:Int)(C:0<=k)(D:k<=1152921504606846976):CV l k=some ((ck uY l k).2,((ck uY l k).1,())):=by
 unfold CV bk;rw[wH uY 2 1152921504606846976 Kd l hl (by omega) (λx _=>abR x) (λa i k h hi _ C D=>by
  have E:0<=(i:Int):=by omega
  unfold Kd av xG xL;dsimp only[ju];rw[aS,au];simp only[gG,bz,E,h,and_self,dite_true,nq,List.set_set];rw[bD,aR (n:=k+1),aR (n:=k+1+1)];rfl) (λa k=>by
  unfold Kd av xG xL;dsimp only[ju];rw[aT,aq]) k C D]
 rfl
def aGJ(l:aa bY)(hl:l.length<=1048576)(k:Int)(C:0<=k)(D:k<=1152921504606846976):Kv (ck uY l k).1 k=some (ck uY l k).2:=by
 unfold Kv bE;rw[wI uY 2 1152921504606846976 Ku l hl (by omega) (λx _=>abR x) (λa x i k h hi _ E C D=>by
  have L:0<=(i:Int):=by omega
  unfold Ku av aQ xG xI;dsimp only;rw[aS,au];simp only[bz,L,h,and_self,dite_true,E];rw[bD,aR (n:=k+1),aR (n:=k+1+1)];simp only[uY,dY,dM,bA,aq]) (λa k=>by
  unfold Ku av aQ xG xI;dsimp only;rw[aT,aq]) k C D]
 rfl
def aGK(l:aa bY)(hl:l.length<=1048576):MH CV Kv l:=wJ uY 2 hl (by omega) (λx _=>abR x) (λk C D=>aGI l hl k C (by omega)) (λk C D=>aGJ l hl k C (by omega))
def uZ(_:bW)(k:Int):bW×Int:=(⟨k,k+1,k+1+1⟩,k+1+1+1)
def abS(x:bW)(k:Int):k<=(uZ x k).2/\(uZ x k).2<=k+(3:Nat):=by
 unfold uZ;dsimp only;omega
def aGL(l:aa bW)(hl:l.length<=1048576)(k:Int)(C:0<=k)(D:k<=1152921504606846976):CW l k=some ((ck uZ l k).2,((ck uZ l k).1,())):=by
 unfold CW bk;rw[wH uZ 3 1152921504606846976 Kf l hl (by omega) (λx _=>abS x) (λa i k h hi _ C D=>by
  have E:0<=(i:Int):=by omega
  unfold Kf av xG xL;dsimp only[ju];rw[aS,au];simp only[gG,bz,E,h,and_self,dite_true,nq,List.set_set];rw[bD,aR (n:=k+1),aR (n:=k+1+1),aR (n:=k+1+1+1)];rfl) (λa k=>by
  unfold Kf av xG xL;dsimp only[ju];rw[aT,aq]) k C D]
 rfl
def aGM(l:aa bW)(hl:l.length<=1048576)(k:Int)(C:0<=k)(D:k<=1152921504606846976):Kx (ck uZ l k).1 k=some (ck uZ l k).2:=by
 unfold Kx bE;rw[wI uZ 3 1152921504606846976 Kw l hl (by omega) (λx _=>abS x) (λa x i k h hi _ E C D=>by
  have L:0<=(i:Int):=by omega
  unfold Kw av aQ xG xI;dsimp only;rw[aS,au];simp only[bz,L,h,and_self,dite_true,E];rw[bD,aR (n:=k+1),aR (n:=k+1+1),aR (n:=k+1+1+1)];simp only[uZ,dY,dM,bA,aq]) (λa k=>by
  unfold Kw av aQ xG xI;dsimp only;rw[aT,aq]) k C D]
 rfl
def aGN(l:aa bW)(hl:l.length<=1048576):MH CW Kx l:=wJ uZ 3 hl (by omega) (λx _=>abS x) (λk C D=>aGL l hl k C (by omega)) (λk C D=>aGM l hl k C (by omega))
def va(_:c8)(k:Int):c8×Int:=(⟨k,⟨k+1,k+1+1,k+1+1+1,k+1+1+1+1⟩⟩,k+1+1+1+1+1)
def abU(x:c8)(k:Int):k<=(va x k).2/\(va x k).2<=k+(5:Nat):=by
 unfold va;dsimp only;omega
def aGO(l:aa c8)(hl:l.length<=1048576)(k:Int)(C:0<=k)(D:k<=1152921504606846976):CX l k=some ((ck va l k).2,((ck va l k).1,())):=by
 unfold CX bk;rw[wH va 5 1152921504606846976 Kh l hl (by omega) (λx _=>abU x) (λa i k h hi _ C D=>by
  have E:0<=(i:Int):=by omega
  unfold Kh av xG xL;dsimp only[ju];rw[aS,au];simp only[gG,bz,E,h,and_self,dite_true,nq,List.set_set];rw[bD,aR (n:=k+1),aR (n:=k+1+1),aR (n:=k+1+1+1),aR (n:=k+1+1+1+1),aR (n:=k+1+1+1+1+1)];rfl) (λa k=>by
  unfold Kh av xG xL;dsimp only[ju];rw[aT,aq]) k C D]
 rfl
def aGP(l:aa c8)(hl:l.length<=1048576)(k:Int)(C:0<=k)(D:k<=1152921504606846976):Kz (ck va l k).1 k=some (ck va l k).2:=by
 unfold Kz bE;rw[wI va 5 1152921504606846976 Ky l hl (by omega) (λx _=>abU x) (λa x i k h hi _ E C D=>by
  have L:0<=(i:Int):=by omega
  unfold Ky av aQ xG xI;dsimp only;rw[aS,au];simp only[bz,L,h,and_self,dite_true,E];rw[bD,aR (n:=k+1),aR (n:=k+1+1),aR (n:=k+1+1+1),aR (n:=k+1+1+1+1),aR (n:=k+1+1+1+1+1)];simp only[va,dY,dM,bA,aq]) (λa k=>by
  unfold Ky av aQ xG xI;dsimp only;rw[aT,aq]) k C D]
 rfl
def aGQ(l:aa c8)(hl:l.length<=1048576):MH CX Kz l:=wJ va 5 hl (by omega) (λx _=>abU x) (λk C D=>aGO l hl k C (by omega)) (λk C D=>aGP l hl k C (by omega))
def vb(_:cE)(k:Int):cE×Int:=(⟨k,k+1,k+1+1,k+1+1+1⟩,k+1+1+1+1)
def abV(x:cE)(k:Int):k<=(vb x k).2/\(vb x k).2<=k+(4:Nat):=by
 unfold vb;dsimp only;omega
def aGR(l:aa cE)(hl:l.length<=1048576)(k:Int)(C:0<=k)(D:k<=1152921504606846976):CY l k=some ((ck vb l k).2,((ck vb l k).1,())):=by
 unfold CY bk;rw[wH vb 4 1152921504606846976 Kj l hl (by omega) (λx _=>abV x) (λa i k h hi _ C D=>by
  have E:0<=(i:Int):=by omega
  unfold Kj av xG xL;dsimp only[ju];rw[aS,au];simp only[gG,bz,E,h,and_self,dite_true,nq,List.set_set];rw[bD,aR (n:=k+1),aR (n:=k+1+1),aR (n:=k+1+1+1),aR (n:=k+1+1+1+1)];rfl) (λa k=>by
  unfold Kj av xG xL;dsimp only[ju];rw[aT,aq]) k C D]
 rfl
def aGS(l:aa cE)(hl:l.length<=1048576)(k:Int)(C:0<=k)(D:k<=1152921504606846976):KB (ck vb l k).1 k=some (ck vb l k).2:=by
 unfold KB bE;rw[wI vb 4 1152921504606846976 KA l hl (by omega) (λx _=>abV x) (λa x i k h hi _ E C D=>by
  have L:0<=(i:Int):=by omega
  unfold KA av aQ xG xI;dsimp only;rw[aS,au];simp only[bz,L,h,and_self,dite_true,E];rw[bD,aR (n:=k+1),aR (n:=k+1+1),aR (n:=k+1+1+1),aR (n:=k+1+1+1+1)];simp only[vb,dY,dM,bA,aq]) (λa k=>by
  unfold KA av aQ xG xI;dsimp only;rw[aT,aq]) k C D]
 rfl
def aGT(l:aa cE)(hl:l.length<=1048576):MH CY KB l:=wJ vb 4 hl (by omega) (λx _=>abV x) (λk C D=>aGR l hl k C (by omega)) (λk C D=>aGS l hl k C (by omega))
def yM(l:aa Int)(h:l.length<=1048576)(k:Int):k<=(ck gf l k).2/\(ck gf l k).2<=k+1048576:=by
 have:=N3 gf 1 l k λx _=>UM x
 omega
def Bg(x:bP)(k:Int):bP×Int:=(⟨(ck gf x.symbols k).1,((ck gf x.symbols k).2.tmod 3==0)⟩,(ck gf x.symbols k).2+1)
def abW(x:bP)(h:x.symbols.length<=1048576)(k:Int):k<=(Bg x k).2/\(Bg x k).2<=k+(1048577:Nat):=by
 have:=yM x.symbols h k;unfold Bg;dsimp only;omega
def aGU(l:aa bP)(hl:l.length<=1048576)(D:∀ y∈l,y.symbols.length<=1048576):MH FC RD l:=wJ Bg 1048577 hl (by omega) (λx C=>abW x (D x C)) (λk E L=>by
 unfold FC bk;rw[wH Bg 1048577 1152921504606846976 J6 l hl (by omega) (λx C=>abW x (D x C)) (λa i k h hi C E L=>by
  have O:0<=(i:Int):=by omega
  have hb:=yM a[i].symbols (D _ C) k;unfold J6 av xG xL xM;dsimp only[ju];rw[aS,au];simp only[gG,bz,O,h,and_self,dite_true];rw[UN _ (D _ C) k E (by omega),ak];simp only[nq,List.set_set];rw[bD,aR (n:=(ck gf a[i].symbols k).2+1)];rfl) (λa k=>by
  unfold J6 av xG xL xM;dsimp only[ju];rw[aT,aq]) k E L]
 rfl) (λk E L=>by
 unfold RD bE;rw[wI Bg 1048577 1152921504606846976 Ko l hl (by omega) (λx C=>abW x (D x C)) (λa x i k h hi T C E L=>by
  have O:0<=(i:Int):=by omega
  have hb:=yM x.symbols (D _ T) k;unfold Ko av aQ xG xI;dsimp only;rw[aS,au];simp only[bz,O,h,and_self,dite_true,C];rw[show (Bg x k).1.symbols=(ck gf x.symbols k).1 from rfl,UO _ (D _ T) k E (by omega),ak,aT,bD,aR (n:=(ck gf x.symbols k).2+1)];simp only[Bg,dM,bA,aq]) (λa k=>by
  unfold Ko av aQ xG xI;dsimp only;rw[aT,aq]) k E L]
 rfl)
def yN(x:bV)(k:Int):bV×Int:=(⟨(ck gf x.rows k).1,(ck gf x.counts (ck gf x.rows k).2).1,(ck gf x.counts (ck gf x.rows k).2).2⟩,(ck gf x.counts (ck gf x.rows k).2).2+1)
def abX(x:bV)(h:x.rows.length<=1048576/\x.counts.length<=1048576)(k:Int):k<=(yN x k).2/\(yN x k).2<=k+(2097153:Nat):=by
 have:=yM x.rows h.1 k;have:=yM x.counts h.2 (ck gf x.rows k).2;unfold yN;dsimp only;omega
def aGV(l:aa bV)(hl:l.length<=1048576)(D:∀ y∈l,y.rows.length<=1048576/\y.counts.length<=1048576):MH FD RE l:=wJ yN 2097153 hl (by omega) (λx C=>abX x (D x C)) (λk E L=>by
 unfold FD bk;rw[wH yN 2097153 1152921504606846976 J7 l hl (by omega) (λx C=>abX x (D x C)) (λa i k h hi C E L=>by
  have T:0<=(i:Int):=by omega
  have hb:=yM a[i].rows (D _ C).1 k;have U:=yM a[i].counts (D _ C).2 (ck gf a[i].rows k).2;unfold J7 av xG xL xM;dsimp only[ju];rw[aS,au];simp only[gG,bz,T,h,and_self,dite_true];rw[UN _ (D _ C).1 k E (by omega),ak];simp only[nq,List.set_set];rw[UN _ (D _ C).2 _ (by omega) (by omega),ak];simp only[nq,List.set_set];rw[bD,aR (n:=(ck gf a[i].counts (ck gf a[i].rows k).2).2+1)];rfl) (λa k=>by
  unfold J7 av xG xL xM;dsimp only[ju];rw[aT,aq]) k E L]
 rfl) (λk E L=>by
 unfold RE bE;rw[wI yN 2097153 1152921504606846976 Kp l hl (by omega) (λx C=>abX x (D x C)) (λa x i k h hi O C E L=>by
  have T:0<=(i:Int):=by omega
  have hb:=yM x.rows (D _ O).1 k;have U:=yM x.counts (D _ O).2 (ck gf x.rows k).2;unfold Kp av aQ xG xI;dsimp only;rw[aS,au];simp only[bz,T,h,and_self,dite_true,C];rw[show (yN x k).1.rows=(ck gf x.rows k).1 from rfl,UO _ (D _ O).1 k E (by omega),ak,aT,aq,show (yN x k).1.counts=(ck gf x.counts (ck gf x.rows k).2).1 from rfl,UO _ (D _ O).2 _ (by omega) (by omega),ak,aT,bD,aR (n:=(ck gf x.counts (ck gf x.rows k).2).2+1)];simp only[yN,dY,aq]) (λa k=>by
  unfold Kp av aQ xG xI;dsimp only;rw[aT,aq]) k E L]
 rfl)
def anO{β:Type}(c:ax)(hz:dU c)(B:(Int×(aa Int×af))->(Int×(aa Int×af))->(Int×(aa c9×af))->(Int×(aa Int×af))->(Int×(aa Int×af))->(Int×(aa bP×af))->(Int×(aa Int×af))->(Int×(aa Int×af))->(Int×(aa Int×af))->(Int×(aa Int×af))->(Int×(aa bV×af))->(Int×(aa Int×af))->(Int×(aa aJ×af))->(Int×(aa aK×af))->(Int×(aa bY×af))->(Int×(aa bW×af))->(Int×(aa c8×af))->(Int×(aa cE×af))->ah β)(z:ah β)(h:∀ D E L O T U Y Z r8 r9 uM uN uO uP uQ uR uS C,0<=C.1/\C.1<=100000000000000->RG (⟨c.config,⟨⟨c.box.bH.eX,c.box.bH.cap,c.box.bH.fQ,c.box.bH.low,c.box.bH.high,D.2.1,c.box.bH.eT⟩,⟨c.box.next.eX,c.box.next.cap,c.box.next.fQ,c.box.next.low,c.box.next.high,E.2.1,c.box.next.eT⟩,c.box.waits⟩,c.now,⟨L.2.1,c.br.bf⟩,⟨O.2.1,T.2.1⟩,⟨U.2.1,Y.2.1,Z.2.1⟩,⟨c.spare.bQ,r8.2.1⟩,⟨r9.2.1,c.aV.wait,c.aV.dD⟩,uM.2.1,uN.2.1,uO.2.1,uP.2.1,uQ.2.1,c.drain,c.bf,c.cH,uR.2.1,uS.2.1,C.2.1⟩:ax) (1:Int)=some C.1->B D E L O T U Y Z r8 r9 uM uN uO uP uQ uR uS C=z):((gx c.box.bH.weights (1:Int)).bind λD=>(gx c.box.next.weights D.1).bind λE=>(CR c.br.aC E.1).bind λL=>(gx c.ready.last L.1).bind λO=>(gx c.ready.bC O.1).bind λT=>(FC c.array.cells T.1).bind λU=>(gx c.array.bx U.1).bind λY=>(gx c.array.bw Y.1).bind λZ=>(gx c.spare.map Z.1).bind λr8=>(gx c.aV.aI r8.1).bind λr9=>(FD c.bJ r9.1).bind λuM=>(gx c.guard uM.1).bind λuN=>(CS c.pending uN.1).bind λuO=>(CU c.queue uO.1).bind λuP=>(CV c.shares uP.1).bind λuQ=>(CW c.errors uQ.1).bind λuR=>(CX c.trace uR.1).bind λuS=>(CY c.cy uS.1).bind λC=>B D E L O T U Y Z r8 r9 uM uN uO uP uQ uR uS C)=z:=by
 obtain⟨⟨z1,z2⟩,z3,⟨z4,z5⟩,⟨⟨z6,z6'⟩,z7,z8⟩,z9,gy,⟨iE,abG⟩,iK,jj,jk,kZ,NZ,Dq,N0⟩:=hz;obtain⟨m0,l0,e0,d0,a0,b0⟩:=wK c.box.bH.weights z1 1 (by omega) (by omega);obtain⟨m1,l1,e1,d1,a1,b1⟩:=wK c.box.next.weights z2 m0 (by omega) (by omega)
 obtain⟨m2,l2,e2,d2,a2,b2⟩:=aGB c.br.aC z3 m1 (by omega) (by omega);obtain⟨m3,l3,e3,d3,a3,b3⟩:=wK c.ready.last z4 m2 (by omega) (by omega);obtain⟨m4,l4,e4,d4,a4,b4⟩:=wK c.ready.bC z5 m3 (by omega) (by omega);obtain⟨m5,l5,e5,d5,a5,b5⟩:=aGU c.array.cells z6 z6' m4 (by omega) (by omega);obtain⟨m6,l6,e6,d6,a6,b6⟩:=wK c.array.bx z7 m5 (by omega) (by omega);obtain⟨m7,l7,e7,d7,a7,b7⟩:=wK c.array.bw z8 m6 (by omega) (by omega);obtain⟨m8,l8,e8,d8,a8,b8⟩:=wK c.spare.map z9 m7 (by omega) (by omega);obtain⟨m9,l9,e9,d9,a9,b9⟩:=wK c.aV.aI gy m8 (by omega) (by omega);obtain⟨m10,l10,kE,d10,Hs,b10⟩:=aGV c.bJ iE abG m9 (by omega) (by omega);obtain⟨m11,l11,uv,d11,Ht,b11⟩:=wK c.guard iK m10 (by omega) (by omega);obtain⟨m12,l12,mA,d12,Hu,b12⟩:=aGE c.pending jj m11 (by omega) (by omega);obtain⟨G8,l13,Z2,d13,UC,b13⟩:=aGH c.queue jk m12 (by omega) (by omega);obtain⟨m14,l14,mB,d14,UD,b14⟩:=aGK c.shares kZ G8 (by omega) (by omega);obtain⟨m15,l15,SE,d15,NF,b15⟩:=aGN c.errors NZ m14 (by omega) (by omega);obtain⟨m16,l16,nU,d16,Hv,b16⟩:=aGQ c.trace Dq m15 (by omega) (by omega);obtain⟨m17,l17,Dj,d17,UG,b17⟩:=aGT c.cy N0 m16 (by omega) (by omega)
 refine(aZ (λo=>Option.bind o _) e0).trans ?_
 rw[ak]
 refine(aZ (λo=>Option.bind o _) e1).trans ?_
 rw[ak]
 refine(aZ (λo=>Option.bind o _) e2).trans ?_
 rw[ak]
 refine(aZ (λo=>Option.bind o _) e3).trans ?_
 rw[ak]
 refine(aZ (λo=>Option.bind o _) e4).trans ?_
 rw[ak]
 refine(aZ (λo=>Option.bind o _) e5).trans ?_
 rw[ak]
 refine(aZ (λo=>Option.bind o _) e6).trans ?_
 rw[ak]
 refine(aZ (λo=>Option.bind o _) e7).trans ?_
 rw[ak]
 refine(aZ (λo=>Option.bind o _) e8).trans ?_
 rw[ak]
 refine(aZ (λo=>Option.bind o _) e9).trans ?_
 rw[ak]
 refine(aZ (λo=>Option.bind o _) kE).trans ?_
 rw[ak]
 refine(aZ (λo=>Option.bind o _) uv).trans ?_
 rw[ak]
 refine(aZ (λo=>Option.bind o _) mA).trans ?_
 rw[ak]
 refine(aZ (λo=>Option.bind o _) Z2).trans ?_
 rw[ak]
 refine(aZ (λo=>Option.bind o _) mB).trans ?_
 rw[ak]
 refine(aZ (λo=>Option.bind o _) SE).trans ?_
 rw[ak]
 refine(aZ (λo=>Option.bind o _) nU).trans ?_
 rw[ak]
 refine(aZ (λo=>Option.bind o _) Dj).trans ?_
 rw[ak];refine h (m0,(l0,())) (m1,(l1,())) (m2,(l2,())) (m3,(l3,())) (m4,(l4,())) (m5,(l5,())) (m6,(l6,())) (m7,(l7,())) (m8,(l8,())) (m9,(l9,())) (m10,(l10,())) (m11,(l11,())) (m12,(l12,())) (G8,(l13,())) (m14,(l14,())) (m15,(l15,())) (m16,(l16,())) (m17,(l17,())) (by dsimp only;omega) ?_;unfold RG Zt RC Zu Zv Zw Zx Zy;simp only[d0,d1,d2,d3,d4,d5,d6,d7,d8,d9,d10,d11,d12,d13,d14,d15,d16,d17,ak,aT (show ¬ m0<0 by omega),aT (show ¬ m1<0 by omega),aT (show ¬ m2<0 by omega),aT (show ¬ m3<0 by omega),aT (show ¬ m4<0 by omega),aT (show ¬ m5<0 by omega),aT (show ¬ m6<0 by omega),aT (show ¬ m7<0 by omega),aT (show ¬ m8<0 by omega),aT (show ¬ m9<0 by omega),aT (show ¬ m10<0 by omega),aT (show ¬ m11<0 by omega),aT (show ¬ m12<0 by omega),aT (show ¬ G8<0 by omega),aT (show ¬ m14<0 by omega),aT (show ¬ m15<0 by omega),aT (show ¬ m16<0 by omega),aT (show ¬ m17<0 by omega),aq]
def aGW{w:World}{T U:aa V}{us C:Array Value}(h:bO w w.heap.size T us.toList)(Y:bO w w.heap.size U C.toList):pH w [(true,T),(true,U)] #[.agg us,.agg C]:=by
 refine⟨rfl,λi p D=>?_⟩
 rcases i with _|_|i
 ·cases D
  refine⟨_,rfl,.v _ _ ⟨us,rfl,by simpa using h.1,λj x E=>?_⟩⟩
  obtain⟨u,L,O⟩:=h.2 j x E;exact⟨u,by simpa using L,O _⟩
 ·cases D
  refine⟨_,rfl,.v _ _ ⟨C,rfl,by simpa using Y.1,λj x E=>?_⟩⟩
  obtain⟨u,L,O⟩:=Y.2 j x E;exact⟨u,by simpa using L,O _⟩
 ·cases D
def nb(l:aa UInt8):aa Int:=l.map λb=>(b.toNat:Int)
def cM(c:ax)(a:cV):ax:=⟨c.config,c.box,c.now,c.br,c.ready,a,c.spare,c.aV,c.bJ,c.guard,c.pending,c.queue,c.shares,c.drain,c.bf,c.cH,c.errors,c.trace,c.cy⟩
def wL:bP:=⟨[],false⟩
def Eb(d:bP):bP:=⟨(d.symbols.set 0 (bits .xor .i64 (d.symbols.getD 0 0) 5)).set 1 (bits .xor .i64 (d.symbols.getD 1 0) 10),d.gO⟩
def kI(base:Nat):Nat->aa bP->aa bP
 |0,cs=>cs
 |n+1,cs=>(kI base n cs).set (base+n) (Eb ((kI base n cs).getD (base+n) wL))
def N4(base:Nat):∀ (n:Nat) (cs:aa bP),(kI base n cs).length=cs.length
 |0,_=>rfl
 | n+1,cs=>by
  show ((kI base n cs).set _ _).length=_;rw[gG,N4]
def aGX{d:bP}(h:Sy d.symbols):Sy (Eb d).symbols:=by
 have C:0<d.symbols.length:=by rw[h.1];omega
 have l1:1<d.symbols.length:=by rw[h.1];omega
 have L:d.symbols.getD 0 0=d.symbols[0]:=by rw[fz,bZ C];rfl
 have O:d.symbols.getD 1 0=d.symbols[1]:=by rw[fz,bZ l1];rfl
 have D:=aaK (h.get (k:=0) C) (b:=5) ⟨by omega,by omega⟩;have E:=aaK (h.get l1) (b:=10) ⟨by omega,by omega⟩;unfold Eb;rw[L,O];exact(h.set ⟨D.1,D.2.1⟩).set ⟨E.1,E.2.1⟩
def UP{base:Nat}:∀ (n:Nat) {cs:aa bP},base+n <= cs.length -> (∀ c∈cs,Sy c.symbols) -> ∀ c∈kI base n cs,Sy c.symbols
 |0,cs,_,h=>h
 | n+1,cs,hl,h=>by
  have C:=UP (base:=base) n (by omega) h;have hlen:=N4 base n cs;refine Sy.cg C (aGX ?_)
  grind
def vc(g:aM)(l:jq)(a:cV)(b r:Int):cV:=
 ⟨bif yI l a (b*g.rows+r).toNat then kI ((b*g.rows+r)*g.aO).toNat g.aO.toNat a.cells else a.cells,a.bx.set (b*g.rows+r).toNat 0,wA g.rows r (b*g.rows+r).toNat a.bw⟩
def N5{g:aM}(C:cG g=true){b r k:Int}(E:0 <= b)(L:b<bg g)(O:0 <= r)(T:r<g.rows)(U:0 <= k)(Y:k<g.aO):0 <= (b*g.rows+r)*g.aO/\(b*g.rows+r)*g.aO+k<fy g/\0 <= b*g.rows+r/\b*g.rows+r<gK g:=by
 have er:bg g*g.rows=gK g:=by simp[gK,C]
 have⟨r0,Z,D⟩:=wq E L O T;rw[er]at D;have⟨q0,q1,q2⟩:=wq Z D U Y;have el:gK g*g.aO=fy g:=by simp[gK,fy,C]
 simp_all
def aGY{g:aM}(C:cG g=true)(c:ax){b r:Int}(hc:(c.array.cells.length:Int)=fy g)(Y:∀ x∈c.array.cells,Sy x.symbols)(E:0<=b)(L:b<bg g)(O:0<=r)(T:r<g.rows):
  iter DN aX (((),b,r,(),(0:Int),()),(c,(g.cu,g.aC,g.rows,g.aO,()),()))=some (.inl (((),b,r,(),()),(cM c ⟨kI ((b*g.rows+r)*g.aO).toNat g.aO.toNat c.array.cells,c.array.bx,c.array.bw⟩,(g.cu,g.aC,g.rows,g.aO,()),()))):=by
 obtain⟨_,_,_,_,g5,g6,g7,g8⟩:=fG C;have b1:=oF g;obtain⟨n,Z⟩:=fL (show 0<=g.aO by omega);obtain⟨B,hB⟩:∃B,B=((b*g.rows+r)*g.aO).toNat:=⟨_,rfl⟩
 have qX:g.aO.toNat=n:=by omega
 rw[<-hB,qX];have lY:B+n<=c.array.cells.length:=by
  have:=N5 C E L O T (show 0<=g.aO-1 by omega) (by omega);omega
 have e:=cB (step:=DN) n (λk=>(((),b,r,(),(k:Int),()),(cM c ⟨kI B k c.array.cells,c.array.bx,c.array.bw⟩,(g.cu,g.aC,g.rows,g.aO,()),()))) (.inl (((),b,r,(),()),(cM c ⟨kI B n c.array.cells,c.array.bx,c.array.bw⟩,(g.cu,g.aC,g.rows,g.aO,()),()))) aX (λk hk=>by
  have Qg:dA g ⟨b,r,(k:Int)⟩=true:=yH C E L O T (by dsimp only;omega) (by dsimp only;omega);have hix:qG g ⟨b,r,(k:Int)⟩=((B+k:Nat):Int):=by
   have:=N5 C E L O T (show 0<=(k:Int) by omega) (by omega);unfold qG;rw[Qg,au];dsimp only;omega
  have hlen:=N4 B k c.array.cells;have U:=UP k (by omega:B+k<=c.array.cells.length) Y;show DN (((),b,r,(),(k:Int),()),(cM c ⟨kI B k c.array.cells,c.array.bx,c.array.bw⟩,(g.cu,g.aC,g.rows,g.aO,()),()))=some (.inl (((),b,r,(),((k+1:Nat):Int),()),(cM c ⟨(kI B k c.array.cells).set (B+k) (Eb ((kI B k c.array.cells).getD (B+k) wL)),c.array.bx,c.array.bw⟩,(g.cu,g.aC,g.rows,g.aO,()),())));generalize kI B k c.array.cells=cs at hlen U;have D:B+k<cs.length:=by omega
  have s1:=Sy.mem U D;have l1:(0:Nat)<cs[B+k].symbols.length:=by rw[s1.1];omega
  have l2:(1:Nat)<cs[B+k].symbols.length:=by rw[s1.1];omega
  have c2:decide ((k:Int)<g.aO)=true:=aS;have Cv:cs.getD (B+k) wL=cs[B+k]:=by rw[fz,bZ D];rfl
  have f0:cs[B+k].symbols.getD 0 0=cs[B+k].symbols[0]:=by rw[fz,bZ l1];rfl
  have f1:cs[B+k].symbols.getD 1 0=cs[B+k].symbols[1]:=by rw[fz,bZ l2];rfl
  rw[Cv];unfold Eb;rw[f0,f1];unfold DN cM xC av xG xL xM;dsimp only;rw[c2,au,nW g,G7,ak,hix];generalize B+k=j at D s1 l1 l2;simp (disch:=omega) [D,bD,l1,l2]) (by unfold DN xC av xG xL xM;simp[Z]) (bN)
 exact e
def aGZ(c:ax){R k:Int}{nb:aa Int}(hl:nb.length<1000)(E:∀ n∈nb,0<=n/\n<R)(U:0<=k)(Y:k+R<=(c.array.bw.length:Int))(Z:c.array.bw.length<1000000)(hb:∀ x∈c.array.bw,0<=x/\x<=100000):
  iter A0 aX (((),k,(),(nb.length:Int),(0:Int),()),(c,nb,()))=some (.inl ((),(cM c ⟨c.array.cells,c.array.bx,nb.foldl (λh n=>pS (k+n).toNat h) c.array.bw⟩,()))):=by
 have e:=cB (step:=A0) nb.length (λi=>(((),k,(),(nb.length:Int),(i:Int),()),(cM c ⟨c.array.cells,c.array.bx,(nb.take i).foldl (λh n=>pS (k+n).toNat h) c.array.bw⟩,nb,()))) (.inl ((),(cM c ⟨c.array.cells,c.array.bx,nb.foldl (λh n=>pS (k+n).toNat h) c.array.bw⟩,()))) aX (λj h=>by
  have hx:=E _ (cT h);have L:=ank k (nb.take j) c.array.bw;have hB:=anl k (nb.take j) c.array.bw hb;rw[List.take_succ_eq_append_getElem h,List.foldl_append];simp only[List.foldl_cons,List.foldl_nil];generalize (nb.take j).foldl (λh n=>pS (k+n).toNat h) c.array.bw=G at L hB;obtain⟨q,D⟩:=fL (show 0<=k+nb[j] by omega);have C:q<G.length:=by omega
  have hg:=hB _ (cT C);have O:W6 (k+nb[j])=(q:Int):=by rw[D];exact aR
  have T:W6 (G[q]+1)=G[q]+1:=aR;rw[D,bz,aaM C];unfold A0 cM av xG xL;simp (disch:=omega) [h,O,C,T,bD,mX]) (by unfold A0 av xG xL;simp) (bN)
 rw[cr,List.take_zero,List.foldl_nil]at e;exact e
def abY{g:aM}(D:cG g=true)(l:jq){B:Int}(hB:0 <= B){a:cV}(C:eA g B a){b r:Int}(E:0 <= b)(L:b<bg g)(O:0 <= r)(T:r<g.rows):eA g B (vc g l a b r):=by
 have⟨_,_,_,_,Y,Z,g7,g8⟩:=fG D;have U:((b*g.rows+r)*g.aO).toNat+g.aO.toNat <= a.cells.length:=by
  have:=N5 D E L O T (show 0 <= g.aO-1 by omega) (by omega);have:=C.cells;omega
 unfold vc;refine⟨?_,?_,by simp[C.bx],by simp[aDd,C.bw],NC C.DV ⟨by omega,by omega⟩,aDf C.jg⟩
 ·dsimp only;cases yI l a (b*g.rows+r).toNat with
  |false=>exact C.cells
  |true=>rw[au,N4];exact C.cells
 ·dsimp only;cases yI l a (b*g.rows+r).toNat with
  |false=>exact C.syms
  |true=>rw[au];exact UP _ U C.syms
def anP{g:aM}(Y:cG g=true)(l:jq){B:Int}(c:ax)(C:eA g B c.array){b r:Int}(Z:0<=b)(h2:b<bg g)(D:0<=r)(E:r<g.rows):Nd g l c b r=some ((),(cM c (vc g l c.array b r),())):=by
 obtain⟨_,_,_,_,g5,g6,g7,g8⟩:=fG Y;have b2:=qE g;have er:bg g*g.rows=gK g:=by simp[gK,Y]
 obtain⟨r0,r1,r2⟩:=wq Z h2 D E;rw[er]at r2;have hk:b*g.rows+g.rows<=gK g:=by
  have:=(wq Z h2 (show 0<=g.rows-1 by omega) (show g.rows-1<g.rows by omega)).2.2;omega
 have a1:=C.bx;have a2:=C.bw;have L:W6 (b*g.rows)=b*g.rows:=aR;have e2:W6 (b*g.rows+r)=b*g.rows+r:=aR;have eL:=aGY Y c C.cells C.syms Z h2 D E;unfold vc;generalize kI ((b*g.rows+r)*g.aO).toNat g.aO.toNat c.array.cells=cs at eL;obtain⟨i,hi⟩:=fL r1;obtain⟨k,O⟩:∃k,k=b*g.rows:=⟨_,rfl⟩
 rw[<-O]at hi hk L e2 r0 r1 r2;unfold Nd bk xL;rw[<-O,L,e2];rw[hi]at r2;rw[hi,bz];have T:i<c.array.bx.length:=by omega
 have U:i<c.array.bw.length:=by omega
 have Xj:TG g l c.array b r=some (yI l c.array i):=by
  unfold TG xI;have e2':W6 (i:Int)=i:=aR;simp only[<-O,L,hi,e2'];unfold yI;simp only[fz,bZ T,bZ U,Option.getD_some];by_cases h:c.array.bx[i] > l.bx<;>simp[T,U,h]
 rw[Xj,ak];have b1:=NC C.jg (k:=i) (v:=0) ⟨by omega,by omega⟩;have EW:=abk g5 g6 D E;have q7:=aEg g.rows r;have abZ:∀ cells:aa bP,iter A0 aX (((),k,(),((mF g.rows r).length:Int),(0:Int),()),(cM c ⟨cells,c.array.bx.set i 0,c.array.bw.set i 0⟩,mF g.rows r,()))=some (.inl ((),(cM c ⟨cells,c.array.bx.set i 0,wA g.rows r i c.array.bw⟩,()))):=λcells=>by
  have:=aGZ (cM c ⟨cells,c.array.bx.set i 0,c.array.bw.set i 0⟩) (R:=g.rows) (k:=k) (nb:=mF g.rows r) (by omega) (anj D E) r0 (by simp[cM];omega) (by simp[cM];omega) b1;simp only[cM]at this ⊢;rw[aEh hi r0 D]at this;exact this
 have h2x:aaz=A0:=rfl;unfold cM at abZ eL ⊢;cases yI l c.array i with
 | false=>
  simp[T,U,EW,h2x,abZ]
 | true=>
  rw[au,eL];have e2':W6 (i:Int)=i:=aR;simp[<-O,L,e2',hi,T,U,EW,abZ]
def aG0{g:aM}(C:cG g=true)(c:ax){b r:Int}(hc:(c.array.cells.length:Int)=fy g)(Y:∀ x∈c.array.cells,Sy x.symbols)(E:0<=b)(L:b<bg g)(O:0<=r)(T:r<g.rows):
  iter AG aX (((),r,(),b*g.rows+r,(0:Int),()),(c,(g.cu,g.aC,g.rows,g.aO,()),()))=some (.inl (((),r,(),b*g.rows+r,()),(cM c ⟨kI ((b*g.rows+r)*g.aO).toNat g.aO.toNat c.array.cells,c.array.bx,c.array.bw⟩,(g.cu,g.aC,g.rows,g.aO,()),()))):=by
 obtain⟨_,_,_,_,g5,g6,g7,g8⟩:=fG C;have b1:=oF g;have b2:=qE g;obtain⟨n,Z⟩:=fL (show 0<=g.aO by omega);obtain⟨B,hB⟩:∃B,B=((b*g.rows+r)*g.aO).toNat:=⟨_,rfl⟩
 have qX:g.aO.toNat=n:=by omega
 rw[<-hB,qX];have lY:B+n<=c.array.cells.length:=by
  have:=N5 C E L O T (show 0<=g.aO-1 by omega) (by omega);omega
 have e:=cB (step:=AG) n (λk=>(((),r,(),b*g.rows+r,(k:Int),()),(cM c ⟨kI B k c.array.cells,c.array.bx,c.array.bw⟩,(g.cu,g.aC,g.rows,g.aO,()),()))) (.inl (((),r,(),b*g.rows+r,()),(cM c ⟨kI B n c.array.cells,c.array.bx,c.array.bw⟩,(g.cu,g.aC,g.rows,g.aO,()),()))) aX (λk hk=>by
  have Qg:=N5 C E L O T (show 0<=(k:Int) by omega) (by omega);have e1:W6 ((b*g.rows+r)*g.aO)=(b*g.rows+r)*g.aO:=aR;have e2:W6 ((b*g.rows+r)*g.aO+(k:Int))=((B+k:Nat):Int):=by rw[aR];omega
  have hlen:=N4 B k c.array.cells;have U:=UP k (by omega:B+k<=c.array.cells.length) Y;show AG (((),r,(),b*g.rows+r,(k:Int),()),(cM c ⟨kI B k c.array.cells,c.array.bx,c.array.bw⟩,(g.cu,g.aC,g.rows,g.aO,()),()))=some (.inl (((),r,(),b*g.rows+r,((k+1:Nat):Int),()),(cM c ⟨(kI B k c.array.cells).set (B+k) (Eb ((kI B k c.array.cells).getD (B+k) wL)),c.array.bx,c.array.bw⟩,(g.cu,g.aC,g.rows,g.aO,()),())));generalize kI B k c.array.cells=cs at hlen U;have D:B+k<cs.length:=by omega
  have s1:=Sy.mem U D;have l1:(0:Nat)<cs[B+k].symbols.length:=by rw[s1.1];omega
  have l2:(1:Nat)<cs[B+k].symbols.length:=by rw[s1.1];omega
  have c2:decide ((k:Int)<g.aO)=true:=aS;have Cv:cs.getD (B+k) wL=cs[B+k]:=by rw[fz,bZ D];rfl
  have f0:cs[B+k].symbols.getD 0 0=cs[B+k].symbols[0]:=by rw[fz,bZ l1];rfl
  have f1:cs[B+k].symbols.getD 1 0=cs[B+k].symbols[1]:=by rw[fz,bZ l2];rfl
  rw[Cv];unfold Eb;rw[f0,f1];unfold AG cM xC av xG xL xM;dsimp only;have t0:(0:Int).toNat=0:=rfl;have t1:(1:Int).toNat=1:=rfl;have p0:(0:Int)<=0:=Int.le_refl 0;have p1:(0:Int)<=1:=by omega
  rw[c2,au];simp only[e1,e2,bz];have cj:(0:Int)<=((B+k:Nat):Int):=by omega
  simp only[cj,D,p0,p1,t0,t1,l1,l2,and_self,dite_true,gG,nq,List.set_set,ju];have w:=bD (i:=k);simp only[w,List.getElem_set_ne (show (0:Nat)≠1 by decide)]) (by unfold AG xC av xG xL xM;simp[Z]) (bN)
 exact e
def anQ{x:Int}(h:0<=x/\x<=100000):(if (100000:Int)<W6 (x+1)then (100000:Int)else W6 (x+1))=mX 1 x:=by
 rw[aR (n:=x+1)];rfl
def UQ(C:ax)(O D T:Int)(E:aa Int):ah (af×(ax×af)):=bif (decide (O<(W6 (T-(1:Int)))))then if Z:0<=(W6 (D+(1:Int)))/\(W6 (D+(1:Int))).toNat<E.length then if U:(W6 (D+(1:Int))).toNat<E.length then (let L:=E[(W6 (D+(1:Int))).toNat]'U;if h61:0<=(W6 (D+(1:Int)))/\(W6 (D+(1:Int))).toNat<E.length then if Y:(W6 (D+(1:Int))).toNat<E.length then (let e63:=E[(W6 (D+(1:Int))).toNat]'Y;some ((),((⟨C.config,C.box,C.now,C.br,C.ready,⟨C.array.cells,(C.array.bx.set D.toNat (0:Int)),(E.set (W6 (D+(1:Int))).toNat (if (100000:Int)<(W6 (L+(1:Int)))then (100000:Int)else (W6 (L+(1:Int)))))⟩,C.spare,C.aV,C.bJ,C.guard,C.pending,C.queue,C.shares,C.drain,C.bf,C.cH,C.errors,C.trace,C.cy⟩:ax),())))else none else none)else none else none else some ((),((⟨C.config,C.box,C.now,C.br,C.ready,⟨C.array.cells,(C.array.bx.set D.toNat (0:Int)),E⟩,C.spare,C.aV,C.bJ,C.guard,C.pending,C.queue,C.shares,C.drain,C.bf,C.cH,C.errors,C.trace,C.cy⟩:ax),()))
def UR(D:ax)(E C L:Int):ah (af×(ax×af)):=if h45:0<=C/\C.toNat<D.array.bx.length then if T:C.toNat<D.array.bx.length then (let e47:=D.array.bx[C.toNat]'T;if h48:0<=C/\C.toNat<D.array.bw.length then if U:C.toNat<D.array.bw.length then (let e50:=D.array.bw[C.toNat]'U;(bif (decide (E > (0:Int)))then if h51:0<=(W6 (C-(1:Int)))/\(W6 (C-(1:Int))).toNat<(D.array.bw.set C.toNat (0:Int)).length then if Y:(W6 (C-(1:Int))).toNat<(D.array.bw.set C.toNat (0:Int)).length then (let O:=(D.array.bw.set C.toNat (0:Int))[(W6 (C-(1:Int))).toNat]'Y;if h54:0<=(W6 (C-(1:Int)))/\(W6 (C-(1:Int))).toNat<(D.array.bw.set C.toNat (0:Int)).length then if Z:(W6 (C-(1:Int))).toNat<(D.array.bw.set C.toNat (0:Int)).length then (let ZY:=(D.array.bw.set C.toNat (0:Int))[(W6 (C-(1:Int))).toNat]'Z;(UQ D E C L ((D.array.bw.set C.toNat (0:Int)).set (W6 (C-(1:Int))).toNat (if (100000:Int)<(W6 (O+(1:Int)))then (100000:Int)else (W6 (O+(1:Int)))))))else none else none)else none else none else (UQ D E C L (D.array.bw.set C.toNat (0:Int)))))else none else none)else none else none
def anR{d:ax}{R r:Int}{i:Nat}{H:aa Int}(hl:H.length<1000000)(D:r<R-1->i+1<H.length)(E:W6 (R-1)=R-1)(L:∀ x∈H,0<=x/\x<=100000)(hi:i<1000000):UQ d r (i:Int) R H=some ((),(cM d ⟨d.array.cells,d.array.bx.set i 0,bif decide (r<R-1)then pS (i+1) H else H⟩,())):=by
 have O:W6 ((i:Int)+1)=((i+1:Nat):Int):=bD;unfold UQ cM;rw[E,O];simp only[bz];by_cases C:r<R-1
 ·have q:i+1<H.length:=D C;rw[aS C,au,au,aA ⟨by omega,q⟩,aA q,aA ⟨by omega,q⟩,aA q,anQ (L _ (cT q)),aaM q]
 ·rw[aT C,aq,aq]
def anS{d:ax}{R r:Int}{i:Nat}(E:i<d.array.bx.length)(L:i<d.array.bw.length)(hl:d.array.bw.length<1000000)(Y:0<r->1<=i)(O:r<R-1->i+1<d.array.bw.length)(T:W6 (R-1)=R-1)(Z:∀ x∈d.array.bw,0<=x/\x<=100000):UR d r (i:Int) R=some ((),(cM d ⟨d.array.cells,d.array.bx.set i 0,wA R r i d.array.bw⟩,())):=by
 have C:=NC Z (k:=i) (v:=0) ⟨by omega,by omega⟩;have hL:(d.array.bw.set i 0).length=d.array.bw.length:=by simp
 unfold UR wA A5;simp only[bz];rw[aA ⟨by omega,E⟩,aA E,aA ⟨by omega,L⟩,aA L];obtain⟨H,U⟩:∃H,d.array.bw.set i 0=H:=⟨_,rfl⟩
 rw[U]at C hL;simp only[U];by_cases D:0<r
 ·have p1':=Y D;have w1:W6 ((i:Int)-1)=((i-1:Nat):Int):=by rw[aR];omega
  have q:i-1<H.length:=by omega
  simp only[w1,bz];rw[aS D,au,au,aA ⟨by omega,q⟩,aA q,aA ⟨by omega,q⟩,aA q,anQ (C _ (cT q)),<-aaM q];exact anR (by rw[ND];omega) (λh=>by rw[ND];have:=O h;omega) T (Uh C) (by omega)
 ·rw[aT D,aq,aq];exact anR (by omega) (λh=>by have:=O h;omega) T C (by omega)
def anT{g:aM}(E:cG g=true)(l:jq){B:Int}(c:ax)(C:eA g B c.array){b r:Int}(L:0<=b)(O:b<bg g)(Z:0<=r)(h4:r<g.rows):LV g l c b r=some ((),(cM c (vc g l c.array b r),())):=by
 obtain⟨_,_,_,_,g5,g6,g7,g8⟩:=fG E;have b2:=qE g;have er:bg g*g.rows=gK g:=by simp[gK,E]
 obtain⟨r0,r1,r2⟩:=wq L O Z h4;rw[er]at r2;have T:r<g.rows-1->b*g.rows+r+1<gK g:=λh=>by
  have:=(wq L O (show 0<=r+1 by omega) (show r+1<g.rows by omega)).2.2;omega
 have U:0<r->1<=b*g.rows+r:=λh=>by omega
 have a1:=C.bx;have a2:=C.bw;have e1:W6 (b*g.rows)=b*g.rows:=aR;have e2:W6 (b*g.rows+r)=b*g.rows+r:=aR;have w3:W6 (g.rows-1)=g.rows-1:=aR;have Y:=aG0 E c C.cells C.syms L O Z h4;unfold vc;generalize kI ((b*g.rows+r)*g.aO).toNat g.aO.toNat c.array.cells=cs at Y;have hx:LV g l c b r=(F5 g l c.array (W6 (W6 (b*g.rows)+r))).bind λy1=>bif y1 then (iter AG aX (((),r,(),W6 (W6 (b*g.rows)+r),(0:Int),()),(c,(g.cu,g.aC,g.rows,g.aO,()),()))).bind (Sum.elim (λD=>UR D.2.1 D.1.2.1 D.1.2.2.2.1 D.2.2.1.2.2.1) (λz=>nomatch z))else UR c r (W6 (W6 (b*g.rows)+r)) g.rows:=rfl
 rw[hx,e1,e2];obtain⟨i,hi⟩:=fL r1;rw[hi]at Y U T r2 ⊢;rw[bz,aDa g l c.array i (by omega) (by omega),ak];cases yI l c.array i with
 |false=>exact anS (d:=c) (r:=r) (R:=g.rows) (i:=i) (by omega) (by omega) (by omega) (λh=>by have:=U h;omega) (λh=>by have:=T h;omega) w3 C.jg
 | true=>
  rw[au,Y,ak];exact anS (d:=cM c ⟨cs,c.array.bx,c.array.bw⟩) (r:=r) (R:=g.rows) (i:=i) (by show i<c.array.bx.length;omega) (by show i<c.array.bw.length;omega) (by show c.array.bw.length<_;omega) (λh=>by have:=U h;omega) (λh=>by show _<c.array.bw.length;have:=T h;omega) w3 C.jg
end Go.Proofs.YtnilicojgkhpnaaGreat
